/- The abstract machine once more, with small definitions: what the kernel runs. Conditions: none. -/
import Derived.Test.YtbkinfgpcjjaaaaGreatDoorAm6
set_option linter.all false
namespace Go.Am
open Go
def f_move (E : Env) (fr : Fr) (H : AH) (x : Operand) : Ans := one H (ev E fr x)
def f_assign (E : Env) (fr : Fr) (H : AH) (x : Operand) : Ans := one H (ev E fr x)
def f_pick (E : Env) (fr : Fr) (H : AH) (c : Operand) (a : Operand) (b : Operand) : Ans := match ev E fr c with
    | some (.bool true) => one H (ev E fr a)
    | some (.bool false) => one H (ev E fr b)
    | _ => none
def f_alloc (E : Env) (fr : Fr) (H : AH) (t : TypeId) : Ans := match E.types.get t with
    | some { zero := some z, .. } => some (.val (.pointer (some ⟨H.next, 0, none⟩)), H.new (.cells z t))
    | _ => none
def f_box (E : Env) (fr : Fr) (H : AH) (t : TypeId) (x : Operand) : Ans := match ev E fr x with
    | some (.tuple _) => none
    | some v => some (.val (.pointer (some ⟨H.next, 0, none⟩)), H.new (.cells v.cells.toList t))
    | none => none
def f_build (E : Env) (fr : Fr) (H : AH) (t : TypeId) (ps : Array (Nat × Operand)) : Ans := match parts? E fr ps.toList with
    | some ps => one H (buildA E t ps)
    | none => none
def f_buildSlice (E : Env) (fr : Fr) (H : AH) (t : TypeId) (n : Nat) (ps : Array (Nat × Operand)) : Ans := match parts? E fr ps.toList with
    | some ps => buildSliceA E H t n ps
    | none => none
def f_insert (E : Env) (fr : Fr) (H : AH) (t : TypeId) (m : Operand) (k : Operand) (x : Operand) : Ans := match ev E fr m, ev E fr k, ev E fr x with
    | some m, some k, some v => (updateA E H t m k v).map fun H' => (.skip, H')
    | _, _, _ => none
def f_load (E : Env) (fr : Fr) (H : AH) (t : TypeId) (a : Operand) : Ans := match ev E fr a with
    | some v => one H (loadA E H t v)
    | none => none
def f_store (E : Env) (fr : Fr) (H : AH) (t : TypeId) (a : Operand) (x : Operand) : Ans := match ev E fr a, ev E fr x with
    | some _, some (.tuple _) => none
    | some a, some v => (storeA E H t a v).map fun H' => (.skip, H')
    | _, _ => none
def f_ready (_E : Env) (_fr : Fr) (_H : AH) (_g : Nat) : Ans := none
def f_waits (_E : Env) (_fr : Fr) (_H : AH) (_g : Nat) : Ans := none
def f_nilCheck (E : Env) (fr : Fr) (H : AH) (x : Operand) : Ans := match ev E fr x with
    | some (.pointer (some a)) => some (.val (.pointer (some a)), H)
    | some (.iface t v) => some (.val (.iface t v), H)
    | some (.func (.func f) a b) => some (.val (.func (.func f) a b), H)
    | some (.func (.yield f) a b) => some (.val (.func (.yield f) a b), H)
    | _ => none
def f_binOp (E : Env) (fr : Fr) (H : AH) (op : BinOp) (t : TypeId) (x : Operand) (y : Operand) (_yt : TypeId) : Ans := match ev E fr x, ev E fr y with
    | some a, some b => one H (binA E op t x y a b)
    | _, _ => none
def f_unOp (E : Env) (fr : Fr) (H : AH) (op : UnOp) (_t : TypeId) (x : Operand) : Ans := match ev E fr x with
    | some v => bif flatV v then one H (flat? (pureRun E.prog (Op.unary op v))) else none
    | none => none
def f_convert (E : Env) (fr : Fr) (H : AH) (s : TypeId) (d : TypeId) (x : Operand) : Ans := match ev E fr x with
    | some (.slice a n c) => one H (toStringA E H s d (.slice a n c) n)
    | some (.pointer (some a)) => viewA E H s d a
    | some (.string b) => match E.types.get s, E.types.get d with
      | some { desc := .string, .. }, some { desc := .slice e, .. } => bytesOfA E H e b
      | _, _ => one H (flat? (pureRun E.prog (Go.convert s d (.string b))))
    | some v => bif flatV v then one H (flat? (pureRun E.prog (Go.convert s d v))) else none
    | none => none
def f_sliceToArrayPointer (_E : Env) (_fr : Fr) (_H : AH) (_t : TypeId) (_x : Operand) : Ans := none
def f_makeInterface (E : Env) (fr : Fr) (H : AH) (t : TypeId) (x : Operand) : Ans := match E.types.get t, ev E fr x with
    | some { desc := .interface _, .. }, _ => none
    | some _, some v => one H (some (.iface t v))
    | _, _ => none
def f_makeFunc (E : Env) (fr : Fr) (H : AH) (fn : Fn) (first : Array Operand) (cap : Array Operand) : Ans := match evs E fr first.toList, evs E fr cap.toList with
    | some f, some c => one H (if fnPlain fn then some (.func fn ⟨f⟩ ⟨c⟩) else none)
    | _, _ => none
def f_makeMap (E : Env) (fr : Fr) (H : AH) (t : TypeId) (r : Option Operand) : Ans := match r with
  | none => some (.val (.map (some H.next)), H.new (.map [] 0))
  | some x => match E.types.get t, ev E fr x with
    | some { desc := .map _ _, .. }, some (.int _ _) => some (.val (.map (some H.next)), H.new (.map [] 0))
    | _, _ => none
def f_makeChan (_E : Env) (_fr : Fr) (_H : AH) (_t : TypeId) (_x : Operand) : Ans := none
def f_makeSlice (E : Env) (fr : Fr) (H : AH) (t : TypeId) (l : Operand) (c : Operand) : Ans := match ev E fr l, ev E fr c with
    | some l, some c => makeSliceA E H t l c
    | _, _ => none
def f_slice (E : Env) (fr : Fr) (H : AH) (t : TypeId) (x : Operand) (lo : Option Operand) (hi : Option Operand) (mx : Option Operand) : Ans :=
    match ev E fr x, evs E fr lo.toList, evs E fr hi.toList, evs E fr mx.toList with
    | some x, some lo, some hi, some mx => one H (sliceA E H t x lo.head? hi.head? mx.head?)
    | _, _, _, _ => none
def f_fieldAddr (E : Env) (fr : Fr) (H : AH) (s : TypeId) (x : Operand) (f : Nat) : Ans := match ev E fr x with
    | some v => one H (fieldA E s v f)
    | none => none
def f_field (E : Env) (fr : Fr) (H : AH) (t : TypeId) (x : Operand) (f : Nat) : Ans := match ev E fr x, E.types.get t with
    | some (.agg cs), some { desc := .struct fs, .. } => match fs[f]? with
      | some fd => one H (partA E fd.type cs.toList fd.offset)
      | none => none
    | _, _ => none
def f_indexAddr (E : Env) (fr : Fr) (H : AH) (t : TypeId) (x : Operand) (i : Operand) : Ans := match ev E fr x, (ev E fr i).bind nat? with
    | some v, some i => one H (indexA E t v i)
    | _, _ => none
def f_index (E : Env) (fr : Fr) (H : AH) (t : TypeId) (x : Operand) (i : Operand) : Ans := match ev E fr x, (ev E fr i).bind nat?, E.types.get t with
    | some (.string s), some i, some { desc := .string, .. } => match s.data.toList[i]? with
      | some b => one H (some (.int .u8 b.toNat))
      | none => none
    | some (.agg cs), some i, some { desc := .array len elem, .. } => match E.types.get elem with
      | some e => bif Nat.ble (i + 1) len then one H (partA E elem cs.toList (Nat.mul i e.size)) else none
      | none => none
    | _, _, _ => none
def f_lookup (E : Env) (fr : Fr) (H : AH) (t : TypeId) (x : Operand) (k : Operand) (ok : Bool) : Ans := match ev E fr x, ev E fr k with
    | some x, some k => one H (lookupA E H t x k ok)
    | _, _ => none
def f_mapUpdate (E : Env) (fr : Fr) (H : AH) (t : TypeId) (m : Operand) (k : Operand) (x : Operand) : Ans := match ev E fr m, ev E fr k, ev E fr x with
    | some m, some k, some v => (updateA E H t m k v).map fun H' => (.skip, H')
    | _, _, _ => none
def f_mapEntry (_E : Env) (_fr : Fr) (_H : AH) (_t : TypeId) (_m : Operand) (_k : Operand) : Ans := none
def f_entryStore (_E : Env) (_fr : Fr) (_H : AH) (_t : TypeId) (_m : Operand) (_s : Operand) (_x : Operand) : Ans := none
def f_range (E : Env) (fr : Fr) (H : AH) (t : TypeId) (x : Operand) : Ans := match ev E fr x, E.types.get t with
    | some (.string s), some { desc := .string, .. } => some (.val (.pointer (some ⟨H.next, 0, none⟩)), H.new (.siter s 0))
    | some (.map (some m)), some { desc := .map _ _, .. } => match H.blocks.get m with
      | some ⟨.map _ clock, _, _⟩ => some (.val (.pointer (some ⟨H.next, 0, none⟩)), H.new (.miter m clock [] clock))
      | _ => none
    | _, _ => none
def f_next (E : Env) (fr : Fr) (H : AH) (it : Operand) (str : Bool) : Ans := match ev E fr it with
    | some v => nextA H v str
    | none => none
def f_entry (E : Env) (fr : Fr) (H : AH) (it : Operand) : Ans := match ev E fr it with
    | some v => one H (entryA H v)
    | none => none
def f_typeAssert (E : Env) (fr : Fr) (H : AH) (x : Operand) (_xt : TypeId) (asserted : TypeId) (ok : Bool) : Ans := match ev E fr x, E.types.get asserted with
    | some v, some ti => match assertHit E ti asserted v with
      | some (some u) => one H (some (bif ok then .tuple #[u, .bool true] else u))
      | some none => bif ok then one H (match ti.zero with
        | some z => (zeroVal ti.agg z).map fun zv => .tuple #[zv, .bool false]
        | none => none) else none
      | none => none
    | _, _ => none
def f_extract (E : Env) (fr : Fr) (H : AH) (x : Operand) (i : Nat) : Ans := match ev E fr x with
    | some (.tuple vs) => one H vs.toList[i]?
    | _ => none
def f_call (E : Env) (fr : Fr) (H : AH) (c : Call) : Ans := callA E fr H c
def f_go (_E : Env) (_fr : Fr) (_H : AH) (_c : Call) : Ans := none
def f_defer (_E : Env) (_fr : Fr) (_H : AH) (_c : Call) : Ans := none
def f_panic (_E : Env) (_fr : Fr) (_H : AH) (_x : Operand) : Ans := none
def f_send (_E : Env) (_fr : Fr) (_H : AH) (_c : Operand) (_x : Operand) : Ans := none
def f_recv (_E : Env) (_fr : Fr) (_H : AH) (_t : TypeId) (_c : Operand) (_ok : Bool) : Ans := none
def f_select (_E : Env) (_fr : Fr) (_H : AH) (_cs : Array SelectCase) (_b : Bool) : Ans := none
noncomputable def aopF (E : Env) (fr : Fr) (o : Oper) (H : AH) : Ans := Op.rec (motive := fun _ => Ans) (f_move E fr H) (f_assign E fr H) (f_pick E fr H) (f_alloc E fr H) (f_box E fr H) (f_build E fr H) (f_buildSlice E fr H) (f_insert E fr H) (f_load E fr H) (f_store E fr H) (f_ready E fr H) (f_waits E fr H) (f_nilCheck E fr H) (f_binOp E fr H) (f_unOp E fr H) (f_convert E fr H) (f_sliceToArrayPointer E fr H) (f_makeInterface E fr H) (f_makeFunc E fr H) (f_makeMap E fr H) (f_makeChan E fr H) (f_makeSlice E fr H) (f_slice E fr H) (f_fieldAddr E fr H) (f_field E fr H) (f_indexAddr E fr H) (f_index E fr H) (f_lookup E fr H) (f_mapUpdate E fr H) (f_mapEntry E fr H) (f_entryStore E fr H) (f_range E fr H) (f_next E fr H) (f_entry E fr H) (f_typeAssert E fr H) (f_extract E fr H) (f_call E fr H) (f_go E fr H) (f_defer E fr H) (f_panic E fr H) (f_send E fr H) (f_recv E fr H) (f_select E fr H) o.op
theorem aopF_eq (E : Env) (fr : Fr) (o : Oper) (H : AH) : aopF E fr o H = aop E fr o H := by
  unfold aop aopF
  cases o.op <;> first | rfl | (rename_i r; cases r <;> rfl)
end Go.Am
namespace Go.Am
open Go
def x_ans (ih : Cmd → AH → Res) (rd : Bool) (a : AR) (H : AH) : Option (Value × AH) := match a with
  | .val v => some (v, H)
  | .skip => some (.tuple #[], H)
  | .rcv => bif rd then none else some (.nilIface, H)
  | .enter f args => match ih (.call f args) H with
    | some (.val v, H') => some (v, H')
    | _ => none
  | .round l args => match ih (.round l args) H with
    | some (.val v, H') => some (v, H')
    | _ => none
noncomputable def execF (E : Env) (ih : Cmd → AH → Res) (fr : Fr) (o : Oper) (H : AH) : Option (Value × AH) :=
  match aopF E fr o H with
  | none => none
  | some (a, H') => x_ans ih fr.rd a H'
theorem execF_eq {E : Env} {ih : Cmd → AH → Res} {fr : Fr} {o : Oper} {H : AH} : execF E ih fr o H = execR E ih fr o H := by
  unfold execF execR execA
  rw [aopF_eq]
  cases h : aop E fr o H with
  | none => rfl
  | some r =>
    obtain ⟨a, H'⟩ := r
    cases a <;> rfl
noncomputable def x_put (k : Fr → AH → Option (Fr × AH)) (fr : Fr) (dst : Option Tmp) (v : Value) (H : AH) : Option (Fr × AH) := match dst with
  | some d => bif Nat.ble (d + 1) fr.sz then k ⟨fr.sz, fr.rd, fr.t.put d (some v)⟩ H else none
  | none => k fr H
noncomputable def x_do (E : Env) (ih : Cmd → AH → Res) (k : Fr → AH → Option (Fr × AH)) (fr : Fr) (o : Oper) (H : AH) : Option (Fr × AH) := match execF E ih fr o H with
  | none => none
  | some (v, H') => x_put k fr o.dst v H'
noncomputable def x_op (E : Env) (ih : Cmd → AH → Res) (all : Array Oper) (k : Fr → AH → Option (Fr × AH)) (fr : Fr) (o : Oper) (H : AH) : Option (Fr × AH) := match wantedA all fr o with
  | none => none
  | some false => x_put k fr o.dst (.tuple #[]) H
  | some true => x_do E ih k fr o H
noncomputable def runOpsF (E : Env) (ih : Cmd → AH → Res) (all : Array Oper) (os : List Oper) : Fr → AH → Option (Fr × AH) :=
  List.rec (motive := fun _ => Fr → AH → Option (Fr × AH)) (fun fr H => some (fr, H)) (fun o _ k fr H => x_op E ih all k fr o H) os
theorem x_put_eq {k : Fr → AH → Option (Fr × AH)} {fr : Fr} {dst : Option Tmp} {v : Value} {H : AH} : x_put k fr dst v H = (match putA fr dst v with
    | some fr' => k fr' H
    | none => none) := by
  unfold x_put putA
  cases dst with
  | none => rfl
  | some d =>
    simp only
    cases Nat.ble (d + 1) fr.sz <;> rfl
theorem runOpsF_eq {E : Env} {ih : Cmd → AH → Res} {all : Array Oper} {ts : List (Nat × Nat)} : ∀ (os : List Oper) (i : Nat) (fr : Fr) (H : AH), runOpsF E ih all os fr H = runOps E ih all false ts os i fr H
  | [], i, fr, H => rfl
  | o :: os, i, fr, H => by
    have ih' := runOpsF_eq (E := E) (ih := ih) (all := all) (ts := ts) os (i + 1)
    show x_op E ih all (runOpsF E ih all os) fr o H = _
    unfold runOps x_op x_do
    cases wantedA all fr o with
    | none => rfl
    | some b =>
      cases b with
      | false =>
        simp only [x_put_eq]
        cases putA fr o.dst (.tuple #[]) with
        | none => rfl
        | some fr' => exact ih' fr' H
      | true =>
        simp only [cond_false, execF_eq]
        cases execR E ih fr o H with
        | none => rfl
        | some r =>
          obtain ⟨v, H'⟩ := r
          simp only [x_put_eq]
          cases putA fr o.dst v with
          | none => rfl
          | some fr' => exact ih' fr' H'
end Go.Am
namespace Go.Am
open Go
def y_out (r : Option (Fr × AH)) (k : Unit → Res) : Res := match r with
  | some (fr, H) => some (.ex .normal fr, H)
  | none => k ()
def y_again (E : Env) (ih : Cmd → AH → Res) (ops : Array Oper) (fr : Fr) (H : AH) : Res :=
  match runOps E ih ops false [] ops.toList 0 fr H with
  | some (fr1, _) => match runOps E ih ops true (targetsEnd fr1 ops.toList 0) ops.toList 0 fr H with
    | some (fr', H') => some (.ex .normal fr', H')
    | none => match runOps E ih ops true (targetsApp fr1 ops.toList 0) ops.toList 0 fr H with
      | some (fr', H') => some (.ex .normal fr', H')
      | none => none
  | none => none
noncomputable def y_region (E : Env) (ih : Cmd → AH → Res) (ops : Array Oper) (draw : Bool) (fr : Fr) (H : AH) : Res :=
  cond draw (y_out (runOps E ih ops true (targetsFrom fr ops.toList ops.toList 0) ops.toList 0 fr H) fun _ => y_again E ih ops fr H)
    (y_out (runOpsF E ih ops ops.toList fr H) fun _ => none)
def y_then (ih : Cmd → AH → Res) (b : Code) (e : AExit) (fr : Fr) (H : AH) : Res := match e with
  | .normal => ih (.code b fr) H
  | e => some (.ex e fr, H)
def y_ex (k : AExit → Fr → AH → Res) (r : Res) : Res := match r with
  | some (.ex e fr, H) => k e fr H
  | r => r
def y_seq (ih : Cmd → AH → Res) (a b : Code) (fr : Fr) (H : AH) : Res := y_ex (y_then ih b) (ih (.code a fr) H)
def y_if (ih : Cmd → AH → Res) (a b : Code) (fr : Fr) (H : AH) (t : Bool) : Res := cond t (ih (.code a fr) H) (ih (.code b fr) H)
def y_cond (E : Env) (ih : Cmd → AH → Res) (c : Operand) (a b : Code) (fr : Fr) (H : AH) : Res := match ev E fr c with
  | some (.bool t) => y_if ih a b fr H t
  | _ => none
def y_blk (id : Nat) (e : AExit) (fr : Fr) (H : AH) : Res := match e with
  | .exit id' => bif Nat.beq id' id then some (.ex .normal fr, H) else some (.ex (.exit id') fr, H)
  | e => some (.ex e fr, H)
def y_block (ih : Cmd → AH → Res) (id : Nat) (b : Code) (fr : Fr) (H : AH) : Res := y_ex (y_blk id) (ih (.code b fr) H)
def y_res (E : Env) (rs : List ResultVar) (fr : Fr) (H : AH) : Res := match resultA E fr H rs with
  | some [v] => some (.val v, H)
  | some vs => some (.val (.tuple ⟨vs⟩), H)
  | none => none
def y_end (E : Env) (fn : Func) (fr : Fr) (H : AH) (e : AExit) : Res := match e with
  | .exit _ => none
  | _ => y_res E fn.results.toList fr H
def y_back (E : Env) (ih : Cmd → AH → Res) (fn : Func) (c : Code) (args : List Value) (H : AH) (r : Res) : Res := match r with
  | some (.ex e fr', H') => y_end E fn fr' H' e
  | none => deferA E ih fn.results.toList c ⟨Nat.max fn.ntmps args.length, false, T.ofList .leaf 0 args⟩ H
  | _ => none
def y_go (E : Env) (ih : Cmd → AH → Res) (fn : Func) (args : List Value) (H : AH) (c : Code) : Res :=
  y_back E ih fn c args H (ih (.code c ⟨Nat.max fn.ntmps args.length, false, T.ofList .leaf 0 args⟩) H)
def y_call (E : Env) (ih : Cmd → AH → Res) (f : FuncId) (args : List Value) (H : AH) : Res := match E.funcs.get f with
  | some fn => match fn.body with
    | some c => y_go E ih fn args H c
    | none => none
  | none => none
noncomputable def y_code (E : Env) (ih : Cmd → AH → Res) (c : Code) (fr : Fr) (H : AH) : Res :=
  Code.rec (motive := fun _ => Res) (some (.ex .normal fr, H)) (fun _ ops draw => y_region E ih ops draw fr H) (fun a b _ _ => y_seq ih a b fr H) (fun c a b _ _ => y_cond E ih c a b fr H)
    (fun id b _ => y_block ih id b fr H) (fun b _ => y_seq ih b (.loop b) fr H) (fun f ps a b _ _ => rangeA E ih fr f ps.toList a b H) (fun id => some (.ex (.exit id) fr, H)) (fun b _ => ih (.code b fr) H)
    (fun _ => some (.ex .normal fr, H)) (fun _ => none) (some (.ex .ret fr, H)) (fun _ => none) c
noncomputable def bodyF (E : Env) (ih : Cmd → AH → Res) (cmd : Cmd) (H : AH) : Res :=
  Cmd.rec (motive := fun _ => Res) (fun c fr => y_code E ih c fr H) (fun f args => y_call E ih f args H) (fun l args => roundA E ih l args H) cmd
noncomputable def runK (E : Env) (n : Nat) : Cmd → AH → Res :=
  Nat.rec (motive := fun _ => Cmd → AH → Res) (fun _ _ => none) (fun _ ih => bodyF E ih) n
theorem y_seq_eq {ih : Cmd → AH → Res} {a b : Code} {fr : Fr} {H : AH} : y_seq ih a b fr H = (match ih (.code a fr) H with
      | some (.ex .normal fr', H') => ih (.code b fr') H'
      | r => r) := by
  unfold y_seq y_ex y_then
  cases ih (.code a fr) H with
  | none => rfl
  | some r =>
    obtain ⟨o, H'⟩ := r
    cases o with
    | ex e fr' => cases e <;> rfl
    | val v => rfl
theorem bodyF_eq {E : Env} {ih : Cmd → AH → Res} {cmd : Cmd} {H : AH} : bodyF E ih cmd H = body E ih cmd H := by
  cases cmd with
  | code c fr =>
    show y_code E ih c fr H = _
    cases c with
    | seq a b => exact y_seq_eq
    | loop b => exact y_seq_eq
    | region id ops draw =>
      show y_region E ih ops draw fr H = _
      unfold y_region
      cases draw with
      | true =>
        simp only [cond_true, body]
        cases runOps E ih ops true (targetsFrom fr ops.toList ops.toList 0) ops.toList 0 fr H <;> rfl
      | false =>
        simp only [cond_false, body, runOpsF_eq (ts := []) ops.toList 0]
        cases runOps E ih ops false [] ops.toList 0 fr H <;> rfl
    | cond c a b =>
      show y_cond E ih c a b fr H = _
      unfold y_cond
      simp only [body]
      cases ev E fr c with
      | none => rfl
      | some v => cases v <;> first | rfl | (rename_i t; cases t <;> rfl)
    | block id b =>
      show y_block ih id b fr H = _
      unfold y_block y_ex y_blk
      simp only [body]
      cases ih (.code b fr) H with
      | none => rfl
      | some r =>
        obtain ⟨o, H'⟩ := r
        cases o with
        | ex e fr' => cases e <;> rfl
        | val v => rfl
    | _ => rfl
  | call f args =>
    show y_call E ih f args H = _
    unfold y_call y_go y_back y_end y_res
    simp only [body]
    cases E.funcs.get f with
    | none => rfl
    | some fn =>
      simp only
      cases fn.body with
      | none => rfl
      | some c =>
        simp only
        cases ih (.code c ⟨Nat.max fn.ntmps args.length, false, T.ofList .leaf 0 args⟩) H with
        | none => rfl
        | some r =>
          obtain ⟨o, H'⟩ := r
          cases o with
          | ex e fr' => cases e <;> rfl
          | val v => rfl
  | round l args => rfl
theorem runK_eq {E : Env} : ∀ n, runK E n = runF E n
  | 0 => rfl
  | n + 1 => by
    have ih := runK_eq (E := E) n
    funext cmd H
    show bodyF E (runK E n) cmd H = body E (runF E n) cmd H
    rw [ih, bodyF_eq]
end Go.Am
namespace Go.Am
open Go
noncomputable def lazyT {α : Type} (d : Nat) : (Nat → Option α) → T α :=
  Nat.rec (motive := fun _ => (Nat → Option α) → T α) (fun _ => .leaf) (fun _ ih g => .node (g 0) (ih fun m => g (Nat.succ (Nat.mul 2 m))) (ih fun m => g (Nat.succ (Nat.succ (Nat.mul 2 m))))) d
theorem lazyT_some {α : Type} : ∀ (d : Nat) (g : Nat → Option α) (n : Nat) (x : α), (lazyT d g).get n = some x → g n = some x
  | 0, g, n, x, h => by simp [lazyT, T.get] at h
  | d + 1, g, n, x, h => by
    have e : (lazyT (d + 1) g) = .node (g 0) (lazyT d fun m => g (Nat.succ (Nat.mul 2 m))) (lazyT d fun m => g (Nat.succ (Nat.succ (Nat.mul 2 m)))) := rfl
    rw [e, T.get_node] at h
    split at h
    · rename_i h0; subst h0; exact h
    · split at h
      · have h := lazyT_some d _ _ _ h
        have e2 : Nat.succ (Nat.mul 2 (n / 2)) = n := by show 2 * (n / 2) + 1 = n; omega
        rwa [e2] at h
      · have h := lazyT_some d _ _ _ h
        have e2 : Nat.succ (Nat.succ (Nat.mul 2 (n / 2 - 1))) = n := by show 2 * (n / 2 - 1) + 2 = n; omega
        rwa [e2] at h
theorem lazyT_get {α : Type} : ∀ (d : Nat) (g : Nat → Option α) (n : Nat), n + 1 < 2 ^ d → (lazyT d g).get n = g n
  | 0, g, n, h => by simp at h
  | d + 1, g, n, h => by
    have e : (lazyT (d + 1) g) = .node (g 0) (lazyT d fun m => g (Nat.succ (Nat.mul 2 m))) (lazyT d fun m => g (Nat.succ (Nat.succ (Nat.mul 2 m)))) := rfl
    rw [e, T.get_node]
    rw [Nat.pow_succ] at h
    split
    · rename_i h0; rw [h0]
    · split
      · rw [lazyT_get d _ _ (by omega)]
        congr 1; show 2 * (n / 2) + 1 = n; omega
      · rw [lazyT_get d _ _ (by omega)]
        congr 1; show 2 * (n / 2 - 1) + 2 = n; omega
noncomputable def funG (P : Program) (n : Nat) : Option Func := match P.funcs.toList[n]? with
  | some f => match f.body with
    | some _ => some f
    | none => none
  | none => none
noncomputable def typG (P : Program) (n : Nat) : Option TI := match P.types.toList[n]?, P.underlying n with
  | some i, some d => some (tiOf i d)
  | _, _ => none
noncomputable def envK (P : Program) : Env := { prog := P, ng := P.globals.size, funcs := lazyT 12 (funG P), types := lazyT 12 (typG P) }
def regsAll (P : Program) : Bool := Nat.ble P.types.size 4000 && P.funcs.toList.all fun f => match f.body with
  | some c => !(f.name == "runtime.NumGoroutine") && regsOk c
  | none => true
theorem typG_some {P : Program} {t : Nat} {ti : TI} (h : typG P t = some ti) : ∃ i d, P.types[t]? = some i ∧ P.underlying t = some d ∧ ti = tiOf i d := by
  unfold typG at h
  split at h
  · rename_i i d h1 h2; cases h; exact ⟨i, d, by simpa using h1, h2, rfl⟩
  · cases h
theorem funG_some {P : Program} {f : Nat} {fn : Func} (h : funG P f = some fn) : P.funcs[f]? = some fn ∧ fn.body.isSome = true := by
  unfold funG at h
  split at h
  · rename_i g h1
    split at h
    · rename_i c hc; cases h; exact ⟨by simpa using h1, by rw [hc]; rfl⟩
    · cases h
  · cases h
theorem envK_ok {P : Program} (h : envGood P = true) (hr : regsAll P = true) : EOk (envK P) where
  types t ti ht := by
    obtain ⟨i, d, g2', g3, rfl⟩ := typG_some (lazyT_some 12 (typG P) t ti ht)
    have hlt := (Array.getElem?_eq_some_iff.1 g2').1
    have hi : P.info? t = some i := by
      show Tables.info? P.toTables t = some i
      unfold Tables.info?
      rw [if_pos hlt]; exact g2'
    refine ⟨i, hi, g3, rfl, rfl, ?_, rfl⟩
    intro z hz
    simp only [tiOf] at hz
    split at hz
    · rename_i v hv
      cases hzo : zeroOk (aggT d) i.size v with
      | false => rw [hzo] at hz; cases hz
      | true =>
        rw [hzo] at hz
        cases hz
        obtain ⟨a1, a2, a3, a4, a5⟩ := zero_cells hzo
        exact ⟨v, hv, a1, rfl, a2, a3, a4, a5⟩
    · cases hz
  funcs f fn hf := by
    obtain ⟨g1, g2⟩ := funG_some (lazyT_some 12 (funG P) f fn hf)
    refine ⟨g1, g2, ?_⟩
    simp only [regsAll, Bool.and_eq_true, List.all_eq_true] at hr
    have := hr.2 fn (Array.mem_toList_iff.2 (Array.mem_of_getElem? g1))
    obtain ⟨c, hc⟩ := Option.isSome_iff_exists.1 g2
    rw [hc] at this
    simp only [Bool.and_eq_true, Bool.not_eq_true', beq_eq_false_iff_ne, ne_eq] at this
    exact this.1
  codes f fn c hf hc := by
    obtain ⟨g1, g2⟩ := funG_some (lazyT_some 12 (funG P) f fn hf)
    simp only [regsAll, Bool.and_eq_true, List.all_eq_true] at hr
    have := hr.2 fn (Array.mem_toList_iff.2 (Array.mem_of_getElem? g1))
    rw [hc] at this
    simp only [Bool.and_eq_true] at this
    exact this.2
  mixed := by
    simp only [envGood, Bool.and_eq_true] at h
    exact h.1
  ng := rfl
  fields t ti fs ht hd f hf := by
    obtain ⟨i, d, g2', g3, rfl⟩ := typG_some (lazyT_some 12 (typG P) t ti ht)
    simp only [envGood, Bool.and_eq_true] at h
    simp only [tiOf] at hd
    have hlt := (Array.getElem?_eq_some_iff.1 g2').1
    obtain ⟨fi, hfi⟩ := fields_get _ _ h.2 t fs (Nat.zero_le _) (by simpa using hlt) (by rw [g3, hd]) f hf
    rcases types_get _ _ _ _ _ hfi with g | ⟨i', d', q1, q2, q3, rfl⟩
    · simp [T.get] at g
    · have q2' : P.types[f.type]? = some i' := by simpa using q2
      have qlt := (Array.getElem?_eq_some_iff.1 q2').1
      simp only [regsAll, Bool.and_eq_true] at hr
      have hb := Nat.le_of_ble_eq_true hr.1
      refine ⟨tiOf i' d', ?_⟩
      show (lazyT 12 (typG P)).get f.type = _
      rw [lazyT_get 12 _ _ (by have : (2:Nat)^12 = 4096 := by decide
                               omega)]
      unfold typG
      rw [q3]
      have : P.types.toList[f.type]? = some i' := by simpa using q2'
      rw [this]
section
variable {E : Env} {σ σ' : Sig} {H H' : AH} {w w' : World}
theorem Step.cut {H1 : AH} (hr : HR E σ H w) (hb : ∀ b k, H1.blocks.get b = some k → H.blocks.get b = some k) (hn : H1.next = H.next) (hl : H1.low = 0) : Step E σ H w σ H1 w where
  hr := ⟨fun b k L h1 h2 => hr.objs b k L (hb b k h1) h2, fun b₁ b₂ k₁ k₂ L₁ L₂ h1 h2 => hr.sep b₁ b₂ k₁ k₂ L₁ L₂ (hb _ _ h1) (hb _ _ h2), hr.glob, fun b k h1 => by rw [hn]; exact hr.wf b k (hb b k h1)⟩
  next := by rw [hn]; exact Nat.le_refl _
  ext _ _ := rfl
  size := Nat.le_refl _
  low := by rw [hl]; exact Nat.zero_le _
  tape := rfl
  os := rfl
  output := rfl
  frame _ _ _ := rfl
  origin b k L h1 h2 h3 := .inr ⟨b, k, L, hb b k h1, h2, h3, rfl, rfl⟩
  old b k h1 _ := ⟨k, hb b k h1, rfl, rfl⟩
  keep b k _ h2 := by rw [hl] at h2; exact absurd h2 (Nat.not_lt_zero _)
  born b k h1 h2 := absurd (hr.wf b k (hb b k h1)).2 (Nat.not_lt.2 h2)
theorem CodeOK.cut {c : Code} {fr1 fr2 fr' : Fr} {e : AExit} {H1 H2 : AH} (h : CodeOK E c fr2 H2 e fr' H') (hb : ∀ b k, H2.blocks.get b = some k → H1.blocks.get b = some k) (hn : H2.next = H1.next) (hl : H2.low = 0)
    (hs : fr2.sz = fr1.sz) (hd : fr2.rd = fr1.rd) (ht : ∀ t v, fr2.t.get t = some v → fr1.t.get t = some v) : CodeOK E c fr1 H1 e fr' H' := by
  intro hr0 σ w tmps n0 B0 hr hf hfree hn0 b ds k cs hk hro hds
  have s1 := Step.cut hr hb hn hl
  obtain ⟨σ', w', tmps', ds', s2, f2, rd2, d2, e2⟩ := h hr0 σ w tmps n0 B0 s1.hr ⟨by rw [hs]; exact hf.1, fun t v hv => hf.2 t v (ht t v hv)⟩ (by rw [hn]; exact hfree) hn0 b ds k cs hk (by rw [hd]; exact hro) (hds.step hr s1)
  exact ⟨σ', w', tmps', ds', s1.trans s2, f2, by rw [rd2, hd], d2, e2⟩
theorem code_seq {a b : Code} {fr fr1 fr' : Fr} {H1 : AH} {e : AExit} (h1 : CodeOK E a fr H .normal fr1 H1) (u1 : H.next ≤ H1.next) (h2 : CodeOK E b fr1 H1 e fr' H') (u2 : H1.next ≤ H'.next) : CodeOK E (.seq a b) fr H e fr' H' := by
  intro hr0 σ w tmps n0 B0 hr hf hfree hn0 fb ds k cs hk hro hds
  have hr0' : regsOk a = true ∧ regsOk b = true := by simpa [regsOk] using hr0
  obtain ⟨r1, r2⟩ := hr0'
  have hfree1 : Free σ H.next H1.next := fun c q1 q2 => hfree c q1 (by omega)
  obtain ⟨σ1, w1, tmps1, ds1, s1, f1, rd1, d1, e1⟩ := h1.lay r1 tmps n0 B0 hr hf hfree1 hn0 fb ds (.code b :: k) cs hk hro hds
  obtain ⟨σ2, w2, tmps2, ds2, s2, f2, rd2, d2, e2⟩ := h2 r2 σ1 w1 tmps1 n0 B0 s1.hr f1 (hfree.split s1.ext s1.next) (Nat.le_trans hn0 s1.size) fb ds1 k cs hk (by rw [rd1]; exact hro) d1
  have e1' : Steps E.prog _ _ := e1
  exact ⟨σ2, w2, tmps2, ds2, s1.trans s2, f2, rd2.trans rd1, d2, .head (Steps.trans (.one fm_seq) (e1'.trans (lay_steps _ _ _ _ _ _ _ _))) e2⟩
noncomputable def runsK (E : Env) (n : Nat) (l : List Code) : Fr → AH → Option (Fr × AH) :=
  List.rec (motive := fun _ => Fr → AH → Option (Fr × AH)) (fun fr H => some (fr, H)) (fun c _ k fr H => match runK E n (.code c fr) H with
    | some (.ex .normal fr', H') => k fr' H'
    | _ => none) l
def seqs : List Code → Code → Code
  | [], c => c
  | a :: l, c => .seq a (seqs l c)
theorem runs_ok (he : EOk E) {n : Nat} {rest : Code} {e : AExit} {fr2 : Fr} {H2 : AH} : ∀ {l : List Code} {fr fr1 : Fr} {H H1 : AH}, runsK E n l fr H = some (fr1, H1) → CodeOK E rest fr1 H1 e fr2 H2 → H1.next ≤ H2.next →
    CodeOK E (seqs l rest) fr H e fr2 H2 ∧ H.next ≤ H2.next
  | [], fr, fr1, H, H1, h, hc, hn => by cases h; exact ⟨hc, hn⟩
  | c :: l, fr, fr1, H, H1, h, hc, hn => by
    have h' : (match runK E n (.code c fr) H with
      | some (.ex .normal fr', H') => runsK E n l fr' H'
      | _ => none) = some (fr1, H1) := h
    split at h'
    · rename_i fr' H' hx
      rw [runK_eq] at hx
      obtain ⟨q1, q2⟩ := runs_ok he (l := l) h' hc hn
      have io := runF_ok he n
      have hu := io.up _ _ _ _ hx
      exact ⟨code_seq (io.code _ _ _ _ _ _ hx) hu q1 q2, Nat.le_trans hu q2⟩
    · cases h'
def snapF (ts : List Nat) (fr : Fr) : List (Nat × Option Value) := ts.map fun t => (t, fr.t.get t)
def snapH (bs : List Nat) (H : AH) : List (Nat × Option ABlk) := bs.map fun b => (b, H.blocks.get b)
def snap (ts bs : List Nat) : Option (Fr × AH) → Option (Nat × Bool × List (Nat × Option Value) × List (Nat × Option ABlk) × Nat)
  | some (fr, H) => some (fr.sz, fr.rd, snapF ts fr, snapH bs H, H.next)
  | none => none
def putAll {α : Type} : List (Nat × Option α) → T α
  | [] => .leaf
  | (n, x) :: l => (putAll l).put n x
def frOf (sz : Nat) (rd : Bool) (l : List (Nat × Option Value)) : Fr := ⟨sz, rd, putAll l⟩
def hpOf' (l : List (Nat × Option ABlk)) (n : Nat) : AH := ⟨putAll l, n, 0⟩
theorem putAll_get {α : Type} {n : Nat} {x : α} : ∀ {l : List (Nat × Option α)}, (putAll l).get n = some x → (n, some x) ∈ l
  | [], h => by simp [putAll, T.get] at h
  | (m, y) :: l, h => by
    rw [putAll, T.get_put] at h
    split at h
    · rename_i e; subst e; subst h; exact List.mem_cons_self
    · exact List.mem_cons_of_mem _ (putAll_get h)
theorem segment (he : EOk E) {n : Nat} {l : List Code} {fr fr2 : Fr} {H2 : AH} {ts bs : List Nat} {sz nx : Nat} {rd : Bool} {fs : List (Nat × Option Value)} {hs : List (Nat × Option ABlk)} {rest : Code} {e : AExit}
    (h : snap ts bs (runsK E n l fr H) = some (sz, rd, fs, hs, nx)) (hc : CodeOK E rest (frOf sz rd fs) (hpOf' hs nx) e fr2 H2) (hn : nx ≤ H2.next) : CodeOK E (seqs l rest) fr H e fr2 H2 ∧ H.next ≤ H2.next := by
  cases hx : runsK E n l fr H with
  | none => rw [hx] at h; cases h
  | some r =>
    obtain ⟨fr1, H1⟩ := r
    rw [hx] at h
    simp only [snap, Option.some.injEq, Prod.mk.injEq] at h
    obtain ⟨rfl, rfl, rfl, rfl, rfl⟩ := h
    refine runs_ok he hx (hc.cut (fun b k hb => ?_) rfl rfl rfl rfl fun t v hv => ?_) hn
    · have := putAll_get hb
      simp only [snapH, List.mem_map, Prod.mk.injEq] at this
      obtain ⟨b', _, rfl, h2⟩ := this
      exact h2
    · have := putAll_get hv
      simp only [snapF, List.mem_map, Prod.mk.injEq] at this
      obtain ⟨b', _, rfl, h2⟩ := this
      exact h2
def lastB (E : Env) (rs : List ResultVar) : Res → Bool
  | some (.ex .ret fr, H) => match resultA E fr H rs with
    | some [.bool true] => true
    | _ => false
  | _ => false
theorem last_ok (he : EOk E) {n : Nat} {rs : List ResultVar} {c : Code} {fr : Fr} (h : lastB E rs (runK E n (.code c fr) H) = true) :
    ∃ fr2 H2, CodeOK E c fr H .ret fr2 H2 ∧ H.next ≤ H2.next ∧ resultA E fr2 H2 rs = some [.bool true] := by
  generalize hx : runK E n (.code c fr) H = r at h
  rw [runK_eq] at hx
  unfold lastB at h
  split at h
  · rename_i fr2 H2
    split at h
    · rename_i hr
      have io := runF_ok he n
      exact ⟨fr2, H2, io.code _ _ _ _ _ _ hx, io.up _ _ _ _ hx, hr⟩
    · cases h
  · cases h
open Classical in
noncomputable def ihOne (c : Code) (fr : Fr) (H : AH) (e : AExit) (fr' : Fr) (H' : AH) : Cmd → AH → Res := fun cmd X => if cmd = .code c fr ∧ X = H then some (.ex e fr', H') else none
theorem ihOne_ok {c : Code} {fr fr' : Fr} {e : AExit} (h : CodeOK E c fr H e fr' H') (hn : H.next ≤ H'.next) : IhOK E (ihOne c fr H e fr' H') where
  up cmd X out X' hx := by
    unfold ihOne at hx; split at hx
    · rename_i hh; cases hx; rw [hh.2]; exact hn
    · cases hx
  call f args X v X' hx := by
    unfold ihOne at hx; split at hx
    · rename_i hh; exact absurd hh.1 (by simp)
    · cases hx
  round l args X v X' hx := by
    unfold ihOne at hx; split at hx
    · rename_i hh; exact absurd hh.1 (by simp)
    · cases hx
  code c' fr0 X e' fr1 X' hx := by
    unfold ihOne at hx; split at hx
    · rename_i hh; obtain ⟨h1, h2⟩ := hh; cases h1; cases h2; cases hx; exact h
    · cases hx
  codev c' fr0 X v X' hx := by
    unfold ihOne at hx; split at hx
    · cases hx
    · cases hx
theorem parts_call (he : EOk E) {f : FuncId} {fn : Func} {c : Code} (hf : E.funcs.get f = some fn) (hc : fn.body = some c) {fr2 : Fr} {H2 : AH}
    (h : CodeOK E c ⟨Nat.max fn.ntmps 0, false, .leaf⟩ H .ret fr2 H2) (hn : H.next ≤ H2.next) (hr : resultA E fr2 H2 fn.results.toList = some [.bool true]) : CallOK E f [] H (.bool true) H2 := by
  have hb : body E (ihOne c ⟨Nat.max fn.ntmps 0, false, .leaf⟩ H .ret fr2 H2) (.call f []) H = some (.val (.bool true), H2) := by
    have hi : ihOne c ⟨Nat.max fn.ntmps 0, false, .leaf⟩ H .ret fr2 H2 (.code c ⟨Nat.max fn.ntmps 0, false, .leaf⟩) H = some (.ex .ret fr2, H2) := if_pos ⟨rfl, rfl⟩
    simp only [body, hf, hc, List.length_nil, T.ofList, hi, hr]
  obtain ⟨v, hv, hcall⟩ := call_ok he (ihOne_ok h hn) hb
  cases hv
  exact hcall
theorem closed_call {P : Program} (hE : E.prog = P) {f : FuncId} {m : Nat} {H' : AH} (hm : Nat.ble P.globals.size m = true) (hc : CallOK E f [] (heap0 m) (.bool true) H') (w : World) :
    Calls P f #[] w fun e w' => e = .returned (.bool true) ∧ Kept w w' := by
  subst hE
  have hm' : E.prog.globals.size ≤ m := Nat.le_of_ble_eq_true hm
  let σ : Sig := fun b => if b < E.prog.globals.size then some ⟨b, 0, 0, 0⟩ else none
  have h0 : HR E σ (heap0 m) w := ⟨fun b k L hb => by simp [heap0, T.get] at hb, fun b₁ b₂ k₁ k₂ L₁ L₂ hb => by simp [heap0, T.get] at hb,
    fun g hg => ⟨⟨g, 0, 0, 0⟩, if_pos hg, rfl, rfl⟩, fun b k hb => by simp [heap0, T.get] at hb⟩
  have hfree : Free σ (heap0 m).next H'.next := fun b h1 h2 => by
    have : m ≤ b := h1
    simp only [σ]; rw [if_neg (by omega)]
  have hcall := hc σ w [] h0 .nil hfree
  intro cs
  obtain ⟨e, w', fr, ⟨σ', v', g1, g2, g3⟩, g4, g5, g6⟩ := hcall cs
  refine ⟨e, w', fr, ⟨?_, g3.size, fun B hB => g3.frame B hB fun b k L hb => by simp [heap0, T.get] at hb, g3.tape, g3.os, g3.output⟩, g4, g5, g6⟩
  rw [g1, bool_eq g2]
end
end Go.Am
