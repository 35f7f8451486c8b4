/- The abstract machine: a deterministic, computable run of the model's code over a heap of abstract blocks. Conditions: none; it is a definition. -/
import Derived.Calls
import Derived.Orders
import Derived.Laws.CopyRow
import Derived.Laws.Cells
import Derived.Laws.Entries
import Derived.ChangeKeysEq
set_option linter.all false
namespace Go.Am
open Go
inductive T (α : Type) where
  | leaf
  | node (v : Option α) (l r : T α)
def T.get {α : Type} : T α → Nat → Option α
  | .leaf, _ => none
  | .node v l r, n =>
    bif Nat.beq n 0 then v else bif Nat.beq (Nat.mod n 2) 1 then l.get (Nat.div n 2) else r.get (Nat.pred (Nat.div n 2))
def T.set {α : Type} : Nat → T α → Nat → Option α → T α
  | 0, t, _, _ => t
  | d + 1, .leaf, n, x =>
    bif Nat.beq n 0 then .node x .leaf .leaf
    else bif Nat.beq (Nat.mod n 2) 1 then .node none (T.set d .leaf (Nat.div n 2) x) .leaf
    else .node none .leaf (T.set d .leaf (Nat.pred (Nat.div n 2)) x)
  | d + 1, .node v l r, n, x =>
    bif Nat.beq n 0 then .node x l r
    else bif Nat.beq (Nat.mod n 2) 1 then .node v (T.set d l (Nat.div n 2) x) r
    else .node v l (T.set d r (Nat.pred (Nat.div n 2)) x)
def T.put {α : Type} (t : T α) (n : Nat) (x : Option α) : T α := T.set (n + 1) t n x
def T.ofList {α : Type} (t : T α) : Nat → List α → T α
  | _, [] => t
  | n, x :: xs => T.ofList (t.put n (some x)) (n + 1) xs
structure TI where
  desc : TypeDesc
  size : Nat
  bytes : Nat
  zero : Option (List Value)
  agg : Bool
structure Env where
  funcs : T Func
  types : T TI
  prog : Program
  ng : Nat
def fnPlain : Fn → Bool
  | .yield _ => false
  | _ => true
def oneCell : Value → Bool
  | .agg _ | .tuple _ => false
  | _ => true
def deepFlat : Nat → Value → Bool
  | _, .bool _ | _, .int _ _ | _, .float _ _ | _, .complex _ _ _ | _, .string _ => true
  | _, .pointer a => a.isNone
  | _, .slice a l c => a.isNone && Nat.beq l 0 && Nat.beq c 0
  | _, .map r => r.isNone
  | _, .nilFunc | _, .nilIface => true
  | n + 1, .iface _ v => deepFlat n v
  | n + 1, .agg cs => cs.toList.all fun c => oneCell c && deepFlat n c
  | n + 1, .tuple cs => cs.toList.all (deepFlat n)
  | _, _ => false
abbrev flatV : Value → Bool := deepFlat 6
def aggT (d : TypeDesc) : Bool := match d with
  | .struct _ | .array _ _ => true
  | _ => false
def zeroOk (ag : Bool) (size : Nat) (v : Value) : Bool :=
  flatV v && v.cells.toList.all oneCell && Nat.beq v.cells.toList.length size && (match v with | .agg _ => ag | v => !ag && oneCell v)
def tiOf (i : TypeInfo) (d : TypeDesc) : TI :=
  { desc := d, size := i.size, bytes := i.bytes
    zero := match i.zero with | some v => bif zeroOk (aggT d) i.size v then some v.cells.toList else none | none => none
    agg := aggT d }
def zeroVal (ag : Bool) (z : List Value) : Option Value := match ag, z with
  | true, z => some (.agg ⟨z⟩)
  | false, [v] => some v
  | _, _ => none
def typesFrom (P : Program) : List TypeInfo → Nat → T TI → T TI
  | [], _, t => t
  | i :: is, n, t => typesFrom P is (n + 1) (match P.underlying n with | some d => t.put n (some (tiOf i d)) | none => t)
def preds (o : Oper) : List Nat := o.after.toList.filterMap fun e => match e.ground with
  | .textOnly _ | .gcOnly _ => none
  | _ => some e.on
def maskOf (acc : List Nat) : List Nat → Nat → Nat
  | [], m => m
  | p :: ps, m => maskOf acc ps (Nat.lor m (Nat.lor (Nat.shiftLeft 1 p) (acc.getD p 0)))
def masksFrom (acc : List Nat) : List Oper → List Nat
  | [] => acc
  | o :: os => masksFrom (acc ++ [maskOf acc (preds o) 0]) os
def masks (ops : List Oper) : List Nat := masksFrom [] ops
def before (ms : List Nat) (j i : Nat) : Bool := Nat.testBit (ms.getD i 0) j
def tied (ms : List Nat) (j i : Nat) : Bool := bif Nat.blt j i then before ms j i else before ms i j
def blindOp : Op → Bool
  | .extract _ _ => true
  | .move _ => true
  | .assign _ => true
  | _ => false
def blindAt (ops : List Oper) (i : Nat) : Bool := match ops[i]? with
  | some o => blindOp o.op
  | none => false
def fences (ops : List Oper) (i : Nat) : Bool :=
  let ms := masks ops
  !blindAt ops i && (List.range ops.length).all fun j => Nat.beq j i || tied ms j i || blindAt ops j
def tmpsOf (xs : List Operand) : List Tmp := xs.filterMap fun
  | .tmp t => some t
  | _ => none
def namesOf (ops : List Oper) (o : Oper) : List Tmp :=
  o.dst.toList ++ tmpsOf o.op.operands.toList ++ (match o.guard with
    | some (j, _) => ((ops[j]?).bind (·.dst)).toList
    | none => [])
def regOk (ops : List Oper) : Bool :=
  let ms := masks ops
  ops.zipIdx.all fun (o, i) => (preds o).all (fun p => Nat.blt p i) && ops.zipIdx.all fun (p, k) => Nat.beq k i || (match p.dst with
    | none => true
    | some d => !(namesOf ops o).contains d || tied ms k i)
def regsOk : Code → Bool
  | .region _ ops draw => !draw || regOk ops.toList
  | .seq a b => regsOk a && regsOk b
  | .cond _ a b => regsOk a && regsOk b
  | .block _ b => regsOk b
  | .loop b => regsOk b
  | .scope b => regsOk b
  | .rangeFunc _ _ a b => regsOk a && regsOk b
  | _ => true
def funcsFrom : List Func → Nat → T Func → T Func
  | [], _, t => t
  | f :: fs, n, t => funcsFrom fs (n + 1) (match f.body with | some c => bif f.name == "runtime.NumGoroutine" || !regsOk c then t else t.put n (some f) | none => t)
def envOf (P : Program) : Env := { prog := P, ng := P.globals.size, funcs := funcsFrom P.funcs.toList 0 .leaf, types := typesFrom P P.types.toList 0 .leaf }
structure Fr where
  sz : Nat
  rd : Bool
  t : T Value
inductive AObj where
  | cells (cs : List Value) (elem : TypeId)
  | map (es : List MapEntry) (clock : Nat)
  | siter (s : ByteArray) (pos : Nat)
  | miter (m since : Nat) (seen : List Nat) (last : Nat)
  | loop (state : LoopState) (pending : Option Code) (tmps : Fr) (params : List Tmp) (assign body : Code)
structure ABlk where
  obj : AObj
  root : Nat
  own : Bool
structure AH where
  blocks : T ABlk
  next : Nat
  low : Nat
def capX : Nat := 9223372036854775808
def AH.new (H : AH) (o : AObj) : AH := { blocks := H.blocks.put H.next (some ⟨o, H.next, true⟩), next := Nat.succ H.next, low := H.low }
def AH.write (H : AH) (b : Nat) (k : ABlk) (o : AObj) : AH := { blocks := H.blocks.put b (some { k with obj := o }), next := H.next, low := Nat.min H.low k.root }
def AH.move (H : AH) (b : Nat) (k : ABlk) (x : AObj) : AH :=
  { blocks := (H.blocks.put b none).put H.next (some ⟨x, k.root, true⟩), next := Nat.succ H.next, low := Nat.min H.low k.root }
def take? (l : List Value) (n : Nat) : Option (List Value) := match n, l with
  | 0, _ => some []
  | _ + 1, [] => none
  | n + 1, x :: l => (take? l n).map (x :: ·)
def AH.loads (H : AH) (b i n : Nat) : Option (List Value) :=
  match H.blocks.get b with
  | some ⟨.cells cs _, _, _⟩ => take? (cs.drop i) n
  | _ => none
def splice : List Value → Nat → List Value → Option (List Value)
  | cs, 0, [] => some cs
  | [], 0, _ :: _ => none
  | _ :: cs, 0, v :: vs => (splice cs 0 vs).map (v :: ·)
  | [], _ + 1, _ => none
  | c :: cs, i + 1, vs => (splice cs i vs).map (c :: ·)
def AH.stores (H : AH) (b i : Nat) (vs : List Value) : Option AH :=
  match H.blocks.get b with
  | some ⟨.cells cs el, r, true⟩ => (splice cs i vs).map fun cs' => H.write b ⟨.cells cs el, r, true⟩ (.cells cs' el)
  | _ => none
def pureRun {α : Type} (P : Program) : Sem α → Option α
  | .pure a => some a
  | .program k => pureRun P (k P)
  | .mark _ k => pureRun P k
  | _ => none
def ev (E : Env) (fr : Fr) : Operand → Option Value
  | .tmp t => fr.t.get t
  | .const v => bif flatV v then some v else none
  | .global g => bif Nat.ble (g + 1) E.ng then some (.pointer (some ⟨g, 0, none⟩)) else none
  | .func f => some (.func (.func f) #[] #[])
def evs (E : Env) (fr : Fr) : List Operand → Option (List Value)
  | [] => some []
  | x :: xs => match ev E fr x with
    | none => none
    | some v => (evs E fr xs).map (v :: ·)
inductive AR where
  | val (v : Value)
  | skip
  | rcv
  | enter (f : FuncId) (args : List Value)
  | round (l : Nat) (args : List Value)
abbrev Ans := Option (AR × AH)
def one (H : AH) (v : Option Value) : Ans := v.map fun v => (.val v, H)
def flat? (v : Option Value) : Option Value := match v with
  | some v => bif flatV v then some v else none
  | none => none
def nilEq (E : Env) (t : TypeId) (a b : Value) : Bool :=
  match E.types.get t, a, b with
  | some { desc := .pointer _, .. }, .pointer none, .pointer (some _) => true
  | some { desc := .pointer _, .. }, .pointer (some _), .pointer none => true
  | some { desc := .slice _, .. }, .slice none _ _, .slice (some _) _ _ => true
  | some { desc := .slice _, .. }, .slice (some _) _ _, .slice none _ _ => true
  | some { desc := .map _ _, .. }, .map none, .map (some _) => true
  | some { desc := .map _ _, .. }, .map (some _), .map none => true
  | some { desc := .func _ _ _, .. }, .nilFunc, .func _ _ _ => true
  | some { desc := .func _ _ _, .. }, .func _ _ _, .nilFunc => true
  | some { desc := .interface _, .. }, .nilIface, .iface _ _ => true
  | some { desc := .interface _, .. }, .iface _ _, .nilIface => true
  | _, _, _ => false
def ptrEq (E : Env) (t : TypeId) (a b : Value) : Bool :=
  match E.types.get t, a, b with
  | some { desc := .pointer elem, .. }, .pointer (some ⟨b, o, none⟩), .pointer (some ⟨b', o', none⟩) => (E.types.get elem).isSome && Nat.beq b b' && Nat.beq o o'
  | _, _, _ => false
def binA (E : Env) (op : BinOp) (t : TypeId) (x y : Operand) (a b : Value) : Option Value :=
  match op, a, b with
  | .add, .int k m, .int k' n => if k = k' then some (.int k (k.wrap (m + n))) else none
  | .sub, .int k m, .int k' n => if k = k' then some (.int k (k.wrap (m - n))) else none
  | .mul, .int k m, .int k' n => if k = k' then some (.int k (k.wrap (m * n))) else none
  | .eql, .int k m, .int k' n => if k = k' then some (.bool (m == n)) else none
  | .neq, .int k m, .int k' n => if k = k' then some (.bool (m != n)) else none
  | .lss, .int k m, .int k' n => if k = k' then some (.bool (m < n)) else none
  | .leq, .int k m, .int k' n => if k = k' then some (.bool (m ≤ n)) else none
  | .gtr, .int k m, .int k' n => if k = k' then some (.bool (m > n)) else none
  | .geq, .int k m, .int k' n => if k = k' then some (.bool (m ≥ n)) else none
  | op, a, b =>
    bif flatV a && flatV b then flat? (pureRun E.prog (do eqGuard op t x y a b; binOp op t a b))
    else bif ptrEq E t a b then (match op with
      | .eql => some (.bool true)
      | .neq => some (.bool false)
      | _ => none)
    else bif nilEq E t a b then (match op with
      | .eql => some (.bool false)
      | .neq => some (.bool true)
      | _ => none)
    else none
def nat? : Value → Option Nat
  | .int _ (.ofNat n) => some n
  | _ => none
def addrAdd (b i n : Nat) : Option Addr := some ⟨b, Nat.add i n, none⟩
def indexA (E : Env) (t : TypeId) (x : Value) (i : Nat) : Option Value :=
  match E.types.get t, x with
  | some { desc := .array len elem, .. }, .pointer (some ⟨b, o, none⟩) =>
    (E.types.get elem).bind fun e => bif Nat.ble (i + 1) len then some (.pointer (addrAdd b o (Nat.mul i e.size))) else none
  | some { desc := .slice elem, .. }, .slice (some ⟨b, o, none⟩) len _ =>
    (E.types.get elem).bind fun e => bif Nat.ble (i + 1) len then some (.pointer (addrAdd b o (Nat.mul i e.size))) else none
  | _, _ => none
def fieldA (E : Env) (s : TypeId) (x : Value) (f : Nat) : Option Value :=
  match E.types.get s, x with
  | some { desc := .struct fs, .. }, .pointer (some ⟨b, o, none⟩) =>
    match fs[f]? with
    | some fd => (E.types.get fd.type).bind fun e => bif Nat.beq e.size 0 then none else some (.pointer (addrAdd b o fd.offset))
    | none => none
  | _, _ => none
def loadA (E : Env) (H : AH) (t : TypeId) (a : Value) : Option Value :=
  match E.types.get t, a with
  | some ti, .pointer (some ⟨b, o, none⟩) =>
    bif ti.agg then (H.loads b o ti.size).map fun l => .agg ⟨l⟩
    else match H.loads b o 1 with
      | some [v] => some v
      | _ => none
  | _, _ => none
def storeA (E : Env) (H : AH) (t : TypeId) (a v : Value) : Option AH :=
  match E.types.get t, a with
  | some ti, .pointer (some ⟨b, o, none⟩) =>
    let cs := v.cells.toList
    bif Nat.beq cs.length ti.size then H.stores b o cs else none
  | _, _ => none
def partA (E : Env) (t : TypeId) (cs : List Value) (off : Nat) : Option Value :=
  (E.types.get t).bind fun ti =>
    bif ti.agg then (take? (cs.drop off) ti.size).map fun l => .agg ⟨l⟩ else (cs[off]?)
def parts? (E : Env) (fr : Fr) : List (Nat × Operand) → Option (List (Nat × Value))
  | [] => some []
  | (i, x) :: xs => match ev E fr x with
    | none => none
    | some (.tuple _) => none
    | some v => (parts? E fr xs).map ((i, v) :: ·)
def over (cs : List Value) : List (Nat × Value) → (Nat → Option (Nat × Nat)) → Option (List Value)
  | [], _ => some cs
  | (i, v) :: rest, place =>
    match place i with
    | none => none
    | some (off, size) =>
      let vs := v.cells.toList
      bif Nat.beq vs.length size then (match splice cs off vs with | some cs' => over cs' rest place | none => none) else none
def fieldPlace? (E : Env) (fs : List Field) (i : Nat) : Option (Nat × Nat) :=
  match fs[i]? with
  | some f => (E.types.get f.type).map fun t => (f.offset, t.size)
  | none => none
def buildA (E : Env) (t : TypeId) (parts : List (Nat × Value)) : Option Value :=
  match E.types.get t with
  | some { desc := .struct fs, zero := some z, .. } => (over z parts (fieldPlace? E fs.toList)).map fun l => .agg ⟨l⟩
  | some { desc := .array _ elem, zero := some z, .. } =>
    (E.types.get elem).bind fun e => (over z parts (fun i => some (Nat.mul i e.size, e.size))).map fun l => .agg ⟨l⟩
  | _ => none
def reps (z : List Value) : Nat → List Value
  | 0 => []
  | n + 1 => z ++ reps z n
def buildSliceA (E : Env) (H : AH) (t : TypeId) (len : Nat) (parts : List (Nat × Value)) : Ans :=
  match E.types.get t with
  | some { desc := .slice elem, .. } => match E.types.get elem with
    | some { size := size, zero := some z, .. } =>
      bif Nat.beq z.length size && Nat.ble (Nat.mul len (Nat.succ size)) 1000000 then
        (over (reps z len) parts (fun i => some (Nat.mul i size, size))).map fun l =>
          (.val (.slice (some ⟨H.next, 0, none⟩) len (bif Nat.beq len 0 then 0 else capX)), H.new (.cells l elem))
      else none
    | _ => none
  | _ => none
def firstA (H : AH) (size n : Nat) : Value → Option (List Value)
  | .slice (some ⟨b, o, none⟩) len _ => bif Nat.beq n 0 then some [] else bif Nat.ble n len then H.loads b o (Nat.mul n size) else none
  | .slice none _ _ => bif Nat.beq n 0 then some [] else none
  | .string s => bif Nat.beq size 1 && Nat.ble n s.size then some ((s.data.toList.take n).map fun b => .int .u8 b.toNat) else none
  | _ => none
def lenA : Value → Option Nat
  | .slice _ n _ => some n
  | .string s => some s.size
  | _ => none
def newCellsA (H : AH) (xi e : TI) (x : Value) : Option (Nat × List Value) :=
  match xi.desc with
  | .int _ => match x, e.zero with
    | .int _ (.ofNat n), some z => some (n, reps z n)
    | _, _ => none
  | _ => match lenA x with
    | some n => (firstA H e.size n x).map fun cs => (n, cs)
    | none => none
def appendA (E : Env) (H : AH) (argTypes : List TypeId) (s x : Value) : Ans :=
  match argTypes, s with
  | t :: xt :: _, .slice base len cap =>
    match E.types.get t, E.types.get xt with
    | some { desc := .slice elem, .. }, some xi =>
      match E.types.get elem with
      | some e => match e.zero, newCellsA H xi e x with
        | some _, some (n, new) =>
          bif Nat.ble (Nat.mul (Nat.add (Nat.mul 4 (Nat.add len n)) 4000) (Nat.succ e.bytes)) 100000000000 then
          bif Nat.beq n 0 then some (.val s, H) else
            match base with
            | none => some (.val (.slice (some ⟨H.next, 0, none⟩) (Nat.add len n) capX), H.new (.cells new elem))
            | some ⟨b, o, none⟩ =>
              bif Nat.ble capX cap then
                match H.blocks.get b, firstA H e.size len s with
                | some ⟨.cells cs el, r, true⟩, some old => bif Nat.beq el elem && Nat.beq (Nat.mod o e.size) 0 then
                  some (.val (.slice (some ⟨H.next, 0, none⟩) (Nat.add len n) capX), H.move b ⟨.cells cs el, r, true⟩ (.cells ((old ++ new) ++ cs.drop (Nat.add o (Nat.mul (Nat.add len n) e.size))) el)) else none
                | _, _ => none
              else bif Nat.ble (Nat.add len n) cap then
                (H.stores b (Nat.add o (Nat.mul len e.size)) new).map fun H' => (.val (.slice (some ⟨b, o, none⟩) (Nat.add len n) cap), H')
              else match firstA H e.size len s with
                | some old => some (.val (.slice (some ⟨H.next, 0, none⟩) (Nat.add len n) capX), H.new (.cells (old ++ new) elem))
                | none => none
            | _ => none
          else none
        | _, _ => none
      | none => none
    | _, _ => none
  | _, _ => none
def boundA (v : Option Value) (d : Nat) : Option Nat := match v with
  | none => some d
  | some v => nat? v
def sliceA (E : Env) (H : AH) (t : TypeId) (x : Value) (lo hi mx : Option Value) : Option Value :=
  match E.types.get t, x with
  | some { desc := .array n elem, .. }, .pointer (some ⟨b, o, none⟩) =>
    match boundA lo 0, boundA hi n, boundA mx n, E.types.get elem with
    | some l, some h, some m, some e => bif Nat.ble l h && Nat.ble h m && Nat.ble m n && Nat.ble n 1000000 && (mx.isNone || hi.isSome) then
        some (.slice (some ⟨b, bif Nat.beq m l then o else Nat.add o (Nat.mul l e.size), none⟩) (Nat.sub h l) (Nat.sub m l)) else none
    | _, _, _, _ => none
  | some { desc := .slice elem, .. }, .slice a len cap =>
    match boundA lo 0, boundA hi len, E.types.get elem with
    | some l, some h, some e =>
      match a with
      | none => bif Nat.beq l 0 && Nat.beq h 0 && Nat.beq len 0 && Nat.beq cap 0 && ((match boundA mx 0 with | some m => Nat.beq m 0 | none => false) && (mx.isNone || hi.isSome)) then some (.slice none 0 0) else none
      | some ⟨b, o, none⟩ =>
        match mx with
        | some m => match nat? m with
          | some m => bif Nat.ble l h && Nat.ble h m && Nat.ble m len && hi.isSome then
              some (.slice (some ⟨b, bif Nat.beq m l then o else Nat.add o (Nat.mul l e.size), none⟩) (Nat.sub h l) (Nat.sub m l)) else none
          | none => none
        | none =>
          bif Nat.ble l h then
            (bif Nat.ble capX cap then
              match H.blocks.get b with
              | some ⟨.cells cs el, _, _⟩ => bif Nat.beq el elem && (Nat.ble h len || (Nat.ble 1 e.size && Nat.ble (Nat.add o (Nat.mul h e.size)) cs.length)) then some (.slice (some ⟨b, Nat.add o (Nat.mul l e.size), none⟩) (Nat.sub h l) capX) else none
              | _ => none
            else bif Nat.ble h cap then
              some (.slice (some ⟨b, bif Nat.beq cap l then o else Nat.add o (Nat.mul l e.size), none⟩) (Nat.sub h l) (Nat.sub cap l)) else none)
          else none
      | _ => none
    | _, _, _ => none
  | some { desc := .string, .. }, .string s =>
    match boundA lo 0, boundA hi s.size with
    | some l, some h => bif Nat.ble l h && Nat.ble h s.size && mx.isNone then some (.string (s.extract l h)) else none
    | _, _ => none
  | _, _ => none
def makeSliceA (E : Env) (H : AH) (t : TypeId) (l c : Value) : Ans :=
  match E.types.get t, nat? l, nat? c with
  | some { desc := .slice elem, .. }, some l, some c => match E.types.get elem with
    | some { size := size, zero := some z, bytes := bytes, .. } =>
      bif Nat.beq z.length size && Nat.ble l c && Nat.ble (Nat.mul c (Nat.succ (Nat.add bytes size))) 1000000000 then
        some (.val (.slice (some ⟨H.next, 0, none⟩) l (bif Nat.beq l c then capX else c)), H.new (.cells (reps z c) elem))
      else none
    | _ => none
  | _, _, _ => none
def findA (E : Env) (kt : TypeId) (k : Value) (es : List MapEntry) : Option (Option (Nat × Value)) :=
  bif flatV k then pureRun E.prog (do Instr.checkKey es.isEmpty 10000 kt k; Instr.findKey kt k es) else none
def mapOf (H : AH) (x : Value) : Option (List MapEntry) :=
  match x with
  | .map none => some []
  | .map (some r) => match H.blocks.get r with
    | some ⟨.map es _, _, _⟩ => some es
    | _ => none
  | _ => none
def lookupA (E : Env) (H : AH) (t : TypeId) (x k : Value) (ok : Bool) : Option Value :=
  match E.types.get t, mapOf H x with
  | some { desc := .map kt et, .. }, some es => match findA E kt k es, E.types.get et with
    | some (some (_, v)), _ => some (bif ok then .tuple #[v, .bool true] else v)
    | some none, some { zero := some z, agg := agg, .. } => match zeroVal agg z with
      | some v => some (bif ok then .tuple #[v, .bool false] else v)
      | none => none
    | _, _ => none
  | _, _ => none
def modify (l : List MapEntry) (i : Nat) (k v : Value) : List MapEntry := match l, i with
  | [], _ => []
  | e :: es, 0 => { e with key := k, val := v } :: es
  | e :: es, i + 1 => e :: modify es i k v
def updateA (E : Env) (H : AH) (t : TypeId) (m k v : Value) : Option AH :=
  match E.types.get t, m with
  | some { desc := .map kt _, .. }, .map (some r) => match H.blocks.get r with
    | some ⟨.map es clock, rt, true⟩ => bif flatV k then match pureRun E.prog (do Instr.checkKey false 10000 kt k; Instr.findKey kt k es) with
      | some (some (i, _)) => match es[i]? with
        | some e => bif Instr.sameBits 10000 e.key k then some (H.write r ⟨.map es clock, rt, true⟩ (.map (modify es i k v) clock)) else none
        | none => none
      | some none => some (H.write r ⟨.map es clock, rt, true⟩ (.map (es ++ [{ key := k, val := v, born := clock }]) (clock + 1)))
      | none => none else none
    | _ => none
  | _, _ => none
def deleteA (E : Env) (H : AH) (t : TypeId) (m k : Value) : Option AH :=
  match E.types.get t, m with
  | some { desc := .map kt _, .. }, .map (some r) => match H.blocks.get r with
    | some ⟨.map es clock, rt, true⟩ => match findA E kt k es with
      | some (some (i, _)) => some (H.write r ⟨.map es clock, rt, true⟩ (.map (es.eraseIdx i) clock))
      | some none => some (H.write r ⟨.map es clock, rt, true⟩ (.map es clock))
      | none => none
    | _ => none
  | some { desc := .map kt _, .. }, .map none => match findA E kt k [] with
    | some _ => some H
    | none => none
  | _, _ => none
def mapNext1 (es : List MapEntry) (since : Nat) (seen : List Nat) (last : Nat) : Option (Option MapEntry) :=
  bif !seen.isEmpty && !es.isEmpty && es.all (fun e => Nat.ble last e.born) then none
  else
    let left := es.filter fun e => !(seen.contains e.born)
    match left.filter (fun e => Nat.blt e.born since), left.filter (fun e => Nat.ble since e.born) with
    | [], [] => some none
    | [e], [] => some (some e)
    | _, _ => none
def nextA (H : AH) (it : Value) (isString : Bool) : Ans :=
  match it, isString with
  | .pointer (some ⟨r, 0, none⟩), true => match H.blocks.get r with
    | some ⟨.siter s pos, rt, true⟩ =>
      bif Nat.ble (pos + 1) s.size then
        let (c, width) := Utf8.decode s pos
        some (.val (.tuple #[.bool true, goInt pos, .int .i32 c]), H.write r ⟨.siter s pos, rt, true⟩ (.siter s (pos + width)))
      else some (.val (.tuple #[.bool false]), H)
    | _ => none
  | .pointer (some ⟨r, 0, none⟩), false => match H.blocks.get r with
    | some ⟨.miter m since seen last, rt, true⟩ => match H.blocks.get m with
      | some ⟨.map es clock, _, _⟩ => match mapNext1 es since seen last with
        | some (some e) => some (.val (.tuple #[.bool true, e.key, e.val]), H.write r ⟨.miter m since seen last, rt, true⟩ (.miter m since (seen ++ [e.born]) clock))
        | some none => some (.val (.tuple #[.bool false]), H)
        | none => none
      | _ => none
    | _ => none
  | _, _ => none
def entryA (H : AH) (it : Value) : Option Value :=
  match it with
  | .pointer (some ⟨r, 0, none⟩) => match H.blocks.get r with
    | some ⟨.miter m _ seen last, _, true⟩ => match H.blocks.get m with
      | some ⟨.map es clock, _, _⟩ => bif Nat.beq clock last then match seen.getLast? with
        | some b => match es.find? (fun e => e.born == b) with
          | some e => some (.tuple #[e.key, e.val])
          | none => none
        | none => none else none
      | _ => none
    | _ => none
  | _ => none
def lenB (E : Env) (H : AH) (ats : List TypeId) (x : Value) : Option Value :=
  match ats with
  | [] => none
  | t :: _ => match E.types.get t with
    | none => none
    | some ti => match ti.desc, x with
      | .string, .string s => some (goInt s.size)
      | .slice _, .slice _ n _ => some (goInt n)
      | .map _ _, x => (mapOf H x).map fun es => goInt es.length
      | .array n _, _ => some (goInt n)
      | .pointer a, _ => match E.types.get a with
        | some { desc := .array n _, .. } => some (goInt n)
        | _ => none
      | _, _ => none
def capB (E : Env) (ats : List TypeId) (x : Value) : Option Value :=
  match ats with
  | [] => none
  | t :: _ => match E.types.get t with
    | none => none
    | some ti => match ti.desc, x with
      | .slice _, .slice _ _ c => bif Nat.ble capX c then none else some (goInt c)
      | _, _ => none
def copyB (E : Env) (H : AH) (ats : List TypeId) (dst src : Value) : Ans :=
  match ats with
  | [] => none
  | t :: _ => match E.types.get t with
    | none => none
    | some ti => match ti.desc, dst with
      | .slice elem, .slice base dl _ => match E.types.get elem, lenA src with
        | some e, some sl => match firstA H e.size (Nat.min sl dl) src with
          | none => none
          | some cs =>
            bif Nat.beq (Nat.min sl dl) 0 then some (.val (goInt (Nat.min sl dl)), H)
            else match base with
              | some ⟨b, o, none⟩ => (H.stores b o cs).map fun H' => (.val (goInt (Nat.min sl dl)), H')
              | _ => none
        | _, _ => none
      | _, _ => none
def clearB (E : Env) (H : AH) (ats : List TypeId) (x : Value) : Ans :=
  match ats with
  | [] => none
  | t :: _ => match E.types.get t with
    | none => none
    | some ti => match ti.desc, x with
      | .slice elem, .slice base n _ => match E.types.get elem with
        | some { zero := some z, .. } =>
          bif Nat.beq n 0 then some (.val (.tuple #[]), H)
          else match base with
            | some ⟨b, o, none⟩ => (H.stores b o (reps z n)).map fun H' => (.val (.tuple #[]), H')
            | _ => none
        | _ => none
      | _, _ => none
def bytesA : List Value → Option (List UInt8)
  | [] => some []
  | .int .u8 b :: vs => (bytesA vs).map (UInt8.ofNat b.toNat :: ·)
  | _ => none
def bytesTyped (E : Env) (ats : List TypeId) (el : TypeId) (r : Option (List Value)) : Option (List Value) := match ats with
  | t :: _ => match E.types.get t, E.types.get el with
    | some { desc := .pointer u, .. }, some e => bif Nat.beq u el && Nat.beq e.size 1 then r else none
    | _, _ => none
  | [] => none
def unsafeStringA (E : Env) (H : AH) (ats : List TypeId) (p l : Value) : Ans :=
  match p, nat? l with
  | .pointer none, some 0 => some (.val (.string .empty), H)
  | .pointer (some _), some 0 => some (.val (.string .empty), H)
  | .pointer (some ⟨b, o, none⟩), some n => match H.blocks.get b with
    | some ⟨.cells cs el, r, true⟩ => match bytesTyped E ats el (bif Nat.ble n 1000000000 then take? (cs.drop o) n else none) with
      | some vs => (bytesA vs).map fun l => (.val (.string ⟨⟨l⟩⟩), { blocks := H.blocks.put b none, next := H.next, low := Nat.min H.low r })
      | none => none
    | _ => none
  | _, _ => none
def builtinA (E : Env) (H : AH) (b : Builtin) (ats : List TypeId) (args : List Value) : Ans :=
  match b with
  | .append => match args with
    | [s, x] => appendA E H ats s x
    | _ => none
  | .len => match args with
    | [x] => one H (lenB E H ats x)
    | _ => none
  | .cap => match args with
    | [x] => one H (capB E ats x)
    | _ => none
  | .unsafeSliceData => match args with
    | [.slice none _ _] => some (.val (.pointer none), H)
    | [.slice (some a) l _] => bif Nat.ble 1 l then some (.val (.pointer (some a)), H) else none
    | _ => none
  | .unsafeString => match ats, args with
    | t :: r, [p, l] => unsafeStringA E H (t :: r) p l
    | _, _ => none
  | .copy => match args with
    | [d, s] => copyB E H ats d s
    | _ => none
  | .clear => match args with
    | [x] => clearB E H ats x
    | _ => none
  | .delete => match ats, args with
    | t :: _, [m, k] => (deleteA E H t m k).map fun H' => (.val (.tuple #[]), H')
    | _, _ => none
  | .min => bif args.all flatV then one H (flat? (pureRun E.prog (Builtin.min_ #[] 0 ⟨args⟩))) else none
  | .max => bif args.all flatV then one H (flat? (pureRun E.prog (Builtin.max_ #[] 0 ⟨args⟩))) else none
  | .recover => match args with
    | [] => some (.rcv, H)
    | _ => none
  | _ => none
def ptrFits (d : TypeDesc) (ptr : Bool) : Bool := match d with
  | .pointer _ => ptr
  | _ => !ptr
def methodA (E : Env) (v : Value) (name : String) : Option (FuncId × Value) :=
  match v with
  | .iface t x => match E.prog.info? t, E.types.get t with
    | some i, some ti => match i.methods.find? (·.name == name) with
      | some { path := p, func := some (f, ptr), .. } =>
        bif Nat.beq p.toList.length 0 && ptrFits ti.desc ptr then some (f, x) else none
      | _ => none
    | _, _ => none
  | _ => none
def enterA (E : Env) (H : AH) (f : FuncId) (args : List Value) : Ans :=
  match E.funcs.get f with
  | some _ => some (.enter f args, H)
  | none => none
def nameNoEscape : String := (Extern.AbiNoEscape.rows.map (·.1)).headD ""
def nameMakeNoZero : String := (Extern.BytealgMakeNoZero.typedRows.map (·.1)).headD ""
def noZeroA (E : Env) (H : AH) (fn : Func) (n : Nat) : Ans :=
  match (fn.resultTypes.toList.head?).bind E.types.get with
  | some { desc := .slice elem, .. } => match E.types.get elem with
    | some e => bif Nat.beq e.size 1 && Nat.ble n 1000000000 then some (.val (.slice (some ⟨H.next, 0, none⟩) n capX), H.new (.cells [] elem)) else none
    | none => none
  | _ => none
def rowA (E : Env) (H : AH) (f : FuncId) (args : List Value) : Ans :=
  match args with
  | [.int .i64 (.ofNat n)] => match E.prog.funcs[f]? with
    | some fn => bif fn.name == nameMakeNoZero && fn.body.isNone && (Extern.findNext fn).isNone then noZeroA E H fn n
      else match pureRun E.prog (callFunc f ⟨[.int .i64 (.ofNat n)]⟩) with
        | some (.value v) => one H (flat? (some v))
        | _ => none
    | none => none
  | [.pointer (some a)] => match E.prog.funcs[f]? with
    | some fn => bif fn.name == nameNoEscape && fn.body.isNone && (Extern.findNext fn).isNone then some (.val (.pointer (some a)), H) else none
    | none => none
  | args => bif args.all flatV then match pureRun E.prog (callFunc f ⟨args⟩) with
    | some (.value v) => one H (flat? (some v))
    | _ => none
  else none
def directA (E : Env) (H : AH) (f : FuncId) (args : List Value) : Ans :=
  match E.funcs.get f with
  | some _ => some (.enter f args, H)
  | none => rowA E H f args
def callA (E : Env) (fr : Fr) (H : AH) (c : Call) : Ans :=
  match evs E fr c.args.toList with
  | none => none
  | some args => match c.callee with
    | .builtin b => builtinA E H b c.argTypes.toList args
    | .invoke r name => match ev E fr r with
      | some v => match methodA E v name with
        | some (f, x) => enterA E H f (x :: args)
        | none => none
      | none => none
    | .value f => match ev E fr f with
      | some (.func (.func g) first cap) => directA E H g (first.toList ++ args ++ cap.toList)
      | some (.func (.yield l) _ _) => match H.blocks.get l with
        | some ⟨.loop _ _ _ ps _ _, _, _⟩ => bif Nat.beq ps.length args.length then some (.round l args, H) else none
        | _ => none
      | some (.func (.method name) first _) => match first.toList ++ args with
        | v :: rest => match methodA E v name with
          | some (f, x) => enterA E H f (x :: rest)
          | none => none
        | [] => none
      | some (.func (.methodOf t name) first _) => match first.toList ++ args with
        | v :: rest =>
          let v' := match E.types.get t with
            | some { desc := .interface _, .. } => some v
            | some _ => some (.iface t v)
            | none => none
          match v' with
          | some v' => match methodA E v' name with
            | some (f, x) => enterA E H f (x :: rest)
            | none => none
          | none => none
        | [] => none
      | _ => none
def runesA : List Value → Option (List UInt8)
  | [] => some []
  | .int .i32 n :: vs => (runesA vs).map ((Utf8.encode n).data.toList ++ ·)
  | _ => none
def toStringA (E : Env) (H : AH) (s d : TypeId) (v : Value) (n : Nat) : Option Value :=
  match E.types.get s, E.types.get d, firstA H 1 n v with
  | some { desc := .slice e, .. }, some { desc := .string, .. }, some cs => match E.types.get e with
    | some { desc := .int .u8, .. } => (bytesA cs).map fun l => .string ⟨⟨l⟩⟩
    | some { desc := .int .i32, .. } => (runesA cs).map fun l => .string ⟨⟨l⟩⟩
    | _ => none
  | _, _, _ => none
def bytesOfA (E : Env) (H : AH) (e : TypeId) (b : ByteArray) : Ans :=
  match E.types.get e with
  | some { desc := .int .u8, size := sz, .. } =>
    bif Nat.beq sz 1 && Nat.ble b.data.toList.length 1000000000 then
      some (.val (.slice (some ⟨H.next, 0, none⟩) b.data.toList.length capX), H.new (.cells (b.data.toList.map fun x => .int .u8 x.toNat) e))
    else none
  | _ => none
def viewA (E : Env) (H : AH) (s d : TypeId) (a : Addr) : Ans :=
  match a with
  | ⟨b, o, none⟩ => match E.types.get s, E.types.get d, H.blocks.get b with
    | some { desc := .pointer t, .. }, some { desc := .unsafePointer, .. }, some ⟨.cells cs _, _, _⟩ => match E.types.get t with
      | some ti => bif Nat.ble 1 ti.size && Nat.blt o cs.length then some (.val (.pointer (some a)), H) else none
      | none => none
    | some { desc := .unsafePointer, .. }, some { desc := .pointer u, .. }, some ⟨.cells cs el, _, true⟩ => match E.types.get u with
      | some ti => bif Nat.beq el u && Nat.beq o 0 && Nat.beq cs.length ti.size && Nat.ble 1 ti.size then some (.val (.pointer (some a)), H) else none
      | none => none
    | _, _, _ => none
  | _ => none
def assertHit (E : Env) (ti : TI) (asserted : TypeId) (v : Value) : Option (Option Value) :=
  match ti.desc, v with
  | .interface want, .iface t u => match E.prog.info? t with
    | some i => match Instr.missingMethod want i.methods with
      | none => some (some (.iface t u))
      | some _ => some none
    | none => none
  | .interface _, .nilIface => some none
  | .interface _, _ => none
  | _, .iface t u => if t = asserted then some (some u) else some none
  | _, .nilIface => some none
  | _, _ => none
def aop (E : Env) (fr : Fr) (o : Oper) (H : AH) : Ans :=
  match o.op with
  | .move x | .assign x => one H (ev E fr x)
  | .pick c a b => match ev E fr c with
    | some (.bool true) => one H (ev E fr a)
    | some (.bool false) => one H (ev E fr b)
    | _ => none
  | .alloc t => match E.types.get t with
    | some { zero := some z, .. } => some (.val (.pointer (some ⟨H.next, 0, none⟩)), H.new (.cells z t))
    | _ => none
  | .box t x => match ev E fr x with
    | some (.tuple _) => none
    | some v => some (.val (.pointer (some ⟨H.next, 0, none⟩)), H.new (.cells v.cells.toList t))
    | none => none
  | .build t ps => match parts? E fr ps.toList with
    | some ps => one H (buildA E t ps)
    | none => none
  | .buildSlice t n ps => match parts? E fr ps.toList with
    | some ps => buildSliceA E H t n ps
    | none => none
  | .load t a => match ev E fr a with
    | some v => one H (loadA E H t v)
    | none => none
  | .store t a x => match ev E fr a, ev E fr x with
    | some _, some (.tuple _) => none
    | some a, some v => (storeA E H t a v).map fun H' => (.skip, H')
    | _, _ => none
  | .nilCheck x => match ev E fr x with
    | some (.pointer (some a)) => some (.val (.pointer (some a)), H)
    | some (.iface t v) => some (.val (.iface t v), H)
    | some (.func (.func f) a b) => some (.val (.func (.func f) a b), H)
    | some (.func (.yield f) a b) => some (.val (.func (.yield f) a b), H)
    | _ => none
  | .binOp op t x y _ => match ev E fr x, ev E fr y with
    | some a, some b => one H (binA E op t x y a b)
    | _, _ => none
  | .unOp op _ x => match ev E fr x with
    | some v => bif flatV v then one H (flat? (pureRun E.prog (Op.unary op v))) else none
    | none => none
  | .convert s d x => match ev E fr x with
    | some (.slice a n c) => one H (toStringA E H s d (.slice a n c) n)
    | some (.pointer (some a)) => viewA E H s d a
    | some (.string b) => match E.types.get s, E.types.get d with
      | some { desc := .string, .. }, some { desc := .slice e, .. } => bytesOfA E H e b
      | _, _ => one H (flat? (pureRun E.prog (Go.convert s d (.string b))))
    | some v => bif flatV v then one H (flat? (pureRun E.prog (Go.convert s d v))) else none
    | none => none
  | .makeInterface t x => match E.types.get t, ev E fr x with
    | some { desc := .interface _, .. }, _ => none
    | some _, some v => one H (some (.iface t v))
    | _, _ => none
  | .makeFunc fn first cap => match evs E fr first.toList, evs E fr cap.toList with
    | some f, some c => one H (if fnPlain fn then some (.func fn ⟨f⟩ ⟨c⟩) else none)
    | _, _ => none
  | .makeMap _ none => some (.val (.map (some H.next)), H.new (.map [] 0))
  | .makeMap t (some x) => match E.types.get t, ev E fr x with
    | some { desc := .map _ _, .. }, some (.int _ _) => some (.val (.map (some H.next)), H.new (.map [] 0))
    | _, _ => none
  | .makeSlice t l c => match ev E fr l, ev E fr c with
    | some l, some c => makeSliceA E H t l c
    | _, _ => none
  | .slice t x lo hi mx =>
    match ev E fr x, evs E fr lo.toList, evs E fr hi.toList, evs E fr mx.toList with
    | some x, some lo, some hi, some mx => one H (sliceA E H t x lo.head? hi.head? mx.head?)
    | _, _, _, _ => none
  | .fieldAddr s x f => match ev E fr x with
    | some v => one H (fieldA E s v f)
    | none => none
  | .field t x f => match ev E fr x, E.types.get t with
    | some (.agg cs), some { desc := .struct fs, .. } => match fs[f]? with
      | some fd => one H (partA E fd.type cs.toList fd.offset)
      | none => none
    | _, _ => none
  | .indexAddr t x i => match ev E fr x, (ev E fr i).bind nat? with
    | some v, some i => one H (indexA E t v i)
    | _, _ => none
  | .index t x i => match ev E fr x, (ev E fr i).bind nat?, E.types.get t with
    | some (.string s), some i, some { desc := .string, .. } => match s.data.toList[i]? with
      | some b => one H (some (.int .u8 b.toNat))
      | none => none
    | some (.agg cs), some i, some { desc := .array len elem, .. } => match E.types.get elem with
      | some e => bif Nat.ble (i + 1) len then one H (partA E elem cs.toList (Nat.mul i e.size)) else none
      | none => none
    | _, _, _ => none
  | .lookup t x k ok => match ev E fr x, ev E fr k with
    | some x, some k => one H (lookupA E H t x k ok)
    | _, _ => none
  | .mapUpdate t m k x | .insert t m k x => match ev E fr m, ev E fr k, ev E fr x with
    | some m, some k, some v => (updateA E H t m k v).map fun H' => (.skip, H')
    | _, _, _ => none
  | .range t x => match ev E fr x, E.types.get t with
    | some (.string s), some { desc := .string, .. } => some (.val (.pointer (some ⟨H.next, 0, none⟩)), H.new (.siter s 0))
    | some (.map (some m)), some { desc := .map _ _, .. } => match H.blocks.get m with
      | some ⟨.map _ clock, _, _⟩ => some (.val (.pointer (some ⟨H.next, 0, none⟩)), H.new (.miter m clock [] clock))
      | _ => none
    | _, _ => none
  | .next it str => match ev E fr it with
    | some v => nextA H v str
    | none => none
  | .entry it => match ev E fr it with
    | some v => one H (entryA H v)
    | none => none
  | .typeAssert x _ asserted ok => match ev E fr x, E.types.get asserted with
    | some v, some ti => match assertHit E ti asserted v with
      | some (some u) => one H (some (bif ok then .tuple #[u, .bool true] else u))
      | some none => bif ok then one H (match ti.zero with
        | some z => (zeroVal ti.agg z).map fun zv => .tuple #[zv, .bool false]
        | none => none) else none
      | none => none
    | _, _ => none
  | .extract x i => match ev E fr x with
    | some (.tuple vs) => one H vs.toList[i]?
    | _ => none
  | .call c => callA E fr H c
  | _ => none
inductive Cmd where
  | code (c : Code) (fr : Fr)
  | call (f : FuncId) (args : List Value)
  | round (l : Nat) (args : List Value)
inductive AExit where
  | normal
  | exit (id : Nat)
  | ret
inductive Out where
  | ex (e : AExit) (fr : Fr)
  | val (v : Value)
abbrev Res := Option (Out × AH)
def yieldedA (ops : Array Oper) (fr : Fr) (j : Nat) : Option (Option Bool) :=
  match ops.toList[j]? with
  | some { dst := some d, .. } => match fr.t.get d with
    | some (.bool b) => some (some b)
    | some _ => some none
    | none => none
  | _ => some none
def wantedA (ops : Array Oper) (fr : Fr) (o : Oper) : Option Bool :=
  match o.guard with
  | none => some true
  | some (j, want) => match yieldedA ops fr j with
    | some (some b) => some (b == want)
    | some none => some false
    | none => none
def putA (fr : Fr) (dst : Option Tmp) (v : Value) : Option Fr :=
  match dst with
  | some d => bif Nat.ble (d + 1) fr.sz then some ⟨fr.sz, fr.rd, fr.t.put d (some v)⟩ else none
  | none => some fr
def execA (E : Env) (ih : Cmd → AH → Res) (fr : Fr) (o : Oper) (H : AH) : Option (Value × AH) :=
  match aop E fr o H with
  | none => none
  | some (.val v, H') => some (v, H')
  | some (.skip, H') => some (.tuple #[], H')
  | some (.rcv, _) => none
  | some (.enter f args, H') => match ih (.call f args) H' with
    | some (.val v, H') => some (v, H')
    | _ => none
  | some (.round l args, H') => match ih (.round l args) H' with
    | some (.val v, H') => some (v, H')
    | _ => none
def execR (E : Env) (ih : Cmd → AH → Res) (fr : Fr) (o : Oper) (H : AH) : Option (Value × AH) :=
  match aop E fr o H with
  | some (.rcv, H') => bif fr.rd then none else some (.nilIface, H')
  | _ => execA E ih fr o H
def noDst (a : Tmp) (p : Oper) : Bool := match p.dst with
  | some d => !(Nat.beq d a)
  | none => true
def targetsFrom (fr : Fr) (all : List Oper) : List Oper → Nat → List (Nat × Nat)
  | [], _ => []
  | o :: os, i => match o.op with
    | .store _ (.tmp a) _ => match fr.t.get a with
      | some (.pointer (some ⟨b, _, _⟩)) => bif all.all (noDst a) then (i, b) :: targetsFrom fr all os (i + 1) else targetsFrom fr all os (i + 1)
      | _ => targetsFrom fr all os (i + 1)
    | _ => targetsFrom fr all os (i + 1)
def hidden (all : List Oper) (i : Nat) : List (Nat × Nat) → List Nat
  | [] => []
  | (j, b) :: ts => bif Nat.beq j i || tied (masks all) j i then hidden all i ts else b :: hidden all i ts
def hideT (t : T ABlk) : List Nat → T ABlk
  | [] => t
  | b :: bs => hideT (t.put b none) bs
def restoreT (t t0 : T ABlk) : List Nat → T ABlk
  | [] => t
  | b :: bs => restoreT (t.put b (t0.get b)) t0 bs
def hideH (H : AH) (W : List Nat) : AH := { blocks := hideT H.blocks W, next := H.next, low := H.next }
def restoreH (H Q : AH) (W : List Nat) : AH := { blocks := restoreT Q.blocks H.blocks W, next := Q.next, low := Nat.min H.low Q.low }
def appTo (fr : Fr) (c : Call) : Option Nat := match c.callee, c.args.toList with
  | .builtin .append, [.tmp a, _] => match fr.t.get a with
    | some (.slice (some ⟨b, _, _⟩) _ _) => some b
    | _ => none
  | _, _ => none
def storesAt (fr : Fr) (o : Oper) (b : Nat) : Bool := match o.op with
  | .store _ (.tmp a) _ => match fr.t.get a with
    | some (.pointer (some ⟨b', _, _⟩)) => Nat.beq b' b
    | _ => false
  | .call c => match appTo fr c with
    | some b' => Nat.beq b' b
    | none => false
  | _ => false
def targetsEnd (fr : Fr) : List Oper → Nat → List (Nat × Nat)
  | [], _ => []
  | o :: os, i => match o.op with
    | .store _ (.tmp a) _ => match fr.t.get a with
      | some (.pointer (some ⟨b, _, _⟩)) => (i, b) :: targetsEnd fr os (i + 1)
      | _ => targetsEnd fr os (i + 1)
    | _ => targetsEnd fr os (i + 1)
def targetsApp (fr : Fr) : List Oper → Nat → List (Nat × Nat)
  | [], _ => []
  | o :: os, i => match o.op with
    | .store _ (.tmp a) _ => match fr.t.get a with
      | some (.pointer (some ⟨b, _, _⟩)) => (i, b) :: targetsApp fr os (i + 1)
      | _ => targetsApp fr os (i + 1)
    | .call c => match appTo fr c with
      | some b => (i, b) :: targetsApp fr os (i + 1)
      | none => targetsApp fr os (i + 1)
    | _ => targetsApp fr os (i + 1)
def drawA (E : Env) (ih : Cmd → AH → Res) (ts : List (Nat × Nat)) (all : List Oper) (i : Nat) (fr : Fr) (o : Oper) (H : AH) : Option (Value × AH) :=
  let W := hidden all i ts
  match execA E ih fr o (hideH H W) with
  | some (v, Q) => bif (Nat.ble H.next Q.low || (W.isEmpty && (ts.any (fun t => Nat.beq t.1 i && storesAt fr o t.2) || fences all i))) && W.all (fun b => Nat.blt b H.next || Nat.ble Q.next b) then some (v, restoreH H Q W) else none
  | none => none
def runOps (E : Env) (ih : Cmd → AH → Res) (all : Array Oper) (draw : Bool) (ts : List (Nat × Nat)) : List Oper → Nat → Fr → AH → Option (Fr × AH)
  | [], _, fr, H => some (fr, H)
  | o :: os, i, fr, H =>
    match wantedA all fr o with
    | none => none
    | some false => match putA fr o.dst (.tuple #[]) with
      | some fr' => runOps E ih all draw ts os (i + 1) fr' H
      | none => none
    | some true =>
      match (bif draw then drawA E ih ts all.toList i fr o H else execR E ih fr o H) with
      | none => none
      | some (v, H') => match putA fr o.dst v with
        | none => none
        | some fr' => runOps E ih all draw ts os (i + 1) fr' H'
def resultA (E : Env) (fr : Fr) (H : AH) : List ResultVar → Option (List Value)
  | [] => some []
  | .tmp t :: rs => match fr.t.get t with
    | some v => (resultA E fr H rs).map (v :: ·)
    | none => none
  | .cell a t :: rs => match (fr.t.get a).bind (loadA E H t) with
    | some v => (resultA E fr H rs).map (v :: ·)
    | none => none
def bindParams (fr : Fr) : List Tmp → List Value → Option Fr
  | [], [] => some fr
  | t :: ts, v :: vs => match putA fr (some t) v with
    | some fr' => bindParams fr' ts vs
    | none => none
  | _, _ => none
def rangeA (E : Env) (ih : Cmd → AH → Res) (fr : Fr) (f : Operand) (params : List Tmp) (assign b : Code) (H : AH) : Res :=
  match fr.rd, ev E fr f with
  | false, some (.func (.func g) first cap) =>
    match E.funcs.get g, ih (.call g (first.toList ++ [.func (.yield H.next) #[] #[]] ++ cap.toList)) (H.new (.loop .ready none ⟨fr.sz, true, fr.t⟩ params assign b)) with
    | some _, some (.val _, H2) => match H2.blocks.get H.next with
      | some ⟨.loop st pend t ps a b, r, true⟩ =>
        if st = .busy then none else
        match pend with
        | none => some (.ex .normal fr, H2.write H.next ⟨.loop st pend t ps a b, r, true⟩ (.loop .exhausted pend t ps a b))
        | some c => ih (.code c fr) (H2.write H.next ⟨.loop st pend t ps a b, r, true⟩ (.loop .exhausted pend t ps a b))
      | _ => none
    | _, _ => none
  | _, _ => none
def deferredA (E : Env) (fr : Fr) (o : Oper) : Option (FuncId × List Value) := match o.op, o.guard with
  | .defer c, none => match c.callee, evs E fr c.args.toList with
    | .value f, some args => match ev E fr f with
      | some (.func (.func g) first cap) => match E.funcs.get g with
        | some _ => some (g, first.toList ++ args ++ cap.toList)
        | none => none
      | _ => none
    | _, _ => none
  | _, _ => none
def deferRun (E : Env) (ih : Cmd → AH → Res) : Code → Fr → AH → Option ((FuncId × List Value) × Fr × AH × Code)
  | .seq (.region _ ops draw) b, fr, H =>
    match runOps E ih ops draw (bif draw then targetsFrom fr ops.toList ops.toList 0 else []) ops.toList 0 fr H with
    | some (fr', H') => deferRun E ih b fr' H'
    | none => bif draw then none else match ops.toList.getLast? with
      | some o => match runOps E ih ops false [] ops.toList.dropLast 0 fr H with
        | some (fr1, H1) => match deferredA E fr1 o, putA fr1 o.dst (.tuple #[]) with
          | some d, some fr2 => some (d, fr2, H1, b)
          | _, _ => none
        | none => none
      | none => none
  | _, _, _ => none
def resA (E : Env) (rs : List ResultVar) (fr : Fr) (H : AH) : Res := match resultA E fr H rs with
  | some [v] => some (.val v, H)
  | some vs => some (.val (.tuple ⟨vs⟩), H)
  | none => none
def lastA (E : Env) (ih : Cmd → AH → Res) (rs : List ResultVar) (g : FuncId) (xs : List Value) (fr : Fr) (H : AH) : Res :=
  match E.funcs.get g with
  | some gn => match gn.body, gn.results.toList with
    | some gc, [] => match ih (.code gc ⟨Nat.max gn.ntmps xs.length, false, T.ofList .leaf 0 xs⟩) H with
      | some (.ex .normal _, H') => resA E rs fr H'
      | some (.ex .ret _, H') => resA E rs fr H'
      | _ => none
    | _, _ => none
  | none => none
def deferA (E : Env) (ih : Cmd → AH → Res) (rs : List ResultVar) (c : Code) (fr : Fr) (H : AH) : Res :=
  match deferRun E ih c fr H with
  | some ((g, xs), fr1, H1, b) => match ih (.code b fr1) H1 with
    | some (.ex .normal fr2, H2) => lastA E ih rs g xs fr2 H2
    | some (.ex .ret fr2, H2) => lastA E ih rs g xs fr2 H2
    | _ => none
  | none => none
def jumpOf : AExit → Option Code
  | .normal => none
  | .exit id => some (.exit id)
  | .ret => some .ret
def roundA (E : Env) (ih : Cmd → AH → Res) (l : Nat) (args : List Value) (H : AH) : Res :=
  match H.blocks.get l with
  | some ⟨.loop .ready _ t0 ps0 a0 b0, _, true⟩ => match bindParams t0 ps0 args with
    | some fr => match ih (.code a0 fr) H with
      | some (.ex .normal fr1, H1) => match H1.blocks.get l with
        | some ⟨.loop .ready pend t ps a b, r, true⟩ =>
          match ih (.code b0 fr1) (H1.write l ⟨.loop .ready pend t ps a b, r, true⟩ (.loop .busy pend t ps a b)) with
          | some (.ex e _, H3) => match H3.blocks.get l with
            | some ⟨.loop st pend t ps a b, r, true⟩ =>
              some (.val (.bool (jumpOf e).isNone), H3.write l ⟨.loop st pend t ps a b, r, true⟩ (.loop (bif (jumpOf e).isNone then .ready else .done) (jumpOf e) t ps a b))
            | _ => none
          | _ => none
        | _ => none
      | _ => none
    | none => none
  | _ => none
def body (E : Env) (ih : Cmd → AH → Res) (cmd : Cmd) (H : AH) : Res :=
  match cmd with
  | .code c fr => match c with
    | .skip | .label _ => some (.ex .normal fr, H)
    | .ret => some (.ex .ret fr, H)
    | .exit id => some (.ex (.exit id) fr, H)
    | .seq a b => match ih (.code a fr) H with
      | some (.ex .normal fr', H') => ih (.code b fr') H'
      | r => r
    | .cond c a b => match ev E fr c with
      | some (.bool true) => ih (.code a fr) H
      | some (.bool false) => ih (.code b fr) H
      | _ => none
    | .block id b => match ih (.code b fr) H with
      | some (.ex (.exit id') fr', H') => bif Nat.beq id' id then some (.ex .normal fr', H') else some (.ex (.exit id') fr', H')
      | r => r
    | .loop b => match ih (.code b fr) H with
      | some (.ex .normal fr', H') => ih (.code (.loop b) fr') H'
      | r => r
    | .scope b => ih (.code b fr) H
    | .region _ ops draw => match runOps E ih ops draw (bif draw then targetsFrom fr ops.toList ops.toList 0 else []) ops.toList 0 fr H with
      | some (fr', H') => some (.ex .normal fr', H')
      | none => bif draw then match runOps E ih ops false [] ops.toList 0 fr H with
          | some (fr1, _) => match runOps E ih ops true (targetsEnd fr1 ops.toList 0) ops.toList 0 fr H with
            | some (fr', H') => some (.ex .normal fr', H')
            | none => match runOps E ih ops true (targetsApp fr1 ops.toList 0) ops.toList 0 fr H with
              | some (fr', H') => some (.ex .normal fr', H')
              | none => none
          | none => none
        else none
    | .rangeFunc f params assign b => rangeA E ih fr f params.toList assign b H
    | _ => none
  | .call f args => match E.funcs.get f with
    | some fn => match fn.body with
      | some c =>
        match ih (.code c ⟨Nat.max fn.ntmps args.length, false, T.ofList .leaf 0 args⟩) H with
        | some (.ex .normal fr', H') | some (.ex .ret fr', H') => match resultA E fr' H' fn.results.toList with
          | some [v] => some (.val v, H')
          | some vs => some (.val (.tuple ⟨vs⟩), H')
          | none => none
        | none => deferA E ih fn.results.toList c ⟨Nat.max fn.ntmps args.length, false, T.ofList .leaf 0 args⟩ H
        | _ => none
      | none => none
    | none => none
  | .round l args => roundA E ih l args H
def runF (E : Env) (n : Nat) : Cmd → AH → Res :=
  Nat.rec (motive := fun _ => Cmd → AH → Res) (fun _ _ => none) (fun _ ih => body E ih) n
end Go.Am
namespace Go.Am
open Go
theorem T.get_leaf {α : Type} (n : Nat) : (T.leaf : T α).get n = none := rfl
theorem bif_beq {α : Sort _} (a b : Nat) (x y : α) : (bif Nat.beq a b then x else y) = if a = b then x else y := by
  by_cases h : a = b
  · subst h; rw [if_pos rfl, Nat.beq_refl]; rfl
  · rw [if_neg h]
    have : Nat.beq a b = false := by
      cases hb : Nat.beq a b
      · rfl
      · exact absurd (Nat.eq_of_beq_eq_true hb) h
    rw [this]; rfl
theorem bif_ble {α : Sort _} (a b : Nat) (x y : α) : (bif Nat.ble a b then x else y) = if a ≤ b then x else y := by
  by_cases h : a ≤ b
  · rw [if_pos h, Nat.ble_eq_true_of_le h]; rfl
  · rw [if_neg h]
    have : Nat.ble a b = false := by
      cases hb : Nat.ble a b
      · rfl
      · exact absurd (Nat.le_of_ble_eq_true hb) h
    rw [this]; rfl
theorem T.get_node {α : Type} (v : Option α) (l r : T α) (n : Nat) :
    (T.node v l r).get n = if n = 0 then v else if n % 2 = 1 then l.get (n / 2) else r.get (n / 2 - 1) := by
  simp only [T.get, bif_beq]; rfl
theorem T.set_leaf {α : Type} (d n : Nat) (x : Option α) :
    T.set (d + 1) .leaf n x = if n = 0 then .node x .leaf .leaf else if n % 2 = 1 then .node none (T.set d .leaf (n / 2) x) .leaf
      else .node none .leaf (T.set d .leaf (n / 2 - 1) x) := by
  simp only [T.set, bif_beq]; rfl
theorem T.set_node {α : Type} (d n : Nat) (v x : Option α) (l r : T α) :
    T.set (d + 1) (.node v l r) n x = if n = 0 then .node x l r else if n % 2 = 1 then .node v (T.set d l (n / 2) x) r
      else .node v l (T.set d r (n / 2 - 1) x) := by
  simp only [T.set, bif_beq]; rfl
theorem T.get_set {α : Type} (d : Nat) : ∀ (t : T α) (n m : Nat) (x : Option α), n < d → (T.set d t n x).get m = if m = n then x else t.get m := by
  induction d with
  | zero => intro t n m x h; omega
  | succ d ih =>
    intro t n m x h
    cases t with
    | leaf =>
      rw [T.set_leaf]
      by_cases h0 : n = 0
      · subst h0; simp only [if_true, T.get_node, T.get_leaf]; split <;> simp
      · by_cases h1 : n % 2 = 1
        · simp only [if_neg h0, if_pos h1, T.get_node, T.get_leaf, ih .leaf (n / 2) (m / 2) x (by omega)]
          repeat' split
          all_goals first | rfl | omega | skip
        · simp only [if_neg h0, if_neg h1, T.get_node, T.get_leaf, ih .leaf (n / 2 - 1) (m / 2 - 1) x (by omega)]
          repeat' split
          all_goals first | rfl | omega | skip
    | node v l r =>
      rw [T.set_node]
      by_cases h0 : n = 0
      · subst h0; simp only [if_true, T.get_node]; split <;> simp_all
      · by_cases h1 : n % 2 = 1
        · simp only [if_neg h0, if_pos h1, T.get_node, ih l (n / 2) (m / 2) x (by omega)]
          repeat' split
          all_goals first | rfl | omega | skip
        · simp only [if_neg h0, if_neg h1, T.get_node, ih r (n / 2 - 1) (m / 2 - 1) x (by omega)]
          repeat' split
          all_goals first | rfl | omega | skip
theorem T.get_put {α : Type} (t : T α) (n m : Nat) (x : Option α) : (t.put n x).get m = if m = n then x else t.get m :=
  T.get_set (n + 1) t n m x (by omega)
structure Loc where
  blk : Nat
  off : Nat
  ext : Nat
  sz : Nat
abbrev Sig := Nat → Option Loc
def Sig.le (σ σ' : Sig) : Prop := ∀ b L, σ b = some L → σ' b = some L
theorem Sig.le_refl (σ : Sig) : Sig.le σ σ := fun _ _ h => h
theorem Sig.le_trans {σ σ' σ'' : Sig} (h : Sig.le σ σ') (h' : Sig.le σ' σ'') : Sig.le σ σ'' := fun b L hb => h' b L (h b L hb)
def leafV : Value → Bool
  | .bool _ | .int _ _ | .float _ _ | .complex _ _ _ | .string _ => true
  | .pointer a => a.isNone
  | .slice a l c => a.isNone && Nat.beq l 0 && Nat.beq c 0
  | .map r => r.isNone
  | .nilFunc | .nilIface => true
  | _ => false
mutual
inductive VR (σ : Sig) : Value → Value → Prop
  | leaf {v : Value} (h : leafV v = true) : VR σ v v
  | ptr {b i : Nat} {L : Loc} (h : σ b = some L) : VR σ (.pointer (some ⟨b, i, none⟩)) (.pointer (some ⟨L.blk, L.off + i, none⟩))
  | sliceE {b i l c : Nat} {L : Loc} (h : σ b = some L) (hl : l ≤ c) (hc : c < capX) :
      VR σ (.slice (some ⟨b, i, none⟩) l c) (.slice (some ⟨L.blk, L.off + i, none⟩) l c)
  | sliceX {b i l c : Nat} {L : Loc} (h : σ b = some L) (hl : l ≤ c) (hc : c < capX) (he : i + c * L.sz = L.ext) :
      VR σ (.slice (some ⟨b, i, none⟩) l capX) (.slice (some ⟨L.blk, L.off + i, none⟩) l c)
  | sliceZ {b i c : Nat} {a : Addr} (hc : c = 0 ∨ (c = capX ∧ ∃ L, σ b = some L ∧ L.ext ≤ i)) : VR σ (.slice (some ⟨b, i, none⟩) 0 c) (.slice (some a) 0 0)
  | map {r : Nat} {L : Loc} (h : σ r = some L) (h0 : L.off = 0) : VR σ (.map (some r)) (.map (some L.blk))
  | func {fn : Fn} {f c f' c' : List Value} (h : fnPlain fn = true) (hf : VRs σ f f') (hc : VRs σ c c') :
      VR σ (.func fn ⟨f⟩ ⟨c⟩) (.func fn ⟨f'⟩ ⟨c'⟩)
  | yield {l : Nat} {L : Loc} (h : σ l = some L) (h0 : L.off = 0) : VR σ (.func (.yield l) #[] #[]) (.func (.yield L.blk) #[] #[])
  | iface {t : TypeId} {v v' : Value} (h : VR σ v v') : VR σ (.iface t v) (.iface t v')
  | agg {c c' : List Value} (h : VRs σ c c') (ho : c.all oneCell = true) : VR σ (.agg ⟨c⟩) (.agg ⟨c'⟩)
  | tuple {c c' : List Value} (h : VRs σ c c') : VR σ (.tuple ⟨c⟩) (.tuple ⟨c'⟩)
inductive VRs (σ : Sig) : List Value → List Value → Prop
  | nil : VRs σ [] []
  | cons {v v' : Value} {l l' : List Value} (h : VR σ v v') (hs : VRs σ l l') : VRs σ (v :: l) (v' :: l')
end
mutual
theorem VR.mono {σ σ' : Sig} (hσ : Sig.le σ σ') : ∀ {v v' : Value}, VR σ v v' → VR σ' v v'
  | _, _, .leaf h => .leaf h
  | _, _, .ptr h => .ptr (hσ _ _ h)
  | _, _, .sliceE h hl hc => .sliceE (hσ _ _ h) hl hc
  | _, _, .sliceX h hl hc he => .sliceX (hσ _ _ h) hl hc he
  | _, _, .sliceZ hc => .sliceZ (hc.imp id fun ⟨h1, L, h2, h3⟩ => ⟨h1, L, hσ _ _ h2, h3⟩)
  | _, _, .map h h0 => .map (hσ _ _ h) h0
  | _, _, .func h hf hc => .func h (VRs.mono hσ hf) (VRs.mono hσ hc)
  | _, _, .yield h h0 => .yield (hσ _ _ h) h0
  | _, _, .iface h => .iface (VR.mono hσ h)
  | _, _, .agg h ho => .agg (VRs.mono hσ h) ho
  | _, _, .tuple h => .tuple (VRs.mono hσ h)
theorem VRs.mono {σ σ' : Sig} (hσ : Sig.le σ σ') : ∀ {l l' : List Value}, VRs σ l l' → VRs σ' l l'
  | _, _, .nil => .nil
  | _, _, .cons h hs => .cons (VR.mono hσ h) (VRs.mono hσ hs)
end
theorem VR.one {σ : Sig} {v v' : Value} (h : VR σ v v') : oneCell v' = oneCell v := by cases h <;> rfl
theorem VRs.length {σ : Sig} : ∀ {l l' : List Value}, VRs σ l l' → l'.length = l.length
  | _, _, .nil => rfl
  | _, _, .cons _ hs => by simp [VRs.length hs]
theorem VRs.get {σ : Sig} : ∀ {l l' : List Value}, VRs σ l l' → ∀ (i : Nat) (v : Value), l[i]? = some v → ∃ v', l'[i]? = some v' ∧ VR σ v v'
  | _, _, .nil, i, v, h => by simp at h
  | _, _, .cons h hs, 0, v, e => by simp at e; subst e; exact ⟨_, rfl, h⟩
  | _, _, .cons h hs, i + 1, v, e => by simp at e; simpa using VRs.get hs i v e
theorem VRs.of_get {σ : Sig} : ∀ {l l' : List Value}, l'.length = l.length → (∀ (i : Nat) (v : Value), l[i]? = some v → ∃ v', l'[i]? = some v' ∧ VR σ v v') → VRs σ l l'
  | [], [], _, _ => .nil
  | [], _ :: _, h, _ => by simp at h
  | _ :: _, [], h, _ => by simp at h
  | v :: l, v' :: l', h, hg => by
    refine .cons ?_ (VRs.of_get (by simpa using h) fun i u e => by simpa using hg (i + 1) u (by simpa using e))
    obtain ⟨u, hu, hr⟩ := hg 0 v rfl
    simp at hu; subst hu; exact hr
theorem VRs.append {σ : Sig} : ∀ {a a' b b' : List Value}, VRs σ a a' → VRs σ b b' → VRs σ (a ++ b) (a' ++ b')
  | _, _, _, _, .nil, h => h
  | _, _, _, _, .cons h hs, h' => .cons h (VRs.append hs h')
theorem VRs.all_one {σ : Sig} : ∀ {l l' : List Value}, VRs σ l l' → l'.all oneCell = l.all oneCell
  | _, _, .nil => rfl
  | _, _, .cons h hs => by simp [h.one, VRs.all_one hs]
theorem VR.cells {σ : Sig} {v v' : Value} (h : VR σ v v') : VRs σ v.cells.toList v'.cells.toList := by
  cases h with
  | agg h ho => exact h
  | leaf h =>
    cases v <;> first | exact .cons (.leaf h) .nil | (simp [leafV] at h)
  | ptr h => exact .cons (.ptr h) .nil
  | sliceE h hl hc => exact .cons (.sliceE h hl hc) .nil
  | sliceX h hl hc he => exact .cons (.sliceX h hl hc he) .nil
  | sliceZ hc => exact .cons (.sliceZ hc) .nil
  | map h h0 => exact .cons (.map h h0) .nil
  | func h hf hc => exact .cons (.func h hf hc) .nil
  | yield h h0 => exact .cons (.yield h h0) .nil
  | iface h => exact .cons (.iface h) .nil
  | tuple h => exact .cons (.tuple h) .nil
theorem VR.cells_one {σ : Sig} {v v' : Value} (h : VR σ v v') (ht : ∀ c, v ≠ .tuple c) : v.cells.toList.all oneCell = true := by
  cases h with
  | agg h ho => exact ho
  | tuple h => exact absurd rfl (ht _)
  | leaf h => cases v <;> first | rfl | (simp [leafV] at h)
  | _ => rfl
theorem flat_refl {σ : Sig} : ∀ (n : Nat) (v : Value), deepFlat n v = true → VR σ v v := by
  intro n
  induction n with
  | zero => intro v h; cases v <;> first | exact .leaf h | (simp [deepFlat] at h)
  | succ n ih =>
    have all : ∀ l : List Value, (∀ v ∈ l, deepFlat n v = true) → VRs σ l l := by
      intro l
      induction l with
      | nil => intro _; exact .nil
      | cons x l ihl => intro h; exact .cons (ih x (h x (by simp))) (ihl fun v hv => h v (by simp [hv]))
    intro v h
    cases v with
    | iface t v => exact .iface (ih v (by simpa [deepFlat] using h))
    | agg cs =>
      simp only [deepFlat, List.all_eq_true, Bool.and_eq_true] at h
      exact .agg (all cs.toList fun v hv => (h v hv).2) (by rw [List.all_eq_true]; exact fun v hv => (h v hv).1)
    | tuple cs =>
      simp only [deepFlat, List.all_eq_true] at h
      exact .tuple (all cs.toList fun v hv => h v hv)
    | func _ _ _ => simp [deepFlat] at h
    | chan _ => simp [deepFlat] at h
    | _ => exact .leaf h
theorem flat_eq {σ : Sig} : ∀ (n : Nat) (v v' : Value), deepFlat n v = true → VR σ v v' → v' = v := by
  intro n
  induction n with
  | zero => intro v v' h r; cases r <;> first | rfl | (simp [deepFlat] at h)
  | succ n ih =>
    have all : ∀ l l' : List Value, (∀ v ∈ l, deepFlat n v = true) → VRs σ l l' → l' = l := by
      intro l
      induction l with
      | nil => intro l' _ r; cases r; rfl
      | cons x l ihl =>
        intro l' h r
        cases r with
        | cons hx hs => rw [ih x _ (h x (by simp)) hx, ihl _ (fun v hv => h v (by simp [hv])) hs]
    intro v v' h r
    cases r with
    | leaf _ => rfl
    | iface hv => rw [ih _ _ (by simpa [deepFlat] using h) hv]
    | agg hc ho =>
      simp only [deepFlat, List.all_eq_true, Bool.and_eq_true] at h
      rw [all _ _ (fun v hv => (h v hv).2) hc]
    | tuple hc =>
      simp only [deepFlat, List.all_eq_true] at h
      rw [all _ _ (fun v hv => h v hv) hc]
    | _ => simp [deepFlat] at h
def FrR (σ : Sig) (fr : Fr) (tmps : Array Value) : Prop :=
  tmps.size = fr.sz ∧ ∀ t v, fr.t.get t = some v → VR σ v (tmps.getD t undef)
theorem FrR.mono {σ σ' : Sig} (hσ : Sig.le σ σ') {fr : Fr} {tmps : Array Value} (h : FrR σ fr tmps) : FrR σ' fr tmps :=
  ⟨h.1, fun t v e => (h.2 t v e).mono hσ⟩
inductive ERs (σ : Sig) : List MapEntry → List MapEntry → Prop
  | nil : ERs σ [] []
  | cons {e e' : MapEntry} {l l' : List MapEntry} (hk : flatV e.key = true) (ek : e'.key = e.key) (hv : VR σ e.val e'.val) (eb : e'.born = e.born)
      (hs : ERs σ l l') : ERs σ (e :: l) (e' :: l')
theorem ERs.mono {σ σ' : Sig} (hσ : Sig.le σ σ') : ∀ {l l' : List MapEntry}, ERs σ l l' → ERs σ' l l'
  | _, _, .nil => .nil
  | _, _, .cons hk ek hv eb hs => .cons hk ek (hv.mono hσ) eb (ERs.mono hσ hs)
def OwnC (L : Loc) (el cel : TypeId) (n : Nat) (fz : Nat × Nat) : Prop := (fz = (0, 0) ∨ n ≤ fz.1) ∧ cel = el ∧ L.off % L.sz = 0
def ObjR (E : Env) (σ : Sig) (L : Loc) (own : Bool) : AObj → Obj → Prop
  | .cells cs el, .cells ccs cel fz => (own = true → OwnC L el cel ccs.size fz) ∧ L.off + L.ext ≤ ccs.size ∧ cs.length ≤ L.ext ∧
      (∀ ti, E.types.get el = some ti → L.sz = ti.size) ∧
      ∀ i v, cs[i]? = some v → oneCell v = true ∧ ∃ v', ccs[L.off + i]? = some v' ∧ VR σ v v'
  | .map es ck, .map es' ck' => L.off = 0 ∧ ck' = ck ∧ ERs σ es es'.toList
  | .siter s p, .stringIter s' p' => L.off = 0 ∧ s' = s ∧ p' = p
  | .miter m n sn q, .mapIter (some m') n' sn' q' => L.off = 0 ∧ (∃ M, σ m = some M ∧ M.off = 0 ∧ M.blk = m') ∧ n' = n ∧ sn'.toList = sn ∧ q' = q
  | .loop st pd t ps a b, .loop l => L.off = 0 ∧ l.state = st ∧ l.pending = pd ∧ FrR σ t l.tmps ∧ l.params.toList = ps ∧ l.assign = a ∧ l.body = b ∧
      regsOk a = true ∧ regsOk b = true ∧ t.rd = true ∧ ∀ c, pd = some c → c = .ret ∨ ∃ id, c = .exit id
  | _, _ => False
theorem ObjR.mono {E : Env} {σ σ' : Sig} (hσ : Sig.le σ σ') {L : Loc} {own : Bool} {x : AObj} {o : Obj} (h : ObjR E σ L own x o) : ObjR E σ' L own x o := by
  cases x <;> cases o <;> simp only [ObjR] at h ⊢
  · obtain ⟨h1, h2, h3, h4, h5⟩ := h
    exact ⟨h1, h2, h3, h4, fun i v e => let ⟨a, v', b, c⟩ := h5 i v e; ⟨a, v', b, c.mono hσ⟩⟩
  · exact ⟨h.1, h.2.1, h.2.2.mono hσ⟩
  · exact h
  · rename_i m n sn q m' n' sn' q'
    cases m' with
    | none => simp at h
    | some m' =>
      simp only at h ⊢
      obtain ⟨h1, ⟨M, h2, h3, h4⟩, h5⟩ := h
      exact ⟨h1, ⟨M, hσ _ _ h2, h3, h4⟩, h5⟩
  · exact ⟨h.1, h.2.1, h.2.2.1, h.2.2.2.1.mono hσ, h.2.2.2.2⟩
structure HR (E : Env) (σ : Sig) (H : AH) (w : World) : Prop where
  objs : ∀ b k L, H.blocks.get b = some k → σ b = some L → ∃ o, w.heap[L.blk]? = some o ∧ ObjR E σ L k.own k.obj o
  sep : ∀ b₁ b₂ k₁ k₂ L₁ L₂, H.blocks.get b₁ = some k₁ → H.blocks.get b₂ = some k₂ → k₁.own = true → σ b₁ = some L₁ → σ b₂ = some L₂ →
    b₁ ≠ b₂ → L₁.blk ≠ L₂.blk
  glob : ∀ g, g < E.prog.globals.size → ∃ L, σ g = some L ∧ L.blk = g ∧ L.off = 0
  wf : ∀ b k, H.blocks.get b = some k → k.root ≤ b ∧ b < H.next
structure Step (E : Env) (σ : Sig) (H : AH) (w : World) (σ' : Sig) (H' : AH) (w' : World) : Prop where
  hr : HR E σ' H' w'
  next : H.next ≤ H'.next
  ext : ∀ b, b < H.next ∨ H'.next ≤ b → σ' b = σ b
  size : w.heap.size ≤ w'.heap.size
  low : H'.low ≤ H.low
  tape : w'.tape = w.tape
  os : w'.os = w.os
  output : w'.output = w.output
  frame : ∀ B, B < w.heap.size → (∀ b k L, H.blocks.get b = some k → k.own = true → σ b = some L → H'.low ≤ k.root → L.blk ≠ B) → w'.heap[B]? = w.heap[B]?
  origin : ∀ b k L, H'.blocks.get b = some k → k.own = true → σ' b = some L → w.heap.size ≤ L.blk ∨
    ∃ b₀ k₀ L₀, H.blocks.get b₀ = some k₀ ∧ k₀.own = true ∧ σ b₀ = some L₀ ∧ L₀.blk = L.blk ∧ k₀.root = k.root
  old : ∀ b k, H'.blocks.get b = some k → b < H.next → ∃ k₀, H.blocks.get b = some k₀ ∧ k₀.root = k.root ∧ k₀.own = k.own
  keep : ∀ b k, H.blocks.get b = some k → k.root < H'.low → H'.blocks.get b = some k
  born : ∀ b k, H'.blocks.get b = some k → H.next ≤ b → (H.next ≤ k.root ∨ H'.low ≤ k.root) ∧ k.own = true
theorem Step.refl {E : Env} {σ : Sig} {H : AH} {w : World} (h : HR E σ H w) : Step E σ H w σ H w where
  hr := h
  next := Nat.le_refl _
  ext _ _ := rfl
  size := Nat.le_refl _
  low := Nat.le_refl _
  tape := rfl
  os := rfl
  output := rfl
  frame _ _ _ := rfl
  origin b k L hb ho hs := .inr ⟨b, k, L, hb, ho, hs, rfl, rfl⟩
  old b k hb _ := ⟨k, hb, rfl, rfl⟩
  keep _ _ hb _ := hb
  born b k hb hn := absurd (h.wf b k hb).2 (by omega)
def Free (σ : Sig) (n n' : Nat) : Prop := ∀ b, n ≤ b → b < n' → σ b = none
theorem Free.split {σ σ' : Sig} {n m n' : Nat} (h : Free σ n n') (he : ∀ b, b < n ∨ m ≤ b → σ' b = σ b) (hn : n ≤ m) : Free σ' m n' :=
  fun b h1 h2 => by rw [he b (.inr h1)]; exact h b (by omega) h2
theorem Step.le {E : Env} {σ σ' : Sig} {H H' : AH} {w w' : World} (s : Step E σ H w σ' H' w') (hf : Free σ H.next H'.next) : Sig.le σ σ' := by
  intro b L hb
  by_cases h : b < H.next ∨ H'.next ≤ b
  · rw [s.ext b h]; exact hb
  · rw [hf b (by omega) (by omega)] at hb; cases hb
theorem Step.trans {E : Env} {σ σ₁ σ₂ : Sig} {H H₁ H₂ : AH} {w w₁ w₂ : World} (s : Step E σ H w σ₁ H₁ w₁) (s' : Step E σ₁ H₁ w₁ σ₂ H₂ w₂) :
    Step E σ H w σ₂ H₂ w₂ where
  hr := s'.hr
  next := Nat.le_trans s.next s'.next
  ext b h := by
    rw [s'.ext b (by have := s.next; have := s'.next; omega), s.ext b (by have := s.next; have := s'.next; omega)]
  size := Nat.le_trans s.size s'.size
  low := Nat.le_trans s'.low s.low
  tape := s'.tape.trans s.tape
  os := s'.os.trans s.os
  output := s'.output.trans s.output
  frame B hB h := by
    rw [s'.frame B (Nat.lt_of_lt_of_le hB s.size), s.frame B hB]
    · exact fun b k L hb ho hs hl => h b k L hb ho hs (Nat.le_trans s'.low hl)
    · intro b k L hb ho hs hl
      rcases s.origin b k L hb ho hs with h1 | ⟨b₀, k₀, L₀, h1, h2, h3, h4, h5⟩
      · omega
      · rw [← h4]; exact h b₀ k₀ L₀ h1 h2 h3 (by omega)
  origin b k L hb ho hs := by
    rcases s'.origin b k L hb ho hs with h1 | ⟨b₀, k₀, L₀, h1, h2, h3, h4, h5⟩
    · exact .inl (Nat.le_trans s.size h1)
    · rcases s.origin b₀ k₀ L₀ h1 h2 h3 with g1 | ⟨b', k', L', g1, g2, g3, g4, g5⟩
      · exact .inl (by omega)
      · exact .inr ⟨b', k', L', g1, g2, g3, by omega, by omega⟩
  old b k hb hn := by
    obtain ⟨k₁, h1, h2, h3⟩ := s'.old b k hb (Nat.lt_of_lt_of_le hn s.next)
    obtain ⟨k₀, g1, g2, g3⟩ := s.old b k₁ h1 hn
    exact ⟨k₀, g1, g2.trans h2, g3.trans h3⟩
  keep b k hb hl := s'.keep b k (s.keep b k hb (Nat.lt_of_lt_of_le hl s'.low)) hl
  born b k hb hn := by
    by_cases h : H₁.next ≤ b
    · obtain ⟨h1, h0⟩ := s'.born b k hb h
      refine ⟨?_, h0⟩
      rcases h1 with h1 | h1
      · exact .inl (Nat.le_trans s.next h1)
      · exact .inr h1
    · obtain ⟨k₁, h1, h2, h3⟩ := s'.old b k hb (by omega)
      obtain ⟨g, g0⟩ := s.born b k₁ h1 hn
      refine ⟨?_, by rw [← h3]; exact g0⟩
      rcases g with g | g
      · exact .inl (by omega)
      · exact .inr (by have := s'.low; omega)
end Go.Am
namespace Go.Am
open Go
def Sig.add (σ : Sig) (b : Nat) (L : Loc) : Sig := fun x => if x = b then some L else σ x
theorem Sig.add_le {σ : Sig} {b : Nat} {L : Loc} (h : σ b = none) : Sig.le σ (σ.add b L) := by
  intro x M hx
  unfold Sig.add
  by_cases e : x = b
  · subst e; rw [h] at hx; cases hx
  · rw [if_neg e]; exact hx
theorem Sig.add_self {σ : Sig} {b : Nat} {L : Loc} : σ.add b L b = some L := by simp [Sig.add]
theorem Sig.add_ne {σ : Sig} {b x : Nat} {L : Loc} (h : x ≠ b) : σ.add b L x = σ x := by simp [Sig.add, h]
theorem AH.get_new (H : AH) (o : AObj) (b : Nat) : (H.new o).blocks.get b = if b = H.next then some ⟨o, H.next, true⟩ else H.blocks.get b :=
  T.get_put _ _ _ _
theorem AH.get_write (H : AH) (b : Nat) (k : ABlk) (o : AObj) (x : Nat) : (H.write b k o).blocks.get x = if x = b then some { k with obj := o } else H.blocks.get x :=
  T.get_put _ _ _ _
def World.push (w : World) (o : Obj) : World := { w with heap := w.heap.push o }
theorem push_get (w : World) (o : Obj) (B : Nat) : (World.push w o).heap[B]? = if B = w.heap.size then some o else w.heap[B]? := by
  simp only [World.push, Array.getElem?_push]
theorem Step.new {E : Env} {σ : Sig} {H : AH} {w : World} (hr : HR E σ H w) (hf : σ H.next = none) (x : AObj) (o : Obj) (L : Loc)
    (hL : L.blk = w.heap.size) (ho : ObjR E (σ.add H.next L) L true x o) :
    Step E σ H w (σ.add H.next L) (H.new x) (World.push w o) := by
  have hle : Sig.le σ (σ.add H.next L) := Sig.add_le hf
  have lt : ∀ b k M, H.blocks.get b = some k → σ b = some M → M.blk < w.heap.size := by
    intro b k M hb hs
    obtain ⟨o', h1, _⟩ := hr.objs b k M hb hs
    exact (Array.getElem?_eq_some_iff.1 h1).1
  refine { hr := ?_, next := Nat.le_succ _, ext := ?_, size := by simp [World.push], low := Nat.le_refl _, tape := rfl, os := rfl, output := rfl,
           frame := ?_, origin := ?_, old := ?_, keep := ?_, born := ?_ }
  · refine { objs := ?_, sep := ?_, glob := ?_, wf := ?_ }
    · intro b k M hb hs
      rw [AH.get_new] at hb
      by_cases e : b = H.next
      · subst e
        rw [Sig.add_self] at hs; cases hs
        rw [if_pos rfl] at hb; cases hb
        exact ⟨o, by rw [push_get, if_pos hL], ho⟩
      · rw [if_neg e] at hb; rw [Sig.add_ne e] at hs
        obtain ⟨o', h1, h2⟩ := hr.objs b k M hb hs
        refine ⟨o', ?_, h2.mono hle⟩
        rw [push_get, if_neg (Nat.ne_of_lt (lt b k M hb hs))]; exact h1
    · intro b₁ b₂ k₁ k₂ L₁ L₂ h1 h2 ho1 hs1 hs2 hne
      rw [AH.get_new] at h1 h2
      by_cases e1 : b₁ = H.next
      · subst e1
        rw [if_neg (fun e => hne e.symm)] at h2
        rw [Sig.add_self] at hs1; cases hs1
        rw [Sig.add_ne (fun e => hne e.symm)] at hs2
        have := lt b₂ k₂ L₂ h2 hs2; omega
      · rw [if_neg e1] at h1; rw [Sig.add_ne e1] at hs1
        by_cases e2 : b₂ = H.next
        · subst e2
          rw [Sig.add_self] at hs2; cases hs2
          have := lt b₁ k₁ L₁ h1 hs1; omega
        · rw [if_neg e2] at h2; rw [Sig.add_ne e2] at hs2
          exact hr.sep b₁ b₂ k₁ k₂ L₁ L₂ h1 h2 ho1 hs1 hs2 hne
    · intro g hg
      obtain ⟨M, h1, h2⟩ := hr.glob g hg
      exact ⟨M, hle g M h1, h2⟩
    · intro b k hb
      rw [AH.get_new] at hb
      by_cases e : b = H.next
      · subst e; rw [if_pos rfl] at hb; cases hb; exact ⟨Nat.le_refl _, Nat.lt_succ_self _⟩
      · rw [if_neg e] at hb
        exact ⟨(hr.wf b k hb).1, Nat.lt_succ_of_lt (hr.wf b k hb).2⟩
  · intro b hb
    have : b ≠ H.next := by
      rcases hb with h | h
      · omega
      · have : H.next + 1 ≤ b := h
        omega
    exact Sig.add_ne this
  · intro B hB _
    rw [push_get, if_neg (Nat.ne_of_lt hB)]
  · intro b k M hb ho' hs
    rw [AH.get_new] at hb
    by_cases e : b = H.next
    · subst e; rw [Sig.add_self] at hs; cases hs; exact .inl (by omega)
    · rw [if_neg e] at hb; rw [Sig.add_ne e] at hs
      exact .inr ⟨b, k, M, hb, ho', hs, rfl, rfl⟩
  · intro b k hb hn
    rw [AH.get_new, if_neg (by omega)] at hb
    exact ⟨k, hb, rfl, rfl⟩
  · intro b k hb _
    rw [AH.get_new, if_neg (by have := (hr.wf b k hb).2; omega)]; exact hb
  · intro b k hb hn
    rw [AH.get_new] at hb
    by_cases e : b = H.next
    · rw [if_pos e] at hb; cases hb; exact ⟨.inl (Nat.le_refl _), rfl⟩
    · rw [if_neg e] at hb; have := (hr.wf b k hb).2; omega
structure WSet (w w' : World) (B : Nat) (o : Obj) : Prop where
  size : w'.heap.size = w.heap.size
  at_ : w'.heap[B]? = some o
  else_ : ∀ B', B' ≠ B → w'.heap[B']? = w.heap[B']?
  tape : w'.tape = w.tape
  os : w'.os = w.os
  output : w'.output = w.output
theorem Step.write {E : Env} {σ : Sig} {H : AH} {w w' : World} (hr : HR E σ H w) {b : Nat} {k : ABlk} {L : Loc} {x : AObj} {o : Obj}
    (hb : H.blocks.get b = some k) (hown : k.own = true) (hs : σ b = some L) (hw : WSet w w' L.blk o) (ho : ObjR E σ L true x o) :
    Step E σ H w σ (H.write b k x) w' := by
  refine { hr := ?_, next := Nat.le_refl _, ext := fun _ _ => rfl, size := Nat.le_of_eq hw.size.symm, low := Nat.min_le_left _ _, tape := hw.tape, os := hw.os, output := hw.output,
           frame := ?_, origin := ?_, old := ?_, keep := ?_, born := ?_ }
  · refine { objs := ?_, sep := ?_, glob := hr.glob, wf := ?_ }
    · intro b' k' M hb' hs'
      rw [AH.get_write] at hb'
      by_cases e : b' = b
      · subst e; rw [if_pos rfl] at hb'; cases hb'
        rw [hs] at hs'; cases hs'
        exact ⟨o, hw.at_, by rw [hown]; exact ho⟩
      · rw [if_neg e] at hb'
        obtain ⟨o', h1, h2⟩ := hr.objs b' k' M hb' hs'
        refine ⟨o', ?_, h2⟩
        rw [hw.else_ _ (fun e' => hr.sep b b' k k' L M hb hb' hown hs hs' (fun e'' => e e''.symm) e'.symm)]; exact h1
    · intro b₁ b₂ k₁ k₂ L₁ L₂ h1 h2 ho1 hs1 hs2 hne
      rw [AH.get_write] at h1 h2
      have g1 : ∃ k', H.blocks.get b₁ = some k' ∧ k'.own = true := by
        by_cases e : b₁ = b
        · subst e; exact ⟨k, hb, hown⟩
        · rw [if_neg e] at h1; exact ⟨k₁, h1, ho1⟩
      have g2 : ∃ k', H.blocks.get b₂ = some k' := by
        by_cases e : b₂ = b
        · subst e; exact ⟨k, hb⟩
        · rw [if_neg e] at h2; exact ⟨k₂, h2⟩
      obtain ⟨k1', g1, g1'⟩ := g1
      obtain ⟨k2', g2⟩ := g2
      exact hr.sep b₁ b₂ k1' k2' L₁ L₂ g1 g2 g1' hs1 hs2 hne
    · intro b' k' hb'
      rw [AH.get_write] at hb'
      by_cases e : b' = b
      · subst e; rw [if_pos rfl] at hb'; cases hb'; exact hr.wf b' k hb
      · rw [if_neg e] at hb'; exact hr.wf b' k' hb'
  · intro B hB h
    refine hw.else_ B fun e => h b k L hb hown hs (Nat.min_le_right _ _) e.symm
  · intro b' k' M hb' ho' hs'
    rw [AH.get_write] at hb'
    by_cases e : b' = b
    · subst e; rw [if_pos rfl] at hb'; cases hb'
      exact .inr ⟨b', k, M, hb, hown, hs', rfl, rfl⟩
    · rw [if_neg e] at hb'; exact .inr ⟨b', k', M, hb', ho', hs', rfl, rfl⟩
  · intro b' k' hb' _
    rw [AH.get_write] at hb'
    by_cases e : b' = b
    · subst e; rw [if_pos rfl] at hb'; cases hb'; exact ⟨k, hb, rfl, rfl⟩
    · rw [if_neg e] at hb'; exact ⟨k', hb', rfl, rfl⟩
  · intro b' k' hb' hl
    rw [AH.get_write]
    by_cases e : b' = b
    · subst e; rw [hb] at hb'; cases hb'
      have : Nat.min H.low k.root ≤ k.root := Nat.min_le_right _ _
      exact absurd hl (by simpa [AH.write] using Nat.not_lt.2 this)
    · rw [if_neg e]; exact hb'
  · intro b' k' hb' hn
    have := fun k h => (hr.wf b' k h).2
    rw [AH.get_write] at hb'
    by_cases e : b' = b
    · subst e; have := this k hb; omega
    · rw [if_neg e] at hb'; have := this k' hb'; omega
theorem AH.get_move (H : AH) (b : Nat) (k : ABlk) (x : AObj) (c : Nat) : (H.move b k x).blocks.get c = if c = H.next then some ⟨x, k.root, true⟩ else if c = b then none else H.blocks.get c := by
  simp only [AH.move, T.get_put]
theorem Step.move {E : Env} {σ : Sig} {H : AH} {w w' : World} (hr : HR E σ H w) (hf : σ H.next = none) {b : Nat} {k : ABlk} {L M : Loc} {x : AObj} {o : Obj}
    (hb : H.blocks.get b = some k) (hown : k.own = true) (hw : (σ b = some L ∧ WSet w w' L.blk o ∧ M.blk = L.blk) ∨ w' = World.push w o ∧ M.blk = w.heap.size)
    (ho : ObjR E (σ.add H.next M) M true x o) :
    Step E σ H w (σ.add H.next M) (H.move b k x) w' := by
  have hle : Sig.le σ (σ.add H.next M) := Sig.add_le hf
  have lt : ∀ b k M, H.blocks.get b = some k → σ b = some M → M.blk < w.heap.size := by
    intro b k M hb hs
    obtain ⟨o', h1, _⟩ := hr.objs b k M hb hs
    exact (Array.getElem?_eq_some_iff.1 h1).1
  have hbn : b ≠ H.next := by have := (hr.wf b k hb).2; omega
  have hother : ∀ b' k' M', H.blocks.get b' = some k' → σ b' = some M' → b' ≠ b → M'.blk ≠ M.blk ∧ w'.heap[M'.blk]? = w.heap[M'.blk]? := by
    intro b' k' M' hb' hs' hne
    rcases hw with ⟨hs, hw, hM⟩ | ⟨hw, hM⟩
    · have := hr.sep b b' k k' L M' hb hb' hown hs hs' (fun e => hne e.symm)
      exact ⟨fun e => this (by omega), hw.else_ _ fun e => this e.symm⟩
    · have := lt b' k' M' hb' hs'
      exact ⟨by omega, by rw [hw, push_get, if_neg (by omega)]⟩
  refine { hr := ?_, next := Nat.le_succ _, ext := ?_, size := ?_, low := Nat.min_le_left _ _, tape := ?_, os := ?_, output := ?_,
           frame := ?_, origin := ?_, old := ?_, keep := ?_, born := ?_ }
  · refine { objs := ?_, sep := ?_, glob := ?_, wf := ?_ }
    · intro c k' M' hc hs'
      rw [AH.get_move] at hc
      by_cases e : c = H.next
      · subst e; rw [if_pos rfl] at hc; cases hc
        rw [Sig.add_self] at hs'; cases hs'
        refine ⟨o, ?_, ho⟩
        rcases hw with ⟨hs, hw, hM⟩ | ⟨hw, hM⟩
        · rw [hM]; exact hw.at_
        · rw [hw, push_get, if_pos hM]
      · rw [if_neg e] at hc; rw [Sig.add_ne e] at hs'
        by_cases e2 : c = b
        · rw [if_pos e2] at hc; cases hc
        · rw [if_neg e2] at hc
          obtain ⟨o', h1, h2⟩ := hr.objs c k' M' hc hs'
          exact ⟨o', by rw [(hother c k' M' hc hs' e2).2]; exact h1, h2.mono hle⟩
    · intro b₁ b₂ k₁ k₂ L₁ L₂ h1 h2 ho1 hs1 hs2 hne
      rw [AH.get_move] at h1 h2
      by_cases e1 : b₁ = H.next
      · subst e1
        have e2 : b₂ ≠ H.next := fun e => hne e.symm
        rw [if_neg e2] at h2; rw [Sig.add_ne e2] at hs2; rw [Sig.add_self] at hs1; cases hs1
        by_cases e3 : b₂ = b
        · rw [if_pos e3] at h2; cases h2
        · rw [if_neg e3] at h2; exact fun e => (hother b₂ k₂ L₂ h2 hs2 e3).1 e.symm
      · rw [if_neg e1] at h1; rw [Sig.add_ne e1] at hs1
        by_cases e3 : b₁ = b
        · rw [if_pos e3] at h1; cases h1
        · rw [if_neg e3] at h1
          by_cases e2 : b₂ = H.next
          · subst e2; rw [Sig.add_self] at hs2; cases hs2
            exact (hother b₁ k₁ L₁ h1 hs1 e3).1
          · rw [if_neg e2] at h2; rw [Sig.add_ne e2] at hs2
            by_cases e4 : b₂ = b
            · rw [if_pos e4] at h2; cases h2
            · rw [if_neg e4] at h2; exact hr.sep b₁ b₂ k₁ k₂ L₁ L₂ h1 h2 ho1 hs1 hs2 hne
    · intro g hg
      obtain ⟨M', h1, h2⟩ := hr.glob g hg
      exact ⟨M', hle g M' h1, h2⟩
    · intro c k' hc
      rw [AH.get_move] at hc
      by_cases e : c = H.next
      · subst e; rw [if_pos rfl] at hc; cases hc
        have := hr.wf b k hb
        exact ⟨by show k.root ≤ _; omega, Nat.lt_succ_self _⟩
      · rw [if_neg e] at hc
        by_cases e2 : c = b
        · rw [if_pos e2] at hc; cases hc
        · rw [if_neg e2] at hc; exact ⟨(hr.wf c k' hc).1, Nat.lt_succ_of_lt (hr.wf c k' hc).2⟩
  · intro c hc
    have : c ≠ H.next := by
      rcases hc with h | h
      · omega
      · have : H.next + 1 ≤ c := h
        omega
    exact Sig.add_ne this
  · rcases hw with ⟨hs, hw, _⟩ | ⟨hw, _⟩
    · exact Nat.le_of_eq hw.size.symm
    · rw [hw]; simp [World.push]
  · rcases hw with ⟨hs, hw, _⟩ | ⟨hw, _⟩
    · exact hw.tape
    · rw [hw]; rfl
  · rcases hw with ⟨hs, hw, _⟩ | ⟨hw, _⟩
    · exact hw.os
    · rw [hw]; rfl
  · rcases hw with ⟨hs, hw, _⟩ | ⟨hw, _⟩
    · exact hw.output
    · rw [hw]; rfl
  · intro B hB h
    rcases hw with ⟨hs, hw, _⟩ | ⟨hw, _⟩
    · exact hw.else_ B fun e => h b k L hb hown hs (Nat.min_le_right _ _) e.symm
    · rw [hw, push_get, if_neg (Nat.ne_of_lt hB)]
  · intro c k' M' hc ho' hs'
    rw [AH.get_move] at hc
    by_cases e : c = H.next
    · subst e; rw [if_pos rfl] at hc; cases hc
      rw [Sig.add_self] at hs'; cases hs'
      rcases hw with ⟨hs, _, hM⟩ | ⟨_, hM⟩
      · exact .inr ⟨b, k, L, hb, hown, hs, hM.symm, rfl⟩
      · exact .inl (Nat.le_of_eq hM.symm)
    · rw [if_neg e] at hc; rw [Sig.add_ne e] at hs'
      by_cases e2 : c = b
      · rw [if_pos e2] at hc; cases hc
      · rw [if_neg e2] at hc; exact .inr ⟨c, k', M', hc, ho', hs', rfl, rfl⟩
  · intro c k' hc hn
    rw [AH.get_move, if_neg (by omega)] at hc
    by_cases e2 : c = b
    · rw [if_pos e2] at hc; cases hc
    · rw [if_neg e2] at hc; exact ⟨k', hc, rfl, rfl⟩
  · intro c k' hc hl
    rw [AH.get_move, if_neg (by have := (hr.wf c k' hc).2; omega)]
    by_cases e2 : c = b
    · subst e2; rw [hb] at hc; cases hc
      have : Nat.min H.low k.root ≤ k.root := Nat.min_le_right _ _
      exact absurd hl (by simpa [AH.move] using Nat.not_lt.2 this)
    · rw [if_neg e2]; exact hc
  · intro c k' hc hn
    rw [AH.get_move] at hc
    by_cases e : c = H.next
    · rw [if_pos e] at hc; cases hc; exact ⟨.inr (Nat.min_le_right _ _), rfl⟩
    · rw [if_neg e] at hc
      by_cases e2 : c = b
      · rw [if_pos e2] at hc; cases hc
      · rw [if_neg e2] at hc; have := (hr.wf c k' hc).2; omega
theorem Step.drew {E : Env} {σ : Sig} {H : AH} {w : World} (hr : HR E σ H w) (n : Nat) : Step E σ H w σ H { w with drawn := n } :=
  have h := Step.refl hr
  { hr := ⟨hr.objs, hr.sep, hr.glob, hr.wf⟩, next := h.next, ext := h.ext, size := h.size, low := h.low, tape := rfl, os := rfl, output := rfl, frame := h.frame,
    origin := h.origin, old := h.old, keep := h.keep, born := h.born }
theorem HR.setLow {E : Env} {σ : Sig} {H : AH} {w : World} (hr : HR E σ H w) (n : Nat) : HR E σ { H with low := n } w := ⟨hr.objs, hr.sep, hr.glob, hr.wf⟩
theorem Step.lower {E : Env} {σ σ' : Sig} {H H' : AH} {w w' : World} {a : Nat} (s : Step E σ { H with low := a } w σ' H' w') :
    Step E σ H w σ' { H' with low := Nat.min H.low H'.low } w' where
  hr := s.hr.setLow _
  next := s.next
  ext := s.ext
  size := s.size
  low := Nat.min_le_left _ _
  tape := s.tape
  os := s.os
  output := s.output
  frame B hB h := s.frame B hB fun b k L hb ho hs hl => h b k L hb ho hs (Nat.le_trans (Nat.min_le_right _ _) hl)
  origin := s.origin
  old := s.old
  keep b k hb hl := s.keep b k hb (Nat.lt_of_lt_of_le hl (Nat.min_le_right _ _))
  born b k hb hn := ⟨(s.born b k hb hn).1.imp id fun h => Nat.le_trans (Nat.min_le_right _ _) h, (s.born b k hb hn).2⟩
end Go.Am
namespace Go.Am
open Go
structure EOk (E : Env) : Prop where
  types : ∀ t ti, E.types.get t = some ti → ∃ i, E.prog.info? t = some i ∧ E.prog.underlying t = some ti.desc ∧ ti.size = i.size ∧ ti.bytes = i.bytes ∧
    (∀ z, ti.zero = some z → ∃ v, i.zero = some v ∧ flatV v = true ∧ v.cells.toList = z ∧ z.all oneCell = true ∧ z.length = i.size ∧ (ti.agg = true → v = .agg ⟨z⟩) ∧ (ti.agg = false → z = [v])) ∧ ti.agg = aggT ti.desc
  funcs : ∀ f fn, E.funcs.get f = some fn → E.prog.funcs[f]? = some fn ∧ fn.body.isSome = true ∧ fn.name ≠ "runtime.NumGoroutine"
  codes : ∀ f fn c, E.funcs.get f = some fn → fn.body = some c → regsOk c = true
  mixed : E.prog.follows .mixedOrders = true
  ng : E.ng = E.prog.globals.size
  fields : ∀ t ti fs, E.types.get t = some ti → ti.desc = .struct fs → ∀ f ∈ fs.toList, ∃ fi, E.types.get f.type = some fi
theorem take?_spec : ∀ (l : List Value) (n : Nat) (r : List Value), take? l n = some r → r = l.take n ∧ n ≤ l.length
  | _, 0, r, h => by simp [take?] at h; subst h; simp
  | [], _ + 1, r, h => by simp [take?] at h
  | x :: l, n + 1, r, h => by
    simp only [take?, Option.map_eq_some_iff] at h
    obtain ⟨r', h1, rfl⟩ := h
    obtain ⟨h2, h3⟩ := take?_spec l n r' h1
    exact ⟨by simp [h2], by simpa using h3⟩
theorem splice_spec : ∀ (cs : List Value) (i : Nat) (vs r : List Value), splice cs i vs = some r → i + vs.length ≤ cs.length ∧ r = cs.take i ++ vs ++ cs.drop (i + vs.length)
  | cs, 0, [], r, h => by simp [splice] at h; subst h; simp
  | [], 0, _ :: _, r, h => by simp [splice] at h
  | c :: cs, 0, v :: vs, r, h => by
    simp only [splice, Option.map_eq_some_iff] at h
    obtain ⟨r', h1, rfl⟩ := h
    obtain ⟨h2, h3⟩ := splice_spec cs 0 vs r' h1
    refine ⟨by simp at h2 ⊢; omega, ?_⟩
    simp at h3
    simp [h3]
  | [], _ + 1, vs, r, h => by cases vs <;> simp [splice] at h
  | c :: cs, i + 1, vs, r, h => by
    have h' : (splice cs i vs).map (c :: ·) = some r := by cases vs <;> simpa [splice] using h
    simp only [Option.map_eq_some_iff] at h'
    obtain ⟨r', h1, rfl⟩ := h'
    obtain ⟨h2, h3⟩ := splice_spec cs i vs r' h1
    refine ⟨by simp; omega, ?_⟩
    have : i + 1 + vs.length = (i + vs.length) + 1 := by omega
    simp [this, h3]
theorem loads_spec {H : AH} {b i n : Nat} {r : List Value} (h : H.loads b i n = some r) :
    ∃ cs el rt own, H.blocks.get b = some ⟨.cells cs el, rt, own⟩ ∧ r = (cs.drop i).take n ∧ n ≤ cs.length - i := by
  unfold AH.loads at h
  split at h
  · rename_i cs el rt own hb
    obtain ⟨h1, h2⟩ := take?_spec _ _ _ h
    exact ⟨cs, el, rt, own, hb, h1, by simpa using h2⟩
  · cases h
section
variable {E : Env} {σ : Sig} {H : AH} {w : World}
theorem HR.cellsAt (hr : HR E σ H w) {b : Nat} {L : Loc} {cs : List Value} {el rt : Nat} {own : Bool} (hb : H.blocks.get b = some ⟨.cells cs el, rt, own⟩) (hs : σ b = some L) :
    ∃ ccs cel fz, w.heap[L.blk]? = some (.cells ccs cel fz) ∧ (own = true → OwnC L el cel ccs.size fz) ∧ L.off + L.ext ≤ ccs.size ∧ cs.length ≤ L.ext ∧
      (∀ ti, E.types.get el = some ti → L.sz = ti.size) ∧ ∀ i v, cs[i]? = some v → oneCell v = true ∧ ∃ v', ccs[L.off + i]? = some v' ∧ VR σ v v' := by
  obtain ⟨o, h1, h2⟩ := hr.objs b _ L hb hs
  cases o <;> simp only [ObjR] at h2
  rename_i ccs cel fz
  exact ⟨ccs, cel, fz, h1, h2⟩
theorem loads_run (hr : HR E σ H w) {b i n : Nat} {r : List Value} {L : Loc} (h : H.loads b i n = some r) (hs : σ b = some L) :
    ∃ r', (loadCells ⟨L.blk, L.off + i, none⟩ n).run E.prog w = .ok r'.toArray w ∧ VRs σ r r' ∧ r.length = n ∧ r.all oneCell = true := by
  obtain ⟨cs, el, rt, own, hb, rfl, hn⟩ := loads_spec h
  obtain ⟨ccs, cel, fz, h1, _, h3, h4, _, h5⟩ := hr.cellsAt hb hs
  have hlen : ((cs.drop i).take n).length = n := by simp; omega
  have hg : ∀ j, j < n → ((cs.drop i).take n)[j]? = cs[i + j]? := by
    intro j hj; rw [List.getElem?_take_of_lt hj, List.getElem?_drop]
  have hget : ∀ j v, ((cs.drop i).take n)[j]? = some v → ((ccs.toList.drop (L.off + i)).take n)[j]? = ccs[L.off + (i + j)]? ∧ oneCell v = true ∧ ∃ v', ccs[L.off + (i + j)]? = some v' ∧ VR σ v v' := by
    intro j v hv
    have hj : j < n := by have := (List.getElem?_eq_some_iff.1 hv).1; omega
    rw [hg j hj] at hv
    refine ⟨?_, h5 (i + j) v hv⟩
    rw [List.getElem?_take_of_lt hj, List.getElem?_drop, Array.getElem?_toList, Nat.add_assoc]
  have hcl : ((ccs.toList.drop (L.off + i)).take n).length = n := by
    by_cases h0 : n = 0
    · simp [h0]
    · simp; omega
  refine ⟨(ccs.toList.drop (L.off + i)).take n, ?_, ?_, hlen, ?_⟩
  · have := run_loadCells_list (P := E.prog) w ⟨L.blk, L.off + i, none⟩ ((ccs.toList.drop (L.off + i)).take n) ?_
    · rw [hcl] at this; exact this
    · intro j v hv
      have hj : j < n := by have := (List.getElem?_eq_some_iff.1 hv).1; omega
      have ha : (⟨L.blk, L.off + i, none⟩ : Addr).add j = ⟨L.blk, L.off + i + j, none⟩ := by unfold Addr.add; split <;> simp_all
      rw [ha]
      rw [List.getElem?_take_of_lt hj, List.getElem?_drop, Array.getElem?_toList] at hv
      simp [World.cell?, h1, hv]
  · refine VRs.of_get (by rw [hcl, hlen]) fun j v hv => ?_
    obtain ⟨e, _, v', e', hv'⟩ := hget j v hv
    exact ⟨v', by rw [e, e'], hv'⟩
  · rw [List.all_eq_true]
    intro v hv
    obtain ⟨j, hj⟩ := List.getElem?_of_mem hv
    exact (hget j v hj).2.1
end
theorem WSet.setRow {w : World} {g : Nat} {old cs : Array Value} {t : TypeId} {fr : Nat × Nat} (hg : w.heap[g]? = some (.cells old t fr)) :
    WSet w (w.setRow g cs) g (.cells cs t fr) where
  size := by simp [World.setRow]
  at_ := setRow_heap w g old cs t fr hg
  else_ B hB := by simp only [World.setRow, Array.getElem?_modify]; rw [if_neg (fun e => hB e.symm)]
  tape := rfl
  os := rfl
  output := rfl
theorem run_storeCells_thaw (P : Program) (g o : Nat) (t : TypeId) (fz : Nat × Nat) : ∀ (vs : List Value) (i : Nat) (cur : Array Value) (w : World), w.heap[g]? = some (.cells cur t fz) → (fz = (0, 0) ∨ cur.size ≤ fz.1) → o + i + vs.length ≤ cur.size →
    (∀ v ∈ vs, v.oneCell' = true) → (storeCells ⟨g, o, none⟩ vs i).run P w = .ok () (w.setRow g (cur.toList.take (o + i) ++ vs ++ cur.toList.drop (o + i + vs.length)).toArray)
  | [], i, cur, w, hg, _, _, _ => by
    simp only [storeCells, List.append_nil, List.length_nil, Nat.add_zero, List.take_append_drop, Array.toArray_toList]
    rw [setRow_self w g cur t fz hg]
    rfl
  | v :: rest, i, cur, w, hg, hfz, hl, h1 => by
    have hi : o + i < cur.size := by simp at hl; omega
    have hadd : (⟨g, o, none⟩ : Addr).add i = ⟨g, o + i, none⟩ := by unfold Addr.add; split <;> simp_all
    have hcell : w.cell? ⟨g, o + i, none⟩ = some cur[o + i] := by simp [World.cell?, hg, hi]
    have hfro : w.frozen? ⟨g, o + i, none⟩ = false := by
      obtain ⟨lo, up⟩ := fz
      simp only [World.frozen?, hg, Bool.and_eq_false_iff, decide_eq_false_iff_not]
      rcases hfz with h | h
      · cases h; right; omega
      · simp only at h; left; omega
    have hst : (store ((⟨g, o, none⟩ : Addr).add i) v).run P w = .ok () (w.setRow g (cur.setIfInBounds (o + i) v)) := by
      rw [hadd, run_store P w _ v _ (h1 v (by simp)), hcell]
      simp [hfro, setCell_eq_setRow w g (o + i) cur t fz v hg]
    have next := run_storeCells_thaw P g o t fz rest (i + 1) (cur.setIfInBounds (o + i) v) (w.setRow g (cur.setIfInBounds (o + i) v)) (setRow_heap w g cur _ t _ hg) (by simpa using hfz) (by simp at hl ⊢; omega)
      (fun x hx => h1 x (by simp [hx]))
    simp only [storeCells, Sem.run_bind, hst, Result.andThen_ok, next, setRow_setRow]
    congr 3
    have e := list_seg_step cur.toList (o + i) v rest (by simp at hl ⊢; omega)
    simpa [Array.toList_setIfInBounds, Nat.add_assoc] using e
theorem one_eq (v : Value) : v.oneCell' = oneCell v := by cases v <;> rfl
section
variable {E : Env} {σ : Sig} {H : AH} {w : World}
theorem stores_run (hr : HR E σ H w) {b i : Nat} {vs vs' : List Value} {H' : AH} {L : Loc} (h : H.stores b i vs = some H') (hs : σ b = some L)
    (hv : VRs σ vs vs') (h1 : vs.all oneCell = true) :
    ∃ w', (storeCells ⟨L.blk, L.off + i, none⟩ vs').run E.prog w = .ok () w' ∧ Step E σ H w σ H' w' := by
  unfold AH.stores at h
  split at h
  case h_2 => cases h
  rename_i cs el rt hb
  simp only [Option.map_eq_some_iff] at h
  obtain ⟨cs', hsp, rfl⟩ := h
  obtain ⟨hle, hcs⟩ := splice_spec _ _ _ _ hsp
  obtain ⟨ccs, cel, fz, g1, g2, g3, g4, g5, g6⟩ := hr.cellsAt hb hs
  obtain ⟨hfz, hcel, hoff⟩ := g2 rfl
  have hlen := hv.length
  have hrun := run_storeCells_thaw E.prog L.blk (L.off + i) cel fz vs' 0 ccs w g1 hfz (by rw [hlen]; omega)
    (fun v hv' => by
      rw [one_eq]
      have := hv.all_one; rw [h1, List.all_eq_true] at this
      exact this v hv')
  refine ⟨_, hrun, Step.write hr hb rfl hs (WSet.setRow g1) ?_⟩
  have hl' : cs'.length = cs.length := by rw [hcs]; simp; omega
  have hnew : (ccs.toList.take (L.off + i + 0) ++ vs' ++ ccs.toList.drop (L.off + i + 0 + vs'.length)).toArray.size = ccs.size := by simp; omega
  refine ⟨fun _ => ⟨by rw [hnew]; exact hfz, hcel, hoff⟩, ?_, by rw [hl']; exact g4, g5, ?_⟩
  · simp; omega
  · intro j v hj
    have hjl : j < cs.length := by have := (List.getElem?_eq_some_iff.1 hj).1; omega
    have ht : (cs.take i).length = i := by simp; omega
    have ht' : (ccs.toList.take (L.off + i)).length = L.off + i := by simp; omega
    simp only [Nat.add_zero, List.getElem?_toArray]
    rw [hcs] at hj
    by_cases c1 : j < i
    · have e1 : (cs.take i ++ vs ++ cs.drop (i + vs.length))[j]? = cs[j]? := by
        rw [List.append_assoc, List.getElem?_append_left (by omega), List.getElem?_take_of_lt c1]
      have e2 : (ccs.toList.take (L.off + i) ++ vs' ++ ccs.toList.drop (L.off + i + vs'.length))[L.off + j]? = ccs[L.off + j]? := by
        rw [List.append_assoc, List.getElem?_append_left (by omega), List.getElem?_take_of_lt (by omega), Array.getElem?_toList]
      rw [e1] at hj; rw [e2]
      exact g6 j v hj
    · by_cases c2 : j < i + vs.length
      · have e1 : (cs.take i ++ vs ++ cs.drop (i + vs.length))[j]? = vs[j - i]? := by
          rw [List.append_assoc, List.getElem?_append_right (by omega), List.getElem?_append_left (by omega), ht]
        have e2 : (ccs.toList.take (L.off + i) ++ vs' ++ ccs.toList.drop (L.off + i + vs'.length))[L.off + j]? = vs'[j - i]? := by
          rw [List.append_assoc, List.getElem?_append_right (by omega), List.getElem?_append_left (by omega), ht']
          congr 1; omega
        rw [e1] at hj; rw [e2]
        rw [List.all_eq_true] at h1
        exact ⟨h1 v (List.mem_of_getElem? hj), hv.get _ v hj⟩
      · have e1 : (cs.take i ++ vs ++ cs.drop (i + vs.length))[j]? = cs[j]? := by
          rw [List.append_assoc, List.getElem?_append_right (by omega), List.getElem?_append_right (by omega), ht, List.getElem?_drop]
          congr 1; omega
        have e2 : (ccs.toList.take (L.off + i) ++ vs' ++ ccs.toList.drop (L.off + i + vs'.length))[L.off + j]? = ccs[L.off + j]? := by
          rw [List.append_assoc, List.getElem?_append_right (by omega), List.getElem?_append_right (by omega), ht', List.getElem?_drop, Array.getElem?_toList]
          congr 1; omega
        rw [e1] at hj; rw [e2]
        exact g6 j v hj
theorem run_isAgg' (he : EOk E) {t : TypeId} {ti : TI} (h : E.types.get t = some ti) (w : World) : (isAgg t).run E.prog w = .ok ti.agg w := by
  obtain ⟨i, h1, h2, _, _, _, h3⟩ := he.types t ti h
  simp only [isAgg, Sem.run_bind, run_underlying h2, Result.andThen_ok]
  rw [h3]
  cases ti.desc <;> rfl
theorem run_sizeOf' (he : EOk E) {t : TypeId} {ti : TI} (h : E.types.get t = some ti) (w : World) : (sizeOf t).run E.prog w = .ok ti.size w := by
  obtain ⟨i, h1, _, h2, _⟩ := he.types t ti h
  simp [sizeOf, run_typeInfo w h1, h2]
theorem run_und (he : EOk E) {t : TypeId} {ti : TI} (h : E.types.get t = some ti) (w : World) : (underlying t).run E.prog w = .ok ti.desc w := by
  obtain ⟨i, _, h2, _⟩ := he.types t ti h
  exact run_underlying h2 w
theorem run_zero (he : EOk E) {t : TypeId} {ti : TI} {z : List Value} (h : E.types.get t = some ti) (hz : ti.zero = some z) (w : World) :
    ∃ v, (zeroValue t).run E.prog w = .ok v w ∧ flatV v = true ∧ v.cells.toList = z ∧ z.all oneCell = true ∧ z.length = ti.size := by
  obtain ⟨i, h1, _, h2, _, h3, _⟩ := he.types t ti h
  obtain ⟨v, g1, g2, g3, g4, g5, _⟩ := h3 z hz
  exact ⟨v, by simp [zeroValue, run_typeInfo w h1, g1], g2, g3, g4, by rw [g5, h2]⟩
theorem run_zeroVal (he : EOk E) {t : TypeId} {ti : TI} {z : List Value} {v : Value} (h : E.types.get t = some ti) (hz : ti.zero = some z) (hv : zeroVal ti.agg z = some v) (w : World) :
    (zeroValue t).run E.prog w = .ok v w ∧ flatV v = true := by
  obtain ⟨i, h1, _, h2, _, h3, _⟩ := he.types t ti h
  obtain ⟨u, g1, g2, g3, g4, g5, g6, g7⟩ := h3 z hz
  have e : v = u := by
    cases ha : ti.agg with
    | true => rw [ha] at hv; simp only [zeroVal, Option.some.injEq] at hv; rw [g6 ha, hv]
    | false => rw [ha, g7 ha] at hv; simp only [zeroVal, Option.some.injEq] at hv; exact hv.symm
  subst e
  exact ⟨by simp [zeroValue, run_typeInfo w h1, g1], g2⟩
theorem addr_add (b o n : Nat) : (⟨b, o, none⟩ : Addr).add n = ⟨b, o + n, none⟩ := by unfold Addr.add; split <;> simp_all
theorem load_run (he : EOk E) (hr : HR E σ H w) {t : TypeId} {a a' v : Value} (h : loadA E H t a = some v) (ha : VR σ a a') :
    ∃ v', (Instr.loadAt t a').run E.prog w = .ok v' w ∧ VR σ v v' := by
  unfold loadA at h
  split at h
  case h_2 => cases h
  rename_i ti b o ht
  cases ha with
  | leaf h0 => simp [leafV] at h0
  | ptr hs =>
    rename_i L
    simp only [Instr.loadAt, Instr.sureAddr, Sem.run_bind, Sem.run_pure, Result.andThen_ok, loadVar, run_isAgg' he ht]
    cases hagg : ti.agg with
    | true =>
      rw [hagg, cond_true] at h
      simp only [Option.map_eq_some_iff] at h
      obtain ⟨l, hl, rfl⟩ := h
      obtain ⟨r', h1, h2, _, h3⟩ := loads_run hr hl hs
      refine ⟨.agg ⟨r'⟩, ?_, .agg h2 h3⟩
      simp [run_sizeOf' he ht, h1]
    | false =>
      rw [hagg, cond_false] at h
      split at h
      · rename_i u hl
        cases h
        obtain ⟨r', h1, h2, _, h3⟩ := loads_run hr hl hs
        cases h2 with
        | cons hx hnil =>
          cases hnil
          rename_i v'
          refine ⟨v', ?_, hx⟩
          simp only [loadCells, loadCellsFrom, addr_add, Nat.add_zero, Sem.run_bind, Sem.run_pure] at h1
          simp only [Bool.false_eq_true, if_false]
          revert h1
          cases hlr : (load { block := L.blk, off := L.off + o, spot := none }).run E.prog w with
          | ok x w1 =>
            simp only [Result.andThen_ok]
            intro h1
            cases h1
            rfl
          | halt x w1 => simp
      · cases h
theorem store_run (he : EOk E) (hr : HR E σ H w) {t : TypeId} {a a' v v' : Value} {H' : AH} (h : storeA E H t a v = some H') (ha : VR σ a a') (hv : VR σ v v')
    (hnt : ∀ c, v ≠ .tuple c) :
    ∃ w', (Instr.storeAt t a' v').run E.prog w = .ok () w' ∧ Step E σ H w σ H' w' := by
  unfold storeA at h
  split at h
  case h_2 => cases h
  rename_i ti b o ht
  simp only [bif_beq] at h
  split at h
  case isFalse => cases h
  rename_i hlen
  cases ha with
  | leaf h0 => simp [leafV] at h0
  | ptr hs =>
    rename_i L
    obtain ⟨w', h1, h2⟩ := stores_run hr h hs hv.cells (hv.cells_one hnt)
    refine ⟨w', ?_, h2⟩
    have hsz : v'.cells.size = ti.size := by
      have := hv.cells.length; simp only [Array.length_toList] at this hlen; omega
    simp only [Instr.storeAt, Instr.sureAddr, Sem.run_bind, Sem.run_pure, Result.andThen_ok, storeVar, run_sizeOf' he ht]
    simp [hsz, h1]
end
end Go.Am
namespace Go.Am
open Go
theorem Step.drop {E : Env} {σ : Sig} {H : AH} {w w' : World} (hr : HR E σ H w) {b : Nat} {k : ABlk} {L : Loc} (hb : H.blocks.get b = some k) (hown : k.own = true) (hs : σ b = some L)
    (hsz : w'.heap.size = w.heap.size) (hoth : ∀ B, B ≠ L.blk → w'.heap[B]? = w.heap[B]?) (ht : w'.tape = w.tape) (hos : w'.os = w.os) (hout : w'.output = w.output) :
    Step E σ H w σ { blocks := H.blocks.put b none, next := H.next, low := Nat.min H.low k.root } w' := by
  have hg : ∀ c kk, (H.blocks.put b none).get c = some kk → c ≠ b ∧ H.blocks.get c = some kk := by
    intro c kk h
    rw [T.get_put] at h
    by_cases e : c = b
    · rw [if_pos e] at h; cases h
    · rw [if_neg e] at h; exact ⟨e, h⟩
  refine { hr := ⟨?_, ?_, hr.glob, ?_⟩, next := Nat.le_refl _, ext := fun _ _ => rfl, size := Nat.le_of_eq hsz.symm, low := Nat.min_le_left _ _, tape := ht, os := hos, output := hout,
           frame := ?_, origin := ?_, old := ?_, keep := ?_, born := ?_ }
  · intro c kk M hc hM
    obtain ⟨hne, hc⟩ := hg c kk hc
    obtain ⟨o, h1, h2⟩ := hr.objs c kk M hc hM
    exact ⟨o, by rw [hoth _ (fun e => hr.sep b c k kk L M hb hc hown hs hM (Ne.symm hne) e.symm)]; exact h1, h2⟩
  · intro b₁ b₂ k₁ k₂ L₁ L₂ h1 h2
    exact hr.sep b₁ b₂ k₁ k₂ L₁ L₂ (hg _ _ h1).2 (hg _ _ h2).2
  · intro c kk hc
    exact hr.wf c kk (hg _ _ hc).2
  · intro B _ h
    exact hoth B (fun e => h b k L hb hown hs (Nat.min_le_right _ _) e.symm)
  · intro c kk M hc ho hM
    exact .inr ⟨c, kk, M, (hg _ _ hc).2, ho, hM, rfl, rfl⟩
  · intro c kk hc _
    exact ⟨kk, (hg _ _ hc).2, rfl, rfl⟩
  · intro c kk hc hl
    show (H.blocks.put b none).get c = _
    rw [T.get_put]
    by_cases e : c = b
    · subst e
      rw [hb] at hc; cases hc
      have : Nat.min H.low k.root ≤ k.root := Nat.min_le_right _ _
      exact absurd hl (Nat.not_lt.2 this)
    · rw [if_neg e]; exact hc
  · intro c kk hc hn
    have := (hr.wf c kk (hg _ _ hc).2).2
    omega
end Go.Am
namespace Go.Am
open Go
theorem lies_own (P : Program) (u : TypeId) (count off n : Nat) (hs : P.cellsOf u ≠ 0) (hm : off % P.cellsOf u = 0) (hc : off / P.cellsOf u + n ≤ count) : liesAt P P.depth u count off u n = true := by
  obtain ⟨d, hd⟩ : ∃ d, P.depth = d + 1 := ⟨P.depth - 1, by unfold Program.depth; omega⟩
  have hl : sameLayout P P.depth u u = true := by
    rw [hd]; simp [sameLayout]
  have hrow : rowAt P (fun x => sameLayout P P.depth x u) P.depth u count off n = true := by
    rw [hd, rowAt, ← hd]
    simp [hs, hm, hc, hl]
  have : liesAt P (d + 1) u count off u n = true := by
    rw [liesAt, hrow]; rfl
  rw [hd]; exact this
end Go.Am
namespace Go.Am
open Go
theorem pure_run {α : Type} (P : Program) (w : World) : ∀ (s : Sem α) (a : α), pureRun P s = some a → s.run P w = .ok a w := by
  intro s
  induction s with
  | pure a => intro b h; simp [pureRun] at h; subst h; rfl
  | program k ih => intro b h; exact ih P b (by simpa [pureRun] using h)
  | mark m k ih => intro b h; exact ih b (by simpa [pureRun] using h)
  | _ => intro b h; simp [pureRun] at h
theorem flat?_spec {v : Option Value} {u : Value} (h : flat? v = some u) : v = some u ∧ flatV u = true := by
  unfold flat? at h
  split at h
  · rename_i x
    cases hx : flatV x with
    | true => rw [hx, cond_true] at h; cases h; exact ⟨rfl, hx⟩
    | false => rw [hx, cond_false] at h; cases h
  · cases h
theorem bif_and {α : Sort _} (a b : Bool) (x y : α) : (bif a && b then x else y) = bif a then (bif b then x else y) else y := by cases a <;> rfl
section
variable {E : Env} {σ : Sig} {H : AH} {w : World} {fr : Fr} {a : Act}
theorem ev_run (he : EOk E) (hr : HR E σ H w) (hf : FrR σ fr a.tmps) {x : Operand} {v : Value} (h : ev E fr x = some v) : VR σ v (a.eval x) := by
  cases x with
  | tmp t => exact hf.2 t v h
  | const c =>
    simp only [ev] at h
    cases hc : flatV c with
    | true => rw [hc, cond_true] at h; cases h; exact flat_refl _ _ hc
    | false => rw [hc, cond_false] at h; cases h
  | global g =>
    simp only [ev, bif_ble] at h
    split at h
    case isFalse => cases h
    rename_i hg
    cases h
    obtain ⟨L, h1, h2, h3⟩ := hr.glob g (by rw [← he.ng]; omega)
    have := VR.ptr (i := 0) h1
    rw [h2, h3] at this
    exact this
  | func f => simp only [ev] at h; cases h; exact .func rfl .nil .nil
theorem evs_run : ∀ {xs : List Operand} {vs : List Value}, (∀ x ∈ xs, ∀ v, ev E fr x = some v → VR σ v (a.eval x)) → evs E fr xs = some vs → VRs σ vs (xs.map a.eval)
  | [], vs, _, h => by simp [evs] at h; subst h; exact .nil
  | x :: xs, vs, hx, h => by
    simp only [evs] at h
    split at h
    · cases h
    · rename_i v hv
      simp only [Option.map_eq_some_iff] at h
      obtain ⟨vs', h1, rfl⟩ := h
      exact .cons (hx x (by simp) v hv) (evs_run (fun y hy => hx y (by simp [hy])) h1)
inductive PRs (σ : Sig) : List (Nat × Value) → List (Nat × Value) → Prop
  | nil : PRs σ [] []
  | cons {i : Nat} {v v' : Value} {l l' : List (Nat × Value)} (h : VR σ v v') (ht : ∀ c, v ≠ .tuple c) (hs : PRs σ l l') : PRs σ ((i, v) :: l) ((i, v') :: l')
theorem parts_run : ∀ {xs : List (Nat × Operand)} {vs : List (Nat × Value)}, (∀ x ∈ xs.map (·.2), ∀ v, ev E fr x = some v → VR σ v (a.eval x)) → parts? E fr xs = some vs →
    PRs σ vs (xs.map fun (i, x) => (i, a.eval x))
  | [], vs, _, h => by simp [parts?] at h; subst h; exact .nil
  | (i, x) :: xs, vs, hx, h => by
    simp only [parts?] at h
    split at h
    · cases h
    · cases h
    · rename_i v hnt hv
      simp only [Option.map_eq_some_iff] at h
      obtain ⟨vs', h1, rfl⟩ := h
      exact .cons (hx x (by simp) v hv) (fun c e => hnt c e) (parts_run (fun y hy => hx y (by simp only [List.map_cons, List.mem_cons]; exact .inr hy)) h1)
theorem VRs.take : ∀ {l l' : List Value} (n : Nat), VRs σ l l' → VRs σ (l.take n) (l'.take n)
  | _, _, 0, _ => by simpa using VRs.nil
  | _, _, _ + 1, .nil => .nil
  | _, _, n + 1, .cons h hs => .cons h (VRs.take n hs)
theorem VRs.drop : ∀ {l l' : List Value} (n : Nat), VRs σ l l' → VRs σ (l.drop n) (l'.drop n)
  | _, _, 0, h => h
  | _, _, _ + 1, .nil => .nil
  | _, _, n + 1, .cons _ hs => VRs.drop n hs
theorem fold_sets (off : Nat) : ∀ (vs : List Value) (k : Nat) (cs : Array Value), off + k + vs.length ≤ cs.size →
    ((vs.zipIdx k).foldl (fun (cs : Array Value) (x : Value × Nat) => cs.setIfInBounds (off + x.2) x.1) cs).toList = cs.toList.take (off + k) ++ vs ++ cs.toList.drop (off + k + vs.length)
  | [], k, cs, _ => by simp
  | v :: vs, k, cs, h => by
    simp only [List.zipIdx_cons, List.foldl_cons]
    rw [fold_sets off vs (k + 1) _ (by simp at h ⊢; omega)]
    have hlt : off + k < cs.toList.length := by simp at h ⊢; omega
    simp only [Array.toList_setIfInBounds]
    apply List.ext_getElem?
    intro j
    simp only [List.getElem?_append, List.length_append, List.length_take, List.length_set, List.getElem?_take, List.getElem?_drop, List.getElem?_set, List.length_cons]
    simp only [List.getElem?_cons]
    repeat' split
    all_goals first | rfl | omega | (congr 1; omega) | (simp at *; omega) | skip
theorem all_take {p : Value → Bool} {l : List Value} (n : Nat) (h : l.all p = true) : (l.take n).all p = true := by
  rw [List.all_eq_true] at h ⊢; exact fun x hx => h x (List.mem_of_mem_take hx)
theorem all_drop {p : Value → Bool} {l : List Value} (n : Nat) (h : l.all p = true) : (l.drop n).all p = true := by
  rw [List.all_eq_true] at h ⊢; exact fun x hx => h x (List.mem_of_mem_drop hx)
theorem over_run (place : Nat → Option (Nat × Nat)) : ∀ {ps ps' : List (Nat × Value)} {cs r : List Value} {cs' : Array Value}, PRs σ ps ps' → VRs σ cs cs'.toList → cs.all oneCell = true →
    over cs ps place = some r → ∃ r', Instr.fill place cs' ps' = some r' ∧ VRs σ r r'.toList ∧ r.all oneCell = true ∧ r.length = cs.length
  | _, _, cs, r, cs', .nil, hc, h1, h => by
    simp [over] at h; subst h; exact ⟨cs', rfl, hc, h1, rfl⟩
  | _, _, cs, r, cs', .cons (i := i) (v := v) (v' := v') hv ht hs, hc, h1, h => by
    simp only [over] at h
    split at h
    · cases h
    · rename_i off size hp
      simp only [bif_beq] at h
      split at h
      case isFalse => cases h
      rename_i hsz
      split at h
      case h_2 => cases h
      rename_i cs1 hsp
      obtain ⟨g1, g2⟩ := splice_spec _ _ _ _ hsp
      have hlen := hc.length
      have hvl := hv.cells.length
      have hfs := fold_sets off v'.cells.toList 0 cs' (by simp only [Array.length_toList] at hlen hvl g1 hsz ⊢; omega)
      have hvr : VRs σ cs1 (v'.cells.zipIdx.foldl (fun (cs : Array Value) (x : Value × Nat) => cs.setIfInBounds (off + x.2) x.1) cs').toList := by
        have e : v'.cells.zipIdx.foldl (fun (cs : Array Value) (x : Value × Nat) => cs.setIfInBounds (off + x.2) x.1) cs' =
            (v'.cells.toList.zipIdx 0).foldl (fun (cs : Array Value) (x : Value × Nat) => cs.setIfInBounds (off + x.2) x.1) cs' := by
          rw [← Array.foldl_toList, Array.toList_zipIdx]
        rw [e, hfs, g2, hvl]
        exact ((hc.take _).append hv.cells).append (hc.drop _)
      have hone : cs1.all oneCell = true := by
        rw [g2, List.all_append, List.all_append, all_take _ h1, all_drop _ h1, hv.cells_one ht]; rfl
      obtain ⟨r', k1, k2, k3, k4⟩ := over_run place hs hvr hone h
      refine ⟨r', ?_, k2, k3, ?_⟩
      · simp only [Instr.fill, hp]
        rw [if_neg]
        · exact k1
        · simp only [Array.length_toList] at hlen hvl g1 hsz
          simp; omega
      · simp only [Array.length_toList] at g1; rw [k4, g2]; simp; omega
theorem reps_length (z : List Value) : ∀ n, (reps z n).length = n * z.length
  | 0 => by simp [reps]
  | n + 1 => by simp [reps, reps_length z n, Nat.succ_mul]; omega
theorem reps_get (z : List Value) : ∀ n i, i < n * z.length → (reps z n)[i]? = z[i % z.length]?
  | 0, i, h => by simp at h
  | n + 1, i, h => by
    rw [Nat.succ_mul] at h
    simp only [reps]
    by_cases hi : i < z.length
    · rw [List.getElem?_append_left hi, Nat.mod_eq_of_lt hi]
    · rw [List.getElem?_append_right (by omega), reps_get z n (i - z.length) (by omega)]
      congr 1
      exact (Nat.mod_eq_sub_mod (by omega)).symm
theorem reps_mem {z : List Value} {v : Value} : ∀ {n : Nat}, v ∈ reps z n → v ∈ z
  | 0, h => by simp [reps] at h
  | n + 1, h => by
    simp only [reps, List.mem_append] at h
    exact h.elim id reps_mem
theorem zeros_eq (z : Array Value) (n s : Nat) (hs : s = z.size) : ((Array.range (n * s)).map (fun i => z[i % z.size]!)).toList = reps z.toList n := by
  subst hs
  apply List.ext_getElem?
  intro i
  by_cases hi : i < n * z.size
  · rw [reps_get z.toList n i (by simpa using hi)]
    have hz : 0 < z.size := by
      rcases Nat.eq_zero_or_pos z.size with h | h
      · rw [h] at hi; simp at hi
      · exact h
    have hm : i % z.size < z.size := Nat.mod_lt _ hz
    simp [hi, hm]
  · have h1 : (reps z.toList n).length ≤ i := by rw [reps_length]; simp; omega
    rw [List.getElem?_eq_none h1, List.getElem?_eq_none]
    simp; omega
theorem flats_refl : ∀ {l : List Value}, (∀ v ∈ l, VR σ v v) → VRs σ l l
  | [], _ => .nil
  | v :: l, h => .cons (h v (by simp)) (flats_refl fun u hu => h u (by simp [hu]))
theorem zero_refl {v : Value} {z : List Value} (h : flatV v = true) (hz : v.cells.toList = z) : VRs σ z z := by
  have := (flat_refl (σ := σ) 6 v h).cells; rw [hz] at this; exact this
theorem VRs.mem_refl : ∀ {l : List Value}, VRs σ l l → ∀ v ∈ l, VR σ v v
  | _, .nil, v, h => by simp at h
  | _, .cons h hs, v, hv => by
    simp at hv; rcases hv with rfl | hv
    · exact h
    · exact VRs.mem_refl hs v hv
theorem reps_refl {z : List Value} (h : VRs σ z z) (n : Nat) : VRs σ (reps z n) (reps z n) := flats_refl fun v hv => h.mem_refl v (reps_mem hv)
theorem reps_one {z : List Value} (h : z.all oneCell = true) (n : Nat) : (reps z n).all oneCell = true := by
  rw [List.all_eq_true] at h ⊢; exact fun v hv => h v (reps_mem hv)
end
end Go.Am
namespace Go.Am
open Go
def ARR (E : Env) (σ : Sig) (w : World) : AR → Next → Prop
  | .val v, .value v' => VR σ v v'
  | .skip, .skip => True
  | .rcv, .recover => True
  | .enter f args, .enter f' args' => f' = f ∧ VRs σ args args'.toList ∧ ∃ fn, E.funcs.get f = some fn
  | .round l args, nx => ∃ (L : Loc) (lo : Loop) (args' : List Value), σ l = some L ∧ w.heap[L.blk]? = some (.loop lo) ∧ VRs σ args args' ∧ args'.length = lo.params.size ∧
      nx = .round L.blk lo.fn ((lo.params.zip ⟨args'⟩).foldl (fun tmps (t, a) => tmps.setIfInBounds t a) lo.tmps) lo.assign lo.body
  | _, _ => False
def Sim (E : Env) (σ : Sig) (H : AH) (w : World) (r : Ans) (s : Sem Next) : Prop :=
  ∀ ar H', r = some (ar, H') → Free σ H.next H'.next →
    ∃ σ' w' nx, s.run E.prog w = .ok nx w' ∧ Step E σ H w σ' H' w' ∧ ARR E σ' w' ar nx
section
variable {E : Env} {σ : Sig} {H : AH} {w : World} {fr : Fr} {a : Act}
theorem Sim.one (hr : HR E σ H w) {rv : Option Value} {s : Sem Value} (h : ∀ v, rv = some v → ∃ v', s.run E.prog w = .ok v' w ∧ VR σ v v') :
    Sim E σ H w (one H rv) (do pure (.value (← s))) := by
  intro ar H' he _
  simp only [Go.Am.one, Option.map_eq_some_iff] at he
  obtain ⟨v, hv, he⟩ := he
  cases he
  obtain ⟨v', h1, h2⟩ := h v hv
  exact ⟨σ, w, .value v', by simp [h1], Step.refl hr, h2⟩
theorem Sim.none {s : Sem Next} : Sim E σ H w none s := fun _ _ h => by cases h
theorem new_cells (hr : HR E σ H w) (hf : σ H.next = none) {cs : List Value} {cs' : Array Value} {el : TypeId} (hv : VRs σ cs (cs'.toList.take cs.length))
    (hl : cs.length ≤ cs'.size) (h1 : cs.all oneCell = true) :
    ∃ L, L.blk = w.heap.size ∧ L.off = 0 ∧ L.ext = cs'.size ∧ (∀ ti, E.types.get el = some ti → L.sz = ti.size) ∧
      Step E σ H w (σ.add H.next L) (H.new (.cells cs el)) (World.push w (.cells cs' el)) := by
  let L : Loc := ⟨w.heap.size, 0, cs'.size, match E.types.get el with | some ti => ti.size | none => 0⟩
  have hsz : ∀ ti, E.types.get el = some ti → L.sz = ti.size := fun ti h => by simp [L, h]
  refine ⟨L, rfl, rfl, rfl, hsz, Step.new hr hf _ _ L rfl ?_⟩
  refine ⟨fun _ => ⟨.inl rfl, rfl, Nat.zero_mod _⟩, by simp [L], hl, hsz, fun i v hi => ?_⟩
  rw [List.all_eq_true] at h1
  refine ⟨h1 v (List.mem_of_getElem? hi), ?_⟩
  obtain ⟨v', h2, h3⟩ := hv.get i v hi
  have hlt : i < cs.length := (List.getElem?_eq_some_iff.1 hi).1
  rw [List.getElem?_take_of_lt hlt, Array.getElem?_toList] at h2
  exact ⟨v', by simpa [L] using h2, h3.mono (Sig.add_le hf)⟩
theorem new_cells' (hr : HR E σ H w) (hf : σ H.next = none) {cs cs' : List Value} {el : TypeId} (hv : VRs σ cs cs') (h1 : cs.all oneCell = true) :
    ∃ L, L.blk = w.heap.size ∧ L.off = 0 ∧ L.ext = cs.length ∧ (∀ ti, E.types.get el = some ti → L.sz = ti.size) ∧
      Step E σ H w (σ.add H.next L) (H.new (.cells cs el)) (World.push w (.cells ⟨cs'⟩ el)) := by
  have hl := hv.length
  obtain ⟨L, g1, g2, g3, g4, g5⟩ := new_cells hr hf (cs' := ⟨cs'⟩) (el := el) (by rw [← hl]; simpa using hv) (by simp [hl]) h1
  exact ⟨L, g1, g2, by rw [g3]; simp [hl], g4, g5⟩
theorem Free.head {n n' : Nat} (h : Free σ n n') (hn : n < n') : σ n = none := h n (Nat.le_refl _) hn
theorem alloc_sim (he : EOk E) (hr : HR E σ H w) (t : TypeId) :
    Sim E σ H w (match E.types.get t with
      | some { zero := some z, .. } => some (.val (.pointer (some ⟨H.next, 0, none⟩)), H.new (.cells z t))
      | _ => none) (do pure (.value (← Instr.alloc t true (.tuple #[])))) := by
  intro ar H' h hf
  split at h
  case h_2 => cases h
  rename_i ti d sz by_ z ag ht
  cases h
  obtain ⟨v, h1, h2, h3, h4, h5⟩ := run_zero he ht rfl w
  have hf' := hf.head (Nat.lt_succ_self _)
  obtain ⟨L, g1, g2, g3, g4, g5⟩ := new_cells' hr hf' (el := t) (zero_refl (σ := σ) h2 h3) h4
  refine ⟨_, _, .value (.pointer (some ⟨w.heap.size, 0, none⟩)), ?_, g5, ?_⟩
  · have : v.cells = ⟨z⟩ := by cases hc : v.cells; simp [hc] at h3; rw [h3]
    simp [Instr.alloc, h1, newVar, newRow, World.push, this]
  · have := VR.ptr (σ := σ.add H.next L) (i := 0) Sig.add_self
    rw [g1, g2] at this
    exact this
theorem box_sim (he : EOk E) (hr : HR E σ H w) (t : TypeId) {v v' : Value} (hv : VR σ v v') (hnt : ∀ c, v ≠ .tuple c) :
    Sim E σ H w (some (.val (.pointer (some ⟨H.next, 0, none⟩)), H.new (.cells v.cells.toList t))) (do pure (.value (← Instr.box t v'))) := by
  intro ar H' h hf
  cases h
  have hf' := hf.head (Nat.lt_succ_self _)
  obtain ⟨L, g1, g2, g3, g4, g5⟩ := new_cells' hr hf' (el := t) hv.cells (hv.cells_one hnt)
  refine ⟨_, _, .value (.pointer (some ⟨w.heap.size, 0, none⟩)), ?_, g5, ?_⟩
  · simp [Instr.box, newVar, newRow, World.push]
  · have := VR.ptr (σ := σ.add H.next L) (i := 0) Sig.add_self
    rw [g1, g2] at this
    exact this
theorem places_run (he : EOk E) : ∀ (fs : List Field), (∀ f ∈ fs, ∃ fi, E.types.get f.type = some fi) →
    ∃ ps : List (Nat × Nat), (fs.mapM (fun (f : Field) => (do pure (f.offset, ← sizeOf f.type) : Sem (Nat × Nat)))).run E.prog w = .ok ps w ∧ ∀ i p, fieldPlace? E fs i = some p → ps[i]? = some p
  | [], _ => ⟨[], by simp, by simp [fieldPlace?]⟩
  | f :: fs, h => by
    obtain ⟨ps, h1, h2⟩ := places_run he fs fun g hg => h g (by simp [hg])
    obtain ⟨fi, hfi⟩ := h f (by simp)
    refine ⟨(f.offset, fi.size) :: ps, ?_, ?_⟩
    · simp only [List.mapM_cons, Sem.run_bind, run_sizeOf' he hfi, Result.andThen_ok, h1, Sem.run_pure]
    · intro i p hp
      cases i with
      | zero => simp [fieldPlace?, hfi] at hp; simp [hp]
      | succ i => simpa using h2 i p (by simpa [fieldPlace?] using hp)
theorem over_mono {place place' : Nat → Option (Nat × Nat)} (hp : ∀ i p, place i = some p → place' i = some p) : ∀ (ps : List (Nat × Value)) (cs r : List Value),
    over cs ps place = some r → over cs ps place' = some r
  | [], cs, r, h => h
  | (i, v) :: ps, cs, r, h => by
    simp only [over] at h ⊢
    split at h
    · cases h
    · rename_i off size hpl
      rw [hp i _ hpl]
      simp only [bif_beq] at h ⊢
      split at h
      case isFalse => cases h
      rename_i hsz
      rw [if_pos hsz]
      split at h
      case h_2 => cases h
      exact over_mono hp ps _ _ h
theorem build_run (he : EOk E) {t : TypeId} {ps ps' : List (Nat × Value)} {v : Value} (hp : PRs σ ps ps') (h : buildA E t ps = some v) :
    ∃ v', (Instr.build t ⟨ps'⟩).run E.prog w = .ok v' w ∧ VR σ v v' := by
  unfold buildA at h
  split at h
  · rename_i ti fs sz by_ z ag ht
    simp only [Option.map_eq_some_iff] at h
    obtain ⟨l, hl, rfl⟩ := h
    obtain ⟨zv, h1, h2, h3, h4, h5⟩ := run_zero he ht rfl w
    obtain ⟨pl, k1, k2⟩ := places_run (w := w) he fs.toList (he.fields t _ fs ht rfl)
    have hl' := over_mono (place' := fun x => pl[x]?) (fun i p hp => k2 i p hp) _ _ _ hl
    obtain ⟨r', g1, g2, g3, g4⟩ := over_run (σ := σ) (cs' := zv.cells) _ hp (by rw [h3]; exact zero_refl h2 h3) h4 hl'
    refine ⟨.agg r', ?_, by cases r'; exact .agg g2 g3⟩
    simp only [Instr.build, Sem.run_bind, h1, Result.andThen_ok, run_und he ht, Array.mapM_eq_mapM_toList, Sem.run_map, k1]
    simp [g1]
  · rename_i ti n elem sz by_ z ag ht
    cases hel : E.types.get elem with
    | none => simp [hel] at h
    | some e =>
      simp only [hel, Option.bind_some, Option.map_eq_some_iff] at h
      obtain ⟨l, hl, rfl⟩ := h
      obtain ⟨zv, h1, h2, h3, h4, h5⟩ := run_zero he ht rfl w
      obtain ⟨r', g1, g2, g3, g4⟩ := over_run (σ := σ) (cs' := zv.cells) _ hp (by rw [h3]; exact zero_refl h2 h3) h4 hl
      refine ⟨.agg r', ?_, by cases r'; exact .agg g2 g3⟩
      have g1' : Instr.fill (fun i => some (i * e.size, e.size)) zv.cells ps' = some r' := g1
      simp only [Instr.build, Sem.run_bind, h1, Result.andThen_ok, run_und he ht, run_sizeOf' he hel]
      simp [g1']
  · cases h
theorem buildSlice_sim (he : EOk E) (hr : HR E σ H w) {t : TypeId} {n : Nat} {ps ps' : List (Nat × Value)} (hp : PRs σ ps ps') :
    Sim E σ H w (buildSliceA E H t n ps) (do pure (.value (← Instr.buildSlice t n ⟨ps'⟩))) := by
  intro ar H' h hf
  unfold buildSliceA at h
  split at h
  case h_2 => cases h
  rename_i ti elem sz by_ z0 ag ht
  split at h
  case h_2 => cases h
  rename_i dd ed ei eby ez eag hel
  rw [bif_and, bif_beq, bif_ble] at h
  split at h
  case isFalse => cases h
  rename_i hz
  split at h
  case isFalse => cases h
  rename_i hbig
  simp only [Option.map_eq_some_iff] at h
  obtain ⟨l, hl, h⟩ := h
  cases h
  obtain ⟨zv, h1, h2, h3, h4, h5⟩ := run_zero he hel rfl w
  have hzr := zero_refl (σ := σ) h2 h3
  have hzsz : zv.cells.size = ei := by rw [← hz, ← h3]; simp
  have hbig' : n * ei + n ≤ 1000000 := by have : Nat.mul n (Nat.succ ei) = n * ei + n := Nat.mul_succ n ei; omega
  obtain ⟨za, hza, k2⟩ : ∃ za : Array Value, za = (if n * ei = 0 then #[] else zv.cells) ∧
      ((Array.range (n * ei)).map (fun i => za[i % za.size]!)).toList = reps ez n := by
    by_cases h0 : n * ei = 0
    · refine ⟨#[], by simp [h0], ?_⟩
      rw [h0]
      have : (reps ez n).length = 0 := by rw [reps_length, hz, h0]
      simp [List.length_eq_zero_iff.1 this]
    · refine ⟨zv.cells, by simp [h0], ?_⟩
      rw [zeros_eq zv.cells n ei hzsz.symm, h3]
  obtain ⟨r', g1, g2, g3, g4⟩ := over_run (σ := σ) (cs' := (Array.range (n * ei)).map (fun i => za[i % za.size]!)) _ hp (by rw [k2]; exact reps_refl hzr n) (reps_one h4 n) hl
  have g1' : Instr.fill (fun i => some (i * ei, ei)) ((Array.range (n * ei)).map (fun i => za[i % za.size]!)) ps' = some r' := g1
  have hf' := hf.head (Nat.lt_succ_self _)
  obtain ⟨L, q1, q2, q3, q4, q5⟩ := new_cells' hr hf' (el := elem) g2 g3
  refine ⟨_, _, .value (.slice (some ⟨w.heap.size, 0, none⟩) n n), ?_, q5, ?_⟩
  · have hnb : ¬ n * ei > 2 ^ 24 := by omega
    by_cases h0 : n * ei = 0
    · rw [if_pos h0] at hza; subst hza
      simp only [Instr.buildSlice, Sem.run_bind, run_und he ht, Result.andThen_ok, run_sizeOf' he hel, if_neg hnb, if_pos h0, Sem.run_pure, g1']
      simp [newRow, World.push]
    · rw [if_neg h0] at hza; subst hza
      simp only [Instr.buildSlice, Sem.run_bind, run_und he ht, Result.andThen_ok, run_sizeOf' he hel, if_neg hnb, if_neg h0, Sem.run_pure, h1, g1']
      simp [newRow, World.push]
  · have hn : n < capX := by unfold capX; omega
    by_cases h0 : n = 0
    · have := VR.sliceE (σ := σ.add H.next L) (i := 0) (l := n) (c := n) Sig.add_self (Nat.le_refl _) hn
      rw [q1, q2] at this
      subst h0
      exact this
    · have := VR.sliceX (σ := σ.add H.next L) (b := H.next) (i := 0) (l := n) (c := n) Sig.add_self (Nat.le_refl _) hn (by rw [q3, q4 _ hel, g4, reps_length, hz]; simp)
      rw [q1, q2] at this
      have hb : Nat.beq n 0 = false := by
        cases hc : Nat.beq n 0 with
        | false => rfl
        | true => exact absurd (Nat.eq_of_beq_eq_true hc) h0
      rw [hb]
      exact this
end
end Go.Am
