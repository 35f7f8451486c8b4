/- The abstract machine: a deterministic, computable run of the model's code over a heap of abstract blocks. Conditions: none; it is a definition. -/
import Derived.Calls
import Derived.Orders
import Derived.Laws.CopyRow
import Derived.Laws.Cells
import Derived.Laws.Entries
import Derived.ChangeKeysEq
set_option linter.unusedVariables false
set_option linter.unusedSimpArgs false
namespace Go.Am
open Go
theorem vE{a b:Nat}(h:Nat.beq a b=true):a=b:=Nat.eq_of_beq_eq_true h
theorem dF{p:Prop}[Decidable p](h:decide p=false):¬p:=of_decide_eq_false h
theorem yB{p:Prop}[Decidable p](h:decide p=true):p:=of_decide_eq_true h
theorem o9{a b:Nat}(h:Nat.ble a b=true):a<=b:=Nat.le_of_ble_eq_true h
theorem bL{a b:Nat}(h:a<=b):Nat.ble a b=true:=Nat.ble_eq_true_of_le h
theorem mC{α:Type}{a:α}(b:α){l:List α}(h:a∈l):a∈b::l:=List.mem_cons_of_mem b h
theorem lR(n:Nat):n<=n:=Nat.le_refl n
theorem lT{a b c:Nat}(h:a<=b)(k:b<=c):a<=c:=Nat.le_trans h k
theorem aE(a b:Bool):((a&&b)=true)=(a=true/\b=true):=Bool.and_eq_true a b
theorem oI{α:Type}(a b:α):(some a=some b)=(a=b):=Option.some.injEq a b
theorem pI{α x:Type}{a c:α}{b d:x}(h:(a,b)=(c,d)):a=c/\b=d:=Prod.mk.inj h
theorem gI{α:Type}{l:List α}{i:Nat}{a:α}(h:l[i]? = some a):∃h:i<l.length,l[i]=a:=List.getElem?_eq_some_iff.1 h
inductive T (α:Type) where
 |leaf
 |node (v:Option α) (l r:T α)
def T.get{α:Type}:T α->Nat->Option α
 |.leaf,_=>none
 |.node v l r,n=>
  bif Nat.beq n 0 then v else bif Nat.beq (Nat.mod n 2) 1 then l.get (Nat.div n 2)else r.get (Nat.pred (Nat.div n 2))
def T.set{α:Type}:Nat->T α->Nat->Option α->T α
 |0,t,_,_=>t
 |d+1,.leaf,n,x=>
  bif Nat.beq n 0 then .node x .leaf .leaf
  else bif Nat.beq (Nat.mod n 2) 1 then .node none (T.set d .leaf (Nat.div n 2) x) .leaf
  else .node none .leaf (T.set d .leaf (Nat.pred (Nat.div n 2)) x)
 |d+1,.node v l r,n,x=>
  bif Nat.beq n 0 then .node x l r
  else bif Nat.beq (Nat.mod n 2) 1 then .node v (T.set d l (Nat.div n 2) x) r
  else .node v l (T.set d r (Nat.pred (Nat.div n 2)) x)
def T.put{α:Type}(t:T α)(n:Nat)(x:Option α):T α:=T.set (n+1) t n x
def T.ofList{α:Type}(t:T α):Nat->List α->T α
 |_,[]=>t
 |n,x::xs=>T.ofList (t.put n (some x)) (n+1) xs
structure TI where
 desc:TypeDesc
 size:Nat
 bytes:Nat
 zero:Option (List Value)
 agg:Bool
structure Fr where
 sz:Nat
 rd:Bool
 t:T Value
inductive AObj where
 |cells (cs:List Value) (elem:TypeId)
 |map (es:List MapEntry) (clock:Nat)
 |siter (s:ByteArray) (pos:Nat)
 |miter (m since:Nat) (seen:List Nat) (last:Nat)
 |loop (state:LoopState) (pending:Option Code) (tmps:Fr) (params:List Tmp) (assign body:Code)
structure ABlk where
 obj:AObj
 root:Nat
 own:Bool
structure Env where
 funcs:T Func
 types:T TI
 prog:Program
 ng:Nat
 /-- blocks that lie there from the beginning, and stay -/
 laid:List (Nat×ABlk):=[]
def rD:Fn->Bool
 |.yield _=>false
 |_=>true
def qE:Value->Bool
 |.agg _|.tuple _=>false
 |_=>true
def zK:Nat->Value->Bool
 |_,.bool _|_,.int _ _|_,.float _ _|_,.complex _ _ _|_,.string _=>true
 |_,.pointer a=>a.isNone
 |_,.slice a l c=>a.isNone&&Nat.beq l 0&&Nat.beq c 0
 |_,.map r=>r.isNone
 |_,.nilFunc|_,.nilIface=>true
 |n+1,.iface _ v=>zK n v
 |n+1,.agg cs=>cs.toList.all λc=>qE c&&zK n c
 |n+1,.tuple cs=>cs.toList.all (zK n)
 |_,_=>false
abbrev zF:Value->Bool:=zK 6
def qPG(d:TypeDesc):Bool:=match d with
 |.struct _|.array _ _=>true
 |_=>false
def qBC(ag:Bool)(size:Nat)(v:Value):Bool:=
 zF v&&v.cells.toList.all qE&&Nat.beq v.cells.toList.length size&&(match v with|.agg _=>ag|v=>!ag&&qE v)
def qE6(i:TypeInfo)(d:TypeDesc):TI:=
  { desc:=d,size:=i.size,bytes:=i.bytes
    zero:=match i.zero with|some v=>bif qBC (qPG d) i.size v then some v.cells.toList else none|none=>none
    agg:=qPG d}
def pU(ag:Bool)(z:List Value):Option Value:=match ag,z with
 |true,z=>some (.agg ⟨z⟩)
 |false,[v]=>some v
 |_,_=>none
def eS(P:Program):List TypeInfo->Nat->T TI->T TI
 | [],_,t=>t
 |i::h,n,t=>eS P h (n+1) (match P.underlying n with|some d=>t.put n (some (qE6 i d))|none=>t)
def dS(o:Oper):List Nat:=o.after.toList.filterMap λe=>match e.ground with
 |.textOnly _|.gcOnly _=>none
 |_=>some e.on
def qAd(acc:List Nat):List Nat->Nat->Nat
 | [],m=>m
 |p::h,m=>qAd acc h (Nat.lor m (Nat.lor (Nat.shiftLeft 1 p) (acc.getD p 0)))
def bH(acc:List Nat):List Oper->List Nat
 | []=>acc
 |o::h=>bH (acc++[qAd acc (dS o) 0]) h
def kI(ops:List Oper):List Nat:=bH [] ops
def pS(h:List Nat)(j i:Nat):Bool:=Nat.testBit (h.getD i 0) j
def rG(h:List Nat)(j i:Nat):Bool:=bif Nat.blt j i then pS h j i else pS h i j
def fS:Op->Bool
 |.extract _ _=>true
 |.move _=>true
 |.assign _=>true
 |_=>false
def xF(ops:List Oper)(i:Nat):Bool:=match ops[i]? with
 |some o=>fS o.op
 |none=>false
def yT(ops:List Oper)(i:Nat):Bool:=
 let h:=kI ops
 !xF ops i&&(List.range ops.length).all λj=>Nat.beq j i||rG h j i||xF ops j
def qIl(xs:List Operand):List Tmp:=xs.filterMap fun
 |.tmp t=>some t
 |_=>none
def lH(ops:List Oper)(o:Oper):List Tmp:=
 o.dst.toList++qIl o.op.operands.toList++(match o.guard with
  |some (j,_)=>((ops[j]?).bind (·.dst)).toList
  |none=>[])
def bD(ops:List Oper):Bool:=
 let h:=kI ops
 ops.zipIdx.all λ(o,i)=>(dS o).all (λp=>Nat.blt p i)&&ops.zipIdx.all λ(p,k)=>Nat.beq k i||(match p.dst with
  |none=>true
  |some d=>!(lH ops o).contains d||rG h k i)
def zP:Code->Bool
 |.region _ ops draw=>!draw||bD ops.toList
 |.seq a b=>zP a&&zP b
 |.cond _ a b=>zP a&&zP b
 |.block _ b=>zP b
 |.loop b=>zP b
 |.scope b=>zP b
 |.rangeFunc _ _ a b=>zP a&&zP b
 |_=>true
def gS:List Func->Nat->T Func->T Func
 | [],_,t=>t
 | f :: h, n, t => gS h (n + 1) (match f.body with | some c => bif f.name == "runtime.NumGoroutine" || !zP c then t else t.put n (some f) | none => t)
def qHD(P:Program):Env:={prog:=P,ng:=P.globals.size,funcs:=gS P.funcs.toList 0 .leaf,types:=eS P P.types.toList 0 .leaf}
structure AH where
 blocks:T ABlk
 next:Nat
 low:Nat
def qT:Nat:=9223372036854775808
def AH.new(H:AH)(o:AObj):AH:={blocks:=H.blocks.put H.next (some ⟨o,H.next,true⟩),next:=Nat.succ H.next,low:=H.low}
def AH.write(H:AH)(b:Nat)(k:ABlk)(o:AObj):AH:={blocks:=H.blocks.put b (some {k with obj:=o}),next:=H.next,low:=Nat.min H.low k.root}
def AH.move(H:AH)(b:Nat)(k:ABlk)(x:AObj):AH:=
 {blocks:=(H.blocks.put b none).put H.next (some ⟨x,k.root,true⟩),next:=Nat.succ H.next,low:=Nat.min H.low k.root}
def take?(l:List Value)(n:Nat):Option (List Value):=match n,l with
 |0,_=>some []
 |_+1,[]=>none
 |n+1,x::l=>(take? l n).map (x :: ·)
def AH.loads(H:AH)(b i n:Nat):Option (List Value):=
 match H.blocks.get b with
 |some ⟨.cells cs _,_,_⟩=>take? (cs.drop i) n
 |_=>none
def j4:List Value->Nat->List Value->Option (List Value)
 |cs,0,[]=>some cs
 | [],0,_::_=>none
 |_::cs,0,v::vs=>(j4 cs 0 vs).map (v :: ·)
 | [],_+1,_=>none
 |c::cs,i+1,vs=>(j4 cs i vs).map (c :: ·)
def AH.stores(H:AH)(b i:Nat)(vs:List Value):Option AH:=
 match H.blocks.get b with
 |some ⟨.cells cs el,r,true⟩=>(j4 cs i vs).map λcs'=>H.write b ⟨.cells cs el,r,true⟩ (.cells cs' el)
 |_=>none
def qS{α:Type}(P:Program):Sem α->Option α
 |.pure a=>some a
 |.program k=>qS P (k P)
 |.mark _ k=>qS P k
 |_=>none
def ev(E:Env)(fr:Fr):Operand->Option Value
 |.tmp t=>fr.t.get t
 |.const v=>bif zF v then some v else none
 |.global g=>bif Nat.ble (g+1) E.ng then some (.pointer (some ⟨g,0,none⟩))else none
 |.func f=>some (.func (.func f) #[] #[])
def rO(E:Env)(fr:Fr):List Operand->Option (List Value)
 | []=>some []
 |x::xs=>match ev E fr x with
  |none=>none
  |some v=>(rO E fr xs).map (v :: ·)
inductive AR where
 |val (v:Value)
 |skip
 |rcv
 |enter (f:FuncId) (args:List Value)
 |round (l:Nat) (args:List Value)
abbrev gC:=Option (AR×AH)
def one(H:AH)(v:Option Value):gC:=v.map λv=>(.val v,H)
def flat?(v:Option Value):Option Value:=match v with
 |some v=>bif zF v then some v else none
 |none=>none
def qAT(E:Env)(t:TypeId)(a b:Value):Bool:=
 match E.types.get t,a,b with
 |some {desc:=.pointer _,..},.pointer none,.pointer (some _)=>true
 |some {desc:=.pointer _,..},.pointer (some _),.pointer none=>true
 |some {desc:=.slice _,..},.slice none _ _,.slice (some _) _ _=>true
 |some {desc:=.slice _,..},.slice (some _) _ _,.slice none _ _=>true
 |some {desc:=.map _ _,..},.map none,.map (some _)=>true
 |some {desc:=.map _ _,..},.map (some _),.map none=>true
 |some {desc:=.func _ _ _,..},.nilFunc,.func _ _ _=>true
 |some {desc:=.func _ _ _,..},.func _ _ _,.nilFunc=>true
 |some {desc:=.interface _,..},.nilIface,.iface _ _=>true
 |some {desc:=.interface _,..},.iface _ _,.nilIface=>true
 |_,_,_=>false
def qD6(E:Env)(t:TypeId)(a b:Value):Bool:=
 match E.types.get t,a,b with
 |some {desc:=.pointer h,..},.pointer (some ⟨b,o,none⟩),.pointer (some ⟨y,x,none⟩)=>(E.types.get h).isSome&&Nat.beq b y&&Nat.beq o x
 |_,_,_=>false
def oW(E:Env)(op:BinOp)(t:TypeId)(x y:Operand)(a b:Value):Option Value:=
 match op,a,b with
 |.add,.int k m,.int k' n=>if k=k' then some (.int k (k.wrap (m+n)))else none
 |.sub,.int k m,.int k' n=>if k=k' then some (.int k (k.wrap (m-n)))else none
 |.mul,.int k m,.int k' n=>if k=k' then some (.int k (k.wrap (m*n)))else none
 |.eql,.int k m,.int k' n=>if k=k' then some (.bool (m==n))else none
 |.neq,.int k m,.int k' n=>if k=k' then some (.bool (m != n))else none
 |.lss,.int k m,.int k' n=>if k=k' then some (.bool (m<n))else none
 |.leq,.int k m,.int k' n=>if k=k' then some (.bool (m<=n))else none
 |.gtr,.int k m,.int k' n=>if k=k' then some (.bool (m>n))else none
 |.geq,.int k m,.int k' n=>if k=k' then some (.bool (m≥n))else none
 | op,a,b=>
  bif zF a&&zF b then flat? (qS E.prog (do eqGuard op t x y a b;binOp op t a b))
  else bif qD6 E t a b then(match op with
   |.eql=>some (.bool true)
   |.neq=>some (.bool false)
   |_=>none)
  else bif qAT E t a b then(match op with
   |.eql=>some (.bool false)
   |.neq=>some (.bool true)
   |_=>none)
  else none
def nat?: Value->Option Nat
 |.int _ (.ofNat n)=>some n
 |_=>none
def qBz(b i n:Nat):Option Addr:=some ⟨b,Nat.add i n,none⟩
def qAk(E:Env)(t:TypeId)(x:Value)(i:Nat):Option Value:=
 match E.types.get t,x with
 |some {desc:=.array len h,..},.pointer (some ⟨b,o,none⟩)=>
  (E.types.get h).bind λe=>bif Nat.ble (i+1) len then some (.pointer (qBz b o (Nat.mul i e.size)))else none
 |some {desc:=.slice h,..},.slice (some ⟨b,o,none⟩) len _=>
  (E.types.get h).bind λe=>bif Nat.ble (i+1) len then some (.pointer (qBz b o (Nat.mul i e.size)))else none
 |_,_=>none
def aG(E:Env)(s:TypeId)(x:Value)(f:Nat):Option Value:=
 match E.types.get s,x with
 |some {desc:=.struct y,..},.pointer (some ⟨b,o,none⟩)=>
  match y[f]? with
  |some h=>(E.types.get h.type).bind λe=>bif Nat.beq e.size 0 then none else some (.pointer (qBz b o h.offset))
  |none=>none
 |_,_=>none
def k9(E:Env)(H:AH)(t:TypeId)(a:Value):Option Value:=
 match E.types.get t,a with
 | some h,.pointer (some ⟨b,o,none⟩)=>
  bif h.agg then(H.loads b o h.size).map λl=>.agg ⟨l⟩
  else match H.loads b o 1 with
   |some [v]=>some v
   |_=>none
 |_,_=>none
def kD(E:Env)(H:AH)(t:TypeId)(a v:Value):Option AH:=
 match E.types.get t,a with
 |some h,.pointer (some ⟨b,o,none⟩)=>
  let cs:=v.cells.toList
  bif Nat.beq cs.length h.size then H.stores b o cs else none
 |_,_=>none
def hZ(E:Env)(t:TypeId)(cs:List Value)(off:Nat):Option Value:=
 (E.types.get t).bind λh=>
  bif h.agg then(take? (cs.drop off) h.size).map λl=>.agg ⟨l⟩else(cs[off]?)
def parts?(E:Env)(fr:Fr):List (Nat×Operand)->Option (List (Nat×Value))
 | []=>some []
 |(i,x)::xs=>match ev E fr x with
  |none=>none
  |some (.tuple _)=>none
  |some v=>(parts? E fr xs).map ((i,v) :: ·)
def dU(cs:List Value):List (Nat×Value)->(Nat->Option (Nat×Nat))->Option (List Value)
 | [],_=>some cs
 | (i,v)::rest,place=>
  match place i with
  |none=>none
  |some (off,size)=>
   let vs:=v.cells.toList
   bif Nat.beq vs.length size then(match j4 cs off vs with|some cs'=>dU cs' rest place|none=>none)else none
def fieldPlace?(E:Env)(h:List Field)(i:Nat):Option (Nat×Nat):=
 match h[i]? with
 |some f=>(E.types.get f.type).map λt=>(f.offset,t.size)
 |none=>none
def aN(E:Env)(t:TypeId)(h:List (Nat×Value)):Option Value:=
 match E.types.get t with
 |some {desc:=.struct y,zero:=some z,..}=>(dU z h (fieldPlace? E y.toList)).map λl=>.agg ⟨l⟩
 |some {desc:=.array _ x,zero:=some z,..}=>
  (E.types.get x).bind λe=>(dU z h (λi=>some (Nat.mul i e.size,e.size))).map λl=>.agg ⟨l⟩
 |_=>none
def xG(z:List Value):Nat->List Value
 |0=>[]
 |n+1=>z++xG z n
def wX(E:Env)(H:AH)(t:TypeId)(len:Nat)(x:List (Nat×Value)):gC:=
 match E.types.get t with
 | some {desc:=.slice h,..}=>match E.types.get h with
  | some {size:=size,zero:=some z,..}=>
   bif Nat.beq z.length size&&Nat.ble (Nat.mul len (Nat.succ size)) 1000000 then
    (dU (xG z len) x (λi=>some (Nat.mul i size,size))).map λl=>
     (.val (.slice (some ⟨H.next,0,none⟩) len (bif Nat.beq len 0 then 0 else qT)),H.new (.cells l h))
   else none
  |_=>none
 |_=>none
def oR(H:AH)(size n:Nat):Value->Option (List Value)
 |.slice (some ⟨b,o,none⟩) len _=>bif Nat.beq n 0 then some []else bif Nat.ble n len then H.loads b o (Nat.mul n size)else none
 |.slice none _ _=>bif Nat.beq n 0 then some []else none
 |.string s=>bif Nat.beq size 1&&Nat.ble n s.size then some ((s.data.toList.take n).map λb=>.int .u8 b.toNat)else none
 |_=>none
def qG1:Value->Option Nat
 |.slice _ n _=>some n
 |.string s=>some s.size
 |_=>none
def pK(H:AH)(h e:TI)(x:Value):Option (Nat×List Value):=
 match h.desc with
 |.int _=>match x,e.zero with
  |.int _ (.ofNat n),some z=>some (n,xG z n)
  |_,_=>none
 |_=>match qG1 x with
  |some n=>(oR H e.size n x).map λcs=>(n,cs)
  |none=>none
def jV(E:Env)(H:AH)(y:List TypeId)(s x:Value):gC:=
 match y,s with
 | t::xt::_,.slice base len cap=>
  match E.types.get t,E.types.get xt with
  | some {desc:=.slice h,..},some c=>
   match E.types.get h with
   | some e=>match e.zero,pK H c e x with
    | some _,some (n,new)=>
     bif Nat.ble (Nat.mul (Nat.add (Nat.mul 4 (Nat.add len n)) 4000) (Nat.succ e.bytes)) 100000000000 then
     bif Nat.beq n 0 then some (.val s,H)else
      match base with
      |none=>some (.val (.slice (some ⟨H.next,0,none⟩) (Nat.add len n) qT),H.new (.cells new h))
      | some ⟨b,o,none⟩=>
       bif Nat.ble qT cap then
        match H.blocks.get b,oR H e.size len s with
        |some ⟨.cells cs el,r,true⟩,some old=>bif Nat.beq el h&&Nat.beq (Nat.mod o e.size) 0 then some (.val (.slice (some ⟨H.next,0,none⟩) (Nat.add len n) qT),H.move b ⟨.cells cs el,r,true⟩ (.cells ((old++new)++cs.drop (Nat.add o (Nat.mul (Nat.add len n) e.size))) el))else none
        |_,_=>none
       else bif Nat.ble (Nat.add len n) cap then(H.stores b (Nat.add o (Nat.mul len e.size)) new).map λH'=>(.val (.slice (some ⟨b,o,none⟩) (Nat.add len n) cap),H')
       else match oR H e.size len s with
        |some old=>some (.val (.slice (some ⟨H.next,0,none⟩) (Nat.add len n) qT),H.new (.cells (old++new) h))
        |none=>none
      |_=>none
     else none
    |_,_=>none
   |none=>none
  |_,_=>none
 |_,_=>none
def kV(v:Option Value)(d:Nat):Option Nat:=match v with
 |none=>some d
 |some v=>nat? v
def oE(E:Env)(H:AH)(t:TypeId)(x:Value)(lo c mx:Option Value):Option Value:=
 match E.types.get t,x with
 |some {desc:=.array n y,..},.pointer (some ⟨b,o,none⟩)=>
  match kV lo 0,kV c n,kV mx n,E.types.get y with
  |some l,some h,some m,some e=>bif Nat.ble l h&&Nat.ble h m&&Nat.ble m n&&Nat.ble n 1000000&&(mx.isNone||c.isSome)then some (.slice (some ⟨b,bif Nat.beq m l then o else Nat.add o (Nat.mul l e.size),none⟩) (Nat.sub h l) (Nat.sub m l))else none
  |_,_,_,_=>none
 | some {desc:=.slice y,..},.slice a len cap=>
  match kV lo 0,kV c len,E.types.get y with
  | some l,some h,some e=>
   match a with
   |none=>bif Nat.beq l 0&&Nat.beq h 0&&Nat.beq len 0&&Nat.beq cap 0&&((match kV mx 0 with|some m=>Nat.beq m 0|none=>false)&&(mx.isNone||c.isSome))then some (.slice none 0 0)else none
   | some ⟨b,o,none⟩=>
    match mx with
    |some m=>match nat? m with
     |some m=>bif Nat.ble l h&&Nat.ble h m&&Nat.ble m len&&c.isSome then some (.slice (some ⟨b,bif Nat.beq m l then o else Nat.add o (Nat.mul l e.size),none⟩) (Nat.sub h l) (Nat.sub m l))else none
     |none=>none
    | none=>
     bif Nat.ble l h then
      (bif Nat.ble qT cap then
       match H.blocks.get b with
       |some ⟨.cells cs el,_,_⟩=>bif Nat.beq el y&&(Nat.ble h len||(Nat.ble 1 e.size&&Nat.ble (Nat.add o (Nat.mul h e.size)) cs.length))then some (.slice (some ⟨b,Nat.add o (Nat.mul l e.size),none⟩) (Nat.sub h l) qT)else none
       |_=>none
      else bif Nat.ble h cap then some (.slice (some ⟨b,bif Nat.beq cap l then o else Nat.add o (Nat.mul l e.size),none⟩) (Nat.sub h l) (Nat.sub cap l))else none)
     else none
   |_=>none
  |_,_,_=>none
 |some {desc:=.string,..},.string s=>
  match kV lo 0,kV c s.size with
  |some l,some h=>bif Nat.ble l h&&Nat.ble h s.size&&mx.isNone then some (.string (s.extract l h))else none
  |_,_=>none
 |_,_=>none
def gK(E:Env)(H:AH)(t:TypeId)(l c:Value):gC:=
 match E.types.get t,nat? l,nat? c with
 | some {desc:=.slice h,..},some l,some c=>match E.types.get h with
  |some {size:=size,zero:=some z,bytes:=bytes,..}=>
   bif Nat.beq z.length size&&Nat.ble l c&&Nat.ble (Nat.mul c (Nat.succ (Nat.add bytes size))) 1000000000 then some (.val (.slice (some ⟨H.next,0,none⟩) l (bif Nat.beq l c then qT else bif Nat.beq l 0 then qT else c)),H.new (.cells (xG z (bif Nat.beq l 0 then 0 else c)) h))
   else none
  |_=>none
 |_,_,_=>none
def qCT(E:Env)(h:TypeId)(k:Value)(es:List MapEntry):Option (Option (Nat×Value)):=
 bif zF k then qS E.prog (do Instr.checkKey es.isEmpty 10000 h k;Instr.findKey h k es)else none
def qEd(H:AH)(x:Value):Option (List MapEntry):=
 match x with
 |.map none=>some []
 |.map (some r)=>match H.blocks.get r with
  |some ⟨.map es _,_,_⟩=>some es
  |_=>none
 |_=>none
def rB(E:Env)(H:AH)(t:TypeId)(x k:Value)(ok:Bool):Option Value:=
 match E.types.get t,qEd H x with
 | some {desc:=.map h y,..},some es=>match qCT E h k es,E.types.get y with
  |some (some (_,v)),_=>some (bif ok then .tuple #[v,.bool true]else v)
  |some none,some {zero:=some z,agg:=agg,..}=>match pU agg z with
   |some v=>some (bif ok then .tuple #[v,.bool false]else v)
   |none=>none
  |_,_=>none
 |_,_=>none
def modify(l:List MapEntry)(i:Nat)(k v:Value):List MapEntry:=match l,i with
 | [],_=>[]
 |e::es,0=>{e with key:=k,val:=v}::es
 |e::es,i+1=>e::modify es i k v
def pW(E:Env)(H:AH)(t:TypeId)(m k v:Value):Option AH:=
 match E.types.get t,m with
 | some {desc:=.map x _,..},.map (some r)=>match H.blocks.get r with
  | some ⟨.map es h,rt,true⟩=>bif zF k then match qS E.prog (do Instr.checkKey false 10000 x k;Instr.findKey x k es)with
   |some (some (i,_))=>match es[i]? with
    |some e=>bif Instr.sameBits 10000 e.key k then some (H.write r ⟨.map es h,rt,true⟩ (.map (modify es i k v) h))else none
    |none=>none
   |some none=>some (H.write r ⟨.map es h,rt,true⟩ (.map (es++[{key:=k,val:=v,born:=h}]) (h+1)))
   |none=>none else none
  |_=>none
 |_,_=>none
def uF(E:Env)(H:AH)(t:TypeId)(m k:Value):Option AH:=none
def qAU(H:AH)(y:Value)(h:Bool):gC:=
 match y,h with
 | .pointer (some ⟨r,0,none⟩),true=>match H.blocks.get r with
  | some ⟨.siter s x,rt,true⟩=>
   bif Nat.ble (x+1) s.size then
    let (c,width):=Utf8.decode s x
    some (.val (.tuple #[.bool true,goInt x,.int .i32 c]),H.write r ⟨.siter s x,rt,true⟩ (.siter s (x+width)))
   else some (.val (.tuple #[.bool false]),H)
  |_=>none
 |_,_=>none
def qFT(H:AH)(y:Value):Option Value:=
 match y with
 | .pointer (some ⟨r,0,none⟩)=>match H.blocks.get r with
  | some ⟨.miter m _ seen x,_,true⟩=>match H.blocks.get m with
   | some ⟨.map es h,_,_⟩=>bif Nat.beq h x then match seen.getLast? with
    |some b=>match es.find? (λe=>e.born==b)with
     |some e=>some (.tuple #[e.key,e.val])
     |none=>none
    |none=>none else none
   |_=>none
  |_=>none
 |_=>none
def qG0(E:Env)(H:AH)(ats:List TypeId)(x:Value):Option Value:=
 match ats with
 | []=>none
 | t::_=>match E.types.get t with
  |none=>none
  | some h=>match h.desc,x with
   |.string,.string s=>some (goInt s.size)
   |.slice _,.slice _ n _=>some (goInt n)
   |.map _ _,x=>(qEd H x).map λes=>goInt es.length
   |.array n _,_=>some (goInt n)
   |.pointer a,_=>match E.types.get a with
    |some {desc:=.array n _,..}=>some (goInt n)
    |_=>none
   |_,_=>none
def qVV(E:Env)(ats:List TypeId)(x:Value):Option Value:=
 match ats with
 | []=>none
 | t::_=>match E.types.get t with
  |none=>none
  |some h=>match h.desc,x with
   |.slice _,.slice _ _ c=>bif Nat.ble qT c then none else some (goInt c)
   |_,_=>none
def qEH(E:Env)(H:AH)(ats:List TypeId)(dst h:Value):gC:=
 match ats with
 | []=>none
 | t::_=>match E.types.get t with
  |none=>none
  | some c=>match c.desc,dst with
   | .slice x,.slice base y _=>match E.types.get x,qG1 h with
    | some e,some sl=>match oR H e.size (Nat.min sl y) h with
     |none=>none
     | some cs=>
      bif Nat.beq (Nat.min sl y) 0 then some (.val (goInt (Nat.min sl y)),H)
      else match base with
       |some ⟨b,o,none⟩=>(H.stores b o cs).map λH'=>(.val (goInt (Nat.min sl y)),H')
       |_=>none
    |_,_=>none
   |_,_=>none
def qAz(E:Env)(H:AH)(ats:List TypeId)(x:Value):gC:=
 match ats with
 | []=>none
 | t::_=>match E.types.get t with
  |none=>none
  | some y=>match y.desc,x with
   | .slice h,.slice base n _=>match E.types.get h with
    | some {zero:=some z,..}=>
     bif Nat.beq n 0 then some (.val (.tuple #[]),H)
     else match base with
      |some ⟨b,o,none⟩=>(H.stores b o (xG z n)).map λH'=>(.val (.tuple #[]),H')
      |_=>none
    |_=>none
   |_,_=>none
def nA:List Value->Option (List UInt8)
 | []=>some []
 |.int .u8 b::vs=>(nA vs).map (UInt8.ofNat b.toNat :: ·)
 |_=>none
def wF(E:Env)(H:AH)(ats:List TypeId)(p l:Value):gC:=none
def xR(E:Env)(H:AH)(b:Builtin)(ats:List TypeId)(args:List Value):gC:=
 match b with
 |.append=>match args with
  | [s,x]=>jV E H ats s x
  |_=>none
 |.len=>match args with
  | [x]=>one H (qG0 E H ats x)
  |_=>none
 |.cap=>match args with
  | [x]=>one H (qVV E ats x)
  |_=>none
 |.unsafeSliceData=>match args with
  | [.slice none _ _]=>some (.val (.pointer none),H)
  | [.slice (some a) l _]=>bif Nat.ble 1 l then some (.val (.pointer (some a)),H)else none
  |_=>none
 |.unsafeString=>match ats,args with
  |t::r,[p,l]=>wF E H (t::r) p l
  |_,_=>none
 |.copy=>match args with
  | [d,s]=>qEH E H ats d s
  |_=>none
 |.clear=>match args with
  | [x]=>qAz E H ats x
  |_=>none
 |.delete=>match ats,args with
  |t::_,[m,k]=>(uF E H t m k).map λH'=>(.val (.tuple #[]),H')
  |_,_=>none
 |.min=>bif args.all zF then one H (flat? (qS E.prog (Builtin.min_ #[] 0 ⟨args⟩)))else none
 |.max=>bif args.all zF then one H (flat? (qS E.prog (Builtin.max_ #[] 0 ⟨args⟩)))else none
 |.recover=>match args with
  | []=>some (.rcv,H)
  |_=>none
 |_=>none
def qBk(d:TypeDesc)(h:Bool):Bool:=match d with
 |.pointer _=>h
 |_=>!h
def rA(E:Env)(v:Value)(h:String):Option (FuncId×Value):=
 match v with
 | .iface t x=>match E.prog.info? t,E.types.get t with
  | some i,some y=>match i.methods.find? (·.name==h)with
   |some {path:=p,func:=some (f,ptr),..}=>
    bif Nat.beq p.toList.length 0&&qBk y.desc ptr then some (f,x)else none
   |_=>none
  |_,_=>none
 |_=>none
def rY(E:Env)(H:AH)(f:FuncId)(h:List Value):gC:=
 match E.funcs.get f with
 |some _=>some (.enter f h,H)
 |none=>none
def kM: String := (Extern.AbiNoEscape.rows.map (·.1)).headD ""
def mA: String := (Extern.BytealgMakeNoZero.typedRows.map (·.1)).headD ""
def qBm(E:Env)(H:AH)(fn:Func)(n:Nat):gC:=none
def qUi(E:Env)(H:AH)(f:FuncId)(args:List Value):gC:=
 match args with
 | [.int .i64 (.ofNat n)]=>match E.prog.funcs[f]? with
  | some fn=>bif fn.name==mA&&fn.body.isNone&&(Extern.findNext fn).isNone then qBm E H fn n
   else match qS E.prog (callFunc f ⟨[.int .i64 (.ofNat n)]⟩)with
    |some (.value v)=>one H (flat? (some v))
    |_=>none
  |none=>none
 | [.pointer (some a)]=>match E.prog.funcs[f]? with
  |some fn=>bif fn.name==kM&&fn.body.isNone&&(Extern.findNext fn).isNone then some (.val (.pointer (some a)),H)else none
  |none=>none
 |args=>bif args.all zF then match qS E.prog (callFunc f ⟨args⟩)with
  |some (.value v)=>one H (flat? (some v))
  |_=>none
 else none
def oU(E:Env)(H:AH)(f:FuncId)(h:List Value):gC:=
 match E.funcs.get f with
 |some _=>some (.enter f h,H)
 |none=>qUi E H f h
def yL(E:Env)(fr:Fr)(H:AH)(c:Call):gC:=
 match rO E fr c.args.toList with
 |none=>none
 | some h=>match c.callee with
  |.builtin b=>xR E H b c.argTypes.toList h
  | .invoke r y=>match ev E fr r with
   |some v=>match rA E v y with
    |some (f,x)=>rY E H f (x::h)
    |none=>none
   |none=>none
  | .value f=>match ev E fr f with
   |some (.func (.func g) first cap)=>oU E H g (first.toList++h++cap.toList)
   |some (.func (.yield l) _ _)=>match H.blocks.get l with
    |some ⟨.loop _ _ _ e _ _,_,_⟩=>bif Nat.beq e.length h.length then some (.round l h,H)else none
    |_=>none
   | some (.func (.method y) first _)=>match first.toList++h with
    |v::rest=>match rA E v y with
     |some (f,x)=>rY E H f (x::rest)
     |none=>none
    | []=>none
   | some (.func (.methodOf t y) first _)=>match first.toList++h with
    | v::rest=>
     let v':=match E.types.get t with
      |some {desc:=.interface _,..}=>some v
      |some _=>some (.iface t v)
      |none=>none
     match v' with
     |some v'=>match rA E v' y with
      |some (f,x)=>rY E H f (x::rest)
      |none=>none
     |none=>none
    | []=>none
   |_=>none
def lS:List Value->Option (List UInt8)
 | []=>some []
 |.int .i32 n::vs=>(lS vs).map ((Utf8.encode n).data.toList ++ ·)
 |_=>none
def l7(E:Env)(H:AH)(s d:TypeId)(v:Value)(n:Nat):Option Value:=
 match E.types.get s,E.types.get d,oR H 1 n v with
 |some {desc:=.slice e,..},some {desc:=.string,..},some cs=>match E.types.get e with
  |some {desc:=.int .u8,..}=>(nA cs).map λl=>.string ⟨⟨l⟩⟩
  |some {desc:=.int .i32,..}=>(lS cs).map λl=>.string ⟨⟨l⟩⟩
  |_=>none
 |_,_,_=>none
def mK(E:Env)(H:AH)(e:TypeId)(b:ByteArray):gC:=
 match E.types.get e with
 |some {desc:=.int .u8,size:=sz,..}=>
  bif Nat.beq sz 1&&Nat.ble b.data.toList.length 1000000000 then some (.val (.slice (some ⟨H.next,0,none⟩) b.data.toList.length qT),H.new (.cells (b.data.toList.map λx=>.int .u8 x.toNat) e))
  else none
 |_=>none
def qDP(E:Env)(H:AH)(s d:TypeId)(a:Addr):gC:=none
def nN(E:Env)(y:TI)(h:TypeId)(v:Value):Option (Option Value):=
 match y.desc,v with
 | .interface x,.iface t u=>match E.prog.info? t with
  |some i=>match Instr.missingMethod x i.methods with
   |none=>some (some (.iface t u))
   |some _=>some none
  |none=>none
 |.interface _,.nilIface=>some none
 |.interface _,_=>none
 |_,.iface t u=>if t=h then some (some u)else some none
 |_,.nilIface=>some none
 |_,_=>none
def vT(E:Env)(fr:Fr)(o:Oper)(H:AH):gC:=
 match o.op with
 |.move x|.assign x=>one H (ev E fr x)
 |.pick c a b=>match ev E fr c with
  |some (.bool true)=>one H (ev E fr a)
  |some (.bool false)=>one H (ev E fr b)
  |_=>none
 |.alloc t=>match E.types.get t with
  |some {zero:=some z,..}=>some (.val (.pointer (some ⟨H.next,0,none⟩)),H.new (.cells z t))
  |_=>none
 |.box t x=>match ev E fr x with
  |some (.tuple _)=>none
  |some v=>some (.val (.pointer (some ⟨H.next,0,none⟩)),H.new (.cells v.cells.toList t))
  |none=>none
 |.build t p=>match parts? E fr p.toList with
  |some p=>one H (aN E t p)
  |none=>none
 |.buildSlice t n p=>match parts? E fr p.toList with
  |some p=>wX E H t n p
  |none=>none
 |.load t a=>match ev E fr a with
  |some v=>one H (k9 E H t v)
  |none=>none
 |.store t a x=>match ev E fr a,ev E fr x with
  |some _,some (.tuple _)=>none
  |some a,some v=>(kD E H t a v).map λH'=>(.skip,H')
  |_,_=>none
 |.nilCheck x=>match ev E fr x with
  |some (.pointer (some a))=>some (.val (.pointer (some a)),H)
  |some (.iface t v)=>some (.val (.iface t v),H)
  |some (.func (.func f) a b)=>some (.val (.func (.func f) a b),H)
  |some (.func (.yield f) a b)=>some (.val (.func (.yield f) a b),H)
  |_=>none
 |.binOp A t x y _=>match ev E fr x,ev E fr y with
  |some a,some b=>one H (oW E A t x y a b)
  |_,_=>none
 |.unOp A _ x=>match ev E fr x with
  |some v=>bif zF v then one H (flat? (qS E.prog (Op.unary A v)))else none
  |none=>none
 | .convert s d x=>match ev E fr x with
  |some (.slice a n c)=>one H (l7 E H s d (.slice a n c) n)
  |some (.pointer (some a))=>qDP E H s d a
  |some (.string b)=>match E.types.get s,E.types.get d with
   |some {desc:=.string,..},some {desc:=.slice e,..}=>mK E H e b
   |_,_=>one H (flat? (qS E.prog (Go.convert s d (.string b))))
  |some v=>bif zF v then one H (flat? (qS E.prog (Go.convert s d v)))else none
  |none=>none
 |.makeInterface t x=>match E.types.get t,ev E fr x with
  |some {desc:=.interface _,..},_=>none
  |some _,some v=>one H (some (.iface t v))
  |_,_=>none
 |.makeFunc fn first cap=>match rO E fr first.toList,rO E fr cap.toList with
  |some f,some c=>one H (if rD fn then some (.func fn ⟨f⟩ ⟨c⟩)else none)
  |_,_=>none
 |.makeMap _ none=>some (.val (.map (some H.next)),H.new (.map [] 0))
 |.makeMap t (some x)=>match E.types.get t,ev E fr x with
  |some {desc:=.map _ _,..},some (.int _ _)=>some (.val (.map (some H.next)),H.new (.map [] 0))
  |_,_=>none
 |.makeSlice t l c=>match ev E fr l,ev E fr c with
  |some l,some c=>gK E H t l c
  |_,_=>none
 |.slice t x lo C mx=>
  match ev E fr x,rO E fr lo.toList,rO E fr C.toList,rO E fr mx.toList with
  |some x,some lo,some C,some mx=>one H (oE E H t x lo.head? C.head? mx.head?)
  |_,_,_,_=>none
 |.fieldAddr s x f=>match ev E fr x with
  |some v=>one H (aG E s v f)
  |none=>none
 | .field t x f=>match ev E fr x,E.types.get t with
  |some (.agg cs),some {desc:=.struct I,..}=>match I[f]? with
   |some F=>one H (hZ E F.type cs.toList F.offset)
   |none=>none
  |_,_=>none
 |.indexAddr t x i=>match ev E fr x,(ev E fr i).bind nat? with
  |some v,some i=>one H (qAk E t v i)
  |_,_=>none
 | .index t x i=>match ev E fr x,(ev E fr i).bind nat?,E.types.get t with
  |some (.string s),some i,some {desc:=.string,..}=>match s.data.toList[i]? with
   |some b=>one H (some (.int .u8 b.toNat))
   |none=>none
  |some (.agg cs),some i,some {desc:=.array len j,..}=>match E.types.get j with
   |some e=>bif Nat.ble (i+1) len then one H (hZ E j cs.toList (Nat.mul i e.size))else none
   |none=>none
  |_,_,_=>none
 |.lookup t x k ok=>match ev E fr x,ev E fr k with
  |some x,some k=>one H (rB E H t x k ok)
  |_,_=>none
 |.mapUpdate t m k x|.insert t m k x=>match ev E fr m,ev E fr k,ev E fr x with
  |some m,some k,some v=>(pW E H t m k v).map λH'=>(.skip,H')
  |_,_,_=>none
 | .range t x=>match ev E fr x,E.types.get t with
  |some (.string s),some {desc:=.string,..}=>some (.val (.pointer (some ⟨H.next,0,none⟩)),H.new (.siter s 0))
  |some (.map (some m)),some {desc:=.map _ _,..}=>match H.blocks.get m with
   |some ⟨.map _ g,_,_⟩=>some (.val (.pointer (some ⟨H.next,0,none⟩)),H.new (.miter m g [] g))
   |_=>none
  |_,_=>none
 |.next B r=>match ev E fr B with
  |some v=>qAU H v r
  |none=>none
 |.entry B=>match ev E fr B with
  |some v=>one H (qFT H v)
  |none=>none
 | .typeAssert x _ h ok=>match ev E fr x,E.types.get h with
  | some v,some q=>match nN E q h v with
   |some (some u)=>one H (some (bif ok then .tuple #[u,.bool true]else u))
   |some none=>bif ok then one H (match q.zero with
    |some z=>(pU q.agg z).map λG=>.tuple #[G,.bool false]
    |none=>none)else none
   |none=>none
  |_,_=>none
 |.extract x i=>match ev E fr x with
  |some (.tuple vs)=>one H vs.toList[i]?
  |_=>none
 |.call c=>yL E fr H c
 |_=>none
inductive Cmd where
 |code (c:Code) (fr:Fr)
 |call (f:FuncId) (args:List Value)
 |round (l:Nat) (args:List Value)
inductive AExit where
 |normal
 |exit (id:Nat)
 |ret
inductive Out where
 |ex (e:AExit) (fr:Fr)
 |val (v:Value)
abbrev j9:=Option (Out×AH)
def dH(ops:Array Oper)(fr:Fr)(j:Nat):Option (Option Bool):=
 match ops.toList[j]? with
 |some {dst:=some d,..}=>match fr.t.get d with
  |some (.bool b)=>some (some b)
  |some _=>some none
  |none=>none
 |_=>some none
def vH(ops:Array Oper)(fr:Fr)(o:Oper):Option Bool:=
 match o.guard with
 |none=>some true
 |some (j,want)=>match dH ops fr j with
  |some (some b)=>some (b==want)
  |some none=>some false
  |none=>none
def wR(fr:Fr)(h:Option Tmp)(v:Value):Option Fr:=
 match h with
 |some d=>bif Nat.ble (d+1) fr.sz then some ⟨fr.sz,fr.rd,fr.t.put d (some v)⟩else none
 |none=>some fr
def vL(E:Env)(ih:Cmd->AH->j9)(fr:Fr)(o:Oper)(H:AH):Option (Value×AH):=
 match vT E fr o H with
 |none=>none
 |some (.val v,H')=>some (v,H')
 |some (.skip,H')=>some (.tuple #[],H')
 |some (.rcv,_)=>none
 |some (.enter f h,H')=>match ih (.call f h) H' with
  |some (.val v,H')=>some (v,H')
  |_=>none
 |some (.round l h,H')=>match ih (.round l h) H' with
  |some (.val v,H')=>some (v,H')
  |_=>none
def wW(E:Env)(ih:Cmd->AH->j9)(fr:Fr)(o:Oper)(H:AH):Option (Value×AH):=
 match vT E fr o H with
 |some (.rcv,H')=>bif fr.rd then none else some (.nilIface,H')
 |_=>vL E ih fr o H
def lF(a:Tmp)(p:Oper):Bool:=match p.dst with
 |some d=>!(Nat.beq d a)
 |none=>true
def wV(fr:Fr)(all:List Oper):List Oper->Nat->List (Nat×Nat)
 | [],_=>[]
 | o::h,i=>match o.op with
  |.store _ (.tmp a) _=>match fr.t.get a with
   |some (.pointer (some ⟨b,_,_⟩))=>bif all.all (lF a)then(i,b)::wV fr all h (i+1)else wV fr all h (i+1)
   |_=>wV fr all h (i+1)
  |_=>wV fr all h (i+1)
def qJ(all:List Oper)(i:Nat):List (Nat×Nat)->List Nat
 | []=>[]
 |(j,b)::ts=>bif Nat.beq j i||rG (kI all) j i then qJ all i ts else b::qJ all i ts
def lK(t:T ABlk):List Nat->T ABlk
 | []=>t
 |b::h=>lK (t.put b none) h
def yI(t h:T ABlk):List Nat->T ABlk
 | []=>t
 |b::x=>yI (t.put b (h.get b)) h x
def zR(H:AH)(W:List Nat):AH:={blocks:=lK H.blocks W,next:=H.next,low:=H.next}
def jK(H Q:AH)(W:List Nat):AH:={blocks:=yI Q.blocks H.blocks W,next:=Q.next,low:=Nat.min H.low Q.low}
def qEK(fr:Fr)(c:Call):Option Nat:=match c.callee,c.args.toList with
 |.builtin .append,[.tmp a,_]=>match fr.t.get a with
  |some (.slice (some ⟨b,_,_⟩) _ _)=>some b
  |_=>none
 |_,_=>none
def xO(fr:Fr)(o:Oper)(b:Nat):Bool:=match o.op with
 |.store _ (.tmp a) _=>match fr.t.get a with
  |some (.pointer (some ⟨h,_,_⟩))=>Nat.beq h b
  |_=>false
 |.call c=>match qEK fr c with
  |some h=>Nat.beq h b
  |none=>false
 |_=>false
def nT(fr:Fr):List Oper->Nat->List (Nat×Nat)
 | [],_=>[]
 | o::h,i=>match o.op with
  |.store _ (.tmp a) _=>match fr.t.get a with
   |some (.pointer (some ⟨b,_,_⟩))=>(i,b)::nT fr h (i+1)
   |_=>nT fr h (i+1)
  |_=>nT fr h (i+1)
def gH(fr:Fr):List Oper->Nat->List (Nat×Nat)
 | [],_=>[]
 | o::h,i=>match o.op with
  |.store _ (.tmp a) _=>match fr.t.get a with
   |some (.pointer (some ⟨b,_,_⟩))=>(i,b)::gH fr h (i+1)
   |_=>gH fr h (i+1)
  |.call c=>match qEK fr c with
   |some b=>(i,b)::gH fr h (i+1)
   |none=>gH fr h (i+1)
  |_=>gH fr h (i+1)
def cF(ts:List (Nat×Nat))(i:Nat):Nat->Nat->Bool
 |0,_=>true
 |n+1,lo=>ts.any (λt=>Nat.beq t.1 i&&Nat.beq t.2 lo)&&cF ts i n (Nat.succ lo)
def yY(all:List Oper)(ts:List (Nat×Nat))(i n lo:Nat):Bool:=yT all i||(!xF all i&&cF ts i (Nat.sub n lo) lo)
def pE(E:Env)(ih:Cmd->AH->j9)(ts:List (Nat×Nat))(all:List Oper)(i:Nat)(fr:Fr)(o:Oper)(H:AH):Option (Value×AH):=
 let W:=qJ all i ts
 match vL E ih fr o (zR H W)with
 |some (v,Q)=>bif (Nat.ble H.next Q.low||(W.isEmpty&&(ts.any (λt=>Nat.beq t.1 i&&xO fr o t.2)||yY all ts i H.next Q.low)))&&W.all (λb=>Nat.blt b H.next||Nat.ble Q.next b)then some (v,jK H Q W)else none
 |none=>none
def zM(E:Env)(ih:Cmd->AH->j9)(all:Array Oper)(draw:Bool)(ts:List (Nat×Nat)):List Oper->Nat->Fr->AH->Option (Fr×AH)
 | [],_,fr,H=>some (fr,H)
 | o::x,i,fr,H=>
  match vH all fr o with
  |none=>none
  |some false=>match wR fr o.dst (.tuple #[])with
   |some h=>zM E ih all draw ts x (i+1) h H
   |none=>none
  | some true=>
   match (bif draw then pE E ih ts all.toList i fr o H else wW E ih fr o H)with
   |none=>none
   |some (v,H')=>match wR fr o.dst v with
    |none=>none
    |some h=>zM E ih all draw ts x (i+1) h H'
def qD7(i:Nat):Nat->Nat->List (Nat×Nat)->List (Nat×Nat)
 |0,_,l=>l
 |n+1,lo,l=>(i,lo)::qD7 i n (Nat.succ lo) l
def bW(E:Env)(ih:Cmd->AH->j9)(all:Array Oper):List Oper->Nat->Fr->AH->List (Nat×Nat)
 | [],_,_,_=>[]
 | o::x,i,fr,H=>
  match vH all fr o with
  | some true=>match vL E ih fr o {blocks:=H.blocks,next:=H.next,low:=H.next}with
   |some (v,Q)=>match wR fr o.dst v with
    |some h=>qD7 i (Nat.sub H.next Q.low) Q.low (bW E ih all x (i+1) h Q)
    |none=>[]
   |none=>[]
  |some false=>match wR fr o.dst (.tuple #[])with
   |some h=>bW E ih all x (i+1) h H
   |none=>[]
  |none=>[]
def vI(E:Env)(fr:Fr)(H:AH):List ResultVar->Option (List Value)
 | []=>some []
 |.tmp t::rs=>match fr.t.get t with
  |some v=>(vI E fr H rs).map (v :: ·)
  |none=>none
 |.cell a t::rs=>match (fr.t.get a).bind (k9 E H t)with
  |some v=>(vI E fr H rs).map (v :: ·)
  |none=>none
def wI(fr:Fr):List Tmp->List Value->Option Fr
 | [],[]=>some fr
 |t::ts,v::vs=>match wR fr (some t) v with
  |some h=>wI h ts vs
  |none=>none
 |_,_=>none
def dQ(E:Env)(ih:Cmd->AH->j9)(fr:Fr)(f:Operand)(params:List Tmp)(assign b:Code)(H:AH):j9:=
 match fr.rd,ev E fr f with
 | false,some (.func (.func g) first cap)=>
  match E.funcs.get g,ih (.call g (first.toList++[.func (.yield H.next) #[] #[]]++cap.toList)) (H.new (.loop .ready none ⟨fr.sz,true,fr.t⟩ params assign b))with
  | some _,some (.val _,H2)=>match H2.blocks.get H.next with
   |some ⟨.loop st h t x a b,r,true⟩=>
    if st=.busy then none else
    match h with
    |none=>some (.ex .normal fr,H2.write H.next ⟨.loop st h t x a b,r,true⟩ (.loop .exhausted h t x a b))
    |some c=>ih (.code c fr) (H2.write H.next ⟨.loop st h t x a b,r,true⟩ (.loop .exhausted h t x a b))
   |_=>none
  |_,_=>none
 |_,_=>none
def qEG(E:Env)(fr:Fr)(o:Oper):Option (FuncId×List Value):=match o.op,o.guard with
 | .defer c,none=>match c.callee,rO E fr c.args.toList with
  | .value f,some h=>match ev E fr f with
   |some (.func (.func g) first cap)=>match E.funcs.get g with
    |some _=>some (g,first.toList++h++cap.toList)
    |none=>none
   |_=>none
  |_,_=>none
 |_,_=>none
def gB(E:Env)(ih:Cmd->AH->j9):Code->Fr->AH->Option ((FuncId×List Value)×Fr×AH×Code)
 | .seq (.region _ ops draw) b,fr,H=>
  match zM E ih ops draw (bif draw then wV fr ops.toList ops.toList 0 else[]) ops.toList 0 fr H with
  |some (y,H')=>gB E ih b y H'
  | none=>bif draw then none else match ops.toList.getLast? with
   | some o=>match zM E ih ops false [] ops.toList.dropLast 0 fr H with
    |some (h,H1)=>match qEG E h o,wR h o.dst (.tuple #[])with
     |some d,some x=>some (d,x,H1,b)
     |_,_=>none
    |none=>none
   |none=>none
 |_,_,_=>none
def qDC(E:Env)(rs:List ResultVar)(fr:Fr)(H:AH):j9:=match vI E fr H rs with
 |some [v]=>some (.val v,H)
 |some vs=>some (.val (.tuple ⟨vs⟩),H)
 |none=>none
def qEh(E:Env)(ih:Cmd->AH->j9)(rs:List ResultVar)(g:FuncId)(xs:List Value)(fr:Fr)(H:AH):j9:=
 match E.funcs.get g with
 | some h=>match h.body,h.results.toList with
  |some x,[]=>match ih (.code x ⟨Nat.max h.ntmps xs.length,false,T.ofList .leaf 0 xs⟩) H with
   |some (.ex .normal _,H')=>qDC E rs fr H'
   |some (.ex .ret _,H')=>qDC E rs fr H'
   |_=>none
  |_,_=>none
 |none=>none
def qAx(E:Env)(ih:Cmd->AH->j9)(rs:List ResultVar)(c:Code)(fr:Fr)(H:AH):j9:=
 match gB E ih c fr H with
 |some ((g,xs),x,H1,b)=>match ih (.code b x) H1 with
  |some (.ex .normal h,H2)=>qEh E ih rs g xs h H2
  |some (.ex .ret h,H2)=>qEh E ih rs g xs h H2
  |_=>none
 |none=>none
def xW:AExit->Option Code
 |.normal=>none
 |.exit id=>some (.exit id)
 |.ret=>some .ret
def gJ(E:Env)(ih:Cmd->AH->j9)(l:Nat)(y:List Value)(H:AH):j9:=
 match H.blocks.get l with
 | some ⟨.loop .ready _ j c o k,_,true⟩=>match wI j c y with
  | some fr=>match ih (.code o fr) H with
   | some (.ex .normal g,H1)=>match H1.blocks.get l with
    | some ⟨.loop .ready h t x a b,r,true⟩=>
     match ih (.code k g) (H1.write l ⟨.loop .ready h t x a b,r,true⟩ (.loop .busy h t x a b))with
     | some (.ex e _,i)=>match i.blocks.get l with
      |some ⟨.loop st h t x a b,r,true⟩=>
       some (.val (.bool (xW e).isNone),i.write l ⟨.loop st h t x a b,r,true⟩ (.loop (bif (xW e).isNone then .ready else .done) (xW e) t x a b))
      |_=>none
     |_=>none
    |_=>none
   |_=>none
  |none=>none
 |_=>none
def body(E:Env)(ih:Cmd->AH->j9)(cmd:Cmd)(H:AH):j9:=
 match cmd with
 | .code c fr=>match c with
  |.skip|.label _=>some (.ex .normal fr,H)
  |.ret=>some (.ex .ret fr,H)
  |.exit id=>some (.ex (.exit id) fr,H)
  |.seq a b=>match ih (.code a fr) H with
   |some (.ex .normal h,H')=>ih (.code b h) H'
   |r=>r
  |.cond c a b=>match ev E fr c with
   |some (.bool true)=>ih (.code a fr) H
   |some (.bool false)=>ih (.code b fr) H
   |_=>none
  |.block id b=>match ih (.code b fr) H with
   |some (.ex (.exit y) h,H')=>bif Nat.beq y id then some (.ex .normal h,H')else some (.ex (.exit y) h,H')
   |r=>r
  |.loop b=>match ih (.code b fr) H with
   |some (.ex .normal h,H')=>ih (.code (.loop b) h) H'
   |r=>r
  |.scope b=>ih (.code b fr) H
  | .region _ ops draw=>match zM E ih ops draw (bif draw then wV fr ops.toList ops.toList 0 else[]) ops.toList 0 fr H with
   |some (h,H')=>some (.ex .normal h,H')
   | none=>bif draw then match zM E ih ops false [] ops.toList 0 fr H with
     | some (e,_)=>match zM E ih ops true (nT e ops.toList 0) ops.toList 0 fr H with
      |some (h,H')=>some (.ex .normal h,H')
      | none=>match zM E ih ops true (gH e ops.toList 0) ops.toList 0 fr H with
       |some (h,H')=>some (.ex .normal h,H')
       |none=>match zM E ih ops true (bW E ih ops ops.toList 0 fr H) ops.toList 0 fr H with
        |some (h,H')=>some (.ex .normal h,H')
        |none=>none
     |none=>none
    else none
  |.rangeFunc f params assign b=>dQ E ih fr f params.toList assign b H
  |_=>none
 | .call f x=>match E.funcs.get f with
  | some fn=>match fn.body with
   | some c=>
    match ih (.code c ⟨Nat.max fn.ntmps x.length,false,T.ofList .leaf 0 x⟩) H with
    |some (.ex .normal h,H')|some (.ex .ret h,H')=>match vI E h H' fn.results.toList with
     |some [v]=>some (.val v,H')
     |some vs=>some (.val (.tuple ⟨vs⟩),H')
     |none=>none
    |none=>qAx E ih fn.results.toList c ⟨Nat.max fn.ntmps x.length,false,T.ofList .leaf 0 x⟩ H
    |_=>none
   |none=>none
  |none=>none
 |.round l x=>gJ E ih l x H
def qQo(E:Env)(n:Nat):Cmd->AH->j9:=
 Nat.rec (motive:=λ_=>Cmd->AH->j9) (λ_ _=>none) (λ_ ih=>body E ih) n
end Go.Am
namespace Go.Am
open Go
theorem T.get_leaf{α:Type}(n:Nat):(T.leaf:T α).get n=none:=rfl
theorem qY{α:Sort _}(a b:Nat)(x y:α):(bif Nat.beq a b then x else y)=if a=b then x else y:=by simp_all
theorem vQ{α:Sort _}(a b:Nat)(x y:α):(bif Nat.ble a b then x else y)=if a<=b then x else y:=by simp_all
theorem T.get_node{α:Type}(v:Option α)(l r:T α)(n:Nat):(T.node v l r).get n=if n=0 then v else if n%2=1 then l.get (n/2)else r.get (n/2-1):=by simp only[T.get,qY];rfl
theorem T.set_leaf{α:Type}(d n:Nat)(x:Option α):T.set (d+1) .leaf n x=if n=0 then .node x .leaf .leaf else if n%2=1 then .node none (T.set d .leaf (n/2) x) .leaf else .node none .leaf (T.set d .leaf (n/2-1) x):=by simp only[T.set,qY];rfl
theorem T.set_node{α:Type}(d n:Nat)(v x:Option α)(l r:T α):T.set (d+1) (.node v l r) n x=if n=0 then .node x l r else if n%2=1 then .node v (T.set d l (n/2) x) r else .node v l (T.set d r (n/2-1) x):=by simp only[T.set,qY];rfl
theorem T.get_set{α:Type}(d:Nat):∀(t:T α) (n m:Nat) (x:Option α),n<d->(T.set d t n x).get m=if m=n then x else t.get m:=by
 induction d with
 |zero=>intro t n m x h;omega
 | succ d ih=>
  intro t n m x h;cases t with
  |leaf=>
   rw[T.set_leaf];by_cases y:n=0
   ·subst y;simp only[if_true,T.get_node,T.get_leaf];split<;>simp
   by_cases b:n%2=1
   ·simp only[if_neg y,if_pos b,T.get_node,T.get_leaf,ih .leaf (n/2) (m/2) x (by omega)];grind
   simp only[if_neg y,if_neg b,T.get_node,T.get_leaf,ih .leaf (n/2-1) (m/2-1) x (by omega)];grind
  |node v l r=>
   rw[T.set_node];by_cases y:n=0
   ·subst y;simp only[if_true,T.get_node];split<;>simp_all
   by_cases b:n%2=1
   ·simp only[if_neg y,if_pos b,T.get_node,ih l (n/2) (m/2) x (by omega)];grind
   simp only[if_neg y,if_neg b,T.get_node,ih r (n/2-1) (m/2-1) x (by omega)];grind
theorem T.get_put{α:Type}(t:T α)(n m:Nat)(x:Option α):(t.put n x).get m=if m=n then x else t.get m:=
 T.get_set (n+1) t n m x (by omega)
structure Loc where
 blk:Nat
 off:Nat
 ext:Nat
 sz:Nat
abbrev zU:=Nat->Option Loc
def zU.le(σ h:zU):Prop:=∀b L,σ b=some L->h b=some L
theorem zU.le_refl(σ:zU):zU.le σ σ:=λ_ _ h=>h
theorem zU.le_trans{σ y x:zU}(h:zU.le σ y)(e:zU.le y x):zU.le σ x:=λb L c=>e b L (h b L c)
def zX:Value->Bool
 |.bool _|.int _ _|.float _ _|.complex _ _ _|.string _=>true
 |.pointer a=>a.isNone
 |.slice a l c=>a.isNone&&Nat.beq l 0&&Nat.beq c 0
 |.map r=>r.isNone
 |.nilFunc|.nilIface=>true
 |_=>false
mutual
inductive VR (σ:zU):Value->Value->Prop
 |leaf {v:Value} (h:zX v=true):VR σ v v
 |ptr {b i:Nat} {L:Loc} (h:σ b=some L):VR σ (.pointer (some ⟨b,i,none⟩)) (.pointer (some ⟨L.blk,L.off+i,none⟩))
 | sliceE {b i l c:Nat} {L:Loc} (h:σ b=some L) (hl:l<=c) (hc:c<qT) :
   VR σ (.slice (some ⟨b,i,none⟩) l c) (.slice (some ⟨L.blk,L.off+i,none⟩) l c)
 | sliceX {b i l c:Nat} {L:Loc} (h:σ b=some L) (hl:l<=c) (hc:c<qT) (he:i+c*L.sz=L.ext) :
   VR σ (.slice (some ⟨b,i,none⟩) l qT) (.slice (some ⟨L.blk,L.off+i,none⟩) l c)
 |sliceZ {b i c:Nat} {a:Addr} (hc:c=0∨(c=qT/\∃L,σ b=some L/\L.ext<=i)):VR σ (.slice (some ⟨b,i,none⟩) 0 c) (.slice (some a) 0 0)
 |map {r:Nat} {L:Loc} (h:σ r=some L) (h0:L.off=0):VR σ (.map (some r)) (.map (some L.blk))
 | func {fn:Fn} {f c f' c':List Value} (h:rD fn=true) (hf:VRs σ f f') (hc:VRs σ c c') :
   VR σ (.func fn ⟨f⟩ ⟨c⟩) (.func fn ⟨f'⟩ ⟨c'⟩)
 |yield {l:Nat} {L:Loc} (h:σ l=some L) (h0:L.off=0):VR σ (.func (.yield l) #[] #[]) (.func (.yield L.blk) #[] #[])
 |iface {t:TypeId} {v v':Value} (h:VR σ v v'):VR σ (.iface t v) (.iface t v')
 |agg {c c':List Value} (h:VRs σ c c') (ho:c.all qE=true):VR σ (.agg ⟨c⟩) (.agg ⟨c'⟩)
 |tuple {c c':List Value} (h:VRs σ c c'):VR σ (.tuple ⟨c⟩) (.tuple ⟨c'⟩)
inductive VRs (σ:zU):List Value->List Value->Prop
 |nil:VRs σ [] []
 |cons {v v':Value} {l l':List Value} (h:VR σ v v') (hs:VRs σ l l'):VRs σ (v::l) (v'::l')
end
mutual
theorem VR.mono{σ b:zU}(x:zU.le σ b):∀{v v':Value},VR σ v v'->VR b v v'
 |_,_,.leaf h=>.leaf h
 |_,_,.ptr h=>.ptr (x _ _ h)
 |_,_,.sliceE h c y=>.sliceE (x _ _ h) c y
 |_,_,.sliceX h c y he=>.sliceX (x _ _ h) c y he
 |_,_,.sliceZ y=>.sliceZ (y.imp id λ⟨k,L,j,h3⟩=>⟨k,L,x _ _ j,h3⟩)
 |_,_,.map h e=>.map (x _ _ h) e
 |_,_,.func h i y=>.func h (VRs.mono x i) (VRs.mono x y)
 |_,_,.yield h e=>.yield (x _ _ h) e
 |_,_,.iface h=>.iface (VR.mono x h)
 |_,_,.agg h g=>.agg (VRs.mono x h) g
 |_,_,.tuple h=>.tuple (VRs.mono x h)
theorem VRs.mono{σ x:zU}(y:zU.le σ x):∀{l b:List Value},VRs σ l b->VRs x l b
 |_,_,.nil=>.nil
 |_,_,.cons h c=>.cons (VR.mono y h) (VRs.mono y c)
end
theorem VR.one{σ:zU}{v v':Value}(h:VR σ v v'):qE v'=qE v:=by cases h<;>rfl
theorem VRs.length{σ:zU}:∀{l h:List Value},VRs σ l h->h.length=l.length
 |_,_,.nil=>rfl
 |_,_,.cons _ x=>by simp[VRs.length x]
theorem VRs.get{σ:zU}:∀{l x:List Value},VRs σ l x->∀(i:Nat) (v:Value),l[i]? = some v->∃v',x[i]? = some v'/\VR σ v v'
 |_,_,.nil,i,v,h=>by simp at h
 |_,_,.cons h y,0,v,e=>by simp at e;subst e;exact⟨_,rfl,h⟩
 |_,_,.cons h y,i+1,v,e=>by simp at e;simpa using VRs.get y i v e
theorem VRs.of_get{σ:zU}:∀{l x:List Value},x.length=l.length->(∀(i:Nat) (v:Value),l[i]? = some v->∃v',x[i]? = some v'/\VR σ v v')->VRs σ l x
 | [],[],_,_=>.nil
 | [],_::_,h,_=>by simp at h
 |_::_,[],h,_=>by simp at h
 |v::l,v'::x,h,y=>by refine .cons ?_ (VRs.of_get (by simpa using h) λi u e=>by simpa using y (i+1) u (by simpa using e));obtain⟨u,hu,hr⟩:=y 0 v rfl;simp at hu;subst hu;exact hr
theorem VRs.append{σ:zU}:∀{a y b x:List Value},VRs σ a y->VRs σ b x->VRs σ (a++b) (y++x)
 |_,_,_,_,.nil,h=>h
 |_,_,_,_,.cons h c,e=>.cons h (VRs.append c e)
theorem VRs.all_one{σ:zU}:∀{l x:List Value},VRs σ l x->x.all qE=l.all qE
 |_,_,.nil=>rfl
 |_,_,.cons h y=>by simp[h.one,VRs.all_one y]
theorem VR.cells{σ:zU}{v v':Value}(h:VR σ v v'):VRs σ v.cells.toList v'.cells.toList:=by
 cases h with
 |agg h e=>exact h
 |leaf h=>cases v<;>first|exact .cons (.leaf h) .nil|(simp[zX]at h)
 |ptr h=>exact .cons (.ptr h) .nil
 |sliceE h y x=>exact .cons (.sliceE h y x) .nil
 |sliceX h y x he=>exact .cons (.sliceX h y x he) .nil
 |sliceZ x=>exact .cons (.sliceZ x) .nil
 |map h b=>exact .cons (.map h b) .nil
 |func h c x=>exact .cons (.func h c x) .nil
 |yield h b=>exact .cons (.yield h b) .nil
 |iface h=>exact .cons (.iface h) .nil
 |tuple h=>exact .cons (.tuple h) .nil
theorem VR.cells_one{σ:zU}{v v':Value}(h:VR σ v v')(x:∀c,v≠.tuple c):v.cells.toList.all qE=true:=by
 cases h with
 |agg h y=>exact y
 |tuple h=>exact absurd rfl (x _)
 |leaf h=>cases v<;>first|rfl|(simp[zX]at h)
 |_=>rfl
theorem j7{σ:zU}:∀(n:Nat) (v:Value),zK n v=true->VR σ v v:=by
 intro n;induction n with
 |zero=>intro v h;cases v<;>first|exact .leaf h|(simp[zK]at h)
 | succ n ih=>
  have all:∀l:List Value,(∀v∈l,zK n v=true)->VRs σ l l:=by
   intro l;induction l with
   |nil=>intro _;exact .nil
   |cons x l y=>intro h;exact .cons (ih x (h x (by simp))) (y λv hv=>h v (by simp[hv]))
  intro v h;cases v with
  |iface t v=>exact .iface (ih v (by simpa[zK]using h))
  |agg cs=>simp only[zK,List.all_eq_true,aE]at h;exact .agg (all cs.toList λv hv=>(h v hv).2) (by rw[List.all_eq_true];exact λv hv=>(h v hv).1)
  |tuple cs=>simp only[zK,List.all_eq_true]at h;exact .tuple (all cs.toList λv hv=>h v hv)
  |func _ _ _=>simp[zK]at h
  |chan _=>simp[zK]at h
  |_=>exact .leaf h
theorem qRq{σ:zU}:∀(n:Nat) (v v':Value),zK n v=true->VR σ v v'->v'=v:=by
 intro n;induction n with
 |zero=>intro v v' h r;cases r<;>first|rfl|(simp[zK]at h)
 | succ n ih=>
  have all:∀l y:List Value,(∀v∈l,zK n v=true)->VRs σ l y->y=l:=by
   intro l;induction l with
   |nil=>intro y _ r;cases r;rfl
   |cons x l b=>
    intro y h r;cases r with
    |cons c e=>rw[ih x _ (h x (by simp)) c,b _ (λv hv=>h v (by simp[hv])) e]
  intro v v' h r;cases r with
  |leaf _=>rfl
  |iface hv=>rw[ih _ _ (by simpa[zK]using h) hv]
  |agg g i=>simp only[zK,List.all_eq_true,aE]at h;grind
  |tuple g=>simp only[zK,List.all_eq_true]at h;grind
  |_=>simp[zK]at h
def aW(σ:zU)(fr:Fr)(tmps:Array Value):Prop:=
 tmps.size=fr.sz/\∀t v,fr.t.get t=some v->VR σ v (tmps.getD t undef)
theorem aW.mono{σ x:zU}(y:zU.le σ x){fr:Fr}{tmps:Array Value}(h:aW σ fr tmps):aW x fr tmps:=
 ⟨h.1,λt v e=>(h.2 t v e).mono y⟩
inductive ERs (σ:zU):List MapEntry->List MapEntry->Prop
 |nil:ERs σ [] []
 | cons {e e':MapEntry} {l l':List MapEntry} (hk:zF e.key=true) (ek:e'.key=e.key) (hv:VR σ e.val e'.val) (eb:e'.born=e.born)
   (hs:ERs σ l l'):ERs σ (e::l) (e'::l')
theorem ERs.mono{σ h:zU}(x:zU.le σ h):∀{l y:List MapEntry},ERs σ l y->ERs h l y
 |_,_,.nil=>.nil
 |_,_,.cons c e hv g b=>.cons c e (hv.mono x) g (ERs.mono x b)
def qWk(L:Loc)(el h:TypeId)(n:Nat)(x:Nat×Nat):Prop:=(x=(0,0)∨(n<=x.1/\L.sz=1))/\h=el/\L.off%L.sz=0
def oA(E:Env)(σ:zU)(L:Loc)(own:Bool):AObj->Obj->Prop
 |.cells cs el,.cells ccs x z=>(own=true->qWk L el x ccs.size z)/\L.off+L.ext<=ccs.size/\cs.length<=L.ext/\(∀y,E.types.get el=some y->L.sz=y.size)/\∀i v,cs[i]? = some v->qE v=true/\∃v',ccs[L.off+i]? = some v'/\VR σ v v'
 |.map es ck,.map es' kX=>L.off=0/\kX=ck/\ERs σ es es'.toList
 |.siter s p,.stringIter j o=>L.off=0/\j=s/\o=p
 |.miter m n g q,.mapIter (some u) r h q'=>L.off=0/\(∃M,σ m=some M/\M.off=0/\M.blk=u)/\r=n/\h.toList=g/\q'=q
 |.loop st e t k a b,.loop l=>L.off=0/\l.state=st/\l.pending=e/\aW σ t l.tmps/\l.params.toList=k/\l.assign=a/\l.body=b/\zP a=true/\zP b=true/\t.rd=true/\∀c,e=some c->c=.ret∨∃id,c=.exit id
 |_,_=>False
theorem oA.mono{E:Env}{σ g:zU}(y:zU.le σ g){L:Loc}{own:Bool}{x:AObj}{o:Obj}(h:oA E σ L own x o):oA E g L own x o:=by
 cases x<;>cases o<;>simp only[oA]at h ⊢
 ·obtain⟨p,l,h3,k,j⟩:=h;exact⟨p,l,h3,k,λi v e=>let ⟨a,v',b,c⟩:=j i v e;⟨a,v',b,c.mono y⟩⟩
 ·exact⟨h.1,h.2.1,h.2.2.mono y⟩
 ·exact h
 ·rename_i m n u q r z t q';cases r with
  |none=>simp at h
  |some r=>simp only at h ⊢;obtain⟨p,⟨M,l,h3,k⟩,j⟩:=h;exact⟨p,⟨M,y _ _ l,h3,k⟩,j⟩
 exact⟨h.1,h.2.1,h.2.2.1,h.2.2.2.1.mono y,h.2.2.2.2⟩
structure HR (E:Env) (σ:zU) (H:AH) (w:World):Prop where
 objs:∀b k L,H.blocks.get b=some k->σ b=some L->∃o,w.heap[L.blk]? = some o/\oA E σ L k.own k.obj o
 sep:∀b₁ b₂ k₁ k₂ L₁ L₂,H.blocks.get b₁=some k₁->H.blocks.get b₂=some k₂->k₁.own=true->σ b₁=some L₁->σ b₂=some L₂->
  b₁≠b₂->L₁.blk≠L₂.blk
 glob:∀g,g<E.prog.globals.size->∃L,σ g=some L/\L.blk=g/\L.off=0
 wf:∀b k,H.blocks.get b=some k->k.root<=b/\b<H.next
structure Step (E:Env) (σ:zU) (H:AH) (w:World) (σ':zU) (H':AH) (w':World):Prop where
 hr:HR E σ' H' w'
 next:H.next<=H'.next
 ext:∀b,b<H.next∨H'.next<=b->σ' b=σ b
 size:w.heap.size<=w'.heap.size
 low:H'.low<=H.low
 tape:w'.tape=w.tape
 os:w'.os=w.os
 output:w'.output=w.output/\(E.laid=[]->w.drawn<=w'.drawn)
 frame:∀B,B<w.heap.size->(∀b k L,H.blocks.get b=some k->k.own=true->σ b=some L->H'.low<=k.root->L.blk≠B)->w'.heap[B]? = w.heap[B]?
 origin:∀b k L,H'.blocks.get b=some k->k.own=true->σ' b=some L->w.heap.size<=L.blk ∨
  ∃b₀ k₀ L₀,H.blocks.get b₀=some k₀/\k₀.own=true/\σ b₀=some L₀/\L₀.blk=L.blk/\k₀.root=k.root
 old:∀b k,H'.blocks.get b=some k->b<H.next->∃k₀,H.blocks.get b=some k₀/\k₀.root=k.root/\k₀.own=k.own
 keep:∀b k,H.blocks.get b=some k->k.root<H'.low->H'.blocks.get b=some k
 born:∀b k,H'.blocks.get b=some k->H.next<=b->(H.next<=k.root∨H'.low<=k.root)/\k.own=true
theorem Step.refl{E:Env}{σ:zU}{H:AH}{w:World}(h:HR E σ H w):Step E σ H w σ H w where
 hr:=h
 next:=lR _
 ext _ _:=rfl
 size:=lR _
 low:=lR _
 tape:=rfl
 os:=rfl
 output:=⟨rfl,λ_=>lR _⟩
 frame _ _ _:=rfl
 origin b k L x y hs:=.inr ⟨b,k,L,x,y,hs,rfl,rfl⟩
 old b k x _:=⟨k,x,rfl,rfl⟩
 keep _ _ x _:=x
 born b k x c:=absurd (h.wf b k x).2 (by omega)
def yD(σ:zU)(n h:Nat):Prop:=∀b,n<=b->b<h->σ b=none
theorem yD.split{σ x:zU}{n m y:Nat}(h:yD σ n y)(he:∀b,b<n∨m<=b->x b=σ b)(g:n<=m):yD x m y:=
 λb e c=>by rw[he b (.inr e)];exact h b (by omega) c
theorem Step.le{E:Env}{σ x:zU}{H H':AH}{w w':World}(s:Step E σ H w x H' w')(c:yD σ H.next H'.next):zU.le σ x:=by
 intro b L y;by_cases h:b<H.next∨H'.next<=b
 ·rw[s.ext b h];exact y
 rw[c b (by omega) (by omega)]at y;cases y
theorem Step.trans{E:Env}{σ j i:zU}{H p z:AH}{w r q:World}(s:Step E σ H w j p r)(x:Step E j p r i z q):
  Step E σ H w i z q where
 hr:=x.hr
 next:=lT s.next x.next
 ext b h:=by
  rw[x.ext b (by have:=s.next;have:=x.next;omega),s.ext b (by have:=s.next;have:=x.next;omega)]
 size:=lT s.size x.size
 low:=lT x.low s.low
 tape:=x.tape.trans s.tape
 os:=x.os.trans s.os
 output:=⟨x.output.1.trans s.output.1,λe=>lT (s.output.2 e) (x.output.2 e)⟩
 frame B J h:=by
  rw[x.frame B (Nat.lt_of_lt_of_le J s.size),s.frame B J]
  ·exact λb k L c C A F=>h b k L c C A (lT x.low F)
  intro b k L c C A F
  rcases s.origin b k L c C A with y|⟨t,o,u,y,I,h3,M,K⟩
  all_goals grind
 origin b k L c C A:=by
  rcases x.origin b k L c C A with y|⟨t,o,u,y,I,h3,M,K⟩
  ·exact .inl (lT s.size y)
  rcases s.origin t o u y I h3 with g1|⟨O,k',P,g1,g2,g3,g4,g5⟩
  all_goals grind
 old b k c G:=by
  obtain⟨l,y,I,h3⟩:=x.old b k c (Nat.lt_of_lt_of_le G s.next)
  obtain⟨o,g1,g2,g3⟩:=s.old b l y G
  grind
 keep b k c F:=x.keep b k (s.keep b k c (Nat.lt_of_lt_of_le F x.low)) F
 born b k c G:=by
  by_cases h:p.next<=b
  ·obtain⟨y,N⟩:=x.born b k c h
   refine⟨?_,N⟩
   rcases y with y|y
   ·exact .inl (lT s.next y)
   exact .inr y
  obtain⟨l,y,I,h3⟩:=x.old b k c (by omega)
  obtain⟨g,g0⟩:=s.born b l y G
  refine⟨?_,by rw[←h3];exact g0⟩
  rcases g with g|g
  ·exact .inl (by omega)
  exact .inr (by have:=x.low;omega)
end Go.Am
namespace Go.Am
open Go
def zU.add(σ:zU)(b:Nat)(L:Loc):zU:=λx=>if x=b then some L else σ x
theorem zU.add_le{σ:zU}{b:Nat}{L:Loc}(h:σ b=none):zU.le σ (σ.add b L):=by intro x M y;unfold zU.add;grind
theorem zU.add_self{σ:zU}{b:Nat}{L:Loc}:σ.add b L b=some L:=by simp[zU.add]
theorem zU.add_ne{σ:zU}{b x:Nat}{L:Loc}(h:x≠b):σ.add b L x=σ x:=by simp[zU.add,h]
theorem AH.get_new(H:AH)(o:AObj)(b:Nat):(H.new o).blocks.get b=if b=H.next then some ⟨o,H.next,true⟩else H.blocks.get b:=
 T.get_put _ _ _ _
theorem AH.get_write(H:AH)(b:Nat)(k:ABlk)(o:AObj)(x:Nat):(H.write b k o).blocks.get x=if x=b then some {k with obj:=o}else H.blocks.get x:=
 T.get_put _ _ _ _
def World.push(w:World)(o:Obj):World:={w with heap:=w.heap.push o}
theorem oK(w:World)(o:Obj)(B:Nat):(World.push w o).heap[B]? = if B=w.heap.size then some o else w.heap[B]? :=by simp only[World.push,Array.getElem?_push]
theorem Step.new{E:Env}{σ:zU}{H:AH}{w:World}(hr:HR E σ H w)(P:σ H.next=none)(x:AObj)(o:Obj)(L:Loc)(hL:L.blk=w.heap.size)(K:oA E (σ.add H.next L) L true x o):Step E σ H w (σ.add H.next L) (H.new x) (World.push w o):=by
 have hle:zU.le σ (σ.add H.next L):=zU.add_le P;have lt:∀b k M,H.blocks.get b=some k->σ b=some M->M.blk<w.heap.size:=by intro b k M y hs;obtain⟨J,q,_⟩:=hr.objs b k M y hs;grind
 refine { hr:=?_,next:=Nat.le_succ _,ext:=?_,size:=by simp[World.push],low:=lR _,tape:=rfl,os:=rfl,output:=⟨rfl,λ_=>lR _⟩,
          frame:=?_,origin:=?_,old:=?_,keep:=?_,born:=?_}
 ·refine {objs:=?_,sep:=?_,glob:=?_,wf:=?_}
  ·intro b k M y hs;rw[AH.get_new]at y;by_cases e:b=H.next
   ·subst e;rw[zU.add_self]at hs;cases hs;rw[if_pos rfl]at y;cases y;exact⟨o,by rw[oK,if_pos hL],K⟩
   ·rw[if_neg e]at y;rw[zU.add_ne e]at hs;obtain⟨J,q,p⟩:=hr.objs b k M y hs;refine⟨J,?_,p.mono hle⟩;rw[oK,if_neg (Nat.ne_of_lt (lt b k M y hs))];exact q
  ·intro l j t r z u q p C i c A;rw[AH.get_new]at q p;by_cases I:l=H.next
   ·subst I;rw[if_neg (λe=>A e.symm)]at p;rw[zU.add_self]at i;cases i;rw[zU.add_ne (λe=>A e.symm)]at c;have:=lt j r u p c;omega
   ·rw[if_neg I]at q;rw[zU.add_ne I]at i;by_cases G:j=H.next
    ·subst G;rw[zU.add_self]at c;cases c;have:=lt l t z q i;omega
    ·rw[if_neg G]at p;rw[zU.add_ne G]at c;exact hr.sep l j t r z u q p C i c A
  ·intro g O;obtain⟨M,q,p⟩:=hr.glob g O;exact⟨M,hle g M q,p⟩
  ·intro b k y;rw[AH.get_new]at y;by_cases e:b=H.next
   ·subst e;rw[if_pos rfl]at y;cases y;exact⟨lR _,Nat.lt_succ_self _⟩
   ·rw[if_neg e]at y;exact⟨(hr.wf b k y).1,Nat.lt_succ_of_lt (hr.wf b k y).2⟩
 ·intro b y;have:b≠H.next:=by
   rcases y with h|h
   ·omega
   ·have:H.next+1<=b:=h;omega
  exact zU.add_ne this
 ·intro B Q _;rw[oK,if_neg (Nat.ne_of_lt Q)]
 ·intro b k M y F hs;rw[AH.get_new]at y;by_cases e:b=H.next
  ·subst e;rw[zU.add_self]at hs;cases hs;exact .inl (by omega)
  ·rw[if_neg e]at y;rw[zU.add_ne e]at hs;exact .inr ⟨b,k,M,y,F,hs,rfl,rfl⟩
 ·intro b k y N;rw[AH.get_new,if_neg (by omega)]at y;exact⟨k,y,rfl,rfl⟩
 ·intro b k y _;rw[AH.get_new,if_neg (by have:=(hr.wf b k y).2;omega)];exact y
 ·intro b k y N;rw[AH.get_new]at y;by_cases e:b=H.next
  ·rw[if_pos e]at y;cases y;exact⟨.inl (lR _),rfl⟩
  ·rw[if_neg e]at y;have:=(hr.wf b k y).2;omega
structure WSet (w w':World) (B:Nat) (o:Obj):Prop where
 size:w'.heap.size=w.heap.size
 at_:w'.heap[B]? = some o
 else_:∀B',B'≠B->w'.heap[B']? = w.heap[B']?
 tape:w'.tape=w.tape
 os:w'.os=w.os
 output:w'.output=w.output/\w.drawn<=w'.drawn
theorem Step.write{E:Env}{σ:zU}{H:AH}{w w':World}(hr:HR E σ H w){b:Nat}{k:ABlk}{L:Loc}{x:AObj}{o:Obj}(p:H.blocks.get b=some k)(g:k.own=true)(K:σ b=some L)(q:WSet w w' L.blk o)(U:oA E σ L true x o):Step E σ H w σ (H.write b k x) w':=by
 refine { hr:=?_,next:=lR _,ext:=λ_ _=>rfl,size:=Nat.le_of_eq q.size.symm,low:=Nat.min_le_left _ _,tape:=q.tape,os:=q.os,output:=⟨q.output.1,λ_=>q.output.2⟩,
          frame:=?_,origin:=?_,old:=?_,keep:=?_,born:=?_}
 ·refine {objs:=?_,sep:=?_,glob:=hr.glob,wf:=?_}
  ·intro c k' M y i;rw[AH.get_write]at y;by_cases e:c=b
   ·subst e;rw[if_pos rfl]at y;cases y;rw[K]at i;cases i;exact⟨o,q.at_,by rw[g];exact U⟩
   ·rw[if_neg e]at y;obtain⟨S,z,u⟩:=hr.objs c k' M y i;refine⟨S,?_,u⟩;rw[q.else_ _ (λe'=>hr.sep b c k k' L M p y g K i (λR=>e R.symm) e'.symm)];exact z
  ·intro l j t r C A z u N J I P;rw[AH.get_write]at z u;have g1:∃k',H.blocks.get l=some k'/\k'.own=true:=by
    by_cases e:l=b
    ·subst e;exact⟨k,p,g⟩
    ·rw[if_neg e]at z;exact⟨t,z,N⟩
   have g2:∃k',H.blocks.get j=some k':=by
    by_cases e:j=b
    ·subst e;exact⟨k,p⟩
    ·rw[if_neg e]at u;exact⟨r,u⟩
   obtain⟨G,g1,Q⟩:=g1;obtain⟨F,g2⟩:=g2;exact hr.sep l j G F C A g1 g2 Q J I P
  ·intro c k' y;rw[AH.get_write]at y;by_cases e:c=b
   ·subst e;rw[if_pos rfl]at y;cases y;exact hr.wf c k p
   ·rw[if_neg e]at y;exact hr.wf c k' y
 ·intro B X h;refine q.else_ B λe=>h b k L p g K (Nat.min_le_right _ _) e.symm
 ·intro c k' M y O i;rw[AH.get_write]at y;by_cases e:c=b
  ·subst e;rw[if_pos rfl]at y;cases y;exact .inr ⟨c,k,M,p,g,i,rfl,rfl⟩
  ·rw[if_neg e]at y;exact .inr ⟨c,k',M,y,O,i,rfl,rfl⟩
 ·intro c k' y _;rw[AH.get_write]at y;by_cases e:c=b
  ·subst e;rw[if_pos rfl]at y;cases y;exact⟨k,p,rfl,rfl⟩
  ·rw[if_neg e]at y;exact⟨k',y,rfl,rfl⟩
 ·intro c k' y V;rw[AH.get_write];by_cases e:c=b
  ·subst e;rw[p]at y;cases y;have:Nat.min H.low k.root<=k.root:=Nat.min_le_right _ _;exact absurd V (by simpa[AH.write]using Nat.not_lt.2 this)
  ·rw[if_neg e];exact y
 ·intro c k' y W;have:=λk h=>(hr.wf c k h).2;rw[AH.get_write]at y;by_cases e:c=b
  ·subst e;have:=this k p;omega
  ·rw[if_neg e]at y;have:=this k' y;omega
theorem AH.get_move(H:AH)(b:Nat)(k:ABlk)(x:AObj)(c:Nat):(H.move b k x).blocks.get c=if c=H.next then some ⟨x,k.root,true⟩else if c=b then none else H.blocks.get c:=by simp only[AH.move,T.get_put]
theorem Step.move{E:Env}{σ:zU}{H:AH}{w w':World}(hr:HR E σ H w)(hf:σ H.next=none){b:Nat}{k:ABlk}{L M:Loc}{x:AObj}{o:Obj}(N:H.blocks.get b=some k)(F:k.own=true)(i:(σ b=some L/\WSet w w' L.blk o/\M.blk=L.blk)∨w'=World.push w o/\M.blk=w.heap.size)(ho:oA E (σ.add H.next M) M true x o):Step E σ H w (σ.add H.next M) (H.move b k x) w':=by
 have hle:zU.le σ (σ.add H.next M):=zU.add_le hf;have lt:∀b k M,H.blocks.get b=some k->σ b=some M->M.blk<w.heap.size:=by intro b k M N hs;obtain⟨X,A,_⟩:=hr.objs b k M N hs;grind
 have hbn:b≠H.next:=by have:=(hr.wf b k N).2;omega
 have q:∀R k' t,H.blocks.get R=some k'->σ R=some t->R≠b->t.blk≠M.blk/\w'.heap[t.blk]? = w.heap[t.blk]? :=by
  intro R k' t S j G;rcases i with⟨hs,i,I⟩|⟨i,I⟩
  ·have:=hr.sep b R k k' L t N S F hs j (λe=>G e.symm);exact⟨λe=>this (by omega),i.else_ _ λe=>this e.symm⟩
  ·have:=lt R k' t S j;exact⟨by omega,by rw[i,oK,if_neg (by omega)]⟩
 refine { hr:=?_,next:=Nat.le_succ _,ext:=?_,size:=?_,low:=Nat.min_le_left _ _,tape:=?_,os:=?_,output:=?_,
          frame:=?_,origin:=?_,old:=?_,keep:=?_,born:=?_}
 ·refine {objs:=?_,sep:=?_,glob:=?_,wf:=?_}
  ·intro c k' t y j;rw[AH.get_move]at y;by_cases e:c=H.next
   ·subst e;rw[if_pos rfl]at y;cases y;rw[zU.add_self]at j;cases j;refine⟨o,?_,ho⟩;rcases i with⟨hs,i,I⟩|⟨i,I⟩
    ·rw[I];exact i.at_
    ·rw[i,oK,if_pos I]
   ·rw[if_neg e]at y;rw[zU.add_ne e]at j;by_cases l:c=b
    ·rw[if_pos l]at y;cases y
    ·rw[if_neg l]at y;obtain⟨X,A,r⟩:=hr.objs c k' t y j;exact⟨X,by rw[(q c k' t y j l).2];exact A,r.mono hle⟩
  ·intro u p K J P O A r U C z G;rw[AH.get_move]at A r;by_cases W:u=H.next
   ·subst W;have l:p≠H.next:=λe=>G e.symm;rw[if_neg l]at r;rw[zU.add_ne l]at z;rw[zU.add_self]at C;cases C;by_cases Q:p=b
    ·rw[if_pos Q]at r;cases r
    ·rw[if_neg Q]at r;exact λe=>(q p J O r z Q).1 e.symm
   ·rw[if_neg W]at A;rw[zU.add_ne W]at C;by_cases Q:u=b
    ·rw[if_pos Q]at A;cases A
    ·rw[if_neg Q]at A;by_cases l:p=H.next
     ·subst l;rw[zU.add_self]at z;cases z;exact(q u K P A C Q).1
     ·rw[if_neg l]at r;rw[zU.add_ne l]at z;by_cases Z:p=b
      ·rw[if_pos Z]at r;cases r
      ·rw[if_neg Z]at r;exact hr.sep u p K J P O A r U C z G
  ·intro g hg;obtain⟨t,A,r⟩:=hr.glob g hg;exact⟨t,hle g t A,r⟩
  ·intro c k' y;rw[AH.get_move]at y;by_cases e:c=H.next
   ·subst e;rw[if_pos rfl]at y;cases y;have:=hr.wf b k N;exact⟨by show k.root<=_;omega,Nat.lt_succ_self _⟩
   ·rw[if_neg e]at y;by_cases l:c=b
    ·rw[if_pos l]at y;cases y
    ·rw[if_neg l]at y;exact⟨(hr.wf c k' y).1,Nat.lt_succ_of_lt (hr.wf c k' y).2⟩
 ·intro c y;have:c≠H.next:=by
   rcases y with h|h
   ·omega
   ·have:H.next+1<=c:=h;omega
  exact zU.add_ne this
 ·rcases i with⟨hs,i,_⟩|⟨i,_⟩
  ·exact Nat.le_of_eq i.size.symm
  ·rw[i];simp[World.push]
 ·rcases i with⟨hs,i,_⟩|⟨i,_⟩
  ·exact i.tape
  ·rw[i];rfl
 ·rcases i with⟨hs,i,_⟩|⟨i,_⟩
  ·exact i.os
  ·rw[i];rfl
 ·rcases i with⟨hs,i,_⟩|⟨i,_⟩
  ·exact⟨i.output.1,λ_=>i.output.2⟩
  ·rw[i];exact⟨rfl,λ_=>lR _⟩
 ·intro B hB h;rcases i with⟨hs,i,_⟩|⟨i,_⟩
  ·exact i.else_ B λe=>h b k L N F hs (Nat.min_le_right _ _) e.symm
  ·rw[i,oK,if_neg (Nat.ne_of_lt hB)]
 ·intro c k' t y V j;rw[AH.get_move]at y;by_cases e:c=H.next
  ·subst e;rw[if_pos rfl]at y;cases y;rw[zU.add_self]at j;cases j;rcases i with⟨hs,_,I⟩|⟨_,I⟩
   ·exact .inr ⟨b,k,L,N,F,hs,I.symm,rfl⟩
   ·exact .inl (Nat.le_of_eq I.symm)
  ·rw[if_neg e]at y;rw[zU.add_ne e]at j;by_cases l:c=b
   ·rw[if_pos l]at y;cases y
   ·rw[if_neg l]at y;exact .inr ⟨c,k',t,y,V,j,rfl,rfl⟩
 ·intro c k' y hn;rw[AH.get_move,if_neg (by omega)]at y;by_cases l:c=b
  ·rw[if_pos l]at y;cases y
  ·rw[if_neg l]at y;exact⟨k',y,rfl,rfl⟩
 ·intro c k' y hl;rw[AH.get_move,if_neg (by have:=(hr.wf c k' y).2;omega)];by_cases l:c=b
  ·subst l;rw[N]at y;cases y;have:Nat.min H.low k.root<=k.root:=Nat.min_le_right _ _;exact absurd hl (by simpa[AH.move]using Nat.not_lt.2 this)
  ·rw[if_neg l];exact y
 ·intro c k' y hn;rw[AH.get_move]at y;by_cases e:c=H.next
  ·rw[if_pos e]at y;cases y;exact⟨.inr (Nat.min_le_right _ _),rfl⟩
  ·rw[if_neg e]at y;by_cases l:c=b
   ·rw[if_pos l]at y;cases y
   ·rw[if_neg l]at y;have:=(hr.wf c k' y).2;omega
theorem Step.drew{E:Env}{σ:zU}{H:AH}{w:World}(hr:HR E σ H w){n:Nat}(x:w.drawn<=n):Step E σ H w σ H {w with drawn:=n}:=
  have h:=Step.refl hr
  { hr:=⟨hr.objs,hr.sep,hr.glob,hr.wf⟩,next:=h.next,ext:=h.ext,size:=h.size,low:=h.low,tape:=rfl,os:=rfl,output:=⟨rfl,λ_=>x⟩,frame:=h.frame,
    origin:=h.origin,old:=h.old,keep:=h.keep,born:=h.born}
theorem HR.setLow{E:Env}{σ:zU}{H:AH}{w:World}(hr:HR E σ H w)(n:Nat):HR E σ {H with low:=n} w:=⟨hr.objs,hr.sep,hr.glob,hr.wf⟩
theorem Step.lower{E:Env}{σ y:zU}{H H':AH}{w w':World}{a:Nat}(s:Step E σ {H with low:=a} w y H' w'):
  Step E σ H w y {H' with low:=Nat.min H.low H'.low} w' where
 hr:=s.hr.setLow _
 next:=s.next
 ext:=s.ext
 size:=s.size
 low:=Nat.min_le_left _ _
 tape:=s.tape
 os:=s.os
 output:=s.output
 frame B j h:=s.frame B j λb k L x i g c=>h b k L x i g (lT (Nat.min_le_right _ _) c)
 origin:=s.origin
 old:=s.old
 keep b k x c:=s.keep b k x (Nat.lt_of_lt_of_le c (Nat.min_le_right _ _))
 born b k x e:=⟨(s.born b k x e).1.imp id λh=>lT (Nat.min_le_right _ _) h,(s.born b k x e).2⟩
end Go.Am
namespace Go.Am
open Go
structure EOk (E:Env):Prop where
 types:∀t ti,E.types.get t=some ti->∃i,E.prog.info? t=some i/\E.prog.underlying t=some ti.desc/\ti.size=i.size/\ti.bytes=i.bytes/\
  (∀z,ti.zero=some z->∃v,i.zero=some v/\zF v=true/\v.cells.toList=z/\z.all qE=true/\z.length=i.size/\(ti.agg=true->v=.agg ⟨z⟩)/\(ti.agg=false->z=[v]))/\ti.agg=qPG ti.desc
 funcs : ∀ f fn, E.funcs.get f = some fn -> E.prog.funcs[f]? = some fn /\ fn.body.isSome = true /\ fn.name ≠ "runtime.NumGoroutine"
 codes:∀f fn c,E.funcs.get f=some fn->fn.body=some c->zP c=true
 mixed:E.prog.follows .mixedOrders=true
 ng:E.ng=E.prog.globals.size
 fields:∀t ti fs,E.types.get t=some ti->ti.desc=.struct fs->∀f∈fs.toList,∃fi,E.types.get f.type=some fi
theorem take?_spec:∀(l:List Value) (n:Nat) (r:List Value),take? l n=some r->r=l.take n/\n<=l.length
 |_,0,r,h=>by simp[take?]at h;subst h;simp
 | [],_+1,r,h=>by simp[take?]at h
 |x::l,n+1,r,h=>by simp only[take?,Option.map_eq_some_iff]at h;obtain⟨y,b,rfl⟩:=h;obtain⟨c,h3⟩:=take?_spec l n y b;grind
theorem m7:∀(cs:List Value) (i:Nat) (vs r:List Value),j4 cs i vs=some r->i+vs.length<=cs.length/\r=cs.take i++vs++cs.drop (i+vs.length)
 |cs,0,[],r,h=>by simp[j4]at h;subst h;simp
 | [],0,_::_,r,h=>by simp[j4]at h
 |c::cs,0,v::vs,r,h=>by simp only[j4,Option.map_eq_some_iff]at h;obtain⟨x,y,rfl⟩:=h;obtain⟨e,h3⟩:=m7 cs 0 vs x y;grind
 | [],_+1,vs,r,h=>by cases vs<;>simp[j4]at h
 |c::cs,i+1,vs,r,h=>by
  have b:(j4 cs i vs).map (c :: ·)=some r:=by cases vs<;>simpa[j4]using h
  simp only[Option.map_eq_some_iff]at b;obtain⟨x,y,rfl⟩:=b;obtain⟨e,h3⟩:=m7 cs i vs x y;grind
theorem qCp{H:AH}{b i n:Nat}{r:List Value}(h:H.loads b i n=some r):∃cs el rt own,H.blocks.get b=some ⟨.cells cs el,rt,own⟩/\r=(cs.drop i).take n/\n<=cs.length-i:=by
 unfold AH.loads at h;split at h
 ·rename_i cs el rt own x;obtain⟨c,y⟩:=take?_spec _ _ _ h;exact⟨cs,el,rt,own,x,c,by simpa using y⟩
 cases h
section
variable{E:Env}{σ:zU}{H:AH}{w:World}
theorem HR.cellsAt(g:HR E σ H w){b:Nat}{L:Loc}{cs:List Value}{el rt:Nat}{own:Bool}(j:H.blocks.get b=some ⟨.cells cs el,rt,own⟩)(e:σ b=some L):∃ccs h x,w.heap[L.blk]? = some (.cells ccs h x)/\(own=true->qWk L el h ccs.size x)/\L.off+L.ext<=ccs.size/\cs.length<=L.ext/\(∀y,E.types.get el=some y->L.sz=y.size)/\∀i v,cs[i]? = some v->qE v=true/\∃v',ccs[L.off+i]? = some v'/\VR σ v v':=by obtain⟨o,k,c⟩:=g.objs b _ L j e;cases o<;>simp only[oA]at c;rename_i ccs h x;exact⟨ccs,h,x,k,c⟩
theorem qAf(o:HR E σ H w){b i n:Nat}{r:List Value}{L:Loc}(h:H.loads b i n=some r)(l:σ b=some L):∃k,(loadCells ⟨L.blk,L.off+i,none⟩ n).run E.prog w=.ok k.toArray w/\VRs σ r k/\r.length=n/\r.all qE=true:=by
 obtain⟨cs,el,rt,own,p,rfl,z⟩:=qCp h;obtain⟨ccs,u,F,t,_,h3,C,_,B⟩:=o.cellsAt p l;have hlen:((cs.drop i).take n).length=n:=by simp;omega
 have A:∀j,j<n->((cs.drop i).take n)[j]? = cs[i+j]? :=by grind
 have x:∀j v,((cs.drop i).take n)[j]? = some v->((ccs.toList.drop (L.off+i)).take n)[j]? = ccs[L.off+(i+j)]? /\qE v=true/\∃v',ccs[L.off+(i+j)]? = some v'/\VR σ v v':=by grind
 have y:((ccs.toList.drop (L.off+i)).take n).length=n:=by grind
 refine⟨(ccs.toList.drop (L.off+i)).take n,?_,?_,hlen,?_⟩
 ·have:=run_loadCells_list (P:=E.prog) w ⟨L.blk,L.off+i,none⟩ ((ccs.toList.drop (L.off+i)).take n) ?_
  ·rw[y]at this;exact this
  intro j v hv;have g:j<n:=by have:=(gI hv).1;omega
  have q:(⟨L.blk,L.off+i,none⟩:Addr).add j=⟨L.blk,L.off+i+j,none⟩:=by unfold Addr.add;split<;>simp_all
  rw[q];rw[List.getElem?_take_of_lt g,List.getElem?_drop,Array.getElem?_toList]at hv;simp[World.cell?,t,hv]
 ·refine VRs.of_get (by rw[y,hlen]) λj v hv=>?_;obtain⟨e,_,v',e',c⟩:=x j v hv;exact⟨v',by rw[e,e'],c⟩
 rw[List.all_eq_true];intro v hv;obtain⟨j,g⟩:=List.getElem?_of_mem hv;exact(x j v g).2.1
end
theorem WSet.setRow{w:World}{g:Nat}{old cs:Array Value}{t:TypeId}{fr:Nat×Nat}(h:w.heap[g]? = some (.cells old t fr)):
  WSet w (w.setRow g cs) g (.cells cs t fr) where
 size:=by simp[World.setRow]
 at_:=setRow_heap w g old cs t fr h
 else_ B x:=by simp only[World.setRow,Array.getElem?_modify];rw[if_neg (λe=>x e.symm)]
 tape:=rfl
 os:=rfl
 output:=⟨rfl,lR _⟩
theorem wL(P:Program)(g o:Nat)(t:TypeId)(y:Nat×Nat):∀(vs:List Value) (i:Nat) (cur:Array Value) (w:World),w.heap[g]? = some (.cells cur t y)->(y=(0,0)∨cur.size<=y.1)->o+i+vs.length<=cur.size->
  (∀v∈vs,v.oneCell'=true)->(storeCells ⟨g,o,none⟩ vs i).run P w=.ok () (w.setRow g (cur.toList.take (o+i)++vs++cur.toList.drop (o+i+vs.length)).toArray)
 | [],i,cur,w,b,_,_,_=>by
  simp only[storeCells,List.append_nil,List.length_nil,Nat.add_zero,List.take_append_drop,Array.toArray_toList]
  rw[setRow_self w g cur t y b]
  rfl
 | v::rest,i,cur,w,b,p,l,q=>by
  have u:o+i<cur.size:=by simp at l;omega
  have j:(⟨g,o,none⟩:Addr).add i=⟨g,o+i,none⟩:=by unfold Addr.add;split<;>simp_all
  have h:w.cell? ⟨g,o+i,none⟩=some cur[o+i]:=by simp[World.cell?,b,u]
  have c:w.frozen? ⟨g,o+i,none⟩=false:=by
   obtain⟨lo,up⟩:=y
   simp only[World.frozen?,b,Bool.and_eq_false_iff,decide_eq_false_iff_not]
   grind
  have k:(store ((⟨g,o,none⟩:Addr).add i) v).run P w=.ok () (w.setRow g (cur.setIfInBounds (o+i) v)):=by
   rw[j,run_store P w _ v _ (q v (by simp)),h]
   simp[c,setCell_eq_setRow w g (o+i) cur t y v b]
  have next:=wL P g o t y rest (i+1) (cur.setIfInBounds (o+i) v) (w.setRow g (cur.setIfInBounds (o+i) v)) (setRow_heap w g cur _ t _ b) (by simpa using p) (by simp at l ⊢;omega)
   (λx r=>q x (by simp[r]))
  simp only[storeCells,Sem.run_bind,k,Result.andThen_ok,next,setRow_setRow]
  congr 3
  have e:=list_seg_step cur.toList (o+i) v rest (by simp at l ⊢;omega)
  grind
theorem qIF(v:Value):v.oneCell'=qE v:=by cases v<;>rfl
section
variable{E:Env}{σ:zU}{H:AH}{w:World}
theorem bX(I:HR E σ H w){b i:Nat}{vs x:List Value}{H':AH}{L:Loc}(h:H.stores b i vs=some H')(G:σ b=some L)(hv:VRs σ vs x)(B:vs.all qE=true):∃w',(storeCells ⟨L.blk,L.off+i,none⟩ x).run E.prog w=.ok () w'/\Step E σ H w σ H' w':=by
 unfold AH.stores at h;split at h;case h_2=>cases h
 rename_i cs el O J;simp only[Option.map_eq_some_iff]at h;obtain⟨cs',z,rfl⟩:=h;obtain⟨K,p⟩:=m7 _ _ _ _ z;obtain⟨ccs,C,N,g1,g2,g3,g4,g5,g6⟩:=I.cellsAt J G;obtain⟨o,q,g⟩:=g2 rfl;have l:=hv.length
 have e:=wL E.prog L.blk (L.off+i) C N x 0 ccs w g1 (o.imp id And.left) (by rw[l];omega)
  (λv u=>by rw[qIF];have:=hv.all_one;rw[B,List.all_eq_true]at this;exact this v u)
 refine⟨_,e,Step.write I J rfl G (WSet.setRow g1) ?_⟩;have A:cs'.length=cs.length:=by rw[p];simp;omega
 have k:(ccs.toList.take (L.off+i+0)++x++ccs.toList.drop (L.off+i+0+x.length)).toArray.size=ccs.size:=by simp;omega
 refine⟨λ_=>⟨by rw[k];exact o,q,g⟩,?_,by rw[A];exact g4,g5,?_⟩
 ·simp;omega
 intro j v y;have M:j<cs.length:=by have:=(gI y).1;omega
 have F:(cs.take i).length=i:=by simp;omega
 have c:(ccs.toList.take (L.off+i)).length=L.off+i:=by simp;omega
 simp only[Nat.add_zero,List.getElem?_toArray];rw[p]at y;by_cases c1:j<i
 ·have t:(cs.take i++vs++cs.drop (i+vs.length))[j]? = cs[j]? :=by
   rw[List.append_assoc,List.getElem?_append_left (by omega),List.getElem?_take_of_lt c1]
  have r:(ccs.toList.take (L.off+i)++x++ccs.toList.drop (L.off+i+x.length))[L.off+j]? = ccs[L.off+j]? :=by
   rw[List.append_assoc,List.getElem?_append_left (by omega),List.getElem?_take_of_lt (by omega),Array.getElem?_toList]
  rw[t]at y;rw[r]
  exact g6 j v y
 by_cases P:j<i+vs.length
 ·have t:(cs.take i++vs++cs.drop (i+vs.length))[j]? = vs[j-i]? :=by
   rw[List.append_assoc,List.getElem?_append_right (by omega),List.getElem?_append_left (by omega),F]
  have r:(ccs.toList.take (L.off+i)++x++ccs.toList.drop (L.off+i+x.length))[L.off+j]? = x[j-i]? :=by
   rw[List.append_assoc,List.getElem?_append_right (by omega),List.getElem?_append_left (by omega),c]
   congr 1;omega
  rw[t]at y;rw[r]
  rw[List.all_eq_true]at B
  exact⟨B v (List.mem_of_getElem? y),hv.get _ v y⟩
 have t:(cs.take i++vs++cs.drop (i+vs.length))[j]? = cs[j]? :=by
  rw[List.append_assoc,List.getElem?_append_right (by omega),List.getElem?_append_right (by omega),F,List.getElem?_drop]
  congr 1;omega
 have r:(ccs.toList.take (L.off+i)++x++ccs.toList.drop (L.off+i+x.length))[L.off+j]? = ccs[L.off+j]? :=by
  rw[List.append_assoc,List.getElem?_append_right (by omega),List.getElem?_append_right (by omega),c,List.getElem?_drop,Array.getElem?_toList]
  congr 1;omega
 rw[t]at y;rw[r];exact g6 j v y
theorem qB0(he:EOk E){t:TypeId}{x:TI}(h:E.types.get t=some x)(w:World):(isAgg t).run E.prog w=.ok x.agg w:=by obtain⟨i,b,y,_,_,_,h3⟩:=he.types t x h;simp only[isAgg,Sem.run_bind,run_underlying y,Result.andThen_ok];rw[h3];cases x.desc<;>rfl
theorem zQ(he:EOk E){t:TypeId}{x:TI}(h:E.types.get t=some x)(w:World):(sizeOf t).run E.prog w=.ok x.size w:=by obtain⟨i,b,_,y,_⟩:=he.types t x h;simp[sizeOf,run_typeInfo w b,y]
theorem zN(he:EOk E){t:TypeId}{x:TI}(h:E.types.get t=some x)(w:World):(underlying t).run E.prog w=.ok x.desc w:=by obtain⟨i,_,y,_⟩:=he.types t x h;exact run_underlying y w
theorem kZ(he:EOk E){t:TypeId}{x:TI}{z:List Value}(h:E.types.get t=some x)(y:x.zero=some z)(w:World):∃v,(zeroValue t).run E.prog w=.ok v w/\zF v=true/\v.cells.toList=z/\z.all qE=true/\z.length=x.size:=by obtain⟨i,c,_,b,_,h3,_⟩:=he.types t x h;obtain⟨v,g1,g2,g3,g4,g5,_⟩:=h3 z y;exact⟨v,by simp[zeroValue,run_typeInfo w c,g1],g2,g3,g4,by rw[g5,b]⟩
theorem qAN(he:EOk E){t:TypeId}{x:TI}{z:List Value}{v:Value}(h:E.types.get t=some x)(b:x.zero=some z)(hv:pU x.agg z=some v)(w:World):(zeroValue t).run E.prog w=.ok v w/\zF v=true:=by
 obtain⟨i,c,_,g,_,h3,_⟩:=he.types t x h;obtain⟨u,g1,g2,g3,g4,g5,g6,g7⟩:=h3 z b;have e:v=u:=by
  cases y:x.agg with
  |true=>rw[y]at hv;simp only[pU,oI]at hv;rw[g6 y,hv]
  |false=>rw[y,g7 y]at hv;simp only[pU,oI]at hv;exact hv.symm
 subst e;exact⟨by simp[zeroValue,run_typeInfo w c,g1],g2⟩
theorem mM(b o n:Nat):(⟨b,o,none⟩:Addr).add n=⟨b,o+n,none⟩:=by unfold Addr.add;split<;>simp_all
theorem qGZ(he:EOk E)(q:HR E σ H w){t:TypeId}{a r v:Value}(h:k9 E H t a=some v)(F:VR σ a r):∃v',(Instr.loadAt t r).run E.prog w=.ok v' w/\VR σ v v':=by
 unfold k9 at h;split at h;case h_2=>cases h
 rename_i A b o k;cases F with
 |leaf G=>simp[zX]at G
 | ptr p=>
  rename_i L;simp only[Instr.loadAt,Instr.sureAddr,Sem.run_bind,Sem.run_pure,Result.andThen_ok,loadVar,qB0 he k];cases y:A.agg with
  |true=>rw[y,cond_true]at h;simp only[Option.map_eq_some_iff]at h;obtain⟨l,g,rfl⟩:=h;obtain⟨j,c,i,_,h3⟩:=qAf q g p;refine⟨.agg ⟨j⟩,?_,.agg i h3⟩;simp[zQ he k,c]
  | false=>
   rw[y,cond_false]at h;split at h
   ·rename_i u g;cases h;obtain⟨j,c,i,_,h3⟩:=qAf q g p;cases i with
    |cons B e=>
     cases e;rename_i v';refine⟨v',?_,B⟩;simp only[loadCells,loadCellsFrom,mM,Nat.add_zero,Sem.run_bind,Sem.run_pure]at c;simp only[Bool.false_eq_true,if_false];revert c;cases C:(load {block:=L.blk,off:=L.off+o,spot:=none}).run E.prog w with
     |ok x z=>simp only[Result.andThen_ok];intro c;cases c;rfl
     |halt x z=>simp
   cases h
theorem qLo(he:EOk E)(l:HR E σ H w){t:TypeId}{a g v v':Value}{H':AH}(h:kD E H t a v=some H')(p:VR σ a g)(hv:VR σ v v')(e:∀c,v≠.tuple c):∃w',(Instr.storeAt t g v').run E.prog w=.ok () w'/\Step E σ H w σ H' w':=by
 unfold kD at h;split at h;case h_2=>cases h
 rename_i i b o j;simp only[qY]at h;split at h;case isFalse=>cases h
 rename_i x;cases p with
 |leaf u=>simp[zX]at u
 |ptr k=>
  rename_i L;obtain⟨w',r,q⟩:=bX l h k hv.cells (hv.cells_one e);refine⟨w',?_,q⟩;have y:v'.cells.size=i.size:=by have:=hv.cells.length;simp only[Array.length_toList]at this x;omega
  simp only[Instr.storeAt,Instr.sureAddr,Sem.run_bind,Sem.run_pure,Result.andThen_ok,storeVar,zQ he j];simp[y,r]
end
end Go.Am
namespace Go.Am
open Go
end Go.Am
namespace Go.Am
open Go
end Go.Am
namespace Go.Am
open Go
theorem yJ{α:Type}(P:Program)(w:World):∀(s:Sem α) (a:α),qS P s=some a->s.run P w=.ok a w:=by
 intro s;induction s with
 |pure a=>intro b h;simp[qS]at h;subst h;rfl
 |program k ih=>intro b h;exact ih P b (by simpa[qS]using h)
 |mark m k ih=>intro b h;exact ih b (by simpa[qS]using h)
 |_=>intro b h;simp[qS]at h
theorem flat?_spec{v:Option Value}{u:Value}(h:flat? v=some u):v=some u/\zF u=true:=by unfold flat? at h;grind
theorem gG{α:Sort _}(a b:Bool)(x y:α):(bif a&&b then x else y)=bif a then(bif b then x else y)else y:=by cases a<;>rfl
section
variable{E:Env}{σ:zU}{H:AH}{w:World}{fr:Fr}{a:Act}
theorem pQ(he:EOk E)(b:HR E σ H w)(e:aW σ fr a.tmps){x:Operand}{v:Value}(h:ev E fr x=some v):VR σ v (a.eval x):=by
 cases x with
 |tmp t=>exact e.2 t v h
 |const c=>
  simp only[ev]at h;cases y:zF c with
  |true=>rw[y,cond_true]at h;cases h;exact j7 _ _ y
  |false=>rw[y,cond_false]at h;cases h
 |global g=>
  simp only[ev,vQ]at h;split at h;case isFalse=>cases h
  rename_i l;cases h;obtain⟨L,k,j,h3⟩:=b.glob g (by rw[←he.ng];omega);have:=VR.ptr (i:=0) k;rw[j,h3]at this;exact this
 |func f=>simp only[ev]at h;cases h;exact .func rfl .nil .nil
theorem uA:∀{xs:List Operand} {vs:List Value},(∀x∈xs,∀v,ev E fr x=some v->VR σ v (a.eval x))->rO E fr xs=some vs->VRs σ vs (xs.map a.eval)
 | [],vs,_,h=>by simp[rO]at h;subst h;exact .nil
 |x::xs,vs,b,h=>by
  simp only[rO]at h;split at h
  ·cases h
  rename_i v hv;simp only[Option.map_eq_some_iff]at h;obtain⟨c,g,rfl⟩:=h;exact .cons (b x (by simp) v hv) (uA (λy e=>b y (by simp[e])) g)
inductive PRs (σ:zU):List (Nat×Value)->List (Nat×Value)->Prop
 |nil:PRs σ [] []
 |cons {i:Nat} {v v':Value} {l l':List (Nat×Value)} (h:VR σ v v') (ht:∀c,v≠.tuple c) (hs:PRs σ l l'):PRs σ ((i,v)::l) ((i,v')::l')
theorem uZ:∀{xs:List (Nat×Operand)} {vs:List (Nat×Value)},(∀x∈xs.map (·.2),∀v,ev E fr x=some v->VR σ v (a.eval x))->parts? E fr xs=some vs->
  PRs σ vs (xs.map λ(i,x)=>(i,a.eval x))
 | [],vs,_,h=>by simp[parts?]at h;subst h;exact .nil
 |(i,x)::xs,vs,g,h=>by
  simp only[parts?]at h
  split at h
  ·cases h
  ·cases h
  rename_i v b hv
  simp only[Option.map_eq_some_iff]at h
  obtain⟨j,l,rfl⟩:=h
  exact .cons (g x (by simp) v hv) (λc e=>b c e) (uZ (λy k=>g y (by simp only[List.map_cons,List.mem_cons];exact .inr k)) l)
theorem VRs.take:∀{l x:List Value} (n:Nat),VRs σ l x->VRs σ (l.take n) (x.take n)
 |_,_,0,_=>by simpa using VRs.nil
 |_,_,_+1,.nil=>.nil
 |_,_,n+1,.cons h y=>.cons h (VRs.take n y)
theorem VRs.drop:∀{l x:List Value} (n:Nat),VRs σ l x->VRs σ (l.drop n) (x.drop n)
 |_,_,0,h=>h
 |_,_,_+1,.nil=>.nil
 |_,_,n+1,.cons _ y=>VRs.drop n y
theorem qEq(off:Nat):∀(vs:List Value) (k:Nat) (cs:Array Value),off+k+vs.length<=cs.size->
  ((vs.zipIdx k).foldl (λ(cs:Array Value) (x:Value×Nat)=>cs.setIfInBounds (off+x.2) x.1) cs).toList=cs.toList.take (off+k)++vs++cs.toList.drop (off+k+vs.length)
 | [],k,cs,_=>by simp
 |v::vs,k,cs,h=>by
  simp only[List.zipIdx_cons,List.foldl_cons]
  rw[qEq off vs (k+1) _ (by simp at h ⊢;omega)]
  have y:off+k<cs.toList.length:=by simp at h ⊢;omega
  simp only[Array.toList_setIfInBounds]
  apply List.ext_getElem?
  intro j
  simp only[List.getElem?_append,List.length_append,List.length_take,List.length_set,List.getElem?_take,List.getElem?_drop,List.getElem?_set,List.length_cons]
  grind
theorem qH5{p:Value->Bool}{l:List Value}(n:Nat)(h:l.all p=true):(l.take n).all p=true:=by grind
theorem qH6{p:Value->Bool}{l:List Value}(n:Nat)(h:l.all p=true):(l.drop n).all p=true:=by grind
theorem tC(y:Nat->Option (Nat×Nat)):∀{ps b:List (Nat×Value)} {cs r:List Value} {cs':Array Value},PRs σ ps b->VRs σ cs cs'.toList->cs.all qE=true->
  dU cs ps y=some r->∃o,Instr.fill y cs' b=some o/\VRs σ r o.toList/\r.all qE=true/\r.length=cs.length
 |_,_,cs,r,cs',.nil,k,p,h=>by
  simp[dU]at h;subst h;exact⟨cs',rfl,k,p,rfl⟩
 | _,_,cs,r,cs',.cons (i:=i) (v:=v) (v':=v') hv C F,k,p,h=>by
  simp only[dU]at h
  split at h
  ·cases h
  rename_i off size G
  simp only[qY]at h
  split at h
  case isFalse=>cases h
  rename_i t
  split at h
  case h_2=>cases h
  rename_i l u
  obtain⟨I,g2⟩:=m7 _ _ _ _ u
  have j:=k.length
  have c:=hv.cells.length
  have z:=qEq off v'.cells.toList 0 cs' (by simp only[Array.length_toList]at j c I t ⊢;omega)
  have q:VRs σ l (v'.cells.zipIdx.foldl (λ(cs:Array Value) (x:Value×Nat)=>cs.setIfInBounds (off+x.2) x.1) cs').toList:=by
   have e:v'.cells.zipIdx.foldl (λ(cs:Array Value) (x:Value×Nat)=>cs.setIfInBounds (off+x.2) x.1) cs' =
     (v'.cells.toList.zipIdx 0).foldl (λ(cs:Array Value) (x:Value×Nat)=>cs.setIfInBounds (off+x.2) x.1) cs':=by
    rw[←Array.foldl_toList,Array.toList_zipIdx]
   rw[e,z,g2,c]
   exact((k.take _).append hv.cells).append (k.drop _)
  have g:l.all qE=true:=by
   rw[g2,List.all_append,List.all_append,qH5 _ p,qH6 _ p,hv.cells_one C];rfl
  obtain⟨o,K,B,A,J⟩:=tC y F q g h
  refine⟨o,?_,B,A,?_⟩
  ·simp only[Instr.fill,G]
   grind
  grind
theorem kH(z:List Value):∀n,(xG z n).length=n*z.length
 |0=>by simp[xG]
 |n+1=>by simp[xG,kH z n,Nat.succ_mul];omega
theorem qGD(z:List Value):∀n i,i<n*z.length->(xG z n)[i]? = z[i%z.length]?
 |0,i,h=>by simp at h
 |n+1,i,h=>by
  rw[Nat.succ_mul]at h;simp only[xG];by_cases x:i<z.length
  ·rw[List.getElem?_append_left x,Nat.mod_eq_of_lt x]
  rw[List.getElem?_append_right (by omega),qGD z n (i-z.length) (by omega)]
  congr 1
  exact(Nat.mod_eq_sub_mod (by omega)).symm
theorem qB5{z:List Value}{v:Value}:∀{n:Nat},v∈xG z n->v∈z
 |0,h=>by simp[xG]at h
 |n+1,h=>by simp only[xG,List.mem_append]at h;exact h.elim id qB5
theorem aX(z:Array Value)(n s:Nat)(y:s=z.size):((Array.range (n*s)).map (λi=>z[i%z.size]!)).toList=xG z.toList n:=by
 subst y;apply List.ext_getElem?;intro i;by_cases h:i<n*z.size
 ·rw[qGD z.toList n i (by simpa using h)];have x:0<z.size:=by grind
  have hm:i%z.size<z.size:=Nat.mod_lt _ x;simp[h,hm]
 have b:(xG z.toList n).length<=i:=by rw[kH];simp;omega
 grind
theorem qCR:∀{l:List Value},(∀v∈l,VR σ v v)->VRs σ l l
 | [],_=>.nil
 |v::l,h=>.cons (h v (by simp)) (qCR λu hu=>h u (by simp[hu]))
theorem pG{v:Value}{z:List Value}(h:zF v=true)(x:v.cells.toList=z):VRs σ z z:=by have:=(j7 (σ:=σ) 6 v h).cells;rw[x]at this;exact this
theorem VRs.mem_refl:∀{l:List Value},VRs σ l l->∀v∈l,VR σ v v
 |_,.nil,v,h=>by simp at h
 |_,.cons h x,v,hv=>by
  simp at hv;rcases hv with rfl|hv
  ·exact h
  exact VRs.mem_refl x v hv
theorem e7{z:List Value}(h:VRs σ z z)(n:Nat):VRs σ (xG z n) (xG z n):=qCR λv hv=>h.mem_refl v (qB5 hv)
theorem sW{z:List Value}(h:z.all qE=true)(n:Nat):(xG z n).all qE=true:=by rw[List.all_eq_true]at h ⊢;exact λv hv=>h v (qB5 hv)
end
end Go.Am
namespace Go.Am
open Go
def qMK(E:Env)(σ:zU)(w:World):AR->Next->Prop
 |.val v,.value v'=>VR σ v v'
 |.skip,.skip=>True
 |.rcv,.recover=>True
 |.enter f x,.enter y h=>y=f/\VRs σ x h.toList/\∃fn,E.funcs.get f=some fn
 |.round l x,nx=>∃(L:Loc) (lo:Loop) (h:List Value),σ l=some L/\w.heap[L.blk]? = some (.loop lo)/\VRs σ x h/\h.length=lo.params.size/\nx=.round L.blk lo.fn ((lo.params.zip ⟨h⟩).foldl (λtmps (t,a)=>tmps.setIfInBounds t a) lo.tmps) lo.assign lo.body
 |_,_=>False
def jZ(E:Env)(σ:zU)(H:AH)(w:World)(r:gC)(s:Sem Next):Prop:=
 ∀y H',r=some (y,H')->yD σ H.next H'.next->∃h w' x,s.run E.prog w=.ok x w'/\Step E σ H w h H' w'/\qMK E h w' y x
section
variable{E:Env}{σ:zU}{H:AH}{w:World}{fr:Fr}{a:Act}
theorem jZ.one(y:HR E σ H w){x:Option Value}{s:Sem Value}(h:∀v,x=some v->∃v',s.run E.prog w=.ok v' w/\VR σ v v'):jZ E σ H w (one H x) (do pure (.value (←s))):=by intro e H' he _;simp only[Go.Am.one,Option.map_eq_some_iff]at he;obtain⟨v,hv,he⟩:=he;cases he;obtain⟨v',c,b⟩:=h v hv;exact⟨σ,w,.value v',by simp[c],Step.refl y,b⟩
theorem jZ.none{s:Sem Next}:jZ E σ H w none s:=λ_ _ h=>by cases h
theorem qEb(k:HR E σ H w)(e:σ H.next=none){cs:List Value}{cs':Array Value}{el:TypeId}(hv:VRs σ cs (cs'.toList.take cs.length))(l:cs.length<=cs'.size)(j:cs.all qE=true):∃L,L.blk=w.heap.size/\L.off=0/\L.ext=cs'.size/\(∀x,E.types.get el=some x->L.sz=x.size)/\Step E σ H w (σ.add H.next L) (H.new (.cells cs el)) (World.push w (.cells cs' el)):=by
 let L:Loc:=⟨w.heap.size,0,cs'.size,match E.types.get el with|some x=>x.size|none=>0⟩;have y:∀x,E.types.get el=some x->L.sz=x.size:=λx h=>by simp[L,h]
 refine⟨L,rfl,rfl,rfl,y,Step.new k e _ _ L rfl ?_⟩;refine⟨λ_=>⟨.inl rfl,rfl,Nat.zero_mod _⟩,by simp[L],l,y,λi v c=>?_⟩;rw[List.all_eq_true]at j;refine⟨j v (List.mem_of_getElem? c),?_⟩;obtain⟨v',g,h3⟩:=hv.get i v c;have b:i<cs.length:=(gI c).1;rw[List.getElem?_take_of_lt b,Array.getElem?_toList]at g;exact⟨v',by simpa[L]using g,h3.mono (zU.add_le e)⟩
theorem iX(y:HR E σ H w)(b:σ H.next=none){cs cs':List Value}{el:TypeId}(hv:VRs σ cs cs')(c:cs.all qE=true):∃L,L.blk=w.heap.size/\L.off=0/\L.ext=cs.length/\(∀x,E.types.get el=some x->L.sz=x.size)/\Step E σ H w (σ.add H.next L) (H.new (.cells cs el)) (World.push w (.cells ⟨cs'⟩ el)):=by have h:=hv.length;obtain⟨L,g1,g2,g3,g4,g5⟩:=qEb y b (cs':=⟨cs'⟩) (el:=el) (by rw[←h];simpa using hv) (by simp[h]) c;exact⟨L,g1,g2,by rw[g3];simp[h],g4,g5⟩
theorem yD.head{n x:Nat}(h:yD σ n x)(y:n<x):σ n=none:=h n (lR _) y
theorem qMF(he:EOk E)(b:HR E σ H w)(t:TypeId):
  jZ E σ H w (match E.types.get t with
   |some {zero:=some z,..}=>some (.val (.pointer (some ⟨H.next,0,none⟩)),H.new (.cells z t))
   |_=>none) (do pure (.value (←Instr.alloc t true (.tuple #[])))):=by
 intro q H' h c
 split at h
 case h_2=>cases h
 rename_i o d sz l z ag y
 cases h
 obtain⟨v,k,j,h3,g,p⟩:=kZ he y rfl w
 have x:=c.head (Nat.lt_succ_self _)
 obtain⟨L,g1,g2,g3,g4,g5⟩:=iX b x (el:=t) (pG (σ:=σ) j h3) g
 refine⟨_,_,.value (.pointer (some ⟨w.heap.size,0,none⟩)),?_,g5,?_⟩
 ·have:v.cells=⟨z⟩:=by cases e:v.cells;simp[e]at h3;rw[h3]
  simp[Instr.alloc,k,newVar,newRow,World.push,this]
 have:=VR.ptr (σ:=σ.add H.next L) (i:=0) zU.add_self
 rw[g1,g2]at this
 exact this
theorem qR6(he:EOk E)(b:HR E σ H w)(t:TypeId){v v':Value}(hv:VR σ v v')(x:∀c,v≠.tuple c):jZ E σ H w (some (.val (.pointer (some ⟨H.next,0,none⟩)),H.new (.cells v.cells.toList t))) (do pure (.value (←Instr.box t v'))):=by
 intro g H' h e;cases h;have y:=e.head (Nat.lt_succ_self _);obtain⟨L,g1,g2,g3,g4,g5⟩:=iX b y (el:=t) hv.cells (hv.cells_one x);refine⟨_,_,.value (.pointer (some ⟨w.heap.size,0,none⟩)),?_,g5,?_⟩
 ·simp[Instr.box,newVar,newRow,World.push]
 have:=VR.ptr (σ:=σ.add H.next L) (i:=0) zU.add_self;rw[g1,g2]at this;exact this
theorem qCd(he:EOk E):∀(y:List Field),(∀f∈y,∃e,E.types.get f.type=some e)->
  ∃b:List (Nat×Nat),(y.mapM (λ(f:Field)=>(do pure (f.offset,←sizeOf f.type):Sem (Nat×Nat)))).run E.prog w=.ok b w/\∀i p,fieldPlace? E y i=some p->b[i]? = some p
 | [],_=>⟨[],by simp,by simp[fieldPlace?]⟩
 |f::y,h=>by
  obtain⟨b,l,k⟩:=qCd he y λg j=>h g (by simp[j])
  obtain⟨e,x⟩:=h f (by simp)
  refine⟨(f.offset,e.size)::b,?_,?_⟩
  ·simp only[List.mapM_cons,Sem.run_bind,zQ he x,Result.andThen_ok,l,Sem.run_pure]
  intro i p c
  cases i with
  |zero=>simp[fieldPlace?,x]at c;simp[c]
  |succ i=>simpa using k i p (by simpa[fieldPlace?]using c)
theorem qD8{place place':Nat->Option (Nat×Nat)}(c:∀i p,place i=some p->place' i=some p):∀(x:List (Nat×Value)) (cs r:List Value),
  dU cs x place=some r->dU cs x place'=some r
 | [],cs,r,h=>h
 |(i,v)::x,cs,r,h=>by
  simp only[dU]at h ⊢
  split at h
  ·cases h
  rename_i off size b
  rw[c i _ b]
  simp only[qY]at h ⊢
  split at h
  case isFalse=>cases h
  rename_i y
  rw[if_pos y]
  split at h
  case h_2=>cases h
  exact qD8 c x _ _ h
theorem qMw(he:EOk E){t:TypeId}{ps y:List (Nat×Value)}{v:Value}(o:PRs σ ps y)(h:aN E t ps=some v):∃v',(Instr.build t ⟨y⟩).run E.prog w=.ok v' w/\VR σ v v':=by
 unfold aN at h;split at h
 ·rename_i I G sz F z ag g;simp only[Option.map_eq_some_iff]at h;obtain⟨l,r,rfl⟩:=h;obtain⟨k,B,A,h3,u,M⟩:=kZ he g rfl w;obtain⟨J,L,K⟩:=qCd (w:=w) he G.toList (he.fields t _ G g rfl);have q:=qD8 (place':=λx=>J[x]?) (λi p o=>K i p o) _ _ _ r;obtain⟨c,g1,g2,g3,g4⟩:=tC (σ:=σ) (cs':=k.cells) _ o (by rw[h3];exact pG A h3) u q;refine⟨.agg c,?_,by cases c;exact .agg g2 g3⟩;simp only[Instr.build,Sem.run_bind,B,Result.andThen_ok,zN he g,Array.mapM_eq_mapM_toList,Sem.run_map,L];simp[g1]
 ·rename_i I n j sz F z ag g;cases b:E.types.get j with
  |none=>simp[b]at h
  |some e=>simp only[b,Option.bind_some,Option.map_eq_some_iff]at h;obtain⟨l,r,rfl⟩:=h;obtain⟨k,B,A,h3,u,M⟩:=kZ he g rfl w;obtain⟨c,g1,g2,g3,g4⟩:=tC (σ:=σ) (cs':=k.cells) _ o (by rw[h3];exact pG A h3) u r;refine⟨.agg c,?_,by cases c;exact .agg g2 g3⟩;have C:Instr.fill (λi=>some (i*e.size,e.size)) k.cells y=some c:=g1;simp only[Instr.build,Sem.run_bind,B,Result.andThen_ok,zN he g,zQ he b];simp[C]
 cases h
theorem qDk(he:EOk E)(S:HR E σ H w){t:TypeId}{n:Nat}{ps k:List (Nat×Value)}(U:PRs σ ps k):jZ E σ H w (wX E H t n ps) (do pure (.value (←Instr.buildSlice t n ⟨k⟩))):=by
 intro ar H' h W;unfold wX at h;split at h;case h_2=>cases h
 rename_i ti r sz by_ z0 ag I;split at h;case h_2=>cases h
 rename_i dd ed x eby M eag g;rw[gG,qY,vQ]at h;split at h;case isFalse=>cases h
 rename_i A;split at h;case isFalse=>cases h
 rename_i K;simp only[Option.map_eq_some_iff]at h;obtain⟨l,V,h⟩:=h;cases h;obtain⟨u,h1,h2,h3,h4,h5⟩:=kZ he g rfl w;have z:=pG (σ:=σ) h2 h3;have o:u.cells.size=x:=by rw[←A,←h3];simp
 have C:n*x+n<=1000000:=by have:Nat.mul n (Nat.succ x)=n*x+n:=Nat.mul_succ n x;omega
 obtain⟨j,e,R⟩:∃j:Array Value,j=(if n*x=0 then #[]else u.cells)/\
   ((Array.range (n*x)).map (λi=>j[i%j.size]!)).toList=xG M n:=by
  by_cases y:n*x=0
  ·refine⟨#[],by simp[y],?_⟩
   rw[y]
   have:(xG M n).length=0:=by rw[kH,A,y]
   simp[List.length_eq_zero_iff.1 this]
  refine⟨u.cells,by simp[y],?_⟩
  rw[aX u.cells n x o.symm,h3]
 obtain⟨N,g1,g2,g3,g4⟩:=tC (σ:=σ) (cs':=(Array.range (n*x)).map (λi=>j[i%j.size]!)) _ U (by rw[R];exact e7 z n) (sW h4 n) V;have q:Instr.fill (λi=>some (i*x,x)) ((Array.range (n*x)).map (λi=>j[i%j.size]!)) k=some N:=g1;have B:=W.head (Nat.lt_succ_self _);obtain⟨L,G,F,Q,P,O⟩:=iX S B (el:=r) g2 g3;refine⟨_,_,.value (.slice (some ⟨w.heap.size,0,none⟩) n n),?_,O,?_⟩
 ·have p:¬n*x>2^24:=by omega
  by_cases y:n*x=0
  ·rw[if_pos y]at e;subst e;simp only[Instr.buildSlice,Sem.run_bind,zN he I,Result.andThen_ok,zQ he g,if_neg p,if_pos y,Sem.run_pure,q];simp[newRow,World.push]
  rw[if_neg y]at e;subst e;simp only[Instr.buildSlice,Sem.run_bind,zN he I,Result.andThen_ok,zQ he g,if_neg p,if_neg y,Sem.run_pure,h1,q];simp[newRow,World.push]
 have J:n<qT:=by unfold qT;omega
 by_cases y:n=0
 ·have:=VR.sliceE (σ:=σ.add H.next L) (i:=0) (l:=n) (c:=n) zU.add_self (lR _) J;rw[G,F]at this;subst y;exact this
 have:=VR.sliceX (σ:=σ.add H.next L) (b:=H.next) (i:=0) (l:=n) (c:=n) zU.add_self (lR _) J (by rw[Q,P _ g,g4,kH,A];simp);rw[G,F]at this;have Z:Nat.beq n 0=false:=by
  cases X:Nat.beq n 0 with
  |false=>rfl
  |true=>exact absurd (vE X) y
 rw[Z];exact this
end
end Go.Am
