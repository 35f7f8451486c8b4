/- The abstract machine: a deterministic, computable run of the model's code over a heap of abstract blocks. Conditions: none; it is a definition. -/
import Derived.Calls
import Derived.Orders
import Derived.Laws.CopyRow
import Derived.Laws.Cells
import Derived.Laws.Entries
import Derived.ChangeKeysEq
set_option linter.unusedVariables false
set_option linter.unusedSimpArgs false
namespace Go.Am
open Go
abbrev LA:=List Value
abbrev LB:=List Oper
abbrev LC:=List Nat
abbrev LD:=Array Value
abbrev LF:=Array Oper
abbrev LG:=Option Value
abbrev LH:=Nat->Value
abbrev LI:=Nat->Nat
abbrev LJ:=ByteArray
abbrev LK:=Program
abbrev LM:=Operand
abbrev LN:=TypeId
abbrev LO:=FuncId
abbrev LP:=World
abbrev LQ:=Value
abbrev aa:=@Option.map_eq_some_iff
abbrev ah:=@Go.Result.andThen_ok
abbrev ai:=@cond_true
abbrev al:=@List.all_eq_true
abbrev au:=@Go.Sem.run_bind
abbrev ax:=@Go.Sem.run_pure
abbrev ay:=@List.append_assoc
abbrev bc:=@cond_false
abbrev be:=@List.mem_of_getElem?
abbrev bf:=@if_neg
abbrev bh:=@List.mem_append
abbrev bl:=@List.mem_cons
abbrev bn:=@Option.bind_some
abbrev bo:=@if_pos
abbrev bp:=@Nat.lt_of_lt_of_le
abbrev bq:=@Nat.min_le_right
abbrev bu:=@List.getElem?_append_right
abbrev bw:=@Nat.lt_succ_self
abbrev bx:=@List.length_append
abbrev bz:=@List.getElem?_append_left
abbrev cg:=@List.length_take
abbrev cr:=@List.append_nil
abbrev cx:=@Nat.le_succ
abbrev cy:=@List.length_eq_zero_iff
abbrev cz:=@Bool.false_eq_true
abbrev dg:=@List.length_nil
abbrev dj:=@List.length_cons
abbrev dn:=@if_true
abbrev dp:=@Nat.lt_succ_of_lt
abbrev dw:=@Nat.min_le_left
abbrev ef:=@List.length_set
abbrev fa:=@List.map_cons
abbrev ff:=@Array.getElem?_toList
abbrev fh:=@List.all_append
abbrev ft:=@List.getElem?_toArray
abbrev fu:=@List.getElem?_take_of_lt
abbrev fw:=@List.getElem?_drop
abbrev fx:=@Nat.add_zero
abbrev gl:=@if_false
abbrev gu:=@Array.length_toList
abbrev gv:=@Go.run_typeInfo
abbrev ia:=@List.getElem?_set
abbrev jf:=@Nat.succ_mul
abbrev jg:=@List.take_append_drop
abbrev jk:=@List.foldl_cons
abbrev jm:=@Nat.le_of_eq
variable{b:Nat}
theorem vW{a:Nat}(h:Nat.beq a b=true):a=b:=Nat.eq_of_beq_eq_true h
theorem dF{p:Prop}[Decidable p](h:decide p=false):¬p:=of_decide_eq_false h
theorem dT{p:Prop}[Decidable p](h:decide p=true):p:=of_decide_eq_true h
theorem fD{p:Prop}[Decidable p](h:¬p):decide p=false:=decide_eq_false h
theorem oA{a:Nat}(h:Nat.ble a b=true):a<=b:=Nat.le_of_ble_eq_true h
theorem bL{a:Nat}(h:a<=b):Nat.ble a b=true:=Nat.ble_eq_true_of_le h
theorem mC{α:Type}{a:α}(b:α){l:List α}(h:a∈l):a∈b::l:=List.mem_cons_of_mem b h
theorem vP(n:Nat):n<=n:=Nat.le_refl n
theorem lT{a c:Nat}(h:a<=b)(k:b<=c):a<=c:=Nat.le_trans h k
theorem aE(a b:Bool):((a&&b)=true)=(a=true/\b=true):=Bool.and_eq_true a b
theorem oI{α:Type}(a b:α):(some a=some b)=(a=b):=Option.some.injEq a b
theorem pI{α x:Type}{a c:α}{b d:x}(h:(a,b)=(c,d)):a=c/\b=d:=Prod.mk.inj h
variable{i:Nat}
theorem gI{α:Type}{l:List α}{a:α}(h:l[i]? = some a):∃h:i<l.length,l[i]=a:=List.getElem?_eq_some_iff.1 h
inductive T (α:Type) where
 |leaf
 |node (v:Option α) (l r:T α)
def T.get{α:Type}:T α->Nat->Option α
 |.leaf,_=>none
 |.node v l r,n=>
  bif Nat.beq n 0 then v else bif Nat.beq (Nat.mod n 2) 1 then l.get (Nat.div n 2)else r.get (Nat.pred (Nat.div n 2))
def T.set{α:Type}:Nat->T α->Nat->Option α->T α
 |0,t,_,_=>t
 |d+1,.leaf,n,x=>
  bif Nat.beq n 0 then .node x .leaf .leaf
  else bif Nat.beq (Nat.mod n 2) 1 then .node none (T.set d .leaf (Nat.div n 2) x) .leaf
  else .node none .leaf (T.set d .leaf (Nat.pred (Nat.div n 2)) x)
 |d+1,.node v l r,n,x=>
  bif Nat.beq n 0 then .node x l r
  else bif Nat.beq (Nat.mod n 2) 1 then .node v (T.set d l (Nat.div n 2) x) r
  else .node v l (T.set d r (Nat.pred (Nat.div n 2)) x)
def T.put{α:Type}(t:T α)(n:Nat)(x:Option α):T α:=T.set (n+1) t n x
def T.ofList{α:Type}(t:T α):Nat->List α->T α
 |_,[]=>t
 |n,x::xs=>T.ofList (t.put n (some x)) (n+1) xs
structure TI where
 desc:TypeDesc
 size:Nat
 bytes:Nat
 zero:Option (LA)
 agg:Bool
structure Fr where
 sz:Nat
 rd:Bool
 t:T LQ
inductive AObj where
 |cells (cs:LA) (elem:LN)
 |map (es:List MapEntry) (clock:Nat)
 |lx (s:LJ) (pos:Nat)
 |oa (m since:Nat) (seen:LC) (last:Nat)
 |loop (state:LoopState) (pending:Option Code) (tmps:Fr) (params:List Tmp) (assign body:Code)
structure ABlk where
 obj:AObj
 root:Nat
 own:Bool
structure Env where
 funcs:T Func
 types:T TI
 prog:LK
 ng:Nat
 /-- blocks that lie there from the beginning, and stay -/
 laid:List (Nat×ABlk):=[]
def rM:Fn->Bool
 |.yield _=>false
 |_=>true
def qU:LQ->Bool
 |.agg _|.tuple _=>false
 |_=>true
def zW:Nat->LQ->Bool
 |_,.bool _|_,.int _ _|_,.float _ _|_,.complex _ _ _|_,.string _=>true
 |_,.pointer a=>a.isNone
 |_,.slice a l c=>a.isNone&&Nat.beq l 0&&Nat.beq c 0
 |_,.map r=>r.isNone
 |_,.nilFunc|_,.nilIface=>true
 |n+1,.iface _ v=>zW n v
 |n+1,.agg cs=>cs.toList.all λc=>qU c&&zW n c
 |n+1,.tuple cs=>cs.toList.all (zW n)
 |_,_=>false
abbrev zP:Value->Bool:=zW 6
def qQs(d:TypeDesc):Bool:=match d with
 |.struct _|.array _ _=>true
 |_=>false
def qBQ(ag:Bool)(size:Nat)(v:LQ):Bool:=
 zP v&&v.cells.toList.all qU&&Nat.beq v.cells.toList.length size&&(match v with|.agg _=>ag|v=>!ag&&qU v)
def qFp(i:TypeInfo)(d:TypeDesc):TI:=
  { desc:=d,size:=i.size,bytes:=i.bytes
    zero:=match i.zero with|some v=>bif qBQ (qQs d) i.size v then some v.cells.toList else none|none=>none
    agg:=qQs d}
def rD(ag:Bool)(z:LA):LG:=match ag,z with
 |true,z=>some (.agg ⟨z⟩)
 |false,[v]=>some v
 |_,_=>none
def fG(P:LK):List TypeInfo->Nat->T TI->T TI
 | [],_,t=>t
 |i::h,n,t=>fG P h (n+1) (match P.underlying n with|some d=>t.put n (some (qFp i d))|none=>t)
def eH(o:Oper):LC:=o.after.toList.filterMap λe=>match e.ground with
 |.textOnly _|.gcOnly _=>none
 |_=>some e.on
def qAl(acc:LC):LC->LI
 | [],m=>m
 |p::h,m=>qAl acc h (Nat.lor m (Nat.lor (Nat.shiftLeft 1 p) (acc.getD p 0)))
def cE(acc:LC):LB->LC
 | []=>acc
 |o::h=>cE (acc++[qAl acc (eH o) 0]) h
def kS(ops:LB):LC:=cE [] ops
def rC(h:LC)(j i:Nat):Bool:=Nat.testBit (h.getD i 0) j
def rO(h:LC)(j i:Nat):Bool:=bif Nat.blt j i then rC h j i else rC h i j
def iI:Op->Bool
 |.extract _ _=>true
 |.move _=>true
 |.assign _=>true
 |_=>false
def xW(ops:LB)(i:Nat):Bool:=match ops[i]? with
 |some o=>iI o.op
 |none=>false
def kD(ops:LB)(i:Nat):Bool:=
 let h:=kS ops
 !xW ops i&&(List.range ops.length).all λj=>Nat.beq j i||rO h j i||xW ops j
def qIE(xs:List LM):List Tmp:=xs.filterMap fun
 |.tmp t=>some t
 |_=>none
def lS(ops:LB)(o:Oper):List Tmp:=
 o.dst.toList++qIE o.op.operands.toList++(match o.guard with
  |some (j,_)=>((ops[j]?).bind (·.dst)).toList
  |none=>[])
def b9(ops:LB):Bool:=
 let h:=kS ops
 ops.zipIdx.all λ(o,i)=>(eH o).all (λp=>Nat.blt p i)&&ops.zipIdx.all λ(p,k)=>Nat.beq k i||(match p.dst with
  |none=>true
  |some d=>!(lS ops o).contains d||rO h k i)
def vJ:Code->Bool
 |.region _ ops draw=>!draw||b9 ops.toList
 |.seq a b=>vJ a&&vJ b
 |.cond _ a b=>vJ a&&vJ b
 |.block _ b=>vJ b
 |.loop b=>vJ b
 |.scope b=>vJ b
 |.rangeFunc _ _ a b=>vJ a&&vJ b
 |_=>true
def oC:List Func->Nat->T Func->T Func
 | [],_,t=>t
 | f :: fs, n, t => oC fs (n + 1) (match f.body with | some c => bif f.name == "runtime.NumGoroutine" || !vJ c then t else t.put n (some f) | none => t)
def iW(P:LK):Env:={prog:=P,ng:=P.globals.size,funcs:=oC P.funcs.toList 0 .leaf,types:=fG P P.types.toList 0 .leaf}
structure AH where
 blocks:T ABlk
 next:Nat
 low:Nat
def zX:Nat:=9223372036854775808
def AH.new(H:AH)(o:AObj):AH:={blocks:=H.blocks.put H.next (some ⟨o,H.next,true⟩),next:=Nat.succ H.next,low:=H.low}
def AH.write(H:AH)(b:Nat)(k:ABlk)(o:AObj):AH:={blocks:=H.blocks.put b (some {k with obj:=o}),next:=H.next,low:=Nat.min H.low k.root}
def AH.move(H:AH)(b:Nat)(k:ABlk)(x:AObj):AH:=
 {blocks:=(H.blocks.put b none).put H.next (some ⟨x,k.root,true⟩),next:=Nat.succ H.next,low:=Nat.min H.low k.root}
def take?(l:LA)(n:Nat):Option (LA):=match n,l with
 |0,_=>some []
 |_+1,[]=>none
 |n+1,x::l=>(take? l n).map (x :: ·)
def AH.lj(H:AH)(b i n:Nat):Option (LA):=
 match H.blocks.get b with
 |some ⟨.cells cs _,_,_⟩=>take? (cs.drop i) n
 |_=>none
def xG:LA->Nat->LA->Option (LA)
 |cs,0,[]=>some cs
 | [],0,_::_=>none
 |_::cs,0,v::vs=>(xG cs 0 vs).map (v :: ·)
 | [],_+1,_=>none
 |c::cs,i+1,vs=>(xG cs i vs).map (c :: ·)
def AH.kR(H:AH)(b i:Nat)(vs:LA):Option AH:=
 match H.blocks.get b with
 |some ⟨.cells cs el,r,true⟩=>(xG cs i vs).map λcs'=>H.write b ⟨.cells cs el,r,true⟩ (.cells cs' el)
 |_=>none
def zB{α:Type}(P:LK):Sem α->Option α
 |.pure a=>some a
 |.program k=>zB P (k P)
 |.mark _ k=>zB P k
 |_=>none
def ev(E:Env)(fr:Fr):LM->LG
 |.tmp t=>fr.t.get t
 |.const v=>bif zP v then some v else none
 |.global g=>bif Nat.ble (g+1) E.ng then some (.pointer (some ⟨g,0,none⟩))else none
 |.func f=>some (.func (.func f) #[] #[])
def rS(E:Env)(fr:Fr):List LM->Option (LA)
 | []=>some []
 |x::xs=>match ev E fr x with
  |none=>none
  |some v=>(rS E fr xs).map (v :: ·)
inductive AR where
 |val (v:LQ)
 |skip
 |sf
 |enter (f:LO) (args:LA)
 |round (l:Nat) (args:LA)
abbrev gP:=Option (AR×AH)
def one(H:AH)(v:LG):gP:=v.map λv=>(.val v,H)
def flat?(v:LG):LG:=match v with
 |some v=>bif zP v then some v else none
 |none=>none
def qA0(E:Env)(t:LN)(a b:LQ):Bool:=
 match E.types.get t,a,b with
 |some {desc:=.pointer _,..},.pointer none,.pointer (some _)=>true
 |some {desc:=.pointer _,..},.pointer (some _),.pointer none=>true
 |some {desc:=.slice _,..},.slice none _ _,.slice (some _) _ _=>true
 |some {desc:=.slice _,..},.slice (some _) _ _,.slice none _ _=>true
 |some {desc:=.map _ _,..},.map none,.map (some _)=>true
 |some {desc:=.map _ _,..},.map (some _),.map none=>true
 |some {desc:=.func _ _ _,..},.nilFunc,.func _ _ _=>true
 |some {desc:=.func _ _ _,..},.func _ _ _,.nilFunc=>true
 |some {desc:=.interface _,..},.nilIface,.iface _ _=>true
 |some {desc:=.interface _,..},.iface _ _,.nilIface=>true
 |_,_,_=>false
def qEs(E:Env)(t:LN)(a b:LQ):Bool:=
 match E.types.get t,a,b with
 |some {desc:=.pointer h,..},.pointer (some ⟨b,o,none⟩),.pointer (some ⟨y,x,none⟩)=>(E.types.get h).isSome&&Nat.beq b y&&Nat.beq o x
 |_,_,_=>false
def pA(E:Env)(op:BinOp)(t:LN)(x y:LM)(a b:LQ):LG:=
 match op,a,b with
 |.add,.int k m,.int k' n=>if k=k' then some (.int k (k.wrap (m+n)))else none
 |.sub,.int k m,.int k' n=>if k=k' then some (.int k (k.wrap (m-n)))else none
 |.mul,.int k m,.int k' n=>if k=k' then some (.int k (k.wrap (m*n)))else none
 |.eql,.int k m,.int k' n=>if k=k' then some (.bool (m==n))else none
 |.neq,.int k m,.int k' n=>if k=k' then some (.bool (m != n))else none
 |.lss,.int k m,.int k' n=>if k=k' then some (.bool (m<n))else none
 |.leq,.int k m,.int k' n=>if k=k' then some (.bool (m<=n))else none
 |.gtr,.int k m,.int k' n=>if k=k' then some (.bool (m>n))else none
 |.geq,.int k m,.int k' n=>if k=k' then some (.bool (m≥n))else none
 | op,a,b=>
  bif zP a&&zP b then flat? (zB E.prog (do eqGuard op t x y a b;binOp op t a b))
  else bif qEs E t a b then(match op with
   |.eql=>some (.bool true)
   |.neq=>some (.bool false)
   |_=>none)
  else bif qA0 E t a b then(match op with
   |.eql=>some (.bool false)
   |.neq=>some (.bool true)
   |_=>none)
  else none
def nat?: LQ->Option Nat
 |.int _ (.ofNat n)=>some n
 |_=>none
def qBN(b i n:Nat):Option Addr:=some ⟨b,Nat.add i n,none⟩
def qAu(E:Env)(t:LN)(x:LQ)(i:Nat):LG:=
 match E.types.get t,x with
 |some {desc:=.array len h,..},.pointer (some ⟨b,o,none⟩)=>
  (E.types.get h).bind λe=>bif Nat.ble (i+1) len then some (.pointer (qBN b o (Nat.mul i e.size)))else none
 |some {desc:=.slice h,..},.slice (some ⟨b,o,none⟩) len _=>
  (E.types.get h).bind λe=>bif Nat.ble (i+1) len then some (.pointer (qBN b o (Nat.mul i e.size)))else none
 |_,_=>none
def aY(E:Env)(s:LN)(x:LQ)(f:Nat):LG:=
 match E.types.get s,x with
 |some {desc:=.struct fs,..},.pointer (some ⟨b,o,none⟩)=>
  match fs[f]? with
  |some h=>(E.types.get h.type).bind λe=>bif Nat.beq e.size 0 then none else some (.pointer (qBN b o h.offset))
  |none=>none
 |_,_=>none
def gM(E:Env)(H:AH)(t:LN)(a:LQ):LG:=
 match E.types.get t,a with
 | some ti,.pointer (some ⟨b,o,none⟩)=>
  bif ti.agg then(H.lj b o ti.size).map λl=>.agg ⟨l⟩
  else match H.lj b o 1 with
   |some [v]=>some v
   |_=>none
 |_,_=>none
def kN(E:Env)(H:AH)(t:LN)(a v:LQ):Option AH:=
 match E.types.get t,a with
 |some ti,.pointer (some ⟨b,o,none⟩)=>
  let cs:=v.cells.toList
  bif Nat.beq cs.length ti.size then H.kR b o cs else none
 |_,_=>none
def iT(E:Env)(t:LN)(cs:LA)(off:Nat):LG:=
 (E.types.get t).bind λti=>
  bif ti.agg then(take? (cs.drop off) ti.size).map λl=>.agg ⟨l⟩else(cs[off]?)
def parts?(E:Env)(fr:Fr):List (Nat×LM)->Option (List (Nat×LQ))
 | []=>some []
 |(i,x)::xs=>match ev E fr x with
  |none=>none
  |some (.tuple _)=>none
  |some v=>(parts? E fr xs).map ((i,v) :: ·)
def eI(cs:LA):List (Nat×LQ)->(Nat->Option (Nat×Nat))->Option (LA)
 | [],_=>some cs
 | (i,v)::rest,place=>
  match place i with
  |none=>none
  |some (off,size)=>
   let vs:=v.cells.toList
   bif Nat.beq vs.length size then(match xG cs off vs with|some cs'=>eI cs' rest place|none=>none)else none
def fieldPlace?(E:Env)(fs:List Field)(i:Nat):Option (Nat×Nat):=
 match fs[i]? with
 |some f=>(E.types.get f.type).map λt=>(f.offset,t.size)
 |none=>none
def sJ(E:Env)(t:LN)(h:List (Nat×LQ)):LG:=
 match E.types.get t with
 |some {desc:=.struct fs,zero:=some z,..}=>(eI z h (fieldPlace? E fs.toList)).map λl=>.agg ⟨l⟩
 |some {desc:=.array _ x,zero:=some z,..}=>
  (E.types.get x).bind λe=>(eI z h (λi=>some (Nat.mul i e.size,e.size))).map λl=>.agg ⟨l⟩
 |_=>none
def xX(z:LA):Nat->LA
 |0=>[]
 |n+1=>z++xX z n
def yN(E:Env)(H:AH)(t:LN)(len:Nat)(x:List (Nat×LQ)):gP:=
 match E.types.get t with
 | some {desc:=.slice h,..}=>match E.types.get h with
  | some {size:=size,zero:=some z,..}=>
   bif Nat.beq z.length size&&Nat.ble (Nat.mul len (Nat.succ size)) 1000000 then
    (eI (xX z len) x (λi=>some (Nat.mul i size,size))).map λl=>
     (.val (.slice (some ⟨H.next,0,none⟩) len (bif Nat.beq len 0 then 0 else zX)),H.new (.cells l h))
   else none
  |_=>none
 |_=>none
def oX(H:AH)(size n:Nat):LQ->Option (LA)
 |.slice (some ⟨b,o,none⟩) len _=>bif Nat.beq n 0 then some []else bif Nat.ble n len then H.lj b o (Nat.mul n size)else none
 |.slice none _ _=>bif Nat.beq n 0 then some []else none
 |.string s=>bif Nat.beq size 1&&Nat.ble n s.size then some ((s.data.toList.take n).map λb=>.int .u8 b.toNat)else none
 |_=>none
def qHm:LQ->Option Nat
 |.slice _ n _=>some n
 |.string s=>some s.size
 |_=>none
def pR(H:AH)(h e:TI)(x:LQ):Option (Nat×LA):=
 match h.desc with
 |.int _=>match x,e.zero with
  |.int _ (.ofNat n),some z=>some (n,xX z n)
  |_,_=>none
 |_=>match qHm x with
  |some n=>(oX H e.size n x).map λcs=>(n,cs)
  |none=>none
def xC(E:Env)(H:AH)(y:List LN)(s x:LQ):gP:=
 match y,s with
 | t::xt::_,.slice base len cap=>
  match E.types.get t,E.types.get xt with
  | some {desc:=.slice h,..},some c=>
   match E.types.get h with
   | some e=>match e.zero,pR H c e x with
    | some _,some (n,new)=>
     bif Nat.ble (Nat.mul (Nat.add (Nat.mul 4 (Nat.add len n)) 4000) (Nat.succ e.bytes)) 100000000000 then
     bif Nat.beq n 0 then some (.val s,H)else
      match base with
      |none=>some (.val (.slice (some ⟨H.next,0,none⟩) (Nat.add len n) zX),H.new (.cells new h))
      | some ⟨b,o,none⟩=>
       bif Nat.ble zX cap then
        match H.blocks.get b,oX H e.size len s with
        |some ⟨.cells cs el,r,true⟩,some kp=>bif Nat.beq el h&&Nat.beq (Nat.mod o e.size) 0 then some (.val (.slice (some ⟨H.next,0,none⟩) (Nat.add len n) zX),H.move b ⟨.cells cs el,r,true⟩ (.cells ((kp++new)++cs.drop (Nat.add o (Nat.mul (Nat.add len n) e.size))) el))else none
        |_,_=>none
       else bif Nat.ble (Nat.add len n) cap then(H.kR b (Nat.add o (Nat.mul len e.size)) new).map λH'=>(.val (.slice (some ⟨b,o,none⟩) (Nat.add len n) cap),H')
       else match oX H e.size len s with
        |some kp=>some (.val (.slice (some ⟨H.next,0,none⟩) (Nat.add len n) zX),H.new (.cells (kp++new) h))
        |none=>none
      |_=>none
     else none
    |_,_=>none
   |none=>none
  |_,_=>none
 |_,_=>none
def gH(v:LG)(d:Nat):Option Nat:=match v with
 |none=>some d
 |some v=>nat? v
def oN(E:Env)(H:AH)(t:LN)(x:LQ)(lo c mx:LG):LG:=
 match E.types.get t,x with
 |some {desc:=.array n y,..},.pointer (some ⟨b,o,none⟩)=>
  match gH lo 0,gH c n,gH mx n,E.types.get y with
  |some l,some h,some m,some e=>bif Nat.ble l h&&Nat.ble h m&&Nat.ble m n&&Nat.ble n 1000000&&(mx.isNone||c.isSome)then some (.slice (some ⟨b,bif Nat.beq m l then o else Nat.add o (Nat.mul l e.size),none⟩) (Nat.sub h l) (Nat.sub m l))else none
  |_,_,_,_=>none
 | some {desc:=.slice y,..},.slice a len cap=>
  match gH lo 0,gH c len,E.types.get y with
  | some l,some h,some e=>
   match a with
   |none=>bif Nat.beq l 0&&Nat.beq h 0&&Nat.beq len 0&&Nat.beq cap 0&&((match gH mx 0 with|some m=>Nat.beq m 0|none=>false)&&(mx.isNone||c.isSome))then some (.slice none 0 0)else none
   | some ⟨b,o,none⟩=>
    match mx with
    |some m=>match nat? m with
     |some m=>bif Nat.ble l h&&Nat.ble h m&&Nat.ble m len&&c.isSome then some (.slice (some ⟨b,bif Nat.beq m l then o else Nat.add o (Nat.mul l e.size),none⟩) (Nat.sub h l) (Nat.sub m l))else none
     |none=>none
    | none=>
     bif Nat.ble l h then
      (bif Nat.ble zX cap then
       match H.blocks.get b with
       |some ⟨.cells cs el,_,_⟩=>bif Nat.beq el y&&(Nat.ble h len||(Nat.ble 1 e.size&&Nat.ble (Nat.add o (Nat.mul h e.size)) cs.length))then some (.slice (some ⟨b,Nat.add o (Nat.mul l e.size),none⟩) (Nat.sub h l) zX)else none
       |_=>none
      else bif Nat.ble h cap then some (.slice (some ⟨b,bif Nat.beq cap l then o else Nat.add o (Nat.mul l e.size),none⟩) (Nat.sub h l) (Nat.sub cap l))else none)
     else none
   |_=>none
  |_,_,_=>none
 |some {desc:=.string,..},.string s=>
  match gH lo 0,gH c s.size with
  |some l,some h=>bif Nat.ble l h&&Nat.ble h s.size&&mx.isNone then some (.string (s.extract l h))else none
  |_,_=>none
 |_,_=>none
def gV(E:Env)(H:AH)(t:LN)(l c:LQ):gP:=
 match E.types.get t,nat? l,nat? c with
 | some {desc:=.slice h,..},some l,some c=>match E.types.get h with
  |some {size:=size,zero:=some z,bytes:=bytes,..}=>
   bif Nat.beq z.length size&&Nat.ble l c&&Nat.ble (Nat.mul c (Nat.succ (Nat.add bytes size))) 1000000000 then some (.val (.slice (some ⟨H.next,0,none⟩) l (bif Nat.beq l c then zX else bif Nat.beq l 0 then zX else c)),H.new (.cells (xX z (bif Nat.beq l 0 then 0 else c)) h))
   else none
  |_=>none
 |_,_,_=>none
def qC0(E:Env)(h:LN)(k:LQ)(es:List MapEntry):Option (Option (Nat×LQ)):=
 bif zP k then zB E.prog (do Instr.checkKey es.isEmpty 10000 h k;Instr.findKey h k es)else none
def qEz(H:AH)(x:LQ):Option (List MapEntry):=
 match x with
 |.map none=>some []
 |.map (some r)=>match H.blocks.get r with
  |some ⟨.map es _,_,_⟩=>some es
  |_=>none
 |_=>none
def rI(E:Env)(H:AH)(t:LN)(x k:LQ)(ok:Bool):LG:=
 match E.types.get t,qEz H x with
 | some {desc:=.map h y,..},some es=>match qC0 E h k es,E.types.get y with
  |some (some (_,v)),_=>some (bif ok then .tuple #[v,.bool true]else v)
  |some none,some {zero:=some z,agg:=agg,..}=>match rD agg z with
   |some v=>some (bif ok then .tuple #[v,.bool false]else v)
   |none=>none
  |_,_=>none
 |_,_=>none
def modify(l:List MapEntry)(i:Nat)(k v:LQ):List MapEntry:=match l,i with
 | [],_=>[]
 |e::es,0=>{e with key:=k,val:=v}::es
 |e::es,i+1=>e::modify es i k v
def rE(E:Env)(H:AH)(t:LN)(m k v:LQ):Option AH:=
 match E.types.get t,m with
 | some {desc:=.map x _,..},.map (some r)=>match H.blocks.get r with
  | some ⟨.map es h,rt,true⟩=>bif zP k then match zB E.prog (do Instr.checkKey false 10000 x k;Instr.findKey x k es)with
   |some (some (i,_))=>match es[i]? with
    |some e=>bif Instr.sameBits 10000 e.key k then some (H.write r ⟨.map es h,rt,true⟩ (.map (modify es i k v) h))else none
    |none=>none
   |some none=>some (H.write r ⟨.map es h,rt,true⟩ (.map (es++[{key:=k,val:=v,born:=h}]) (h+1)))
   |none=>none else none
  |_=>none
 |_,_=>none
def uM(E:Env)(H:AH)(t:LN)(m k:LQ):Option AH:=none
def qA1(H:AH)(y:LQ)(h:Bool):gP:=
 match y,h with
 | .pointer (some ⟨r,0,none⟩),true=>match H.blocks.get r with
  | some ⟨.lx s x,rt,true⟩=>
   bif Nat.ble (x+1) s.size then
    let (c,width):=Utf8.decode s x
    some (.val (.tuple #[.bool true,goInt x,.int .i32 c]),H.write r ⟨.lx s x,rt,true⟩ (.lx s (x+width)))
   else some (.val (.tuple #[.bool false]),H)
  |_=>none
 |_,_=>none
def qGh(H:AH)(y:LQ):LG:=
 match y with
 | .pointer (some ⟨r,0,none⟩)=>match H.blocks.get r with
  | some ⟨.oa m _ seen x,_,true⟩=>match H.blocks.get m with
   | some ⟨.map es h,_,_⟩=>bif Nat.beq h x then match seen.getLast? with
    |some b=>match es.find? (λe=>e.born==b)with
     |some e=>some (.tuple #[e.key,e.val])
     |none=>none
    |none=>none else none
   |_=>none
  |_=>none
 |_=>none
def qHl(E:Env)(H:AH)(ats:List LN)(x:LQ):LG:=
 match ats with
 | []=>none
 | t::_=>match E.types.get t with
  |none=>none
  | some ti=>match ti.desc,x with
   |.string,.string s=>some (goInt s.size)
   |.slice _,.slice _ n _=>some (goInt n)
   |.map _ _,x=>(qEz H x).map λes=>goInt es.length
   |.array n _,_=>some (goInt n)
   |.pointer a,_=>match E.types.get a with
    |some {desc:=.array n _,..}=>some (goInt n)
    |_=>none
   |_,_=>none
def qYg(E:Env)(ats:List LN)(x:LQ):LG:=
 match ats with
 | []=>none
 | t::_=>match E.types.get t with
  |none=>none
  |some ti=>match ti.desc,x with
   |.slice _,.slice _ _ c=>bif Nat.ble zX c then none else some (goInt c)
   |_,_=>none
def qE1(E:Env)(H:AH)(ats:List LN)(dst h:LQ):gP:=
 match ats with
 | []=>none
 | t::_=>match E.types.get t with
  |none=>none
  | some ti=>match ti.desc,dst with
   | .slice x,.slice base y _=>match E.types.get x,qHm h with
    | some e,some sl=>match oX H e.size (Nat.min sl y) h with
     |none=>none
     | some cs=>
      bif Nat.beq (Nat.min sl y) 0 then some (.val (goInt (Nat.min sl y)),H)
      else match base with
       |some ⟨b,o,none⟩=>(H.kR b o cs).map λH'=>(.val (goInt (Nat.min sl y)),H')
       |_=>none
    |_,_=>none
   |_,_=>none
def qAJ(E:Env)(H:AH)(ats:List LN)(x:LQ):gP:=
 match ats with
 | []=>none
 | t::_=>match E.types.get t with
  |none=>none
  | some ti=>match ti.desc,x with
   | .slice h,.slice base n _=>match E.types.get h with
    | some {zero:=some z,..}=>
     bif Nat.beq n 0 then some (.val (.tuple #[]),H)
     else match base with
      |some ⟨b,o,none⟩=>(H.kR b o (xX z n)).map λH'=>(.val (.tuple #[]),H')
      |_=>none
    |_=>none
   |_,_=>none
def nE:LA->Option (List UInt8)
 | []=>some []
 |.int .u8 b::vs=>(nE vs).map (UInt8.ofNat b.toNat :: ·)
 |_=>none
def wW(E:Env)(H:AH)(ats:List LN)(p l:LQ):gP:=none
def wJ(E:Env)(H:AH)(b:Builtin)(ats:List LN)(args:LA):gP:=
 match b with
 |.append=>match args with
  | [s,x]=>xC E H ats s x
  |_=>none
 |.len=>match args with
  | [x]=>one H (qHl E H ats x)
  |_=>none
 |.cap=>match args with
  | [x]=>one H (qYg E ats x)
  |_=>none
 |.unsafeSliceData=>match args with
  | [.slice none _ _]=>some (.val (.pointer none),H)
  | [.slice (some a) l _]=>bif Nat.ble 1 l then some (.val (.pointer (some a)),H)else none
  |_=>none
 |.unsafeString=>match ats,args with
  |t::r,[p,l]=>wW E H (t::r) p l
  |_,_=>none
 |.copy=>match args with
  | [d,s]=>qE1 E H ats d s
  |_=>none
 |.clear=>match args with
  | [x]=>qAJ E H ats x
  |_=>none
 |.delete=>match ats,args with
  |t::_,[m,k]=>(uM E H t m k).map λH'=>(.val (.tuple #[]),H')
  |_,_=>none
 |.min=>bif args.all zP then one H (flat? (zB E.prog (Builtin.min_ #[] 0 ⟨args⟩)))else none
 |.max=>bif args.all zP then one H (flat? (zB E.prog (Builtin.max_ #[] 0 ⟨args⟩)))else none
 |.recover=>match args with
  | []=>some (.sf,H)
  |_=>none
 |_=>none
def qBz(d:TypeDesc)(h:Bool):Bool:=match d with
 |.pointer _=>h
 |_=>!h
def rH(E:Env)(v:LQ)(h:String):Option (LO×LQ):=
 match v with
 | .iface t x=>match E.prog.info? t,E.types.get t with
  | some i,some ti=>match i.methods.find? (·.name==h)with
   |some {path:=p,func:=some (f,ptr),..}=>
    bif Nat.beq p.toList.length 0&&qBz ti.desc ptr then some (f,x)else none
   |_=>none
  |_,_=>none
 |_=>none
def nB(E:Env)(H:AH)(f:LO)(h:LA):gP:=
 match E.funcs.get f with
 |some _=>some (.enter f h,H)
 |none=>none
def k9: String := (Extern.AbiNoEscape.rows.map (·.1)).headD ""
def mM: String := (Extern.BytealgMakeNoZero.typedRows.map (·.1)).headD ""
def qBC(E:Env)(H:AH)(fn:Func)(n:Nat):gP:=none
def qWi(E:Env)(H:AH)(f:LO)(args:LA):gP:=
 match args with
 | [.int .i64 (.ofNat n)]=>match E.prog.funcs[f]? with
  | some fn=>bif fn.name==mM&&fn.body.isNone&&(Extern.findNext fn).isNone then qBC E H fn n
   else match zB E.prog (callFunc f ⟨[.int .i64 (.ofNat n)]⟩)with
    |some (.value v)=>one H (flat? (some v))
    |_=>none
  |none=>none
 | [.pointer (some a)]=>match E.prog.funcs[f]? with
  |some fn=>bif fn.name==k9&&fn.body.isNone&&(Extern.findNext fn).isNone then some (.val (.pointer (some a)),H)else none
  |none=>none
 |args=>bif args.all zP then match zB E.prog (callFunc f ⟨args⟩)with
  |some (.value v)=>one H (flat? (some v))
  |_=>none
 else none
def nQ(E:Env)(H:AH)(f:LO)(h:LA):gP:=
 match E.funcs.get f with
 |some _=>some (.enter f h,H)
 |none=>qWi E H f h
def kX(E:Env)(fr:Fr)(H:AH)(c:Call):gP:=
 match rS E fr c.args.toList with
 |none=>none
 | some h=>match c.callee with
  |.builtin b=>wJ E H b c.argTypes.toList h
  | .invoke r y=>match ev E fr r with
   |some v=>match rH E v y with
    |some (f,x)=>nB E H f (x::h)
    |none=>none
   |none=>none
  | .value f=>match ev E fr f with
   |some (.func (.func g) first cap)=>nQ E H g (first.toList++h++cap.toList)
   |some (.func (.yield l) _ _)=>match H.blocks.get l with
    |some ⟨.loop _ _ _ e _ _,_,_⟩=>bif Nat.beq e.length h.length then some (.round l h,H)else none
    |_=>none
   | some (.func (.method y) first _)=>match first.toList++h with
    |v::rest=>match rH E v y with
     |some (f,x)=>nB E H f (x::rest)
     |none=>none
    | []=>none
   | some (.func (.methodOf t y) first _)=>match first.toList++h with
    | v::rest=>
     let v':=match E.types.get t with
      |some {desc:=.interface _,..}=>some v
      |some _=>some (.iface t v)
      |none=>none
     match v' with
     |some v'=>match rH E v' y with
      |some (f,x)=>nB E H f (x::rest)
      |none=>none
     |none=>none
    | []=>none
   |_=>none
def bE:LA->Option (List UInt8)
 | []=>some []
 |.int .i32 n::vs=>(bE vs).map ((Utf8.encode n).data.toList ++ ·)
 |_=>none
def bQ(E:Env)(H:AH)(s d:LN)(v:LQ)(n:Nat):LG:=
 match E.types.get s,E.types.get d,oX H 1 n v with
 |some {desc:=.slice e,..},some {desc:=.string,..},some cs=>match E.types.get e with
  |some {desc:=.int .u8,..}=>(nE cs).map λl=>.string ⟨⟨l⟩⟩
  |some {desc:=.int .i32,..}=>(bE cs).map λl=>.string ⟨⟨l⟩⟩
  |_=>none
 |_,_,_=>none
def mY(E:Env)(H:AH)(e:LN)(b:LJ):gP:=
 match E.types.get e with
 |some {desc:=.int .u8,size:=sz,..}=>
  bif Nat.beq sz 1&&Nat.ble b.data.toList.length 1000000000 then some (.val (.slice (some ⟨H.next,0,none⟩) b.data.toList.length zX),H.new (.cells (b.data.toList.map λx=>.int .u8 x.toNat) e))
  else none
 |_=>none
def qEa(E:Env)(H:AH)(s d:LN)(a:Addr):gP:=none
def mA(E:Env)(ti:TI)(h:LN)(v:LQ):Option (LG):=
 match ti.desc,v with
 | .interface x,.iface t u=>match E.prog.info? t with
  |some i=>match Instr.missingMethod x i.methods with
   |none=>some (some (.iface t u))
   |some _=>some none
  |none=>none
 |.interface _,.nilIface=>some none
 |.interface _,_=>none
 |_,.iface t u=>if t=h then some (some u)else some none
 |_,.nilIface=>some none
 |_,_=>none
def jH(E:Env)(fr:Fr)(o:Oper)(H:AH):gP:=
 match o.op with
 |.move x|.assign x=>one H (ev E fr x)
 |.pick c a b=>match ev E fr c with
  |some (.bool true)=>one H (ev E fr a)
  |some (.bool false)=>one H (ev E fr b)
  |_=>none
 |.alloc t=>match E.types.get t with
  |some {zero:=some z,..}=>some (.val (.pointer (some ⟨H.next,0,none⟩)),H.new (.cells z t))
  |_=>none
 |.box t x=>match ev E fr x with
  |some (.tuple _)=>none
  |some v=>some (.val (.pointer (some ⟨H.next,0,none⟩)),H.new (.cells v.cells.toList t))
  |none=>none
 |.build t q=>match parts? E fr q.toList with
  |some q=>one H (sJ E t q)
  |none=>none
 |.buildSlice t n q=>match parts? E fr q.toList with
  |some q=>yN E H t n q
  |none=>none
 |.load t a=>match ev E fr a with
  |some v=>one H (gM E H t v)
  |none=>none
 |.store t a x=>match ev E fr a,ev E fr x with
  |some _,some (.tuple _)=>none
  |some a,some v=>(kN E H t a v).map λH'=>(.skip,H')
  |_,_=>none
 |.nilCheck x=>match ev E fr x with
  |some (.pointer (some a))=>some (.val (.pointer (some a)),H)
  |some (.iface t v)=>some (.val (.iface t v),H)
  |some (.func (.func f) a b)=>some (.val (.func (.func f) a b),H)
  |some (.func (.yield f) a b)=>some (.val (.func (.yield f) a b),H)
  |_=>none
 |.binOp B t x y _=>match ev E fr x,ev E fr y with
  |some a,some b=>one H (pA E B t x y a b)
  |_,_=>none
 |.unOp B _ x=>match ev E fr x with
  |some v=>bif zP v then one H (flat? (zB E.prog (Op.unary B v)))else none
  |none=>none
 | .convert s d x=>match ev E fr x with
  |some (.slice a n c)=>one H (bQ E H s d (.slice a n c) n)
  |some (.pointer (some a))=>qEa E H s d a
  |some (.string b)=>match E.types.get s,E.types.get d with
   |some {desc:=.string,..},some {desc:=.slice e,..}=>mY E H e b
   |_,_=>one H (flat? (zB E.prog (Go.convert s d (.string b))))
  |some v=>bif zP v then one H (flat? (zB E.prog (Go.convert s d v)))else none
  |none=>none
 |.makeInterface t x=>match E.types.get t,ev E fr x with
  |some {desc:=.interface _,..},_=>none
  |some _,some v=>one H (some (.iface t v))
  |_,_=>none
 |.makeFunc fn first cap=>match rS E fr first.toList,rS E fr cap.toList with
  |some f,some c=>one H (if rM fn then some (.func fn ⟨f⟩ ⟨c⟩)else none)
  |_,_=>none
 |.makeMap _ none=>some (.val (.map (some H.next)),H.new (.map [] 0))
 |.makeMap t (some x)=>match E.types.get t,ev E fr x with
  |some {desc:=.map _ _,..},some (.int _ _)=>some (.val (.map (some H.next)),H.new (.map [] 0))
  |_,_=>none
 |.makeSlice t l c=>match ev E fr l,ev E fr c with
  |some l,some c=>gV E H t l c
  |_,_=>none
 |.slice t x lo F mx=>
  match ev E fr x,rS E fr lo.toList,rS E fr F.toList,rS E fr mx.toList with
  |some x,some lo,some F,some mx=>one H (oN E H t x lo.head? F.head? mx.head?)
  |_,_,_,_=>none
 |.fieldAddr s x f=>match ev E fr x with
  |some v=>one H (aY E s v f)
  |none=>none
 | .field t x f=>match ev E fr x,E.types.get t with
  |some (.agg cs),some {desc:=.struct fs,..}=>match fs[f]? with
   |some G=>one H (iT E G.type cs.toList G.offset)
   |none=>none
  |_,_=>none
 |.indexAddr t x i=>match ev E fr x,(ev E fr i).bind nat? with
  |some v,some i=>one H (qAu E t v i)
  |_,_=>none
 | .index t x i=>match ev E fr x,(ev E fr i).bind nat?,E.types.get t with
  |some (.string s),some i,some {desc:=.string,..}=>match s.data.toList[i]? with
   |some b=>one H (some (.int .u8 b.toNat))
   |none=>none
  |some (.agg cs),some i,some {desc:=.array len j,..}=>match E.types.get j with
   |some e=>bif Nat.ble (i+1) len then one H (iT E j cs.toList (Nat.mul i e.size))else none
   |none=>none
  |_,_,_=>none
 |.lookup t x k ok=>match ev E fr x,ev E fr k with
  |some x,some k=>one H (rI E H t x k ok)
  |_,_=>none
 |.mapUpdate t m k x|.insert t m k x=>match ev E fr m,ev E fr k,ev E fr x with
  |some m,some k,some v=>(rE E H t m k v).map λH'=>(.skip,H')
  |_,_,_=>none
 | .range t x=>match ev E fr x,E.types.get t with
  |some (.string s),some {desc:=.string,..}=>some (.val (.pointer (some ⟨H.next,0,none⟩)),H.new (.lx s 0))
  |some (.map (some m)),some {desc:=.map _ _,..}=>match H.blocks.get m with
   |some ⟨.map _ g,_,_⟩=>some (.val (.pointer (some ⟨H.next,0,none⟩)),H.new (.oa m g [] g))
   |_=>none
  |_,_=>none
 |.next C A=>match ev E fr C with
  |some v=>qA1 H v A
  |none=>none
 |.entry C=>match ev E fr C with
  |some v=>one H (qGh H v)
  |none=>none
 | .typeAssert x _ h ok=>match ev E fr x,E.types.get h with
  | some v,some ti=>match mA E ti h v with
   |some (some u)=>one H (some (bif ok then .tuple #[u,.bool true]else u))
   |some none=>bif ok then one H (match ti.zero with
    |some z=>(rD ti.agg z).map λI=>.tuple #[I,.bool false]
    |none=>none)else none
   |none=>none
  |_,_=>none
 |.extract x i=>match ev E fr x with
  |some (.tuple vs)=>one H vs.toList[i]?
  |_=>none
 |.call c=>kX E fr H c
 |_=>none
inductive Cmd where
 |code (c:Code) (fr:Fr)
 |call (f:LO) (args:LA)
 |round (l:Nat) (args:LA)
inductive AExit where
 |normal
 |exit (id:Nat)
 |ret
inductive Out where
 |ex (e:AExit) (fr:Fr)
 |val (v:LQ)
abbrev xM:=Option (Out×AH)
def dY(ops:LF)(fr:Fr)(j:Nat):Option (Option Bool):=
 match ops.toList[j]? with
 |some {dst:=some d,..}=>match fr.t.get d with
  |some (.bool b)=>some (some b)
  |some _=>some none
  |none=>none
 |_=>some none
def vU(ops:LF)(fr:Fr)(o:Oper):Option Bool:=
 match o.guard with
 |none=>some true
 |some (j,want)=>match dY ops fr j with
  |some (some b)=>some (b==want)
  |some none=>some false
  |none=>none
def yI(fr:Fr)(h:Option Tmp)(v:LQ):Option Fr:=
 match h with
 |some d=>bif Nat.ble (d+1) fr.sz then some ⟨fr.sz,fr.rd,fr.t.put d (some v)⟩else none
 |none=>some fr
def jA(E:Env)(ih:Cmd->AH->xM)(fr:Fr)(o:Oper)(H:AH):Option (LQ×AH):=
 match jH E fr o H with
 |none=>none
 |some (.val v,H')=>some (v,H')
 |some (.skip,H')=>some (.tuple #[],H')
 |some (.sf,_)=>none
 |some (.enter f h,H')=>match ih (.call f h) H' with
  |some (.val v,H')=>some (v,H')
  |_=>none
 |some (.round l h,H')=>match ih (.round l h) H' with
  |some (.val v,H')=>some (v,H')
  |_=>none
def yM(E:Env)(ih:Cmd->AH->xM)(fr:Fr)(o:Oper)(H:AH):Option (LQ×AH):=
 match jH E fr o H with
 |some (.sf,H')=>bif fr.rd then none else some (.nilIface,H')
 |_=>jA E ih fr o H
def lP(a:Tmp)(p:Oper):Bool:=match p.dst with
 |some d=>!(Nat.beq d a)
 |none=>true
def yL(fr:Fr)(all:LB):LB->Nat->List (Nat×Nat)
 | [],_=>[]
 | o::h,i=>match o.op with
  |.store _ (.tmp a) _=>match fr.t.get a with
   |some (.pointer (some ⟨b,_,_⟩))=>bif all.all (lP a)then(i,b)::yL fr all h (i+1)else yL fr all h (i+1)
   |_=>yL fr all h (i+1)
  |_=>yL fr all h (i+1)
def qV(all:LB)(i:Nat):List (Nat×Nat)->LC
 | []=>[]
 |(j,b)::ts=>bif Nat.beq j i||rO (kS all) j i then qV all i ts else b::qV all i ts
def lW(t:T ABlk):LC->T ABlk
 | []=>t
 |b::h=>lW (t.put b none) h
def yV(t h:T ABlk):LC->T ABlk
 | []=>t
 |b::x=>yV (t.put b (h.get b)) h x
def vI(H:AH)(W:LC):AH:={blocks:=lW H.blocks W,next:=H.next,low:=H.next}
def jV(H Q:AH)(W:LC):AH:={blocks:=yV Q.blocks H.blocks W,next:=Q.next,low:=Nat.min H.low Q.low}
def qE5(fr:Fr)(c:Call):Option Nat:=match c.callee,c.args.toList with
 |.builtin .append,[.tmp a,_]=>match fr.t.get a with
  |some (.slice (some ⟨b,_,_⟩) _ _)=>some b
  |_=>none
 |_,_=>none
def wI(fr:Fr)(o:Oper)(b:Nat):Bool:=match o.op with
 |.store _ (.tmp a) _=>match fr.t.get a with
  |some (.pointer (some ⟨h,_,_⟩))=>Nat.beq h b
  |_=>false
 |.call c=>match qE5 fr c with
  |some h=>Nat.beq h b
  |none=>false
 |_=>false
def mG(fr:Fr):LB->Nat->List (Nat×Nat)
 | [],_=>[]
 | o::h,i=>match o.op with
  |.store _ (.tmp a) _=>match fr.t.get a with
   |some (.pointer (some ⟨b,_,_⟩))=>(i,b)::mG fr h (i+1)
   |_=>mG fr h (i+1)
  |_=>mG fr h (i+1)
def gT(fr:Fr):LB->Nat->List (Nat×Nat)
 | [],_=>[]
 | o::h,i=>match o.op with
  |.store _ (.tmp a) _=>match fr.t.get a with
   |some (.pointer (some ⟨b,_,_⟩))=>(i,b)::gT fr h (i+1)
   |_=>gT fr h (i+1)
  |.call c=>match qE5 fr c with
   |some b=>(i,b)::gT fr h (i+1)
   |none=>gT fr h (i+1)
  |_=>gT fr h (i+1)
def cQ(ts:List (Nat×Nat))(i:Nat):Nat->Nat->Bool
 |0,_=>true
 |n+1,lo=>ts.any (λt=>Nat.beq t.1 i&&Nat.beq t.2 lo)&&cQ ts i n (Nat.succ lo)
def kK(all:LB)(ts:List (Nat×Nat))(i n lo:Nat):Bool:=kD all i||(!xW all i&&cQ ts i (Nat.sub n lo) lo)
def pH(E:Env)(ih:Cmd->AH->xM)(ts:List (Nat×Nat))(all:LB)(i:Nat)(fr:Fr)(o:Oper)(H:AH):Option (LQ×AH):=
 let W:=qV all i ts
 match jA E ih fr o (vI H W)with
 |some (v,Q)=>bif (Nat.ble H.next Q.low||(W.isEmpty&&(ts.any (λt=>Nat.beq t.1 i&&wI fr o t.2)||kK all ts i H.next Q.low)))&&W.all (λb=>Nat.blt b H.next||Nat.ble Q.next b)then some (v,jV H Q W)else none
 |none=>none
def zY(E:Env)(ih:Cmd->AH->xM)(all:LF)(draw:Bool)(ts:List (Nat×Nat)):LB->Nat->Fr->AH->Option (Fr×AH)
 | [],_,fr,H=>some (fr,H)
 | o::x,i,fr,H=>
  match vU all fr o with
  |none=>none
  |some false=>match yI fr o.dst (.tuple #[])with
   |some h=>zY E ih all draw ts x (i+1) h H
   |none=>none
  | some true=>
   match (bif draw then pH E ih ts all.toList i fr o H else yM E ih fr o H)with
   |none=>none
   |some (v,H')=>match yI fr o.dst v with
    |none=>none
    |some h=>zY E ih all draw ts x (i+1) h H'
def qEt(i:Nat):Nat->Nat->List (Nat×Nat)->List (Nat×Nat)
 |0,_,l=>l
 |n+1,lo,l=>(i,lo)::qEt i n (Nat.succ lo) l
def cK(E:Env)(ih:Cmd->AH->xM)(all:LF):LB->Nat->Fr->AH->List (Nat×Nat)
 | [],_,_,_=>[]
 | o::x,i,fr,H=>
  match vU all fr o with
  | some true=>match jA E ih fr o {blocks:=H.blocks,next:=H.next,low:=H.next}with
   |some (v,Q)=>match yI fr o.dst v with
    |some h=>qEt i (Nat.sub H.next Q.low) Q.low (cK E ih all x (i+1) h Q)
    |none=>[]
   |none=>[]
  |some false=>match yI fr o.dst (.tuple #[])with
   |some h=>cK E ih all x (i+1) h H
   |none=>[]
  |none=>[]
def vV(E:Env)(fr:Fr)(H:AH):List ResultVar->Option (LA)
 | []=>some []
 |.tmp t::h=>match fr.t.get t with
  |some v=>(vV E fr H h).map (v :: ·)
  |none=>none
 |.cell a t::h=>match (fr.t.get a).bind (gM E H t)with
  |some v=>(vV E fr H h).map (v :: ·)
  |none=>none
def wZ(fr:Fr):List Tmp->LA->Option Fr
 | [],[]=>some fr
 |t::ts,v::vs=>match yI fr (some t) v with
  |some h=>wZ h ts vs
  |none=>none
 |_,_=>none
def eF(E:Env)(ih:Cmd->AH->xM)(fr:Fr)(f:LM)(params:List Tmp)(assign b:Code)(H:AH):xM:=
 match fr.rd,ev E fr f with
 | false,some (.func (.func g) first cap)=>
  match E.funcs.get g,ih (.call g (first.toList++[.func (.yield H.next) #[] #[]]++cap.toList)) (H.new (.loop .ready none ⟨fr.sz,true,fr.t⟩ params assign b))with
  | some _,some (.val _,H2)=>match H2.blocks.get H.next with
   |some ⟨.loop st h t x a b,r,true⟩=>
    if st=.busy then none else
    match h with
    |none=>some (.ex .normal fr,H2.write H.next ⟨.loop st h t x a b,r,true⟩ (.loop .exhausted h t x a b))
    |some c=>ih (.code c fr) (H2.write H.next ⟨.loop st h t x a b,r,true⟩ (.loop .exhausted h t x a b))
   |_=>none
  |_,_=>none
 |_,_=>none
def qE0(E:Env)(fr:Fr)(o:Oper):Option (LO×LA):=match o.op,o.guard with
 | .defer c,none=>match c.callee,rS E fr c.args.toList with
  | .value f,some h=>match ev E fr f with
   |some (.func (.func g) first cap)=>match E.funcs.get g with
    |some _=>some (g,first.toList++h++cap.toList)
    |none=>none
   |_=>none
  |_,_=>none
 |_,_=>none
def gN(E:Env)(ih:Cmd->AH->xM):Code->Fr->AH->Option ((LO×LA)×Fr×AH×Code)
 | .seq (.region _ ops draw) b,fr,H=>
  match zY E ih ops draw (bif draw then yL fr ops.toList ops.toList 0 else[]) ops.toList 0 fr H with
  |some (y,H')=>gN E ih b y H'
  | none=>bif draw then none else match ops.toList.getLast? with
   | some o=>match zY E ih ops false [] ops.toList.dropLast 0 fr H with
    |some (h,H1)=>match qE0 E h o,yI h o.dst (.tuple #[])with
     |some d,some x=>some (d,x,H1,b)
     |_,_=>none
    |none=>none
   |none=>none
 |_,_,_=>none
def qDS(E:Env)(h:List ResultVar)(fr:Fr)(H:AH):xM:=match vV E fr H h with
 |some [v]=>some (.val v,H)
 |some vs=>some (.val (.tuple ⟨vs⟩),H)
 |none=>none
def qED(E:Env)(ih:Cmd->AH->xM)(x:List ResultVar)(g:LO)(xs:LA)(fr:Fr)(H:AH):xM:=
 match E.funcs.get g with
 | some h=>match h.body,h.results.toList with
  |some y,[]=>match ih (.code y ⟨Nat.max h.ntmps xs.length,false,T.ofList .leaf 0 xs⟩) H with
   |some (.ex .normal _,H')=>qDS E x fr H'
   |some (.ex .ret _,H')=>qDS E x fr H'
   |_=>none
  |_,_=>none
 |none=>none
def qAH(E:Env)(ih:Cmd->AH->xM)(y:List ResultVar)(c:Code)(fr:Fr)(H:AH):xM:=
 match gN E ih c fr H with
 |some ((g,xs),x,H1,b)=>match ih (.code b x) H1 with
  |some (.ex .normal h,H2)=>qED E ih y g xs h H2
  |some (.ex .ret h,H2)=>qED E ih y g xs h H2
  |_=>none
 |none=>none
def wO:AExit->Option Code
 |.normal=>none
 |.exit id=>some (.exit id)
 |.ret=>some .ret
def gU(E:Env)(ih:Cmd->AH->xM)(l:Nat)(y:LA)(H:AH):xM:=
 match H.blocks.get l with
 | some ⟨.loop .ready _ k c q o,_,true⟩=>match wZ k c y with
  | some fr=>match ih (.code q fr) H with
   | some (.ex .normal g,H1)=>match H1.blocks.get l with
    | some ⟨.loop .ready h t x a b,r,true⟩=>
     match ih (.code o g) (H1.write l ⟨.loop .ready h t x a b,r,true⟩ (.loop .busy h t x a b))with
     | some (.ex e _,j)=>match j.blocks.get l with
      |some ⟨.loop st h t x a b,r,true⟩=>
       some (.val (.bool (wO e).isNone),j.write l ⟨.loop st h t x a b,r,true⟩ (.loop (bif (wO e).isNone then .ready else .done) (wO e) t x a b))
      |_=>none
     |_=>none
    |_=>none
   |_=>none
  |none=>none
 |_=>none
def body(E:Env)(ih:Cmd->AH->xM)(cmd:Cmd)(H:AH):xM:=
 match cmd with
 | .code c fr=>match c with
  |.skip|.label _=>some (.ex .normal fr,H)
  |.ret=>some (.ex .ret fr,H)
  |.exit id=>some (.ex (.exit id) fr,H)
  |.seq a b=>match ih (.code a fr) H with
   |some (.ex .normal h,H')=>ih (.code b h) H'
   |r=>r
  |.cond c a b=>match ev E fr c with
   |some (.bool true)=>ih (.code a fr) H
   |some (.bool false)=>ih (.code b fr) H
   |_=>none
  |.block id b=>match ih (.code b fr) H with
   |some (.ex (.exit y) h,H')=>bif Nat.beq y id then some (.ex .normal h,H')else some (.ex (.exit y) h,H')
   |r=>r
  |.loop b=>match ih (.code b fr) H with
   |some (.ex .normal h,H')=>ih (.code (.loop b) h) H'
   |r=>r
  |.scope b=>ih (.code b fr) H
  | .region _ ops draw=>match zY E ih ops draw (bif draw then yL fr ops.toList ops.toList 0 else[]) ops.toList 0 fr H with
   |some (h,H')=>some (.ex .normal h,H')
   | none=>bif draw then match zY E ih ops false [] ops.toList 0 fr H with
     | some (e,_)=>match zY E ih ops true (mG e ops.toList 0) ops.toList 0 fr H with
      |some (h,H')=>some (.ex .normal h,H')
      | none=>match zY E ih ops true (gT e ops.toList 0) ops.toList 0 fr H with
       |some (h,H')=>some (.ex .normal h,H')
       |none=>match zY E ih ops true (cK E ih ops ops.toList 0 fr H) ops.toList 0 fr H with
        |some (h,H')=>some (.ex .normal h,H')
        |none=>none
     |none=>none
    else none
  |.rangeFunc f params assign b=>eF E ih fr f params.toList assign b H
  |_=>none
 | .call f x=>match E.funcs.get f with
  | some fn=>match fn.body with
   | some c=>
    match ih (.code c ⟨Nat.max fn.ntmps x.length,false,T.ofList .leaf 0 x⟩) H with
    |some (.ex .normal h,H')|some (.ex .ret h,H')=>match vV E h H' fn.results.toList with
     |some [v]=>some (.val v,H')
     |some vs=>some (.val (.tuple ⟨vs⟩),H')
     |none=>none
    |none=>qAH E ih fn.results.toList c ⟨Nat.max fn.ntmps x.length,false,T.ofList .leaf 0 x⟩ H
    |_=>none
   |none=>none
  |none=>none
 |.round l x=>gU E ih l x H
def qQ7(E:Env)(n:Nat):Cmd->AH->xM:=
 Nat.rec (motive:=λ_=>Cmd->AH->xM) (λ_ _=>none) (λ_ ih=>body E ih) n
theorem T.nk{α:Type}(n:Nat):(T.leaf:T α).get n=none:=rfl
theorem zI{α:Sort _}(a b:Nat)(x y:α):(bif Nat.beq a b then x else y)=if a=b then x else y:=by simp_all
theorem jD{α:Sort _}(a b:Nat)(x y:α):(bif Nat.ble a b then x else y)=if a<=b then x else y:=by simp_all
theorem T.ld{α:Type}(v:Option α)(l r:T α)(n:Nat):(T.node v l r).get n=if n=0 then v else if n%2=1 then l.get (n/2)else r.get (n/2-1):=by simp only[T.get,zI];rfl
theorem T.qi{α:Type}(d n:Nat)(x:Option α):T.set (d+1) .leaf n x=if n=0 then .node x .leaf .leaf else if n%2=1 then .node none (T.set d .leaf (n/2) x) .leaf else .node none .leaf (T.set d .leaf (n/2-1) x):=by simp only[T.set,zI];rfl
theorem T.qh{α:Type}(d n:Nat)(v x:Option α)(l r:T α):T.set (d+1) (.node v l r) n x=if n=0 then .node x l r else if n%2=1 then .node v (T.set d l (n/2) x) r else .node v l (T.set d r (n/2-1) x):=by simp only[T.set,zI];rfl
theorem T.re{α:Type}(d:Nat):∀(t:T α) (n m:Nat) (x:Option α),n<d->(T.set d t n x).get m=if m=n then x else t.get m:=by
 induction d with
 |zero=>intro t n m x h;omega
 | succ d ih=>
  intro t n m x h;cases t with
  |leaf=>
   rw[T.qi];by_cases y:n=0
   ·subst y;simp only[dn,T.ld,T.nk];split<;>simp
   by_cases c:n%2=1
   ·simp only[bf y,bo c,T.ld,T.nk,ih .leaf (n/2) (m/2) x (by omega)];grind
   simp only[bf y,bf c,T.ld,T.nk,ih .leaf (n/2-1) (m/2-1) x (by omega)];grind
  |node v l r=>
   rw[T.qh];by_cases y:n=0
   ·subst y;simp only[dn,T.ld];split<;>simp_all
   by_cases c:n%2=1
   ·simp only[bf y,bo c,T.ld,ih l (n/2) (m/2) x (by omega)];grind
   simp only[bf y,bf c,T.ld,ih r (n/2-1) (m/2-1) x (by omega)];grind
theorem T.ch{α:Type}(t:T α)(n m:Nat)(x:Option α):(t.put n x).get m=if m=n then x else t.get m:=
 T.re (n+1) t n m x (by omega)
structure Loc where
 hS:Nat
 off:Nat
 ext:Nat
 sz:Nat
abbrev vO:=Nat->Option Loc
def vO.le(σ σ':vO):Prop:=∀b L,σ b=some L->σ' b=some L
theorem vO.le_refl(σ:vO):vO.le σ σ:=λ_ _ h=>h
variable{σ σ':vO}
theorem vO.le_trans{x:vO}(h:vO.le σ σ')(c:vO.le σ' x):vO.le σ x:=λb L y=>c b L (h b L y)
def v8:LQ->Bool
 |.bool _|.int _ _|.float _ _|.complex _ _ _|.string _=>true
 |.pointer a=>a.isNone
 |.slice a l c=>a.isNone&&Nat.beq l 0&&Nat.beq c 0
 |.map r=>r.isNone
 |.nilFunc|.nilIface=>true
 |_=>false
mutual
inductive VR (σ:vO):LQ->LQ->Prop
 |leaf {v:LQ} (h:v8 v=true):VR σ v v
 |ptr {b i:Nat} {L:Loc} (h:σ b=some L):VR σ (.pointer (some ⟨b,i,none⟩)) (.pointer (some ⟨L.hS,L.off+i,none⟩))
 | ka {b i l c:Nat} {L:Loc} (h:σ b=some L) (hl:l<=c) (hc:c<zX) :
   VR σ (.slice (some ⟨b,i,none⟩) l c) (.slice (some ⟨L.hS,L.off+i,none⟩) l c)
 | jd {b i l c:Nat} {L:Loc} (h:σ b=some L) (hl:l<=c) (hc:c<zX) (he:i+c*L.sz=L.ext) :
   VR σ (.slice (some ⟨b,i,none⟩) l zX) (.slice (some ⟨L.hS,L.off+i,none⟩) l c)
 |ki {b i c:Nat} {a:Addr} (hc:c=0∨(c=zX/\∃L,σ b=some L/\L.ext<=i)):VR σ (.slice (some ⟨b,i,none⟩) 0 c) (.slice (some a) 0 0)
 |map {r:Nat} {L:Loc} (h:σ r=some L) (h0:L.off=0):VR σ (.map (some r)) (.map (some L.hS))
 | func {fn:Fn} {f c f' c':LA} (h:rM fn=true) (hf:VRs σ f f') (hc:VRs σ c c') :
   VR σ (.func fn ⟨f⟩ ⟨c⟩) (.func fn ⟨f'⟩ ⟨c'⟩)
 |yield {l:Nat} {L:Loc} (h:σ l=some L) (h0:L.off=0):VR σ (.func (.yield l) #[] #[]) (.func (.yield L.hS) #[] #[])
 |iface {t:LN} {v v':LQ} (h:VR σ v v'):VR σ (.iface t v) (.iface t v')
 |agg {c c':LA} (h:VRs σ c c') (ho:c.all qU=true):VR σ (.agg ⟨c⟩) (.agg ⟨c'⟩)
 |tuple {c c':LA} (h:VRs σ c c'):VR σ (.tuple ⟨c⟩) (.tuple ⟨c'⟩)
inductive VRs (σ:vO):LA->LA->Prop
 |nil:VRs σ [] []
 |cons {v v':LQ} {l l':LA} (h:VR σ v v') (hs:VRs σ l l'):VRs σ (v::l) (v'::l')
end
mutual
theorem VR.mono{σ σ':vO}(x:vO.le σ σ'):∀{v v':LQ},VR σ v v'->VR σ' v v'
 |_,_,.leaf h=>.leaf h
 |_,_,.ptr h=>.ptr (x _ _ h)
 |_,_,.ka h c y=>.ka (x _ _ h) c y
 |_,_,.jd h c y he=>.jd (x _ _ h) c y he
 |_,_,.ki y=>.ki (y.imp id λ⟨o,L,k,h3⟩=>⟨o,L,x _ _ k,h3⟩)
 |_,_,.map h e=>.map (x _ _ h) e
 |_,_,.func h j y=>.func h (VRs.mono x j) (VRs.mono x y)
 |_,_,.yield h e=>.yield (x _ _ h) e
 |_,_,.iface h=>.iface (VR.mono x h)
 |_,_,.agg h g=>.agg (VRs.mono x h) g
 |_,_,.tuple h=>.tuple (VRs.mono x h)
theorem VRs.mono{σ σ':vO}(x:vO.le σ σ'):∀{l y:LA},VRs σ l y->VRs σ' l y
 |_,_,.nil=>.nil
 |_,_,.cons h c=>.cons (VR.mono x h) (VRs.mono x c)
end
variable{v v':LQ}
theorem VR.one(h:VR σ v v'):qU v'=qU v:=by cases h<;>rfl
theorem VRs.length{σ:vO}:∀{l h:LA},VRs σ l h->h.length=l.length
 |_,_,.nil=>rfl
 |_,_,.cons _ x=>by simp[VRs.length x]
theorem VRs.get{σ:vO}:∀{l x:LA},VRs σ l x->∀(i:Nat) (v:LQ),l[i]? = some v->∃v',x[i]? = some v'/\VR σ v v'
 |_,_,.nil,i,v,h=>by simp at h
 |_,_,.cons h y,0,v,e=>by simp at e;subst e;exact⟨_,rfl,h⟩
 |_,_,.cons h y,i+1,v,e=>by simp at e;simpa using VRs.get y i v e
theorem VRs.ql{σ:vO}:∀{l x:LA},x.length=l.length->(∀(i:Nat) (v:LQ),l[i]? = some v->∃v',x[i]? = some v'/\VR σ v v')->VRs σ l x
 | [],[],_,_=>.nil
 | [],_::_,h,_=>by simp at h
 |_::_,[],h,_=>by simp at h
 |v::l,v'::x,h,y=>by refine .cons ?_ (VRs.ql (by simpa using h) λi u e=>by simpa using y (i+1) u (by simpa using e));obtain⟨u,hu,hr⟩:=y 0 v rfl;simp at hu;subst hu;exact hr
theorem VRs.append{σ:vO}:∀{a y b x:LA},VRs σ a y->VRs σ b x->VRs σ (a++b) (y++x)
 |_,_,_,_,.nil,h=>h
 |_,_,_,_,.cons h c,e=>.cons h (VRs.append c e)
theorem VRs.mf{σ:vO}:∀{l x:LA},VRs σ l x->x.all qU=l.all qU
 |_,_,.nil=>rfl
 |_,_,.cons h y=>by simp[h.one,VRs.mf y]
theorem VR.cells(h:VR σ v v'):VRs σ v.cells.toList v'.cells.toList:=by
 cases h with
 |agg h g=>exact h
 |leaf h=>cases v<;>first|exact .cons (.leaf h) .nil|(simp[v8]at h)
 |ptr h=>exact .cons (.ptr h) .nil
 |ka h y x=>exact .cons (.ka h y x) .nil
 |jd h y x he=>exact .cons (.jd h y x he) .nil
 |ki x=>exact .cons (.ki x) .nil
 |map h c=>exact .cons (.map h c) .nil
 |func h e x=>exact .cons (.func h e x) .nil
 |yield h c=>exact .cons (.yield h c) .nil
 |iface h=>exact .cons (.iface h) .nil
 |tuple h=>exact .cons (.tuple h) .nil
theorem VR.cells_one(h:VR σ v v')(x:∀c,v≠.tuple c):v.cells.toList.all qU=true:=by
 cases h with
 |agg h y=>exact y
 |tuple h=>exact absurd rfl (x _)
 |leaf h=>cases v<;>first|rfl|(simp[v8]at h)
 |_=>rfl
theorem xJ:∀(n:Nat) (v:LQ),zW n v=true->VR σ v v:=by
 intro n;induction n with
 |zero=>intro v h;cases v<;>first|exact .leaf h|(simp[zW]at h)
 | succ n ih=>
  have all:∀l:LA,(∀v∈l,zW n v=true)->VRs σ l l:=by
   intro l;induction l with
   |nil=>intro _;exact .nil
   |cons x l y=>intro h;exact .cons (ih x (h x (by simp))) (y λv hv=>h v (by simp[hv]))
  intro v h;cases v with
  |iface t v=>exact .iface (ih v (by simpa[zW]using h))
  |agg cs=>simp only[zW,al,aE]at h;exact .agg (all cs.toList λv hv=>(h v hv).2) (by rw[al];exact λv hv=>(h v hv).1)
  |tuple cs=>simp only[zW,al]at h;exact .tuple (all cs.toList λv hv=>h v hv)
  |func _ _ _=>simp[zW]at h
  |chan _=>simp[zW]at h
  |_=>exact .leaf h
theorem qSe:∀(n:Nat) (v v':LQ),zW n v=true->VR σ v v'->v'=v:=by
 intro n;induction n with
 |zero=>intro v v' h r;cases r<;>first|rfl|(simp[zW]at h)
 | succ n ih=>
  have all:∀l y:LA,(∀v∈l,zW n v=true)->VRs σ l y->y=l:=by
   intro l;induction l with
   |nil=>intro y _ r;cases r;rfl
   |cons x l c=>
    intro y h r;cases r with
    |cons e g=>rw[ih x _ (h x (by simp)) e,c _ (λv hv=>h v (by simp[hv])) g]
  intro v v' h r;cases r with
  |leaf _=>rfl
  |iface hv=>rw[ih _ _ (by simpa[zW]using h) hv]
  |agg j k=>simp only[zW,al,aE]at h;grind
  |tuple j=>simp only[zW,al]at h;grind
  |_=>simp[zW]at h
def sO(σ:vO)(fr:Fr)(tmps:LD):Prop:=
 tmps.size=fr.sz/\∀t v,fr.t.get t=some v->VR σ v (tmps.getD t undef)
theorem sO.mono{σ σ':vO}(x:vO.le σ σ'){fr:Fr}{tmps:LD}(h:sO σ fr tmps):sO σ' fr tmps:=
 ⟨h.1,λt v e=>(h.2 t v e).mono x⟩
inductive ERs (σ:vO):List MapEntry->List MapEntry->Prop
 |nil:ERs σ [] []
 | cons {e e':MapEntry} {l l':List MapEntry} (hk:zP e.key=true) (ek:e'.key=e.key) (hv:VR σ e.val e'.val) (eb:e'.born=e.born)
   (hs:ERs σ l l'):ERs σ (e::l) (e'::l')
theorem ERs.mono{σ σ':vO}(h:vO.le σ σ'):∀{l x:List MapEntry},ERs σ l x->ERs σ' l x
 |_,_,.nil=>.nil
 |_,_,.cons c e hv g y=>.cons c e (hv.mono h) g (ERs.mono h y)
def zB0(L:Loc)(el h:LN)(n:Nat)(x:Nat×Nat):Prop:=(x=(0,0)∨(n<=x.1/\L.sz=1))/\h=el/\L.off%L.sz=0
def m9(E:Env)(σ:vO)(L:Loc)(own:Bool):AObj->Obj->Prop
 |.cells cs el,.cells h y u=>(own=true->zB0 L el y h.size u)/\L.off+L.ext<=h.size/\cs.length<=L.ext/\(∀ti,E.types.get el=some ti->L.sz=ti.size)/\∀i v,cs[i]? = some v->qU v=true/\∃v',h[L.off+i]? = some v'/\VR σ v v'
 |.map es ck,.map es' xV=>L.off=0/\xV=ck/\ERs σ es es'.toList
 |.lx s p,.stringIter g k=>L.off=0/\g=s/\k=p
 |.oa m n e q,.mapIter (some m') o x q'=>L.off=0/\(∃M,σ m=some M/\M.off=0/\M.hS=m')/\o=n/\x.toList=e/\q'=q
 |.loop st pd t j a b,.loop l=>L.off=0/\l.state=st/\l.pending=pd/\sO σ t l.tmps/\l.params.toList=j/\l.assign=a/\l.body=b/\vJ a=true/\vJ b=true/\t.rd=true/\∀c,pd=some c->c=.ret∨∃id,c=.exit id
 |_,_=>False
theorem m9.mono{E:Env}{σ σ':vO}(y:vO.le σ σ'){L:Loc}{own:Bool}{x:AObj}{o:Obj}(h:m9 E σ L own x o):m9 E σ' L own x o:=by
 cases x<;>cases o<;>simp only[m9]at h ⊢
 ·obtain⟨k,j,h3,g,h5⟩:=h;exact⟨k,j,h3,g,λi v e=>let ⟨a,v',b,c⟩:=h5 i v e;⟨a,v',b,c.mono y⟩⟩
 ·exact⟨h.1,h.2.1,h.2.2.mono y⟩
 ·exact h
 ·rename_i m n A q m' B u q';cases m' with
  |none=>simp at h
  |some m'=>simp only at h ⊢;obtain⟨k,⟨M,j,h3,g⟩,h5⟩:=h;exact⟨k,⟨M,y _ _ j,h3,g⟩,h5⟩
 exact⟨h.1,h.2.1,h.2.2.1,h.2.2.2.1.mono y,h.2.2.2.2⟩
structure HR (E:Env) (σ:vO) (H:AH) (w:LP):Prop where
 kq:∀b k L,H.blocks.get b=some k->σ b=some L->∃o,w.heap[L.hS]? = some o/\m9 E σ L k.own k.obj o
 sep:∀b₁ b₂ k₁ k₂ L₁ L₂,H.blocks.get b₁=some k₁->H.blocks.get b₂=some k₂->k₁.own=true->σ b₁=some L₁->σ b₂=some L₂->
  b₁≠b₂->L₁.hS≠L₂.hS
 la:∀g,g<E.prog.globals.size->∃L,σ g=some L/\L.hS=g/\L.off=0
 wf:∀b k,H.blocks.get b=some k->k.root<=b/\b<H.next
structure Step (E:Env) (σ:vO) (H:AH) (w:LP) (σ':vO) (H':AH) (w':LP):Prop where
 hr:HR E σ' H' w'
 next:H.next<=H'.next
 ext:∀b,b<H.next∨H'.next<=b->σ' b=σ b
 size:w.heap.size<=w'.heap.size
 low:H'.low<=H.low
 tape:w'.tape=w.tape
 os:w'.os=w.os
 output:w'.output=w.output/\(E.laid=[]->w.drawn<=w'.drawn)
 frame:∀B,B<w.heap.size->(∀b k L,H.blocks.get b=some k->k.own=true->σ b=some L->H'.low<=k.root->L.hS≠B)->w'.heap[B]? = w.heap[B]?
 origin:∀b k L,H'.blocks.get b=some k->k.own=true->σ' b=some L->w.heap.size<=L.hS ∨
  ∃b₀ k₀ L₀,H.blocks.get b₀=some k₀/\k₀.own=true/\σ b₀=some L₀/\L₀.hS=L.hS/\k₀.root=k.root
 kp:∀b k,H'.blocks.get b=some k->b<H.next->∃k₀,H.blocks.get b=some k₀/\k₀.root=k.root/\k₀.own=k.own
 hN:∀b k,H.blocks.get b=some k->k.root<H'.low->H'.blocks.get b=some k
 born:∀b k,H'.blocks.get b=some k->H.next<=b->(H.next<=k.root∨H'.low<=k.root)/\k.own=true
variable{E:Env}{H:AH}{w:LP}
theorem Step.refl(h:HR E σ H w):Step E σ H w σ H w where
 hr:=h
 next:=vP _
 ext _ _:=rfl
 size:=vP _
 low:=vP _
 tape:=rfl
 os:=rfl
 output:=⟨rfl,λ_=>vP _⟩
 frame _ _ _:=rfl
 origin b k L x y hs:=.inr ⟨b,k,L,x,y,hs,rfl,rfl⟩
 kp b k x _:=⟨k,x,rfl,rfl⟩
 hN _ _ x _:=x
 born b k x c:=absurd (h.wf b k x).2 (by omega)
def yU(σ:vO)(n h:Nat):Prop:=∀b,n<=b->b<h->σ b=none
theorem yU.split{n m x:Nat}(h:yU σ n x)(he:∀b,b<n∨m<=b->σ' b=σ b)(e:n<=m):yU σ' m x:=
 λb c y=>by rw[he b (.inr c)];exact h b (by omega) y
variable{H':AH}
theorem Step.le{w':LP}(s:Step E σ H w σ' H' w')(y:yU σ H.next H'.next):vO.le σ σ':=by
 intro b L x;by_cases h:b<H.next∨H'.next<=b
 ·rw[s.ext b h];exact x
 rw[y b (by omega) (by omega)]at x;cases x
theorem Step.trans{E:Env}{σ o j:vO}{H A J:AH}{w F C:LP}(s:Step E σ H w o A F)(x:Step E o A F j J C):
  Step E σ H w j J C where
 hr:=x.hr
 next:=lT s.next x.next
 ext b h:=by
  rw[x.ext b (by have:=s.next;have:=x.next;omega),s.ext b (by have:=s.next;have:=x.next;omega)]
 size:=lT s.size x.size
 low:=lT x.low s.low
 tape:=x.tape.trans s.tape
 os:=x.os.trans s.os
 output:=⟨x.output.1.trans s.output.1,λe=>lT (s.output.2 e) (x.output.2 e)⟩
 frame B Q h:=by
  rw[x.frame B (bp Q s.size),s.frame B Q]
  ·exact λb k L c M K N=>h b k L c M K (lT x.low N)
  intro b k L c M K N
  rcases s.origin b k L c M K with y|⟨G,u,I,y,P,h3,S,h5⟩
  all_goals grind
 origin b k L c M K:=by
  rcases x.origin b k L c M K with y|⟨G,u,I,y,P,h3,S,h5⟩
  ·exact .inl (lT s.size y)
  rcases s.origin G u I y P h3 with R|⟨b',k',L',R,W,V,Z,X⟩
  all_goals grind
 kp b k c O:=by
  obtain⟨q,y,P,h3⟩:=x.kp b k c (bp O s.next)
  obtain⟨u,R,W,V⟩:=s.kp b q y O
  grind
 hN b k c N:=x.hN b k (s.hN b k c (bp N x.low)) N
 born b k c O:=by
  by_cases h:A.next<=b
  ·obtain⟨y,U⟩:=x.born b k c h
   refine⟨?_,U⟩
   rcases y with y|y
   ·exact .inl (lT s.next y)
   exact .inr y
  obtain⟨q,y,P,h3⟩:=x.kp b k c (by omega)
  obtain⟨g,g0⟩:=s.born b q y O
  refine⟨?_,by rw[←h3];exact g0⟩
  rcases g with g|g
  ·exact .inl (by omega)
  exact .inr (by have:=x.low;omega)
def vO.add(σ:vO)(b:Nat)(L:Loc):vO:=λx=>if x=b then some L else σ x
variable{L:Loc}
theorem vO.ln(h:σ b=none):vO.le σ (σ.add b L):=by intro x M y;unfold vO.add;grind
theorem vO.g7:σ.add b L b=some L:=by simp[vO.add]
theorem vO.kn{x:Nat}(h:x≠b):σ.add b L x=σ x:=by simp[vO.add,h]
theorem AH.get_new(H:AH)(o:AObj)(b:Nat):(H.new o).blocks.get b=if b=H.next then some ⟨o,H.next,true⟩else H.blocks.get b:=
 T.ch _ _ _ _
theorem AH.ey(H:AH)(b:Nat)(k:ABlk)(o:AObj)(x:Nat):(H.write b k o).blocks.get x=if x=b then some {k with obj:=o}else H.blocks.get x:=
 T.ch _ _ _ _
def World.push(w:LP)(o:Obj):LP:={w with heap:=w.heap.push o}
theorem oR(w:LP)(o:Obj)(B:Nat):(World.push w o).heap[B]? = if B=w.heap.size then some o else w.heap[B]? :=by simp only[World.push,Array.getElem?_push]
theorem Step.new(hr:HR E σ H w)(W:σ H.next=none)(x:AObj)(o:Obj)(L:Loc)(X:L.hS=w.heap.size)(S:m9 E (σ.add H.next L) L true x o):Step E σ H w (σ.add H.next L) (H.new x) (World.push w o):=by
 have hle:vO.le σ (σ.add H.next L):=vO.ln W;have lt:∀b k M,H.blocks.get b=some k->σ b=some M->M.hS<w.heap.size:=by intro b k M y hs;obtain⟨R,C,_⟩:=hr.kq b k M y hs;grind
 refine { hr:=?_,next:=cx _,ext:=?_,size:=by simp[World.push],low:=vP _,tape:=rfl,os:=rfl,output:=⟨rfl,λ_=>vP _⟩,
          frame:=?_,origin:=?_,kp:=?_,hN:=?_,born:=?_}
 ·refine {kq:=?_,sep:=?_,la:=?_,wf:=?_}
  ·intro b k M y hs;rw[AH.get_new]at y;by_cases e:b=H.next
   ·subst e;rw[vO.g7]at hs;cases hs;rw[bo rfl]at y;cases y;exact⟨o,by rw[oR,bo X],S⟩
   ·rw[bf e]at y;rw[vO.kn e]at hs;obtain⟨R,C,A⟩:=hr.kq b k M y hs;refine⟨R,?_,A.mono hle⟩;rw[oR,bf (Nat.ne_of_lt (lt b k M y hs))];exact C
  ·intro u q G F J I C A N j c K;rw[AH.get_new]at C A;by_cases Q:u=H.next
   ·subst Q;rw[bf (λe=>K e.symm)]at A;rw[vO.g7]at j;cases j;rw[vO.kn (λe=>K e.symm)]at c;have:=lt q F I A c;omega
   ·rw[bf Q]at C;rw[vO.kn Q]at j;by_cases P:q=H.next
    ·subst P;rw[vO.g7]at c;cases c;have:=lt u G J C j;omega
    ·rw[bf P]at A;rw[vO.kn P]at c;exact hr.sep u q G F J I C A N j c K
  ·intro g V;obtain⟨M,C,A⟩:=hr.la g V;exact⟨M,hle g M C,A⟩
  ·intro b k y;rw[AH.get_new]at y;by_cases e:b=H.next
   ·subst e;rw[bo rfl]at y;cases y;exact⟨vP _,bw _⟩
   ·rw[bf e]at y;exact⟨(hr.wf b k y).1,dp (hr.wf b k y).2⟩
 ·intro b y;have:b≠H.next:=by
   rcases y with h|h
   ·omega
   ·have:H.next+1<=b:=h;omega
  exact vO.kn this
 ·intro B Z _;rw[oR,bf (Nat.ne_of_lt Z)]
 ·intro b k M y O hs;rw[AH.get_new]at y;by_cases e:b=H.next
  ·subst e;rw[vO.g7]at hs;cases hs;exact .inl (by omega)
  ·rw[bf e]at y;rw[vO.kn e]at hs;exact .inr ⟨b,k,M,y,O,hs,rfl,rfl⟩
 ·intro b k y U;rw[AH.get_new,bf (by omega)]at y;exact⟨k,y,rfl,rfl⟩
 ·intro b k y _;rw[AH.get_new,bf (by have:=(hr.wf b k y).2;omega)];exact y
 ·intro b k y U;rw[AH.get_new]at y;by_cases e:b=H.next
  ·rw[bo e]at y;cases y;exact⟨.inl (vP _),rfl⟩
  ·rw[bf e]at y;have:=(hr.wf b k y).2;omega
structure WSet (w w':LP) (B:Nat) (o:Obj):Prop where
 size:w'.heap.size=w.heap.size
 at_:w'.heap[B]? = some o
 og:∀B',B'≠B->w'.heap[B']? = w.heap[B']?
 tape:w'.tape=w.tape
 os:w'.os=w.os
 output:w'.output=w.output/\w.drawn<=w'.drawn
theorem Step.write{E:Env}{σ:vO}{H:AH}{w w':LP}(hr:HR E σ H w){b:Nat}{k:ABlk}{L:Loc}{x:AObj}{o:Obj}(A:H.blocks.get b=some k)(g:k.own=true)(S:σ b=some L)(C:WSet w w' L.hS o)(ho:m9 E σ L true x o):Step E σ H w σ (H.write b k x) w':=by
 refine { hr:=?_,next:=vP _,ext:=λ_ _=>rfl,size:=jm C.size.symm,low:=dw _ _,tape:=C.tape,os:=C.os,output:=⟨C.output.1,λ_=>C.output.2⟩,
          frame:=?_,origin:=?_,kp:=?_,hN:=?_,born:=?_}
 ·refine {kq:=?_,sep:=?_,la:=hr.la,wf:=?_}
  ·intro c k' M y j;rw[AH.ey]at y;by_cases e:c=b
   ·subst e;rw[bo rfl]at y;cases y;rw[S]at j;cases j;exact⟨o,C.at_,by rw[g];exact ho⟩
   ·rw[bf e]at y;obtain⟨o',J,I⟩:=hr.kq c k' M y j;refine⟨o',?_,I⟩;rw[C.og _ (λe'=>hr.sep b c k k' L M A y g S j (λe''=>e e''.symm) e'.symm)];exact J
  ·intro u q G F N K J I U R Q W;rw[AH.ey]at J I;have g1:∃k',H.blocks.get u=some k'/\k'.own=true:=by
    by_cases e:u=b
    ·subst e;exact⟨k,A,g⟩
    ·rw[bf e]at J;exact⟨G,J,U⟩
   have X:∃k',H.blocks.get q=some k':=by
    by_cases e:q=b
    ·subst e;exact⟨k,A⟩
    ·rw[bf e]at I;exact⟨F,I⟩
   obtain⟨P,g1,Z⟩:=g1;obtain⟨O,X⟩:=X;exact hr.sep u q P O N K g1 X Z R Q W
  ·intro c k' y;rw[AH.ey]at y;by_cases e:c=b
   ·subst e;rw[bo rfl]at y;cases y;exact hr.wf c k A
   ·rw[bf e]at y;exact hr.wf c k' y
 ·intro B hB h;refine C.og B λe=>h b k L A g S (bq _ _) e.symm
 ·intro c k' M y V j;rw[AH.ey]at y;by_cases e:c=b
  ·subst e;rw[bo rfl]at y;cases y;exact .inr ⟨c,k,M,A,g,j,rfl,rfl⟩
  ·rw[bf e]at y;exact .inr ⟨c,k',M,y,V,j,rfl,rfl⟩
 ·intro c k' y _;rw[AH.ey]at y;by_cases e:c=b
  ·subst e;rw[bo rfl]at y;cases y;exact⟨k,A,rfl,rfl⟩
  ·rw[bf e]at y;exact⟨k',y,rfl,rfl⟩
 ·intro c k' y hl;rw[AH.ey];by_cases e:c=b
  ·subst e;rw[A]at y;cases y;have:Nat.min H.low k.root<=k.root:=bq _ _;exact absurd hl (by simpa[AH.write]using Nat.not_lt.2 this)
  ·rw[bf e];exact y
 ·intro c k' y hn;have:=λk h=>(hr.wf c k h).2;rw[AH.ey]at y;by_cases e:c=b
  ·subst e;have:=this k A;omega
  ·rw[bf e]at y;have:=this k' y;omega
theorem AH.kv(H:AH)(b:Nat)(k:ABlk)(x:AObj)(c:Nat):(H.move b k x).blocks.get c=if c=H.next then some ⟨x,k.root,true⟩else if c=b then none else H.blocks.get c:=by simp only[AH.move,T.ch]
theorem Step.move{E:Env}{σ:vO}{H:AH}{w w':LP}(hr:HR E σ H w)(hf:σ H.next=none){b:Nat}{k:ABlk}{L M:Loc}{x:AObj}{o:Obj}(U:H.blocks.get b=some k)(O:k.own=true)(j:(σ b=some L/\WSet w w' L.hS o/\M.hS=L.hS)∨w'=World.push w o/\M.hS=w.heap.size)(ho:m9 E (σ.add H.next M) M true x o):Step E σ H w (σ.add H.next M) (H.move b k x) w':=by
 have hle:vO.le σ (σ.add H.next M):=vO.ln hf;have lt:∀b k M,H.blocks.get b=some k->σ b=some M->M.hS<w.heap.size:=by intro b k M U hs;obtain⟨o',K,_⟩:=hr.kq b k M U hs;grind
 have hbn:b≠H.next:=by have:=(hr.wf b k U).2;omega
 have C:∀Z k' G,H.blocks.get Z=some k'->σ Z=some G->Z≠b->G.hS≠M.hS/\w'.heap[G.hS]? = w.heap[G.hS]? :=by
  intro Z k' G hb' q P;rcases j with⟨hs,j,Q⟩|⟨j,Q⟩
  ·have:=hr.sep b Z k k' L G U hb' O hs q (λe=>P e.symm);exact⟨λe=>this (by omega),j.og _ λe=>this e.symm⟩
  ·have:=lt Z k' G hb' q;exact⟨by omega,by rw[j,oR,bf (by omega)]⟩
 refine { hr:=?_,next:=cx _,ext:=?_,size:=?_,low:=dw _ _,tape:=?_,os:=?_,output:=?_,
          frame:=?_,origin:=?_,kp:=?_,hN:=?_,born:=?_}
 ·refine {kq:=?_,sep:=?_,la:=?_,wf:=?_}
  ·intro c k' G y q;rw[AH.kv]at y;by_cases e:c=H.next
   ·subst e;rw[bo rfl]at y;cases y;rw[vO.g7]at q;cases q;refine⟨o,?_,ho⟩;rcases j with⟨hs,j,Q⟩|⟨j,Q⟩
    ·rw[Q];exact j.at_
    ·rw[j,oR,bo Q]
   ·rw[bf e]at y;rw[vO.kn e]at q;by_cases u:c=b
    ·rw[bo u]at y;cases y
    ·rw[bf u]at y;obtain⟨o',K,F⟩:=hr.kq c k' G y q;exact⟨o',by rw[(C c k' G y q u).2];exact K,F.mono hle⟩
  ·intro I A S R W V K F ho1 N J P;rw[AH.kv]at K F;by_cases e1:I=H.next
   ·subst e1;have u:A≠H.next:=λe=>P e.symm;rw[bf u]at F;rw[vO.kn u]at J;rw[vO.g7]at N;cases N;by_cases X:A=b
    ·rw[bo X]at F;cases F
    ·rw[bf X]at F;exact λe=>(C A R V F J X).1 e.symm
   ·rw[bf e1]at K;rw[vO.kn e1]at N;by_cases X:I=b
    ·rw[bo X]at K;cases K
    ·rw[bf X]at K;by_cases u:A=H.next
     ·subst u;rw[vO.g7]at J;cases J;exact(C I S W K N X).1
     ·rw[bf u]at F;rw[vO.kn u]at J;by_cases e4:A=b
      ·rw[bo e4]at F;cases F
      ·rw[bf e4]at F;exact hr.sep I A S R W V K F ho1 N J P
  ·intro g hg;obtain⟨G,K,F⟩:=hr.la g hg;exact⟨G,hle g G K,F⟩
  ·intro c k' y;rw[AH.kv]at y;by_cases e:c=H.next
   ·subst e;rw[bo rfl]at y;cases y;have:=hr.wf b k U;exact⟨by show k.root<=_;omega,bw _⟩
   ·rw[bf e]at y;by_cases u:c=b
    ·rw[bo u]at y;cases y
    ·rw[bf u]at y;exact⟨(hr.wf c k' y).1,dp (hr.wf c k' y).2⟩
 ·intro c y;have:c≠H.next:=by
   rcases y with h|h
   ·omega
   ·have:H.next+1<=c:=h;omega
  exact vO.kn this
 ·rcases j with⟨hs,j,_⟩|⟨j,_⟩
  ·exact jm j.size.symm
  ·rw[j];simp[World.push]
 ·rcases j with⟨hs,j,_⟩|⟨j,_⟩
  ·exact j.tape
  ·rw[j];rfl
 ·rcases j with⟨hs,j,_⟩|⟨j,_⟩
  ·exact j.os
  ·rw[j];rfl
 ·rcases j with⟨hs,j,_⟩|⟨j,_⟩
  ·exact⟨j.output.1,λ_=>j.output.2⟩
  ·rw[j];exact⟨rfl,λ_=>vP _⟩
 ·intro B hB h;rcases j with⟨hs,j,_⟩|⟨j,_⟩
  ·exact j.og B λe=>h b k L U O hs (bq _ _) e.symm
  ·rw[j,oR,bf (Nat.ne_of_lt hB)]
 ·intro c k' G y ho' q;rw[AH.kv]at y;by_cases e:c=H.next
  ·subst e;rw[bo rfl]at y;cases y;rw[vO.g7]at q;cases q;rcases j with⟨hs,_,Q⟩|⟨_,Q⟩
   ·exact .inr ⟨b,k,L,U,O,hs,Q.symm,rfl⟩
   ·exact .inl (jm Q.symm)
  ·rw[bf e]at y;rw[vO.kn e]at q;by_cases u:c=b
   ·rw[bo u]at y;cases y
   ·rw[bf u]at y;exact .inr ⟨c,k',G,y,ho',q,rfl,rfl⟩
 ·intro c k' y hn;rw[AH.kv,bf (by omega)]at y;by_cases u:c=b
  ·rw[bo u]at y;cases y
  ·rw[bf u]at y;exact⟨k',y,rfl,rfl⟩
 ·intro c k' y hl;rw[AH.kv,bf (by have:=(hr.wf c k' y).2;omega)];by_cases u:c=b
  ·subst u;rw[U]at y;cases y;have:Nat.min H.low k.root<=k.root:=bq _ _;exact absurd hl (by simpa[AH.move]using Nat.not_lt.2 this)
  ·rw[bf u];exact y
 ·intro c k' y hn;rw[AH.kv]at y;by_cases e:c=H.next
  ·rw[bo e]at y;cases y;exact⟨.inr (bq _ _),rfl⟩
  ·rw[bf e]at y;by_cases u:c=b
   ·rw[bo u]at y;cases y
   ·rw[bf u]at y;have:=(hr.wf c k' y).2;omega
theorem Step.drew(hr:HR E σ H w){n:Nat}(x:w.drawn<=n):Step E σ H w σ H {w with drawn:=n}:=
  have h:=Step.refl hr
  { hr:=⟨hr.kq,hr.sep,hr.la,hr.wf⟩,next:=h.next,ext:=h.ext,size:=h.size,low:=h.low,tape:=rfl,os:=rfl,output:=⟨rfl,λ_=>x⟩,frame:=h.frame,
    origin:=h.origin,kp:=h.kp,hN:=h.hN,born:=h.born}
theorem HR.rq(hr:HR E σ H w)(n:Nat):HR E σ {H with low:=n} w:=⟨hr.kq,hr.sep,hr.la,hr.wf⟩
theorem Step.lower{w':LP}{a:Nat}(s:Step E σ {H with low:=a} w σ' H' w'):
  Step E σ H w σ' {H' with low:=Nat.min H.low H'.low} w' where
 hr:=s.hr.rq _
 next:=s.next
 ext:=s.ext
 size:=s.size
 low:=dw _ _
 tape:=s.tape
 os:=s.os
 output:=s.output
 frame B j h:=s.frame B j λb k L x g e y=>h b k L x g e (lT (bq _ _) y)
 origin:=s.origin
 kp:=s.kp
 hN b k x y:=s.hN b k x (bp y (bq _ _))
 born b k x c:=⟨(s.born b k x c).1.imp id λh=>lT (bq _ _) h,(s.born b k x c).2⟩
structure EOk (E:Env):Prop where
 types:∀t ti,E.types.get t=some ti->∃i,E.prog.info? t=some i/\E.prog.underlying t=some ti.desc/\ti.size=i.size/\ti.bytes=i.bytes/\
  (∀z,ti.zero=some z->∃v,i.zero=some v/\zP v=true/\v.cells.toList=z/\z.all qU=true/\z.length=i.size/\(ti.agg=true->v=.agg ⟨z⟩)/\(ti.agg=false->z=[v]))/\ti.agg=qQs ti.desc
 funcs : ∀ f fn, E.funcs.get f = some fn -> E.prog.funcs[f]? = some fn /\ fn.body.isSome = true /\ fn.name ≠ "runtime.NumGoroutine"
 py:∀f fn c,E.funcs.get f=some fn->fn.body=some c->vJ c=true
 mixed:E.prog.follows .mixedOrders=true
 ng:E.ng=E.prog.globals.size
 fields:∀t ti fs,E.types.get t=some ti->ti.desc=.struct fs->∀f∈fs.toList,∃fi,E.types.get f.type=some fi
theorem take?_spec:∀(l:LA) (n:Nat) (r:LA),take? l n=some r->r=l.take n/\n<=l.length
 |_,0,r,h=>by simp[take?]at h;subst h;simp
 | [],_+1,r,h=>by simp[take?]at h
 |x::l,n+1,r,h=>by simp only[take?,aa]at h;obtain⟨y,c,rfl⟩:=h;obtain⟨e,h3⟩:=take?_spec l n y c;grind
theorem lJ:∀(cs:LA) (i:Nat) (vs r:LA),xG cs i vs=some r->i+vs.length<=cs.length/\r=cs.take i++vs++cs.drop (i+vs.length)
 |cs,0,[],r,h=>by simp[xG]at h;subst h;simp
 | [],0,_::_,r,h=>by simp[xG]at h
 |c::cs,0,v::vs,r,h=>by simp only[xG,aa]at h;obtain⟨x,y,rfl⟩:=h;obtain⟨g,h3⟩:=lJ cs 0 vs x y;grind
 | [],_+1,vs,r,h=>by cases vs<;>simp[xG]at h
 |c::cs,i+1,vs,r,h=>by
  have e:(xG cs i vs).map (c :: ·)=some r:=by cases vs<;>simpa[xG]using h
  simp only[aa]at e;obtain⟨x,y,rfl⟩:=e;obtain⟨g,h3⟩:=lJ cs i vs x y;grind
variable{r:LA}
theorem qCy{n:Nat}(h:H.lj b i n=some r):∃cs el rt own,H.blocks.get b=some ⟨.cells cs el,rt,own⟩/\r=(cs.drop i).take n/\n<=cs.length-i:=by
 unfold AH.lj at h;split at h
 ·rename_i cs el rt own x;obtain⟨c,y⟩:=take?_spec _ _ _ h;exact⟨cs,el,rt,own,x,c,by simpa using y⟩
 cases h
variable{cs:LA}
section
variable{E:Env}{σ:vO}{H:AH}{w:LP}
theorem HR.mc(g:HR E σ H w){el rt:Nat}{own:Bool}(j:H.blocks.get b=some ⟨.cells cs el,rt,own⟩)(e:σ b=some L):∃h x y,w.heap[L.hS]? = some (.cells h x y)/\(own=true->zB0 L el x h.size y)/\L.off+L.ext<=h.size/\cs.length<=L.ext/\(∀ti,E.types.get el=some ti->L.sz=ti.size)/\∀i v,cs[i]? = some v->qU v=true/\∃v',h[L.off+i]? = some v'/\VR σ v v':=by obtain⟨o,k,c⟩:=g.kq b _ L j e;cases o<;>simp only[m9]at c;rename_i h x y;exact⟨h,x,y,k,c⟩
theorem qAo(u:HR E σ H w){n:Nat}(h:H.lj b i n=some r)(q:σ b=some L):∃o,(loadCells ⟨L.hS,L.off+i,none⟩ n).run E.prog w=.ok o.toArray w/\VRs σ r o/\r.length=n/\r.all qU=true:=by
 obtain⟨cs,el,rt,own,A,rfl,G⟩:=qCy h;obtain⟨x,F,K,C,_,h3,J,_,h5⟩:=u.mc A q;have hlen:((cs.drop i).take n).length=n:=by simp;omega
 have I:∀j,j<n->((cs.drop i).take n)[j]? = cs[i+j]? :=by grind
 have y:∀j v,((cs.drop i).take n)[j]? = some v->((x.toList.drop (L.off+i)).take n)[j]? = x[L.off+(i+j)]? /\qU v=true/\∃v',x[L.off+(i+j)]? = some v'/\VR σ v v':=by grind
 have c:((x.toList.drop (L.off+i)).take n).length=n:=by grind
 refine⟨(x.toList.drop (L.off+i)).take n,?_,?_,hlen,?_⟩
 ·have:=run_loadCells_list (P:=E.prog) w ⟨L.hS,L.off+i,none⟩ ((x.toList.drop (L.off+i)).take n) ?_
  ·rw[c]at this;exact this
  intro j v hv;have k:j<n:=by have:=(gI hv).1;omega
  have B:(⟨L.hS,L.off+i,none⟩:Addr).add j=⟨L.hS,L.off+i+j,none⟩:=by unfold Addr.add;split<;>simp_all
  rw[B];rw[fu k,fw,ff]at hv;simp[World.cell?,C,hv]
 ·refine VRs.ql (by rw[c,hlen]) λj v hv=>?_;obtain⟨e,_,v',e',g⟩:=y j v hv;exact⟨v',by rw[e,e'],g⟩
 rw[al];intro v hv;obtain⟨j,k⟩:=List.getElem?_of_mem hv;exact(y j v k).2.1
end
theorem WSet.setRow{w:LP}{g:Nat}{kp cs:LD}{t:LN}{fr:Nat×Nat}(h:w.heap[g]? = some (.cells kp t fr)):
  WSet w (w.setRow g cs) g (.cells cs t fr) where
 size:=by simp[World.setRow]
 at_:=setRow_heap w g kp cs t fr h
 og B x:=by simp only[World.setRow,Array.getElem?_modify];rw[bf (λe=>x e.symm)]
 tape:=rfl
 os:=rfl
 output:=⟨rfl,vP _⟩
theorem gG(P:LK)(g o:Nat)(t:LN)(y:Nat×Nat):∀(vs:LA) (i:Nat) (cur:LD) (w:LP),w.heap[g]? = some (.cells cur t y)->(y=(0,0)∨cur.size<=y.1)->o+i+vs.length<=cur.size->
  (∀v∈vs,v.oneCell'=true)->(storeCells ⟨g,o,none⟩ vs i).run P w=.ok () (w.setRow g (cur.toList.take (o+i)++vs++cur.toList.drop (o+i+vs.length)).toArray)
 | [],i,cur,w,c,_,_,_=>by
  simp only[storeCells,cr,dg,fx,jg,Array.toArray_toList]
  rw[setRow_self w g cur t y c]
  rfl
 | v::rest,i,cur,w,c,A,u,B=>by
  have F:o+i<cur.size:=by simp at u;omega
  have k:(⟨g,o,none⟩:Addr).add i=⟨g,o+i,none⟩:=by unfold Addr.add;split<;>simp_all
  have h:w.cell? ⟨g,o+i,none⟩=some cur[o+i]:=by simp[World.cell?,c,F]
  have j:w.frozen? ⟨g,o+i,none⟩=false:=by
   obtain⟨lo,up⟩:=y
   simp only[World.frozen?,c,Bool.and_eq_false_iff,decide_eq_false_iff_not]
   grind
  have q:(store ((⟨g,o,none⟩:Addr).add i) v).run P w=.ok () (w.setRow g (cur.setIfInBounds (o+i) v)):=by
   rw[k,run_store P w _ v _ (B v (by simp)),h]
   simp[j,setCell_eq_setRow w g (o+i) cur t y v c]
  have next:=gG P g o t y rest (i+1) (cur.setIfInBounds (o+i) v) (w.setRow g (cur.setIfInBounds (o+i) v)) (setRow_heap w g cur _ t _ c) (by simpa using A) (by simp at u ⊢;omega)
   (λx C=>B x (by simp[C]))
  simp only[storeCells,au,q,ah,next,setRow_setRow]
  congr 3
  have e:=list_seg_step cur.toList (o+i) v rest (by simp at u ⊢;omega)
  grind
theorem qOL(v:LQ):v.oneCell'=qU v:=by cases v<;>rfl
variable{t:LN}{ti:TI}{z:LA}
section
variable{E:Env}{σ:vO}{H:AH}{w:LP}
theorem cL(O:HR E σ H w){vs y:LA}(h:H.kR b i vs=some H')(N:σ b=some L)(hv:VRs σ vs y)(J:vs.all qU=true):∃w',(storeCells ⟨L.hS,L.off+i,none⟩ y).run E.prog w=.ok () w'/\Step E σ H w σ H' w':=by
 unfold AH.kR at h;split at h;case h_2=>cases h
 rename_i cs el rt P;simp only[aa]at h;obtain⟨cs',bO,rfl⟩:=h;obtain⟨R,A⟩:=lJ _ _ _ _ bO;obtain⟨x,K,X,Q,W,Z,V,U,g6⟩:=O.mc P N;obtain⟨u,B,k⟩:=W rfl;have q:=hv.length
 have g:=gG E.prog L.hS (L.off+i) K X y 0 x w Q (u.imp id And.left) (by rw[q];omega)
  (λv G=>by rw[qOL];have:=hv.mf;rw[J,al]at this;exact this v G)
 refine⟨_,g,Step.write O P rfl N (WSet.setRow Q) ?_⟩;have I:cs'.length=cs.length:=by rw[A];simp;omega
 have o:(x.toList.take (L.off+i+0)++y++x.toList.drop (L.off+i+0+y.length)).toArray.size=x.size:=by simp;omega
 refine⟨λ_=>⟨by rw[o];exact u,B,k⟩,?_,by rw[I];exact V,U,?_⟩
 ·simp;omega
 intro j v c;have S:j<cs.length:=by have:=(gI c).1;omega
 have M:(cs.take i).length=i:=by simp;omega
 have e:(x.toList.take (L.off+i)).length=L.off+i:=by simp;omega
 simp only[fx,ft];rw[A]at c;by_cases c1:j<i
 ·have F:(cs.take i++vs++cs.drop (i+vs.length))[j]? = cs[j]? :=by
   rw[ay,bz (by omega),fu c1]
  have C:(x.toList.take (L.off+i)++y++x.toList.drop (L.off+i+y.length))[L.off+j]? = x[L.off+j]? :=by
   rw[ay,bz (by omega),fu (by omega),ff]
  rw[F]at c;rw[C]
  exact g6 j v c
 by_cases c2:j<i+vs.length
 ·have F:(cs.take i++vs++cs.drop (i+vs.length))[j]? = vs[j-i]? :=by
   rw[ay,bu (by omega),bz (by omega),M]
  have C:(x.toList.take (L.off+i)++y++x.toList.drop (L.off+i+y.length))[L.off+j]? = y[j-i]? :=by
   rw[ay,bu (by omega),bz (by omega),e]
   congr 1;omega
  rw[F]at c;rw[C]
  rw[al]at J
  exact⟨J v (be c),hv.get _ v c⟩
 have F:(cs.take i++vs++cs.drop (i+vs.length))[j]? = cs[j]? :=by
  rw[ay,bu (by omega),bu (by omega),M,fw]
  congr 1;omega
 have C:(x.toList.take (L.off+i)++y++x.toList.drop (L.off+i+y.length))[L.off+j]? = x[L.off+j]? :=by
  rw[ay,bu (by omega),bu (by omega),e,fw,ff]
  congr 1;omega
 rw[F]at c;rw[C];exact g6 j v c
theorem qCc(he:EOk E)(h:E.types.get t=some ti)(w:LP):(isAgg t).run E.prog w=.ok ti.agg w:=by obtain⟨i,y,x,_,_,_,h3⟩:=he.types t ti h;simp only[isAgg,au,run_underlying x,ah];rw[h3];cases ti.desc<;>rfl
theorem vH(he:EOk E)(h:E.types.get t=some ti)(w:LP):(sizeOf t).run E.prog w=.ok ti.size w:=by obtain⟨i,y,_,x,_⟩:=he.types t ti h;simp[sizeOf,gv w y,x]
theorem vE(he:EOk E)(h:E.types.get t=some ti)(w:LP):(underlying t).run E.prog w=.ok ti.desc w:=by obtain⟨i,_,x,_⟩:=he.types t ti h;exact run_underlying x w
theorem gL(he:EOk E)(h:E.types.get t=some ti)(x:ti.zero=some z)(w:LP):∃v,(zeroValue t).run E.prog w=.ok v w/\zP v=true/\v.cells.toList=z/\z.all qU=true/\z.length=ti.size:=by obtain⟨i,c,_,y,_,h3,_⟩:=he.types t ti h;obtain⟨v,o,k,j,g,e,_⟩:=h3 z x;exact⟨v,by simp[zeroValue,gv w c,o],k,j,g,by rw[e,y]⟩
theorem qAV(he:EOk E)(h:E.types.get t=some ti)(y:ti.zero=some z)(hv:rD ti.agg z=some v)(w:LP):(zeroValue t).run E.prog w=.ok v w/\zP v=true:=by
 obtain⟨i,c,_,o,_,h3,_⟩:=he.types t ti h;obtain⟨u,k,j,B,A,q,g6,g⟩:=h3 z y;have e:v=u:=by
  cases x:ti.agg with
  |true=>rw[x]at hv;simp only[rD,oI]at hv;rw[g6 x,hv]
  |false=>rw[x,g x]at hv;simp only[rD,oI]at hv;exact hv.symm
 subst e;exact⟨by simp[zeroValue,gv w c,k],j⟩
theorem m7(b o n:Nat):(⟨b,o,none⟩:Addr).add n=⟨b,o+n,none⟩:=by unfold Addr.add;split<;>simp_all
theorem qHk(he:EOk E)(B:HR E σ H w){a C:LQ}(h:gM E H t a=some v)(J:VR σ a C):∃v',(Instr.loadAt t C).run E.prog w=.ok v' w/\VR σ v v':=by
 unfold gM at h;split at h;case h_2=>cases h
 rename_i ti b o q;cases J with
 |leaf K=>simp[v8]at K
 | ptr A=>
  rename_i L;simp only[Instr.loadAt,Instr.sureAddr,au,ax,ah,loadVar,qCc he q];cases y:ti.agg with
  |true=>rw[y,ai]at h;simp only[aa]at h;obtain⟨l,g,rfl⟩:=h;obtain⟨k,c,j,_,h3⟩:=qAo B g A;refine⟨.agg ⟨k⟩,?_,.agg j h3⟩;simp[vH he q,c]
  | false=>
   rw[y,bc]at h;split at h
   ·rename_i u g;cases h;obtain⟨k,c,j,_,h3⟩:=qAo B g A;cases j with
    |cons G e=>
     cases e;rename_i v';refine⟨v',?_,G⟩;simp only[loadCells,loadCellsFrom,m7,fx,au,ax]at c;simp only[cz,gl];revert c;cases I:(load {block:=L.hS,off:=L.off+o,spot:=none}).run E.prog w with
     |ok x F=>simp only[ah];intro c;cases c;rfl
     |halt x F=>simp
   cases h
theorem qLB(he:EOk E)(q:HR E σ H w){a g:LQ}(h:kN E H t a v=some H')(u:VR σ a g)(hv:VR σ v v')(e:∀c,v≠.tuple c):∃w',(Instr.storeAt t g v').run E.prog w=.ok () w'/\Step E σ H w σ H' w':=by
 unfold kN at h;split at h;case h_2=>cases h
 rename_i ti b o j;simp only[zI]at h;split at h;case isFalse=>cases h
 rename_i x;cases u with
 |leaf C=>simp[v8]at C
 |ptr k=>
  rename_i L;obtain⟨w',B,A⟩:=cL q h k hv.cells (hv.cells_one e);refine⟨w',?_,A⟩;have y:v'.cells.size=ti.size:=by have:=hv.cells.length;simp only[gu]at this x;omega
  simp only[Instr.storeAt,Instr.sureAddr,au,ax,ah,storeVar,vH he j];simp[y,B]
end
theorem Step.drop{w':LP}(hr:HR E σ H w){k:ABlk}(Q:H.blocks.get b=some k)(g:k.own=true)(U:σ b=some L)(N:w'.heap.size=w.heap.size)(q:∀B,B≠L.hS->w'.heap[B]? = w.heap[B]?)(V:w'.tape=w.tape)(O:w'.os=w.os)(j:w'.output=w.output/\w.drawn<=w'.drawn):Step E σ H w σ {blocks:=H.blocks.put b none,next:=H.next,low:=Nat.min H.low k.root} w':=by
 have u:∀c x,(H.blocks.put b none).get c=some x->c≠b/\H.blocks.get c=some x:=by intro c x h;rw[T.ch]at h;grind
 refine { hr:=⟨?_,?_,hr.la,?_⟩,next:=vP _,ext:=λ_ _=>rfl,size:=jm N.symm,low:=dw _ _,tape:=V,os:=O,output:=⟨j.1,λ_=>j.2⟩,
          frame:=?_,origin:=?_,kp:=?_,hN:=?_,born:=?_}
 ·intro c x M y K;obtain⟨P,y⟩:=u c x y;obtain⟨o,S,R⟩:=hr.kq c x M y K;exact⟨o,by rw[q _ (λe=>hr.sep b c k x L M Q y g U K (Ne.symm P) e.symm)];exact S,R⟩
 ·intro G F C A J I S R;exact hr.sep G F C A J I (u _ _ S).2 (u _ _ R).2
 ·intro c x y;exact hr.wf c x (u _ _ y).2
 ·intro B _ h;exact q B (λe=>h b k L Q g U (bq _ _) e.symm)
 ·intro c x M y W K;exact .inr ⟨c,x,M,(u _ _ y).2,W,K,rfl,rfl⟩
 ·intro c x y _;exact⟨x,(u _ _ y).2,rfl,rfl⟩
 ·intro c x y X;show(H.blocks.put b none).get c=_;rw[T.ch];by_cases e:c=b
  ·subst e;rw[Q]at y;cases y;have:Nat.min H.low k.root<=k.root:=bq _ _;exact absurd X (Nat.not_lt.2 this)
  ·rw[bf e];exact y
 ·intro c x y Z;have:=(hr.wf c x (u _ _ y).2).2;omega
theorem yW{α:Type}(P:LK)(w:LP):∀(s:Sem α) (a:α),zB P s=some a->s.run P w=.ok a w:=by
 intro s;induction s with
 |pure a=>intro b h;simp[zB]at h;subst h;rfl
 |program k ih=>intro b h;exact ih P b (by simpa[zB]using h)
 |mark m k ih=>intro b h;exact ih b (by simpa[zB]using h)
 |_=>intro b h;simp[zB]at h
theorem flat?_spec{v:LG}{u:LQ}(h:flat? v=some u):v=some u/\zP u=true:=by unfold flat? at h;grind
theorem gS{α:Sort _}(a b:Bool)(x y:α):(bif a&&b then x else y)=bif a then(bif b then x else y)else y:=by cases a<;>rfl
variable{l:LA}{p:LQ->Bool}
section
variable{E:Env}{σ:vO}{H:AH}{w:LP}{fr:Fr}{a:Act}
theorem rA(he:EOk E)(e:HR E σ H w)(j:sO σ fr a.tmps){x:LM}(h:ev E fr x=some v):VR σ v (a.eval x):=by
 cases x with
 |tmp t=>exact j.2 t v h
 |const c=>
  simp only[ev]at h;cases y:zP c with
  |true=>rw[y,ai]at h;cases h;exact xJ _ _ y
  |false=>rw[y,bc]at h;cases h
 |global g=>
  simp only[ev,jD]at h;split at h;case isFalse=>cases h
  rename_i q;cases h;obtain⟨L,o,k,h3⟩:=e.la g (by rw[←he.ng];omega);have:=VR.ptr (i:=0) o;rw[k,h3]at this;exact this
 |func f=>simp only[ev]at h;cases h;exact .func rfl .nil .nil
theorem uI:∀{xs:List LM} {vs:LA},(∀x∈xs,∀v,ev E fr x=some v->VR σ v (a.eval x))->rS E fr xs=some vs->VRs σ vs (xs.map a.eval)
 | [],vs,_,h=>by simp[rS]at h;subst h;exact .nil
 |x::xs,vs,c,h=>by
  simp only[rS]at h;split at h
  ·cases h
  rename_i v hv;simp only[aa]at h;obtain⟨e,j,rfl⟩:=h;exact .cons (c x (by simp) v hv) (uI (λy g=>c y (by simp[g])) j)
inductive PRs (σ:vO):List (Nat×LQ)->List (Nat×LQ)->Prop
 |nil:PRs σ [] []
 |cons {i:Nat} {v v':LQ} {l l':List (Nat×LQ)} (h:VR σ v v') (ht:∀c,v≠.tuple c) (hs:PRs σ l l'):PRs σ ((i,v)::l) ((i,v')::l')
theorem qAg:∀{xs:List (Nat×LM)} {vs:List (Nat×LQ)},(∀x∈xs.map (·.2),∀v,ev E fr x=some v->VR σ v (a.eval x))->parts? E fr xs=some vs->
  PRs σ vs (xs.map λ(i,x)=>(i,a.eval x))
 | [],vs,_,h=>by simp[parts?]at h;subst h;exact .nil
 |(i,x)::xs,vs,j,h=>by
  simp only[parts?]at h
  split at h
  ·cases h
  ·cases h
  rename_i v g hv
  simp only[aa]at h
  obtain⟨k,q,rfl⟩:=h
  exact .cons (j x (by simp) v hv) (λc e=>g c e) (qAg (λy o=>j y (by simp only[fa,bl];exact .inr o)) q)
theorem VRs.take:∀{l x:LA} (n:Nat),VRs σ l x->VRs σ (l.take n) (x.take n)
 |_,_,0,_=>by simpa using VRs.nil
 |_,_,_+1,.nil=>.nil
 |_,_,n+1,.cons h y=>.cons h (VRs.take n y)
theorem VRs.drop:∀{l x:LA} (n:Nat),VRs σ l x->VRs σ (l.drop n) (x.drop n)
 |_,_,0,h=>h
 |_,_,_+1,.nil=>.nil
 |_,_,n+1,.cons _ y=>VRs.drop n y
theorem qEM(off:Nat):∀(vs:LA) (k:Nat) (cs:LD),off+k+vs.length<=cs.size->
  ((vs.zipIdx k).foldl (λ(cs:LD) (x:LQ×Nat)=>cs.setIfInBounds (off+x.2) x.1) cs).toList=cs.toList.take (off+k)++vs++cs.toList.drop (off+k+vs.length)
 | [],k,cs,_=>by simp
 |v::vs,k,cs,h=>by
  simp only[List.zipIdx_cons,jk]
  rw[qEM off vs (k+1) _ (by simp at h ⊢;omega)]
  have y:off+k<cs.toList.length:=by simp at h ⊢;omega
  simp only[Array.toList_setIfInBounds]
  apply List.ext_getElem?
  intro j
  simp only[List.getElem?_append,bx,cg,ef,List.getElem?_take,fw,ia,dj]
  grind
theorem qIl(n:Nat)(h:l.all p=true):(l.take n).all p=true:=by grind
theorem qIm(n:Nat)(h:l.all p=true):(l.drop n).all p=true:=by grind
theorem tM(y:Nat->Option (Nat×Nat)):∀{ps c:List (Nat×LQ)} {cs r:LA} {cs':LD},PRs σ ps c->VRs σ cs cs'.toList->cs.all qU=true->
  eI cs ps y=some r->∃u,Instr.fill y cs' c=some u/\VRs σ r u.toList/\r.all qU=true/\r.length=cs.length
 |_,_,cs,r,cs',.nil,o,A,h=>by
  simp[eI]at h;subst h;exact⟨cs',rfl,o,A,rfl⟩
 | _,_,cs,r,cs',.cons (i:=i) (v:=v) (v':=v') hv K M,o,A,h=>by
  simp only[eI]at h
  split at h
  ·cases h
  rename_i off size N
  simp only[zI]at h
  split at h
  case isFalse=>cases h
  rename_i C
  split at h
  case h_2=>cases h
  rename_i q bO
  obtain⟨O,G⟩:=lJ _ _ _ _ bO
  have k:=o.length
  have g:=hv.cells.length
  have F:=qEM off v'.cells.toList 0 cs' (by simp only[gu]at k g O C ⊢;omega)
  have B:VRs σ q (v'.cells.zipIdx.foldl (λ(cs:LD) (x:LQ×Nat)=>cs.setIfInBounds (off+x.2) x.1) cs').toList:=by
   have e:v'.cells.zipIdx.foldl (λ(cs:LD) (x:LQ×Nat)=>cs.setIfInBounds (off+x.2) x.1) cs' =
     (v'.cells.toList.zipIdx 0).foldl (λ(cs:LD) (x:LQ×Nat)=>cs.setIfInBounds (off+x.2) x.1) cs':=by
    rw[←Array.foldl_toList,Array.toList_zipIdx]
   rw[e,F,G,g]
   exact((o.take _).append hv.cells).append (o.drop _)
  have j:q.all qU=true:=by
   rw[G,fh,fh,qIl _ A,qIm _ A,hv.cells_one K];rfl
  obtain⟨u,Q,J,I,P⟩:=tM y M B j h
  refine⟨u,?_,J,I,?_⟩
  ·simp only[Instr.fill,N]
   grind
  grind
theorem kQ(z:LA):∀n,(xX z n).length=n*z.length
 |0=>by simp[xX]
 |n+1=>by simp[xX,kQ z n,jf];omega
theorem qG0(z:LA):∀n i,i<n*z.length->(xX z n)[i]? = z[i%z.length]?
 |0,i,h=>by simp at h
 |n+1,i,h=>by
  rw[jf]at h;simp only[xX];by_cases x:i<z.length
  ·rw[bz x,Nat.mod_eq_of_lt x]
  rw[bu (by omega),qG0 z n (i-z.length) (by omega)]
  congr 1
  exact(Nat.mod_eq_sub_mod (by omega)).symm
theorem qCe{z:LA}{v:LQ}:∀{n:Nat},v∈xX z n->v∈z
 |0,h=>by simp[xX]at h
 |n+1,h=>by simp only[xX,bh]at h;exact h.elim id qCe
theorem sP(z:LD)(n s:Nat)(y:s=z.size):((Array.range (n*s)).map (λi=>z[i%z.size]!)).toList=xX z.toList n:=by
 subst y;apply List.ext_getElem?;intro i;by_cases h:i<n*z.size
 ·rw[qG0 z.toList n i (by simpa using h)];have x:0<z.size:=by grind
  have hm:i%z.size<z.size:=Nat.mod_lt _ x;simp[h,hm]
 have c:(xX z.toList n).length<=i:=by rw[kQ];simp;omega
 grind
theorem qCY:∀{l:LA},(∀v∈l,VR σ v v)->VRs σ l l
 | [],_=>.nil
 |v::l,h=>.cons (h v (by simp)) (qCY λu hu=>h u (by simp[hu]))
theorem pK(h:zP v=true)(x:v.cells.toList=z):VRs σ z z:=by have:=(xJ (σ:=σ) 6 v h).cells;rw[x]at this;exact this
theorem VRs.oy:∀{l:LA},VRs σ l l->∀v∈l,VR σ v v
 |_,.nil,v,h=>by simp at h
 |_,.cons h x,v,hv=>by
  simp at hv;rcases hv with rfl|hv
  ·exact h
  exact VRs.oy x v hv
theorem fN(h:VRs σ z z)(n:Nat):VRs σ (xX z n) (xX z n):=qCY λv hv=>h.oy v (qCe hv)
theorem tF(h:z.all qU=true)(n:Nat):(xX z n).all qU=true:=by rw[al]at h ⊢;exact λv hv=>h v (qCe hv)
end
def qM0(E:Env)(σ:vO)(w:LP):AR->Next->Prop
 |.val v,.value v'=>VR σ v v'
 |.skip,.skip=>True
 |.sf,.recover=>True
 |.enter f x,.enter y h=>y=f/\VRs σ x h.toList/\∃fn,E.funcs.get f=some fn
 |.round l x,nx=>∃(L:Loc) (lo:Loop) (h:LA),σ l=some L/\w.heap[L.hS]? = some (.loop lo)/\VRs σ x h/\h.length=lo.params.size/\nx=.round L.hS lo.fn ((lo.params.zip ⟨h⟩).foldl (λtmps (t,a)=>tmps.setIfInBounds t a) lo.tmps) lo.assign lo.body
 |_,_=>False
def xF(E:Env)(σ:vO)(H:AH)(w:LP)(r:gP)(s:Sem Next):Prop:=
 ∀h H',r=some (h,H')->yU σ H.next H'.next->∃σ' w' nx,s.run E.prog w=.ok nx w'/\Step E σ H w σ' H' w'/\qM0 E σ' w' h nx
variable{el:LN}
section
variable{E:Env}{σ:vO}{H:AH}{w:LP}{fr:Fr}{a:Act}
theorem xF.one(y:HR E σ H w){x:LG}{s:Sem LQ}(h:∀v,x=some v->∃v',s.run E.prog w=.ok v' w/\VR σ v v'):xF E σ H w (one H x) (do pure (.value (←s))):=by intro g H' he _;simp only[Go.Am.one,aa]at he;obtain⟨v,hv,he⟩:=he;cases he;obtain⟨v',e,c⟩:=h v hv;exact⟨σ,w,.value v',by simp[e],Step.refl y,c⟩
theorem xF.none{s:Sem Next}:xF E σ H w none s:=λ_ _ h=>by cases h
theorem qEx(k:HR E σ H w)(e:σ H.next=none){cs':LD}(hv:VRs σ cs (cs'.toList.take cs.length))(o:cs.length<=cs'.size)(j:cs.all qU=true):∃L,L.hS=w.heap.size/\L.off=0/\L.ext=cs'.size/\(∀ti,E.types.get el=some ti->L.sz=ti.size)/\Step E σ H w (σ.add H.next L) (H.new (.cells cs el)) (World.push w (.cells cs' el)):=by
 let L:Loc:=⟨w.heap.size,0,cs'.size,match E.types.get el with|some ti=>ti.size|none=>0⟩;have x:∀ti,E.types.get el=some ti->L.sz=ti.size:=λti h=>by simp[L,h]
 refine⟨L,rfl,rfl,rfl,x,Step.new k e _ _ L rfl ?_⟩;refine⟨λ_=>⟨.inl rfl,rfl,Nat.zero_mod _⟩,by simp[L],o,x,λi v c=>?_⟩;rw[al]at j;refine⟨j v (be c),?_⟩;obtain⟨v',g,h3⟩:=hv.get i v c;have y:i<cs.length:=(gI c).1;rw[fu y,ff]at g;exact⟨v',by simpa[L]using g,h3.mono (vO.ln e)⟩
theorem aP(x:HR E σ H w)(y:σ H.next=none){cs':LA}(hv:VRs σ cs cs')(c:cs.all qU=true):∃L,L.hS=w.heap.size/\L.off=0/\L.ext=cs.length/\(∀ti,E.types.get el=some ti->L.sz=ti.size)/\Step E σ H w (σ.add H.next L) (H.new (.cells cs el)) (World.push w (.cells ⟨cs'⟩ el)):=by have h:=hv.length;obtain⟨L,o,k,j,g,e⟩:=qEx x y (cs':=⟨cs'⟩) (el:=el) (by rw[←h];simpa using hv) (by simp[h]) c;exact⟨L,o,k,by rw[j];simp[h],g,e⟩
theorem yU.head{n x:Nat}(h:yU σ n x)(y:n<x):σ n=none:=h n (vP _) y
theorem qMV(he:EOk E)(c:HR E σ H w)(t:LN):
  xF E σ H w (match E.types.get t with
   |some {zero:=some z,..}=>some (.val (.pointer (some ⟨H.next,0,none⟩)),H.new (.cells z t))
   |_=>none) (do pure (.value (←Instr.alloc t true (.tuple #[])))):=by
 intro G H' h e
 split at h
 case h_2=>cases h
 rename_i ti d sz B z ag y
 cases h
 obtain⟨v,o,k,h3,j,h5⟩:=gL he y rfl w
 have x:=e.head (bw _)
 obtain⟨L,A,u,F,C,q⟩:=aP c x (el:=t) (pK (σ:=σ) k h3) j
 refine⟨_,_,.value (.pointer (some ⟨w.heap.size,0,none⟩)),?_,q,?_⟩
 ·have:v.cells=⟨z⟩:=by cases g:v.cells;simp[g]at h3;rw[h3]
  simp[Instr.alloc,o,newVar,newRow,World.push,this]
 have:=VR.ptr (σ:=σ.add H.next L) (i:=0) vO.g7
 rw[A,u]at this
 exact this
theorem qSV(he:EOk E)(e:HR E σ H w)(t:LN)(hv:VR σ v v')(x:∀c,v≠.tuple c):xF E σ H w (some (.val (.pointer (some ⟨H.next,0,none⟩)),H.new (.cells v.cells.toList t))) (do pure (.value (←Instr.box t v'))):=by
 intro A H' h g;cases h;have y:=g.head (bw _);obtain⟨L,o,k,u,q,j⟩:=aP e y (el:=t) hv.cells (hv.cells_one x);refine⟨_,_,.value (.pointer (some ⟨w.heap.size,0,none⟩)),?_,j,?_⟩
 ·simp[Instr.box,newVar,newRow,World.push]
 have:=VR.ptr (σ:=σ.add H.next L) (i:=0) vO.g7;rw[o,k]at this;exact this
theorem qCl(he:EOk E):∀(fs:List Field),(∀f∈fs,∃e,E.types.get f.type=some e)->
  ∃y:List (Nat×Nat),(fs.mapM (λ(f:Field)=>(do pure (f.offset,←sizeOf f.type):Sem (Nat×Nat)))).run E.prog w=.ok y w/\∀i p,fieldPlace? E fs i=some p->y[i]? = some p
 | [],_=>⟨[],by simp,by simp[fieldPlace?]⟩
 |f::fs,h=>by
  obtain⟨y,o,k⟩:=qCl he fs λg j=>h g (by simp[j])
  obtain⟨e,x⟩:=h f (by simp)
  refine⟨(f.offset,e.size)::y,?_,?_⟩
  ·simp only[List.mapM_cons,au,vH he x,ah,o,ax]
  intro i p c
  cases i with
  |zero=>simp[fieldPlace?,x]at c;simp[c]
  |succ i=>simpa using k i p (by simpa[fieldPlace?]using c)
theorem qEu{place place':Nat->Option (Nat×Nat)}(e:∀i p,place i=some p->place' i=some p):∀(x:List (Nat×LQ)) (cs r:LA),
  eI cs x place=some r->eI cs x place'=some r
 | [],cs,r,h=>h
 |(i,v)::x,cs,r,h=>by
  simp only[eI]at h ⊢
  split at h
  ·cases h
  rename_i off size c
  rw[e i _ c]
  simp only[zI]at h ⊢
  split at h
  case isFalse=>cases h
  rename_i y
  rw[bo y]
  split at h
  case h_2=>cases h
  exact qEu e x _ _ h
theorem qMM(he:EOk E){ps y:List (Nat×LQ)}(q:PRs σ ps y)(h:sJ E t ps=some v):∃v',(Instr.build t ⟨y⟩).run E.prog w=.ok v' w/\VR σ v v':=by
 unfold sJ at h;split at h
 ·rename_i ti fs sz M z ag j;simp only[aa]at h;obtain⟨l,A,rfl⟩:=h;obtain⟨o,F,C,h3,B,h5⟩:=gL he j rfl w;obtain⟨N,P,O⟩:=qCl (w:=w) he fs.toList (he.fields t _ fs j rfl);have u:=qEu (place':=λx=>N[x]?) (λi p q=>O i p q) _ _ _ A;obtain⟨g,K,I,G,Q⟩:=tM (σ:=σ) (cs':=o.cells) _ q (by rw[h3];exact pK C h3) B u;refine⟨.agg g,?_,by cases g;exact .agg I G⟩;simp only[Instr.build,au,F,ah,vE he j,Array.mapM_eq_mapM_toList,Sem.run_map,P];simp[K]
 ·rename_i ti n k sz M z ag j;cases c:E.types.get k with
  |none=>simp[c]at h
  |some e=>simp only[c,bn,aa]at h;obtain⟨l,A,rfl⟩:=h;obtain⟨o,F,C,h3,B,h5⟩:=gL he j rfl w;obtain⟨g,K,I,G,Q⟩:=tM (σ:=σ) (cs':=o.cells) _ q (by rw[h3];exact pK C h3) B A;refine⟨.agg g,?_,by cases g;exact .agg I G⟩;have J:Instr.fill (λi=>some (i*e.size,e.size)) o.cells y=some g:=K;simp only[Instr.build,au,F,ah,vE he j,vH he c];simp[J]
 cases h
theorem qDt(he:EOk E)(W:HR E σ H w){n:Nat}{ps k:List (Nat×LQ)}(X:PRs σ ps k):xF E σ H w (yN E H t n ps) (do pure (.value (←Instr.buildSlice t n ⟨k⟩))):=by
 intro ar H' h hf;unfold yN at h;split at h;case h_2=>cases h
 rename_i ti A sz by_ z0 ag M;split at h;case h_2=>cases h
 rename_i dd ed x eby P eag g;rw[gS,zI,jD]at h;split at h;case isFalse=>cases h
 rename_i F;split at h;case isFalse=>cases h
 rename_i O;simp only[aa]at h;obtain⟨l,Z,h⟩:=h;cases h;obtain⟨B,h1,h2,h3,h4,h5⟩:=gL he g rfl w;have C:=pK (σ:=σ) h2 h3;have o:B.cells.size=x:=by rw[←F,←h3];simp
 have I:n*x+n<=1000000:=by have:Nat.mul n (Nat.succ x)=n*x+n:=Nat.mul_succ n x;omega
 obtain⟨j,e,V⟩:∃j:LD,j=(if n*x=0 then #[]else B.cells)/\
   ((Array.range (n*x)).map (λi=>j[i%j.size]!)).toList=xX P n:=by
  by_cases y:n*x=0
  ·refine⟨#[],by simp[y],?_⟩
   rw[y]
   have:(xX P n).length=0:=by rw[kQ,F,y]
   simp[cy.1 this]
  refine⟨B.cells,by simp[y],?_⟩
  rw[sP B.cells n x o.symm,h3]
 obtain⟨Q,g1,g2,g3,g4⟩:=tM (σ:=σ) (cs':=(Array.range (n*x)).map (λi=>j[i%j.size]!)) _ X (by rw[V];exact fN C n) (tF h4 n) Z;have u:Instr.fill (λi=>some (i*x,x)) ((Array.range (n*x)).map (λi=>j[i%j.size]!)) k=some Q:=g1;have G:=hf.head (bw _);obtain⟨L,K,J,U,S,R⟩:=aP W G (el:=A) g2 g3;refine⟨_,_,.value (.slice (some ⟨w.heap.size,0,none⟩) n n),?_,R,?_⟩
 ·have q:¬n*x>2^24:=by omega
  by_cases y:n*x=0
  ·rw[bo y]at e;subst e;simp only[Instr.buildSlice,au,vE he M,ah,vH he g,bf q,bo y,ax,u];simp[newRow,World.push]
  rw[bf y]at e;subst e;simp only[Instr.buildSlice,au,vE he M,ah,vH he g,bf q,bf y,ax,h1,u];simp[newRow,World.push]
 have N:n<zX:=by unfold zX;omega
 by_cases y:n=0
 ·have:=VR.ka (σ:=σ.add H.next L) (i:=0) (l:=n) (c:=n) vO.g7 (vP _) N;rw[K,J]at this;subst y;exact this
 have:=VR.jd (σ:=σ.add H.next L) (b:=H.next) (i:=0) (l:=n) (c:=n) vO.g7 (vP _) N (by rw[U,S _ g,g4,kQ,F];simp);rw[K,J]at this;have hb:Nat.beq n 0=false:=by
  cases hc:Nat.beq n 0 with
  |false=>rfl
  |true=>exact absurd (vW hc) y
 rw[hb];exact this
end
end Go.Am
