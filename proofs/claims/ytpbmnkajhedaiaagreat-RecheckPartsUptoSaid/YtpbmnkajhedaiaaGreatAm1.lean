/- The abstract machine: a deterministic, computable run of the model's code over a heap of abstract blocks. Conditions: none; it is a definition. -/
import Derived.Calls
import Derived.Orders
import Derived.Laws.CopyRow
import Derived.Laws.Cells
import Derived.Laws.Entries
import Derived.ChangeKeysEq
set_option linter.all false
namespace Go.Am
open Go
theorem vP{a b:Nat}(h:Nat.beq a b=true):a=b:=Nat.eq_of_beq_eq_true h
theorem dF{p:Prop}[Decidable p](h:decide p=false):¬p:=of_decide_eq_false h
theorem dT{p:Prop}[Decidable p](h:decide p=true):p:=of_decide_eq_true h
theorem fD{p:Prop}[Decidable p](h:¬p):decide p=false:=decide_eq_false h
theorem tD{p:Prop}[Decidable p](h:p):decide p=true:=decide_eq_true h
theorem oK{a b:Nat}(h:Nat.ble a b=true):a<=b:=Nat.le_of_ble_eq_true h
theorem bL{a b:Nat}(h:a<=b):Nat.ble a b=true:=Nat.ble_eq_true_of_le h
theorem mC{α:Type}{a:α}(b:α){l:List α}(h:a∈l):a∈b::l:=List.mem_cons_of_mem b h
theorem vE(n:Nat):n<=n:=Nat.le_refl n
theorem lT{a b c:Nat}(h:a<=b)(k:b<=c):a<=c:=Nat.le_trans h k
theorem zR(a b:Bool):((a&&b)=true)=(a=true/\b=true):=Bool.and_eq_true a b
theorem oI{α:Type}(a b:α):(some a=some b)=(a=b):=Option.some.injEq a b
theorem pI{α x:Type}{a c:α}{b d:x}(h:(a,b)=(c,d)):a=c/\b=d:=Prod.mk.inj h
theorem gI{α:Type}{l:List α}{i:Nat}{a:α}(h:l[i]? = some a):∃h:i<l.length,l[i]=a:=List.getElem?_eq_some_iff.1 h
inductive T (α:Type) where
 |leaf
 |node (v:Option α) (l r:T α)
def T.get{α:Type}:T α->Nat->Option α
 |.leaf,_=>none
 |.node v l r,n=>
  bif Nat.beq n 0 then v else bif Nat.beq (Nat.mod n 2) 1 then l.get (Nat.div n 2)else r.get (Nat.pred (Nat.div n 2))
def T.set{α:Type}:Nat->T α->Nat->Option α->T α
 |0,t,_,_=>t
 |d+1,.leaf,n,x=>
  bif Nat.beq n 0 then .node x .leaf .leaf
  else bif Nat.beq (Nat.mod n 2) 1 then .node none (T.set d .leaf (Nat.div n 2) x) .leaf
  else .node none .leaf (T.set d .leaf (Nat.pred (Nat.div n 2)) x)
 |d+1,.node v l r,n,x=>
  bif Nat.beq n 0 then .node x l r
  else bif Nat.beq (Nat.mod n 2) 1 then .node v (T.set d l (Nat.div n 2) x) r
  else .node v l (T.set d r (Nat.pred (Nat.div n 2)) x)
def T.put{α:Type}(t:T α)(n:Nat)(x:Option α):T α:=T.set (n+1) t n x
def T.ofList{α:Type}(t:T α):Nat->List α->T α
 |_,[]=>t
 |n,x::xs=>T.ofList (t.put n (some x)) (n+1) xs
structure TI where
 desc:TypeDesc
 size:Nat
 bytes:Nat
 zero:Option (List Value)
 agg:Bool
structure Fr where
 sz:Nat
 rd:Bool
 t:T Value
inductive AObj where
 |cells (cs:List Value) (elem:TypeId)
 |map (es:List MapEntry) (clock:Nat)
 |siter (s:ByteArray) (pos:Nat)
 |miter (m since:Nat) (seen:List Nat) (last:Nat)
 |loop (state:LoopState) (pending:Option Code) (tmps:Fr) (params:List Tmp) (assign body:Code)
structure ABlk where
 obj:AObj
 root:Nat
 own:Bool
structure Env where
 funcs:T Func
 types:T TI
 prog:Program
 ng:Nat
 /-- blocks that lie there from the beginning, and stay -/
 laid:List (Nat×ABlk):=[]
def rK:Fn->Bool
 |.yield _=>false
 |_=>true
def qH:Value->Bool
 |.agg _|.tuple _=>false
 |_=>true
def zP:Nat->Value->Bool
 |_,.bool _|_,.int _ _|_,.float _ _|_,.complex _ _ _|_,.string _=>true
 |_,.pointer a=>a.isNone
 |_,.slice a l c=>a.isNone&&Nat.beq l 0&&Nat.beq c 0
 |_,.map r=>r.isNone
 |_,.nilFunc|_,.nilIface=>true
 |n+1,.iface _ v=>zP n v
 |n+1,.agg cs=>cs.toList.all λc=>qH c&&zP n c
 |n+1,.tuple cs=>cs.toList.all (zP n)
 |_,_=>false
abbrev zK:Value->Bool:=zP 6
def qS6(d:TypeDesc):Bool:=match d with
 |.struct _|.array _ _=>true
 |_=>false
def qEK(ag:Bool)(size:Nat)(v:Value):Bool:=
 zK v&&v.cells.toList.all qH&&Nat.beq v.cells.toList.length size&&(match v with|.agg _=>ag|v=>!ag&&qH v)
def qQ1(i:TypeInfo)(d:TypeDesc):TI:=
  { desc:=d,size:=i.size,bytes:=i.bytes
    zero:=match i.zero with|some v=>bif qEK (qS6 d) i.size v then some v.cells.toList else none|none=>none
    agg:=qS6 d}
def rF(ag:Bool)(z:List Value):Option Value:=match ag,z with
 |true,z=>some (.agg ⟨z⟩)
 |false,[v]=>some v
 |_,_=>none
def eP(P:Program):List TypeInfo->Nat->T TI->T TI
 | [],_,t=>t
 |i::h,n,t=>eP P h (n+1) (match P.underlying n with|some d=>t.put n (some (qQ1 i d))|none=>t)
def dM(o:Oper):List Nat:=o.after.toList.filterMap λe=>match e.ground with
 |.textOnly _|.gcOnly _=>none
 |_=>some e.on
def uP(acc:List Nat):List Nat->Nat->Nat
 | [],m=>m
 |p::h,m=>uP acc h (Nat.lor m (Nat.lor (Nat.shiftLeft 1 p) (acc.getD p 0)))
def bF(acc:List Nat):List Oper->List Nat
 | []=>acc
 |o::os=>bF (acc++[uP acc (dM o) 0]) os
def yX(ops:List Oper):List Nat:=bF [] ops
def pB(h:List Nat)(j i:Nat):Bool:=Nat.testBit (h.getD i 0) j
def pL(h:List Nat)(j i:Nat):Bool:=bif Nat.blt j i then pB h j i else pB h i j
def fS:Op->Bool
 |.extract _ _=>true
 |.move _=>true
 |.assign _=>true
 |_=>false
def xK(ops:List Oper)(i:Nat):Bool:=match ops[i]? with
 |some o=>fS o.op
 |none=>false
def yM(ops:List Oper)(i:Nat):Bool:=
 let h:=yX ops
 !xK ops i&&(List.range ops.length).all λj=>Nat.beq j i||pL h j i||xK ops j
def qH4(xs:List Operand):List Tmp:=xs.filterMap fun
 |.tmp t=>some t
 |_=>none
def m8(ops:List Oper)(o:Oper):List Tmp:=
 o.dst.toList++qH4 o.op.operands.toList++(match o.guard with
  |some (j,_)=>((ops[j]?).bind (·.dst)).toList
  |none=>[])
def bC(ops:List Oper):Bool:=
 let h:=yX ops
 ops.zipIdx.all λ(o,i)=>(dM o).all (λp=>Nat.blt p i)&&ops.zipIdx.all λ(p,k)=>Nat.beq k i||(match p.dst with
  |none=>true
  |some d=>!(m8 ops o).contains d||pL h k i)
def vB:Code->Bool
 |.region _ ops draw=>!draw||bC ops.toList
 |.seq a b=>vB a&&vB b
 |.cond _ a b=>vB a&&vB b
 |.block _ b=>vB b
 |.loop b=>vB b
 |.scope b=>vB b
 |.rangeFunc _ _ a b=>vB a&&vB b
 |_=>true
def gP:List Func->Nat->T Func->T Func
 | [],_,t=>t
 | f :: fs, n, t => gP fs (n + 1) (match f.body with | some c => bif f.name == "runtime.NumGoroutine" || !vB c then t else t.put n (some f) | none => t)
def pP(P:Program):Env:={prog:=P,ng:=P.globals.size,funcs:=gP P.funcs.toList 0 .leaf,types:=eP P P.types.toList 0 .leaf}
structure AH where
 blocks:T ABlk
 next:Nat
 low:Nat
def zI:Nat:=9223372036854775808
def AH.new(H:AH)(o:AObj):AH:={blocks:=H.blocks.put H.next (some ⟨o,H.next,true⟩),next:=Nat.succ H.next,low:=H.low}
def AH.write(H:AH)(b:Nat)(k:ABlk)(o:AObj):AH:={blocks:=H.blocks.put b (some {k with obj:=o}),next:=H.next,low:=Nat.min H.low k.root}
def AH.move(H:AH)(b:Nat)(k:ABlk)(x:AObj):AH:=
 {blocks:=(H.blocks.put b none).put H.next (some ⟨x,k.root,true⟩),next:=Nat.succ H.next,low:=Nat.min H.low k.root}
def take?(l:List Value)(n:Nat):Option (List Value):=match n,l with
 |0,_=>some []
 |_+1,[]=>none
 |n+1,x::l=>(take? l n).map (x :: ·)
def AH.loads(H:AH)(b i n:Nat):Option (List Value):=
 match H.blocks.get b with
 |some ⟨.cells cs _,_,_⟩=>take? (cs.drop i) n
 |_=>none
def xA:List Value->Nat->List Value->Option (List Value)
 |cs,0,[]=>some cs
 | [],0,_::_=>none
 |_::cs,0,v::vs=>(xA cs 0 vs).map (v :: ·)
 | [],_+1,_=>none
 |c::cs,i+1,vs=>(xA cs i vs).map (c :: ·)
def AH.stores(H:AH)(b i:Nat)(vs:List Value):Option AH:=
 match H.blocks.get b with
 |some ⟨.cells cs el,r,true⟩=>(xA cs i vs).map λcs'=>H.write b ⟨.cells cs el,r,true⟩ (.cells cs' el)
 |_=>none
def qT{α:Type}(P:Program):Sem α->Option α
 |.pure a=>some a
 |.program k=>qT P (k P)
 |.mark _ k=>qT P k
 |_=>none
def ev(E:Env)(fr:Fr):Operand->Option Value
 |.tmp t=>fr.t.get t
 |.const v=>bif zK v then some v else none
 |.global g=>bif Nat.ble (g+1) E.ng then some (.pointer (some ⟨g,0,none⟩))else none
 |.func f=>some (.func (.func f) #[] #[])
def rV(E:Env)(fr:Fr):List Operand->Option (List Value)
 | []=>some []
 |x::xs=>match ev E fr x with
  |none=>none
  |some v=>(rV E fr xs).map (v :: ·)
inductive AR where
 |val (v:Value)
 |skip
 |rcv
 |enter (f:FuncId) (args:List Value)
 |round (l:Nat) (args:List Value)
abbrev qEJ:=Option (AR×AH)
def one(H:AH)(v:Option Value):qEJ:=v.map λv=>(.val v,H)
def flat?(v:Option Value):Option Value:=match v with
 |some v=>bif zK v then some v else none
 |none=>none
def qAG(E:Env)(t:TypeId)(a b:Value):Bool:=
 match E.types.get t,a,b with
 |some {desc:=.pointer _,..},.pointer none,.pointer (some _)=>true
 |some {desc:=.pointer _,..},.pointer (some _),.pointer none=>true
 |some {desc:=.slice _,..},.slice none _ _,.slice (some _) _ _=>true
 |some {desc:=.slice _,..},.slice (some _) _ _,.slice none _ _=>true
 |some {desc:=.map _ _,..},.map none,.map (some _)=>true
 |some {desc:=.map _ _,..},.map (some _),.map none=>true
 |some {desc:=.func _ _ _,..},.nilFunc,.func _ _ _=>true
 |some {desc:=.func _ _ _,..},.func _ _ _,.nilFunc=>true
 |some {desc:=.interface _,..},.nilIface,.iface _ _=>true
 |some {desc:=.interface _,..},.iface _ _,.nilIface=>true
 |_,_,_=>false
def qDZ(E:Env)(t:TypeId)(a b:Value):Bool:=
 match E.types.get t,a,b with
 |some {desc:=.pointer h,..},.pointer (some ⟨b,o,none⟩),.pointer (some ⟨y,x,none⟩)=>(E.types.get h).isSome&&Nat.beq b y&&Nat.beq o x
 |_,_,_=>false
def oL(E:Env)(op:BinOp)(t:TypeId)(x y:Operand)(a b:Value):Option Value:=
 match op,a,b with
 |.add,.int k m,.int k' n=>if k=k' then some (.int k (k.wrap (m+n)))else none
 |.sub,.int k m,.int k' n=>if k=k' then some (.int k (k.wrap (m-n)))else none
 |.mul,.int k m,.int k' n=>if k=k' then some (.int k (k.wrap (m*n)))else none
 |.eql,.int k m,.int k' n=>if k=k' then some (.bool (m==n))else none
 |.neq,.int k m,.int k' n=>if k=k' then some (.bool (m != n))else none
 |.lss,.int k m,.int k' n=>if k=k' then some (.bool (m<n))else none
 |.leq,.int k m,.int k' n=>if k=k' then some (.bool (m<=n))else none
 |.gtr,.int k m,.int k' n=>if k=k' then some (.bool (m>n))else none
 |.geq,.int k m,.int k' n=>if k=k' then some (.bool (m≥n))else none
 | op,a,b=>
  bif zK a&&zK b then flat? (qT E.prog (do eqGuard op t x y a b;binOp op t a b))
  else bif qDZ E t a b then(match op with
   |.eql=>some (.bool true)
   |.neq=>some (.bool false)
   |_=>none)
  else bif qAG E t a b then(match op with
   |.eql=>some (.bool false)
   |.neq=>some (.bool true)
   |_=>none)
  else none
def nat?: Value->Option Nat
 |.int _ (.ofNat n)=>some n
 |_=>none
def qBq(b i n:Nat):Option Addr:=some ⟨b,Nat.add i n,none⟩
def qCn(E:Env)(t:TypeId)(x:Value)(i:Nat):Option Value:=
 match E.types.get t,x with
 |some {desc:=.array len h,..},.pointer (some ⟨b,o,none⟩)=>
  (E.types.get h).bind λe=>bif Nat.ble (i+1) len then some (.pointer (qBq b o (Nat.mul i e.size)))else none
 |some {desc:=.slice h,..},.slice (some ⟨b,o,none⟩) len _=>
  (E.types.get h).bind λe=>bif Nat.ble (i+1) len then some (.pointer (qBq b o (Nat.mul i e.size)))else none
 |_,_=>none
def qAg(E:Env)(s:TypeId)(x:Value)(f:Nat):Option Value:=
 match E.types.get s,x with
 |some {desc:=.struct fs,..},.pointer (some ⟨b,o,none⟩)=>
  match fs[f]? with
  |some h=>(E.types.get h.type).bind λe=>bif Nat.beq e.size 0 then none else some (.pointer (qBq b o h.offset))
  |none=>none
 |_,_=>none
def rC(E:Env)(H:AH)(t:TypeId)(a:Value):Option Value:=
 match E.types.get t,a with
 | some h,.pointer (some ⟨b,o,none⟩)=>
  bif h.agg then(H.loads b o h.size).map λl=>.agg ⟨l⟩
  else match H.loads b o 1 with
   |some [v]=>some v
   |_=>none
 |_,_=>none
def kQ(E:Env)(H:AH)(t:TypeId)(a v:Value):Option AH:=
 match E.types.get t,a with
 |some h,.pointer (some ⟨b,o,none⟩)=>
  let cs:=v.cells.toList
  bif Nat.beq cs.length h.size then H.stores b o cs else none
 |_,_=>none
def qAE(E:Env)(t:TypeId)(cs:List Value)(off:Nat):Option Value:=
 (E.types.get t).bind λh=>
  bif h.agg then(take? (cs.drop off) h.size).map λl=>.agg ⟨l⟩else(cs[off]?)
def parts?(E:Env)(fr:Fr):List (Nat×Operand)->Option (List (Nat×Value))
 | []=>some []
 |(i,x)::xs=>match ev E fr x with
  |none=>none
  |some (.tuple _)=>none
  |some v=>(parts? E fr xs).map ((i,v) :: ·)
def dN(cs:List Value):List (Nat×Value)->(Nat->Option (Nat×Nat))->Option (List Value)
 | [],_=>some cs
 | (i,v)::rest,place=>
  match place i with
  |none=>none
  |some (off,size)=>
   let vs:=v.cells.toList
   bif Nat.beq vs.length size then(match xA cs off vs with|some cs'=>dN cs' rest place|none=>none)else none
def fieldPlace?(E:Env)(fs:List Field)(i:Nat):Option (Nat×Nat):=
 match fs[i]? with
 |some f=>(E.types.get f.type).map λt=>(f.offset,t.size)
 |none=>none
def qAn(E:Env)(t:TypeId)(h:List (Nat×Value)):Option Value:=
 match E.types.get t with
 |some {desc:=.struct fs,zero:=some z,..}=>(dN z h (fieldPlace? E fs.toList)).map λl=>.agg ⟨l⟩
 |some {desc:=.array _ x,zero:=some z,..}=>
  (E.types.get x).bind λe=>(dN z h (λi=>some (Nat.mul i e.size,e.size))).map λl=>.agg ⟨l⟩
 |_=>none
def xM(z:List Value):Nat->List Value
 |0=>[]
 |n+1=>z++xM z n
def kE(E:Env)(H:AH)(t:TypeId)(len:Nat)(x:List (Nat×Value)):qEJ:=
 match E.types.get t with
 | some {desc:=.slice h,..}=>match E.types.get h with
  | some {size:=size,zero:=some z,..}=>
   bif Nat.beq z.length size&&Nat.ble (Nat.mul len (Nat.succ size)) 1000000 then
    (dN (xM z len) x (λi=>some (Nat.mul i size,size))).map λl=>
     (.val (.slice (some ⟨H.next,0,none⟩) len (bif Nat.beq len 0 then 0 else zI)),H.new (.cells l h))
   else none
  |_=>none
 |_=>none
def oE(H:AH)(size n:Nat):Value->Option (List Value)
 |.slice (some ⟨b,o,none⟩) len _=>bif Nat.beq n 0 then some []else bif Nat.ble n len then H.loads b o (Nat.mul n size)else none
 |.slice none _ _=>bif Nat.beq n 0 then some []else none
 |.string s=>bif Nat.beq size 1&&Nat.ble n s.size then some ((s.data.toList.take n).map λb=>.int .u8 b.toNat)else none
 |_=>none
def qGE:Value->Option Nat
 |.slice _ n _=>some n
 |.string s=>some s.size
 |_=>none
def oW(H:AH)(h e:TI)(x:Value):Option (Nat×List Value):=
 match h.desc with
 |.int _=>match x,e.zero with
  |.int _ (.ofNat n),some z=>some (n,xM z n)
  |_,_=>none
 |_=>match qGE x with
  |some n=>(oE H e.size n x).map λcs=>(n,cs)
  |none=>none
def j6(E:Env)(H:AH)(y:List TypeId)(s x:Value):qEJ:=
 match y,s with
 | t::xt::_,.slice base len cap=>
  match E.types.get t,E.types.get xt with
  | some {desc:=.slice h,..},some c=>
   match E.types.get h with
   | some e=>match e.zero,oW H c e x with
    | some _,some (n,new)=>
     bif Nat.ble (Nat.mul (Nat.add (Nat.mul 4 (Nat.add len n)) 4000) (Nat.succ e.bytes)) 100000000000 then
     bif Nat.beq n 0 then some (.val s,H)else
      match base with
      |none=>some (.val (.slice (some ⟨H.next,0,none⟩) (Nat.add len n) zI),H.new (.cells new h))
      | some ⟨b,o,none⟩=>
       bif Nat.ble zI cap then
        match H.blocks.get b,oE H e.size len s with
        |some ⟨.cells cs el,r,true⟩,some old=>bif Nat.beq el h&&Nat.beq (Nat.mod o e.size) 0 then some (.val (.slice (some ⟨H.next,0,none⟩) (Nat.add len n) zI),H.move b ⟨.cells cs el,r,true⟩ (.cells ((old++new)++cs.drop (Nat.add o (Nat.mul (Nat.add len n) e.size))) el))else none
        |_,_=>none
       else bif Nat.ble (Nat.add len n) cap then(H.stores b (Nat.add o (Nat.mul len e.size)) new).map λH'=>(.val (.slice (some ⟨b,o,none⟩) (Nat.add len n) cap),H')
       else match oE H e.size len s with
        |some old=>some (.val (.slice (some ⟨H.next,0,none⟩) (Nat.add len n) zI),H.new (.cells (old++new) h))
        |none=>none
      |_=>none
     else none
    |_,_=>none
   |none=>none
  |_,_=>none
 |_,_=>none
def kX(v:Option Value)(d:Nat):Option Nat:=match v with
 |none=>some d
 |some v=>nat? v
def oT(E:Env)(H:AH)(t:TypeId)(x:Value)(lo c mx:Option Value):Option Value:=
 match E.types.get t,x with
 |some {desc:=.array n y,..},.pointer (some ⟨b,o,none⟩)=>
  match kX lo 0,kX c n,kX mx n,E.types.get y with
  |some l,some h,some m,some e=>bif Nat.ble l h&&Nat.ble h m&&Nat.ble m n&&Nat.ble n 1000000&&(mx.isNone||c.isSome)then some (.slice (some ⟨b,bif Nat.beq m l then o else Nat.add o (Nat.mul l e.size),none⟩) (Nat.sub h l) (Nat.sub m l))else none
  |_,_,_,_=>none
 | some {desc:=.slice y,..},.slice a len cap=>
  match kX lo 0,kX c len,E.types.get y with
  | some l,some h,some e=>
   match a with
   |none=>bif Nat.beq l 0&&Nat.beq h 0&&Nat.beq len 0&&Nat.beq cap 0&&((match kX mx 0 with|some m=>Nat.beq m 0|none=>false)&&(mx.isNone||c.isSome))then some (.slice none 0 0)else none
   | some ⟨b,o,none⟩=>
    match mx with
    |some m=>match nat? m with
     |some m=>bif Nat.ble l h&&Nat.ble h m&&Nat.ble m len&&c.isSome then some (.slice (some ⟨b,bif Nat.beq m l then o else Nat.add o (Nat.mul l e.size),none⟩) (Nat.sub h l) (Nat.sub m l))else none
     |none=>none
    | none=>
     bif Nat.ble l h then
      (bif Nat.ble zI cap then
       match H.blocks.get b with
       |some ⟨.cells cs el,_,_⟩=>bif Nat.beq el y&&(Nat.ble h len||(Nat.ble 1 e.size&&Nat.ble (Nat.add o (Nat.mul h e.size)) cs.length))then some (.slice (some ⟨b,Nat.add o (Nat.mul l e.size),none⟩) (Nat.sub h l) zI)else none
       |_=>none
      else bif Nat.ble h cap then some (.slice (some ⟨b,bif Nat.beq cap l then o else Nat.add o (Nat.mul l e.size),none⟩) (Nat.sub h l) (Nat.sub cap l))else none)
     else none
   |_=>none
  |_,_,_=>none
 |some {desc:=.string,..},.string s=>
  match kX lo 0,kX c s.size with
  |some l,some h=>bif Nat.ble l h&&Nat.ble h s.size&&mx.isNone then some (.string (s.extract l h))else none
  |_,_=>none
 |_,_=>none
def oX(E:Env)(H:AH)(t:TypeId)(l c:Value):qEJ:=
 match E.types.get t,nat? l,nat? c with
 | some {desc:=.slice h,..},some l,some c=>match E.types.get h with
  |some {size:=size,zero:=some z,bytes:=bytes,..}=>
   bif Nat.beq z.length size&&Nat.ble l c&&Nat.ble (Nat.mul c (Nat.succ (Nat.add bytes size))) 1000000000 then some (.val (.slice (some ⟨H.next,0,none⟩) l (bif Nat.beq l c then zI else bif Nat.beq l 0 then zI else c)),H.new (.cells (xM z (bif Nat.beq l 0 then 0 else c)) h))
   else none
  |_=>none
 |_,_,_=>none
def qCH(E:Env)(h:TypeId)(k:Value)(es:List MapEntry):Option (Option (Nat×Value)):=
 bif zK k then qT E.prog (do Instr.checkKey es.isEmpty 10000 h k;Instr.findKey h k es)else none
def qD8(H:AH)(x:Value):Option (List MapEntry):=
 match x with
 |.map none=>some []
 |.map (some r)=>match H.blocks.get r with
  |some ⟨.map es _,_,_⟩=>some es
  |_=>none
 |_=>none
def rI(E:Env)(H:AH)(t:TypeId)(x k:Value)(ok:Bool):Option Value:=
 match E.types.get t,qD8 H x with
 | some {desc:=.map h y,..},some es=>match qCH E h k es,E.types.get y with
  |some (some (_,v)),_=>some (bif ok then .tuple #[v,.bool true]else v)
  |some none,some {zero:=some z,agg:=agg,..}=>match rF agg z with
   |some v=>some (bif ok then .tuple #[v,.bool false]else v)
   |none=>none
  |_,_=>none
 |_,_=>none
def modify(l:List MapEntry)(i:Nat)(k v:Value):List MapEntry:=match l,i with
 | [],_=>[]
 |e::es,0=>{e with key:=k,val:=v}::es
 |e::es,i+1=>e::modify es i k v
def mM(E:Env)(H:AH)(t:TypeId)(m k v:Value):Option AH:=
 match E.types.get t,m with
 | some {desc:=.map x _,..},.map (some r)=>match H.blocks.get r with
  | some ⟨.map es h,rt,true⟩=>bif zK k then match qT E.prog (do Instr.checkKey false 10000 x k;Instr.findKey x k es)with
   |some (some (i,_))=>match es[i]? with
    |some e=>bif Instr.sameBits 10000 e.key k then some (H.write r ⟨.map es h,rt,true⟩ (.map (modify es i k v) h))else none
    |none=>none
   |some none=>some (H.write r ⟨.map es h,rt,true⟩ (.map (es++[{key:=k,val:=v,born:=h}]) (h+1)))
   |none=>none else none
  |_=>none
 |_,_=>none
def tQ(E:Env)(H:AH)(t:TypeId)(m k:Value):Option AH:=none
def qB8(H:AH)(y:Value)(h:Bool):qEJ:=
 match y,h with
 | .pointer (some ⟨r,0,none⟩),true=>match H.blocks.get r with
  | some ⟨.siter s x,rt,true⟩=>
   bif Nat.ble (x+1) s.size then
    let (c,width):=Utf8.decode s x
    some (.val (.tuple #[.bool true,goInt x,.int .i32 c]),H.write r ⟨.siter s x,rt,true⟩ (.siter s (x+width)))
   else some (.val (.tuple #[.bool false]),H)
  |_=>none
 |_,_=>none
def qI0(H:AH)(y:Value):Option Value:=
 match y with
 | .pointer (some ⟨r,0,none⟩)=>match H.blocks.get r with
  | some ⟨.miter m _ seen x,_,true⟩=>match H.blocks.get m with
   | some ⟨.map es h,_,_⟩=>bif Nat.beq h x then match seen.getLast? with
    |some b=>match es.find? (λe=>e.born==b)with
     |some e=>some (.tuple #[e.key,e.val])
     |none=>none
    |none=>none else none
   |_=>none
  |_=>none
 |_=>none
def qGD(E:Env)(H:AH)(ats:List TypeId)(x:Value):Option Value:=
 match ats with
 | []=>none
 | t::_=>match E.types.get t with
  |none=>none
  | some h=>match h.desc,x with
   |.string,.string s=>some (goInt s.size)
   |.slice _,.slice _ n _=>some (goInt n)
   |.map _ _,x=>(qD8 H x).map λes=>goInt es.length
   |.array n _,_=>some (goInt n)
   |.pointer a,_=>match E.types.get a with
    |some {desc:=.array n _,..}=>some (goInt n)
    |_=>none
   |_,_=>none
def qXK(E:Env)(ats:List TypeId)(x:Value):Option Value:=
 match ats with
 | []=>none
 | t::_=>match E.types.get t with
  |none=>none
  |some h=>match h.desc,x with
   |.slice _,.slice _ _ c=>bif Nat.ble zI c then none else some (goInt c)
   |_,_=>none
def qEA(E:Env)(H:AH)(ats:List TypeId)(dst h:Value):qEJ:=
 match ats with
 | []=>none
 | t::_=>match E.types.get t with
  |none=>none
  | some c=>match c.desc,dst with
   | .slice x,.slice base y _=>match E.types.get x,qGE h with
    | some e,some sl=>match oE H e.size (Nat.min sl y) h with
     |none=>none
     | some cs=>
      bif Nat.beq (Nat.min sl y) 0 then some (.val (goInt (Nat.min sl y)),H)
      else match base with
       |some ⟨b,o,none⟩=>(H.stores b o cs).map λH'=>(.val (goInt (Nat.min sl y)),H')
       |_=>none
    |_,_=>none
   |_,_=>none
def qAm(E:Env)(H:AH)(ats:List TypeId)(x:Value):qEJ:=
 match ats with
 | []=>none
 | t::_=>match E.types.get t with
  |none=>none
  | some y=>match y.desc,x with
   | .slice h,.slice base n _=>match E.types.get h with
    | some {zero:=some z,..}=>
     bif Nat.beq n 0 then some (.val (.tuple #[]),H)
     else match base with
      |some ⟨b,o,none⟩=>(H.stores b o (xM z n)).map λH'=>(.val (.tuple #[]),H')
      |_=>none
    |_=>none
   |_,_=>none
def pZ:List Value->Option (List UInt8)
 | []=>some []
 |.int .u8 b::vs=>(pZ vs).map (UInt8.ofNat b.toNat :: ·)
 |_=>none
def wI(E:Env)(H:AH)(ats:List TypeId)(p l:Value):qEJ:=none
def xY(E:Env)(H:AH)(b:Builtin)(ats:List TypeId)(args:List Value):qEJ:=
 match b with
 |.append=>match args with
  | [s,x]=>j6 E H ats s x
  |_=>none
 |.len=>match args with
  | [x]=>one H (qGD E H ats x)
  |_=>none
 |.cap=>match args with
  | [x]=>one H (qXK E ats x)
  |_=>none
 |.unsafeSliceData=>match args with
  | [.slice none _ _]=>some (.val (.pointer none),H)
  | [.slice (some a) l _]=>bif Nat.ble 1 l then some (.val (.pointer (some a)),H)else none
  |_=>none
 |.unsafeString=>match ats,args with
  |t::r,[p,l]=>wI E H (t::r) p l
  |_,_=>none
 |.copy=>match args with
  | [d,s]=>qEA E H ats d s
  |_=>none
 |.clear=>match args with
  | [x]=>qAm E H ats x
  |_=>none
 |.delete=>match ats,args with
  |t::_,[m,k]=>(tQ E H t m k).map λH'=>(.val (.tuple #[]),H')
  |_,_=>none
 |.min=>bif args.all zK then one H (flat? (qT E.prog (Builtin.min_ #[] 0 ⟨args⟩)))else none
 |.max=>bif args.all zK then one H (flat? (qT E.prog (Builtin.max_ #[] 0 ⟨args⟩)))else none
 |.recover=>match args with
  | []=>some (.rcv,H)
  |_=>none
 |_=>none
def qBa(d:TypeDesc)(h:Bool):Bool:=match d with
 |.pointer _=>h
 |_=>!h
def pG(E:Env)(v:Value)(h:String):Option (FuncId×Value):=
 match v with
 | .iface t x=>match E.prog.info? t,E.types.get t with
  | some i,some y=>match i.methods.find? (·.name==h)with
   |some {path:=p,func:=some (f,ptr),..}=>
    bif Nat.beq p.toList.length 0&&qBa y.desc ptr then some (f,x)else none
   |_=>none
  |_,_=>none
 |_=>none
def pX(E:Env)(H:AH)(f:FuncId)(h:List Value):qEJ:=
 match E.funcs.get f with
 |some _=>some (.enter f h,H)
 |none=>none
def kI: String := (Extern.AbiNoEscape.rows.map (·.1)).headD ""
def nM: String := (Extern.BytealgMakeNoZero.typedRows.map (·.1)).headD ""
def qBc(E:Env)(H:AH)(fn:Func)(n:Nat):qEJ:=none
def qWe(E:Env)(H:AH)(f:FuncId)(args:List Value):qEJ:=
 match args with
 | [.int .i64 (.ofNat n)]=>match E.prog.funcs[f]? with
  | some fn=>bif fn.name==nM&&fn.body.isNone&&(Extern.findNext fn).isNone then qBc E H fn n
   else match qT E.prog (callFunc f ⟨[.int .i64 (.ofNat n)]⟩)with
    |some (.value v)=>one H (flat? (some v))
    |_=>none
  |none=>none
 | [.pointer (some a)]=>match E.prog.funcs[f]? with
  |some fn=>bif fn.name==kI&&fn.body.isNone&&(Extern.findNext fn).isNone then some (.val (.pointer (some a)),H)else none
  |none=>none
 |args=>bif args.all zK then match qT E.prog (callFunc f ⟨args⟩)with
  |some (.value v)=>one H (flat? (some v))
  |_=>none
 else none
def pK(E:Env)(H:AH)(f:FuncId)(h:List Value):qEJ:=
 match E.funcs.get f with
 |some _=>some (.enter f h,H)
 |none=>qWe E H f h
def kD(E:Env)(fr:Fr)(H:AH)(c:Call):qEJ:=
 match rV E fr c.args.toList with
 |none=>none
 | some h=>match c.callee with
  |.builtin b=>xY E H b c.argTypes.toList h
  | .invoke r y=>match ev E fr r with
   |some v=>match pG E v y with
    |some (f,x)=>pX E H f (x::h)
    |none=>none
   |none=>none
  | .value f=>match ev E fr f with
   |some (.func (.func g) first cap)=>pK E H g (first.toList++h++cap.toList)
   |some (.func (.yield l) _ _)=>match H.blocks.get l with
    |some ⟨.loop _ _ _ e _ _,_,_⟩=>bif Nat.beq e.length h.length then some (.round l h,H)else none
    |_=>none
   | some (.func (.method y) first _)=>match first.toList++h with
    |v::rest=>match pG E v y with
     |some (f,x)=>pX E H f (x::rest)
     |none=>none
    | []=>none
   | some (.func (.methodOf t y) first _)=>match first.toList++h with
    | v::rest=>
     let v':=match E.types.get t with
      |some {desc:=.interface _,..}=>some v
      |some _=>some (.iface t v)
      |none=>none
     match v' with
     |some v'=>match pG E v' y with
      |some (f,x)=>pX E H f (x::rest)
      |none=>none
     |none=>none
    | []=>none
   |_=>none
def lP:List Value->Option (List UInt8)
 | []=>some []
 |.int .i32 n::vs=>(lP vs).map ((Utf8.encode n).data.toList ++ ·)
 |_=>none
def eR(E:Env)(H:AH)(s d:TypeId)(v:Value)(n:Nat):Option Value:=
 match E.types.get s,E.types.get d,oE H 1 n v with
 |some {desc:=.slice e,..},some {desc:=.string,..},some cs=>match E.types.get e with
  |some {desc:=.int .u8,..}=>(pZ cs).map λl=>.string ⟨⟨l⟩⟩
  |some {desc:=.int .i32,..}=>(lP cs).map λl=>.string ⟨⟨l⟩⟩
  |_=>none
 |_,_,_=>none
def bN(E:Env)(H:AH)(e:TypeId)(b:ByteArray):qEJ:=
 match E.types.get e with
 |some {desc:=.int .u8,size:=sz,..}=>
  bif Nat.beq sz 1&&Nat.ble b.data.toList.length 1000000000 then some (.val (.slice (some ⟨H.next,0,none⟩) b.data.toList.length zI),H.new (.cells (b.data.toList.map λx=>.int .u8 x.toNat) e))
  else none
 |_=>none
def qFY(E:Env)(H:AH)(s d:TypeId)(a:Addr):qEJ:=none
def bO(E:Env)(y:TI)(h:TypeId)(v:Value):Option (Option Value):=
 match y.desc,v with
 | .interface x,.iface t u=>match E.prog.info? t with
  |some i=>match Instr.missingMethod x i.methods with
   |none=>some (some (.iface t u))
   |some _=>some none
  |none=>none
 |.interface _,.nilIface=>some none
 |.interface _,_=>none
 |_,.iface t u=>if t=h then some (some u)else some none
 |_,.nilIface=>some none
 |_,_=>none
def v9(E:Env)(fr:Fr)(o:Oper)(H:AH):qEJ:=
 match o.op with
 |.move x|.assign x=>one H (ev E fr x)
 |.pick c a b=>match ev E fr c with
  |some (.bool true)=>one H (ev E fr a)
  |some (.bool false)=>one H (ev E fr b)
  |_=>none
 |.alloc t=>match E.types.get t with
  |some {zero:=some z,..}=>some (.val (.pointer (some ⟨H.next,0,none⟩)),H.new (.cells z t))
  |_=>none
 |.box t x=>match ev E fr x with
  |some (.tuple _)=>none
  |some v=>some (.val (.pointer (some ⟨H.next,0,none⟩)),H.new (.cells v.cells.toList t))
  |none=>none
 |.build t p=>match parts? E fr p.toList with
  |some p=>one H (qAn E t p)
  |none=>none
 |.buildSlice t n p=>match parts? E fr p.toList with
  |some p=>kE E H t n p
  |none=>none
 |.load t a=>match ev E fr a with
  |some v=>one H (rC E H t v)
  |none=>none
 |.store t a x=>match ev E fr a,ev E fr x with
  |some _,some (.tuple _)=>none
  |some a,some v=>(kQ E H t a v).map λH'=>(.skip,H')
  |_,_=>none
 |.nilCheck x=>match ev E fr x with
  |some (.pointer (some a))=>some (.val (.pointer (some a)),H)
  |some (.iface t v)=>some (.val (.iface t v),H)
  |some (.func (.func f) a b)=>some (.val (.func (.func f) a b),H)
  |some (.func (.yield f) a b)=>some (.val (.func (.yield f) a b),H)
  |_=>none
 |.binOp A t x y _=>match ev E fr x,ev E fr y with
  |some a,some b=>one H (oL E A t x y a b)
  |_,_=>none
 |.unOp A _ x=>match ev E fr x with
  |some v=>bif zK v then one H (flat? (qT E.prog (Op.unary A v)))else none
  |none=>none
 | .convert s d x=>match ev E fr x with
  |some (.slice a n c)=>one H (eR E H s d (.slice a n c) n)
  |some (.pointer (some a))=>qFY E H s d a
  |some (.string b)=>match E.types.get s,E.types.get d with
   |some {desc:=.string,..},some {desc:=.slice e,..}=>bN E H e b
   |_,_=>one H (flat? (qT E.prog (Go.convert s d (.string b))))
  |some v=>bif zK v then one H (flat? (qT E.prog (Go.convert s d v)))else none
  |none=>none
 |.makeInterface t x=>match E.types.get t,ev E fr x with
  |some {desc:=.interface _,..},_=>none
  |some _,some v=>one H (some (.iface t v))
  |_,_=>none
 |.makeFunc fn first cap=>match rV E fr first.toList,rV E fr cap.toList with
  |some f,some c=>one H (if rK fn then some (.func fn ⟨f⟩ ⟨c⟩)else none)
  |_,_=>none
 |.makeMap _ none=>some (.val (.map (some H.next)),H.new (.map [] 0))
 |.makeMap t (some x)=>match E.types.get t,ev E fr x with
  |some {desc:=.map _ _,..},some (.int _ _)=>some (.val (.map (some H.next)),H.new (.map [] 0))
  |_,_=>none
 |.makeSlice t l c=>match ev E fr l,ev E fr c with
  |some l,some c=>oX E H t l c
  |_,_=>none
 |.slice t x lo C mx=>
  match ev E fr x,rV E fr lo.toList,rV E fr C.toList,rV E fr mx.toList with
  |some x,some lo,some C,some mx=>one H (oT E H t x lo.head? C.head? mx.head?)
  |_,_,_,_=>none
 |.fieldAddr s x f=>match ev E fr x with
  |some v=>one H (qAg E s v f)
  |none=>none
 | .field t x f=>match ev E fr x,E.types.get t with
  |some (.agg cs),some {desc:=.struct fs,..}=>match fs[f]? with
   |some F=>one H (qAE E F.type cs.toList F.offset)
   |none=>none
  |_,_=>none
 |.indexAddr t x i=>match ev E fr x,(ev E fr i).bind nat? with
  |some v,some i=>one H (qCn E t v i)
  |_,_=>none
 | .index t x i=>match ev E fr x,(ev E fr i).bind nat?,E.types.get t with
  |some (.string s),some i,some {desc:=.string,..}=>match s.data.toList[i]? with
   |some b=>one H (some (.int .u8 b.toNat))
   |none=>none
  |some (.agg cs),some i,some {desc:=.array len j,..}=>match E.types.get j with
   |some e=>bif Nat.ble (i+1) len then one H (qAE E j cs.toList (Nat.mul i e.size))else none
   |none=>none
  |_,_,_=>none
 |.lookup t x k ok=>match ev E fr x,ev E fr k with
  |some x,some k=>one H (rI E H t x k ok)
  |_,_=>none
 |.mapUpdate t m k x|.insert t m k x=>match ev E fr m,ev E fr k,ev E fr x with
  |some m,some k,some v=>(mM E H t m k v).map λH'=>(.skip,H')
  |_,_,_=>none
 | .range t x=>match ev E fr x,E.types.get t with
  |some (.string s),some {desc:=.string,..}=>some (.val (.pointer (some ⟨H.next,0,none⟩)),H.new (.siter s 0))
  |some (.map (some m)),some {desc:=.map _ _,..}=>match H.blocks.get m with
   |some ⟨.map _ g,_,_⟩=>some (.val (.pointer (some ⟨H.next,0,none⟩)),H.new (.miter m g [] g))
   |_=>none
  |_,_=>none
 |.next B r=>match ev E fr B with
  |some v=>qB8 H v r
  |none=>none
 |.entry B=>match ev E fr B with
  |some v=>one H (qI0 H v)
  |none=>none
 | .typeAssert x _ h ok=>match ev E fr x,E.types.get h with
  | some v,some q=>match bO E q h v with
   |some (some u)=>one H (some (bif ok then .tuple #[u,.bool true]else u))
   |some none=>bif ok then one H (match q.zero with
    |some z=>(rF q.agg z).map λG=>.tuple #[G,.bool false]
    |none=>none)else none
   |none=>none
  |_,_=>none
 |.extract x i=>match ev E fr x with
  |some (.tuple vs)=>one H vs.toList[i]?
  |_=>none
 |.call c=>kD E fr H c
 |_=>none
inductive Cmd where
 |code (c:Code) (fr:Fr)
 |call (f:FuncId) (args:List Value)
 |round (l:Nat) (args:List Value)
inductive AExit where
 |normal
 |exit (id:Nat)
 |ret
inductive Out where
 |ex (e:AExit) (fr:Fr)
 |val (v:Value)
abbrev gV:=Option (Out×AH)
def dE(ops:Array Oper)(fr:Fr)(j:Nat):Option (Option Bool):=
 match ops.toList[j]? with
 |some {dst:=some d,..}=>match fr.t.get d with
  |some (.bool b)=>some (some b)
  |some _=>some none
  |none=>none
 |_=>some none
def vT(ops:Array Oper)(fr:Fr)(o:Oper):Option Bool:=
 match o.guard with
 |none=>some true
 |some (j,want)=>match dE ops fr j with
  |some (some b)=>some (b==want)
  |some none=>some false
  |none=>none
def yC(fr:Fr)(h:Option Tmp)(v:Value):Option Fr:=
 match h with
 |some d=>bif Nat.ble (d+1) fr.sz then some ⟨fr.sz,fr.rd,fr.t.put d (some v)⟩else none
 |none=>some fr
def vS(E:Env)(x:Cmd->AH->gV)(fr:Fr)(o:Oper)(H:AH):Option (Value×AH):=
 match v9 E fr o H with
 |none=>none
 |some (.val v,H')=>some (v,H')
 |some (.skip,H')=>some (.tuple #[],H')
 |some (.rcv,_)=>none
 |some (.enter f h,H')=>match x (.call f h) H' with
  |some (.val v,H')=>some (v,H')
  |_=>none
 |some (.round l h,H')=>match x (.round l h) H' with
  |some (.val v,H')=>some (v,H')
  |_=>none
def kC(E:Env)(h:Cmd->AH->gV)(fr:Fr)(o:Oper)(H:AH):Option (Value×AH):=
 match v9 E fr o H with
 |some (.rcv,H')=>bif fr.rd then none else some (.nilIface,H')
 |_=>vS E h fr o H
def mZ(a:Tmp)(p:Oper):Bool:=match p.dst with
 |some d=>!(Nat.beq d a)
 |none=>true
def gJ(fr:Fr)(all:List Oper):List Oper->Nat->List (Nat×Nat)
 | [],_=>[]
 | o::os,i=>match o.op with
  |.store _ (.tmp a) _=>match fr.t.get a with
   |some (.pointer (some ⟨b,_,_⟩))=>bif all.all (mZ a)then(i,b)::gJ fr all os (i+1)else gJ fr all os (i+1)
   |_=>gJ fr all os (i+1)
  |_=>gJ fr all os (i+1)
def qJ(all:List Oper)(i:Nat):List (Nat×Nat)->List Nat
 | []=>[]
 |(j,b)::ts=>bif Nat.beq j i||pL (yX all) j i then qJ all i ts else b::qJ all i ts
def lG(t:T ABlk):List Nat->T ABlk
 | []=>t
 |b::h=>lG (t.put b none) h
def yG(t h:T ABlk):List Nat->T ABlk
 | []=>t
 |b::x=>yG (t.put b (h.get b)) h x
def vA(H:AH)(W:List Nat):AH:={blocks:=lG H.blocks W,next:=H.next,low:=H.next}
def jK(H Q:AH)(W:List Nat):AH:={blocks:=yG Q.blocks H.blocks W,next:=Q.next,low:=Nat.min H.low Q.low}
def qEF(fr:Fr)(c:Call):Option Nat:=match c.callee,c.args.toList with
 |.builtin .append,[.tmp a,_]=>match fr.t.get a with
  |some (.slice (some ⟨b,_,_⟩) _ _)=>some b
  |_=>none
 |_,_=>none
def xV(fr:Fr)(o:Oper)(b:Nat):Bool:=match o.op with
 |.store _ (.tmp a) _=>match fr.t.get a with
  |some (.pointer (some ⟨h,_,_⟩))=>Nat.beq h b
  |_=>false
 |.call c=>match qEF fr c with
  |some h=>Nat.beq h b
  |none=>false
 |_=>false
def bR(fr:Fr):List Oper->Nat->List (Nat×Nat)
 | [],_=>[]
 | o::os,i=>match o.op with
  |.store _ (.tmp a) _=>match fr.t.get a with
   |some (.pointer (some ⟨b,_,_⟩))=>(i,b)::bR fr os (i+1)
   |_=>bR fr os (i+1)
  |_=>bR fr os (i+1)
def oS(fr:Fr):List Oper->Nat->List (Nat×Nat)
 | [],_=>[]
 | o::os,i=>match o.op with
  |.store _ (.tmp a) _=>match fr.t.get a with
   |some (.pointer (some ⟨b,_,_⟩))=>(i,b)::oS fr os (i+1)
   |_=>oS fr os (i+1)
  |.call c=>match qEF fr c with
   |some b=>(i,b)::oS fr os (i+1)
   |none=>oS fr os (i+1)
  |_=>oS fr os (i+1)
def b8(ts:List (Nat×Nat))(i:Nat):Nat->Nat->Bool
 |0,_=>true
 |n+1,lo=>ts.any (λt=>Nat.beq t.1 i&&Nat.beq t.2 lo)&&b8 ts i n (Nat.succ lo)
def yR(all:List Oper)(ts:List (Nat×Nat))(i n lo:Nat):Bool:=yM all i||(!xK all i&&b8 ts i (Nat.sub n lo) lo)
def oP(E:Env)(h:Cmd->AH->gV)(ts:List (Nat×Nat))(all:List Oper)(i:Nat)(fr:Fr)(o:Oper)(H:AH):Option (Value×AH):=
 let W:=qJ all i ts
 match vS E h fr o (vA H W)with
 |some (v,Q)=>bif (Nat.ble H.next Q.low||(W.isEmpty&&(ts.any (λt=>Nat.beq t.1 i&&xV fr o t.2)||yR all ts i H.next Q.low)))&&W.all (λb=>Nat.blt b H.next||Nat.ble Q.next b)then some (v,jK H Q W)else none
 |none=>none
def vF(E:Env)(x:Cmd->AH->gV)(all:Array Oper)(draw:Bool)(ts:List (Nat×Nat)):List Oper->Nat->Fr->AH->Option (Fr×AH)
 | [],_,fr,H=>some (fr,H)
 | o::os,i,fr,H=>
  match vT all fr o with
  |none=>none
  |some false=>match yC fr o.dst (.tuple #[])with
   |some h=>vF E x all draw ts os (i+1) h H
   |none=>none
  | some true=>
   match (bif draw then oP E x ts all.toList i fr o H else kC E x fr o H)with
   |none=>none
   |some (v,H')=>match yC fr o.dst v with
    |none=>none
    |some h=>vF E x all draw ts os (i+1) h H'
def qD0(i:Nat):Nat->Nat->List (Nat×Nat)->List (Nat×Nat)
 |0,_,l=>l
 |n+1,lo,l=>(i,lo)::qD0 i n (Nat.succ lo) l
def iH(E:Env)(x:Cmd->AH->gV)(all:Array Oper):List Oper->Nat->Fr->AH->List (Nat×Nat)
 | [],_,_,_=>[]
 | o::os,i,fr,H=>
  match vT all fr o with
  | some true=>match vS E x fr o {blocks:=H.blocks,next:=H.next,low:=H.next}with
   |some (v,Q)=>match yC fr o.dst v with
    |some h=>qD0 i (Nat.sub H.next Q.low) Q.low (iH E x all os (i+1) h Q)
    |none=>[]
   |none=>[]
  |some false=>match yC fr o.dst (.tuple #[])with
   |some h=>iH E x all os (i+1) h H
   |none=>[]
  |none=>[]
def v8(E:Env)(fr:Fr)(H:AH):List ResultVar->Option (List Value)
 | []=>some []
 |.tmp t::h=>match fr.t.get t with
  |some v=>(v8 E fr H h).map (v :: ·)
  |none=>none
 |.cell a t::h=>match (fr.t.get a).bind (rC E H t)with
  |some v=>(v8 E fr H h).map (v :: ·)
  |none=>none
def wL(fr:Fr):List Tmp->List Value->Option Fr
 | [],[]=>some fr
 |t::ts,v::vs=>match yC fr (some t) v with
  |some h=>wL h ts vs
  |none=>none
 |_,_=>none
def iR(E:Env)(y:Cmd->AH->gV)(fr:Fr)(f:Operand)(params:List Tmp)(assign b:Code)(H:AH):gV:=
 match fr.rd,ev E fr f with
 | false,some (.func (.func g) first cap)=>
  match E.funcs.get g,y (.call g (first.toList++[.func (.yield H.next) #[] #[]]++cap.toList)) (H.new (.loop .ready none ⟨fr.sz,true,fr.t⟩ params assign b))with
  | some _,some (.val _,H2)=>match H2.blocks.get H.next with
   |some ⟨.loop st h t x a b,r,true⟩=>
    if st=.busy then none else
    match h with
    |none=>some (.ex .normal fr,H2.write H.next ⟨.loop st h t x a b,r,true⟩ (.loop .exhausted h t x a b))
    |some c=>y (.code c fr) (H2.write H.next ⟨.loop st h t x a b,r,true⟩ (.loop .exhausted h t x a b))
   |_=>none
  |_,_=>none
 |_,_=>none
def qEz(E:Env)(fr:Fr)(o:Oper):Option (FuncId×List Value):=match o.op,o.guard with
 | .defer c,none=>match c.callee,rV E fr c.args.toList with
  | .value f,some h=>match ev E fr f with
   |some (.func (.func g) first cap)=>match E.funcs.get g with
    |some _=>some (g,first.toList++h++cap.toList)
    |none=>none
   |_=>none
  |_,_=>none
 |_,_=>none
def gC(E:Env)(x:Cmd->AH->gV):Code->Fr->AH->Option ((FuncId×List Value)×Fr×AH×Code)
 | .seq (.region _ ops draw) b,fr,H=>
  match vF E x ops draw (bif draw then gJ fr ops.toList ops.toList 0 else[]) ops.toList 0 fr H with
  |some (c,H')=>gC E x b c H'
  | none=>bif draw then none else match ops.toList.getLast? with
   | some o=>match vF E x ops false [] ops.toList.dropLast 0 fr H with
    |some (h,H1)=>match qEz E h o,yC h o.dst (.tuple #[])with
     |some d,some y=>some (d,y,H1,b)
     |_,_=>none
    |none=>none
   |none=>none
 |_,_,_=>none
def qDu(E:Env)(h:List ResultVar)(fr:Fr)(H:AH):gV:=match v8 E fr H h with
 |some [v]=>some (.val v,H)
 |some vs=>some (.val (.tuple ⟨vs⟩),H)
 |none=>none
def qEc(E:Env)(y:Cmd->AH->gV)(x:List ResultVar)(g:FuncId)(xs:List Value)(fr:Fr)(H:AH):gV:=
 match E.funcs.get g with
 | some h=>match h.body,h.results.toList with
  |some b,[]=>match y (.code b ⟨Nat.max h.ntmps xs.length,false,T.ofList .leaf 0 xs⟩) H with
   |some (.ex .normal _,H')=>qDu E x fr H'
   |some (.ex .ret _,H')=>qDu E x fr H'
   |_=>none
  |_,_=>none
 |none=>none
def qCS(E:Env)(x:Cmd->AH->gV)(e:List ResultVar)(c:Code)(fr:Fr)(H:AH):gV:=
 match gC E x c fr H with
 |some ((g,xs),y,H1,b)=>match x (.code b y) H1 with
  |some (.ex .normal h,H2)=>qEc E x e g xs h H2
  |some (.ex .ret h,H2)=>qEc E x e g xs h H2
  |_=>none
 |none=>none
def wB:AExit->Option Code
 |.normal=>none
 |.exit id=>some (.exit id)
 |.ret=>some .ret
def gY(E:Env)(i:Cmd->AH->gV)(l:Nat)(y:List Value)(H:AH):gV:=
 match H.blocks.get l with
 | some ⟨.loop .ready _ k c p o,_,true⟩=>match wL k c y with
  | some fr=>match i (.code p fr) H with
   | some (.ex .normal g,H1)=>match H1.blocks.get l with
    | some ⟨.loop .ready h t x a b,r,true⟩=>
     match i (.code o g) (H1.write l ⟨.loop .ready h t x a b,r,true⟩ (.loop .busy h t x a b))with
     | some (.ex e _,j)=>match j.blocks.get l with
      |some ⟨.loop st h t x a b,r,true⟩=>
       some (.val (.bool (wB e).isNone),j.write l ⟨.loop st h t x a b,r,true⟩ (.loop (bif (wB e).isNone then .ready else .done) (wB e) t x a b))
      |_=>none
     |_=>none
    |_=>none
   |_=>none
  |none=>none
 |_=>none
def body(E:Env)(y:Cmd->AH->gV)(cmd:Cmd)(H:AH):gV:=
 match cmd with
 | .code c fr=>match c with
  |.skip|.label _=>some (.ex .normal fr,H)
  |.ret=>some (.ex .ret fr,H)
  |.exit id=>some (.ex (.exit id) fr,H)
  |.seq a b=>match y (.code a fr) H with
   |some (.ex .normal h,H')=>y (.code b h) H'
   |r=>r
  |.cond c a b=>match ev E fr c with
   |some (.bool true)=>y (.code a fr) H
   |some (.bool false)=>y (.code b fr) H
   |_=>none
  |.block id b=>match y (.code b fr) H with
   |some (.ex (.exit e) h,H')=>bif Nat.beq e id then some (.ex .normal h,H')else some (.ex (.exit e) h,H')
   |r=>r
  |.loop b=>match y (.code b fr) H with
   |some (.ex .normal h,H')=>y (.code (.loop b) h) H'
   |r=>r
  |.scope b=>y (.code b fr) H
  | .region _ ops draw=>match vF E y ops draw (bif draw then gJ fr ops.toList ops.toList 0 else[]) ops.toList 0 fr H with
   |some (h,H')=>some (.ex .normal h,H')
   | none=>bif draw then match vF E y ops false [] ops.toList 0 fr H with
     | some (g,_)=>match vF E y ops true (bR g ops.toList 0) ops.toList 0 fr H with
      |some (h,H')=>some (.ex .normal h,H')
      | none=>match vF E y ops true (oS g ops.toList 0) ops.toList 0 fr H with
       |some (h,H')=>some (.ex .normal h,H')
       |none=>match vF E y ops true (iH E y ops ops.toList 0 fr H) ops.toList 0 fr H with
        |some (h,H')=>some (.ex .normal h,H')
        |none=>none
     |none=>none
    else none
  |.rangeFunc f params assign b=>iR E y fr f params.toList assign b H
  |_=>none
 | .call f x=>match E.funcs.get f with
  | some fn=>match fn.body with
   | some c=>
    match y (.code c ⟨Nat.max fn.ntmps x.length,false,T.ofList .leaf 0 x⟩) H with
    |some (.ex .normal h,H')|some (.ex .ret h,H')=>match v8 E h H' fn.results.toList with
     |some [v]=>some (.val v,H')
     |some vs=>some (.val (.tuple ⟨vs⟩),H')
     |none=>none
    |none=>qCS E y fn.results.toList c ⟨Nat.max fn.ntmps x.length,false,T.ofList .leaf 0 x⟩ H
    |_=>none
   |none=>none
  |none=>none
 |.round l x=>gY E y l x H
def qLc(E:Env)(n:Nat):Cmd->AH->gV:=
 Nat.rec (motive:=λ_=>Cmd->AH->gV) (λ_ _=>none) (λ_ h=>body E h) n
theorem T.get_leaf{α:Type}(n:Nat):(T.leaf:T α).get n=none:=rfl
theorem qZ{α:Sort _}(a b:Nat)(x y:α):(bif Nat.beq a b then x else y)=if a=b then x else y:=by simp_all
theorem vU{α:Sort _}(a b:Nat)(x y:α):(bif Nat.ble a b then x else y)=if a<=b then x else y:=by simp_all
theorem T.get_node{α:Type}(v:Option α)(l r:T α)(n:Nat):(T.node v l r).get n=if n=0 then v else if n%2=1 then l.get (n/2)else r.get (n/2-1):=by simp only[T.get,qZ];rfl
theorem T.set_leaf{α:Type}(d n:Nat)(x:Option α):T.set (d+1) .leaf n x=if n=0 then .node x .leaf .leaf else if n%2=1 then .node none (T.set d .leaf (n/2) x) .leaf else .node none .leaf (T.set d .leaf (n/2-1) x):=by simp only[T.set,qZ];rfl
theorem T.set_node{α:Type}(d n:Nat)(v x:Option α)(l r:T α):T.set (d+1) (.node v l r) n x=if n=0 then .node x l r else if n%2=1 then .node v (T.set d l (n/2) x) r else .node v l (T.set d r (n/2-1) x):=by simp only[T.set,qZ];rfl
theorem T.get_set{α:Type}(d:Nat):∀(t:T α) (n m:Nat) (x:Option α),n<d->(T.set d t n x).get m=if m=n then x else t.get m:=by
 induction d with
 |zero=>intro t n m x h;omega
 | succ d c=>
  intro t n m x h;cases t with
  |leaf=>
   rw[T.set_leaf];by_cases y:n=0
   ·subst y;simp only[if_true,T.get_node,T.get_leaf];split<;>simp
   by_cases b:n%2=1
   ·simp only[if_neg y,if_pos b,T.get_node,T.get_leaf,c .leaf (n/2) (m/2) x (by omega)];grind
   simp only[if_neg y,if_neg b,T.get_node,T.get_leaf,c .leaf (n/2-1) (m/2-1) x (by omega)];grind
  |node v l r=>
   rw[T.set_node];by_cases y:n=0
   ·subst y;simp only[if_true,T.get_node];split<;>simp_all
   by_cases b:n%2=1
   ·simp only[if_neg y,if_pos b,T.get_node,c l (n/2) (m/2) x (by omega)];grind
   simp only[if_neg y,if_neg b,T.get_node,c r (n/2-1) (m/2-1) x (by omega)];grind
theorem T.get_put{α:Type}(t:T α)(n m:Nat)(x:Option α):(t.put n x).get m=if m=n then x else t.get m:=
 T.get_set (n+1) t n m x (by omega)
structure Loc where
 blk:Nat
 off:Nat
 ext:Nat
 sz:Nat
abbrev vH:=Nat->Option Loc
def vH.le(σ h:vH):Prop:=∀b L,σ b=some L->h b=some L
theorem vH.le_refl(σ:vH):vH.le σ σ:=λ_ _ h=>h
theorem vH.le_trans{σ y x:vH}(h:vH.le σ y)(e:vH.le y x):vH.le σ x:=λb L c=>e b L (h b L c)
def vL:Value->Bool
 |.bool _|.int _ _|.float _ _|.complex _ _ _|.string _=>true
 |.pointer a=>a.isNone
 |.slice a l c=>a.isNone&&Nat.beq l 0&&Nat.beq c 0
 |.map r=>r.isNone
 |.nilFunc|.nilIface=>true
 |_=>false
mutual
inductive VR (σ:vH):Value->Value->Prop
 |leaf {v:Value} (h:vL v=true):VR σ v v
 |ptr {b i:Nat} {L:Loc} (h:σ b=some L):VR σ (.pointer (some ⟨b,i,none⟩)) (.pointer (some ⟨L.blk,L.off+i,none⟩))
 | sliceE {b i l c:Nat} {L:Loc} (h:σ b=some L) (hl:l<=c) (hc:c<zI) :
   VR σ (.slice (some ⟨b,i,none⟩) l c) (.slice (some ⟨L.blk,L.off+i,none⟩) l c)
 | sliceX {b i l c:Nat} {L:Loc} (h:σ b=some L) (hl:l<=c) (hc:c<zI) (he:i+c*L.sz=L.ext) :
   VR σ (.slice (some ⟨b,i,none⟩) l zI) (.slice (some ⟨L.blk,L.off+i,none⟩) l c)
 |sliceZ {b i c:Nat} {a:Addr} (hc:c=0∨(c=zI/\∃L,σ b=some L/\L.ext<=i)):VR σ (.slice (some ⟨b,i,none⟩) 0 c) (.slice (some a) 0 0)
 |map {r:Nat} {L:Loc} (h:σ r=some L) (h0:L.off=0):VR σ (.map (some r)) (.map (some L.blk))
 | func {fn:Fn} {f c f' c':List Value} (h:rK fn=true) (hf:VRs σ f f') (hc:VRs σ c c') :
   VR σ (.func fn ⟨f⟩ ⟨c⟩) (.func fn ⟨f'⟩ ⟨c'⟩)
 |yield {l:Nat} {L:Loc} (h:σ l=some L) (h0:L.off=0):VR σ (.func (.yield l) #[] #[]) (.func (.yield L.blk) #[] #[])
 |iface {t:TypeId} {v v':Value} (h:VR σ v v'):VR σ (.iface t v) (.iface t v')
 |agg {c c':List Value} (h:VRs σ c c') (ho:c.all qH=true):VR σ (.agg ⟨c⟩) (.agg ⟨c'⟩)
 |tuple {c c':List Value} (h:VRs σ c c'):VR σ (.tuple ⟨c⟩) (.tuple ⟨c'⟩)
inductive VRs (σ:vH):List Value->List Value->Prop
 |nil:VRs σ [] []
 |cons {v v':Value} {l l':List Value} (h:VR σ v v') (hs:VRs σ l l'):VRs σ (v::l) (v'::l')
end
mutual
theorem VR.mono{σ b:vH}(x:vH.le σ b):∀{v v':Value},VR σ v v'->VR b v v'
 |_,_,.leaf h=>.leaf h
 |_,_,.ptr h=>.ptr (x _ _ h)
 |_,_,.sliceE h c y=>.sliceE (x _ _ h) c y
 |_,_,.sliceX h c y he=>.sliceX (x _ _ h) c y he
 |_,_,.sliceZ y=>.sliceZ (y.imp id λ⟨l,L,k,j⟩=>⟨l,L,x _ _ k,j⟩)
 |_,_,.map h e=>.map (x _ _ h) e
 |_,_,.func h i y=>.func h (VRs.mono x i) (VRs.mono x y)
 |_,_,.yield h e=>.yield (x _ _ h) e
 |_,_,.iface h=>.iface (VR.mono x h)
 |_,_,.agg h g=>.agg (VRs.mono x h) g
 |_,_,.tuple h=>.tuple (VRs.mono x h)
theorem VRs.mono{σ x:vH}(y:vH.le σ x):∀{l b:List Value},VRs σ l b->VRs x l b
 |_,_,.nil=>.nil
 |_,_,.cons h c=>.cons (VR.mono y h) (VRs.mono y c)
end
theorem VR.one{σ:vH}{v v':Value}(h:VR σ v v'):qH v'=qH v:=by cases h<;>rfl
theorem VRs.length{σ:vH}:∀{l h:List Value},VRs σ l h->h.length=l.length
 |_,_,.nil=>rfl
 |_,_,.cons _ x=>by simp[VRs.length x]
theorem VRs.get{σ:vH}:∀{l x:List Value},VRs σ l x->∀(i:Nat) (v:Value),l[i]? = some v->∃v',x[i]? = some v'/\VR σ v v'
 |_,_,.nil,i,v,h=>by simp at h
 |_,_,.cons h y,0,v,e=>by simp at e;subst e;exact⟨_,rfl,h⟩
 |_,_,.cons h y,i+1,v,e=>by simp at e;simpa using VRs.get y i v e
theorem VRs.of_get{σ:vH}:∀{l x:List Value},x.length=l.length->(∀(i:Nat) (v:Value),l[i]? = some v->∃v',x[i]? = some v'/\VR σ v v')->VRs σ l x
 | [],[],_,_=>.nil
 | [],_::_,h,_=>by simp at h
 |_::_,[],h,_=>by simp at h
 |v::l,v'::x,h,y=>by refine .cons ?_ (VRs.of_get (by simpa using h) λi u e=>by simpa using y (i+1) u (by simpa using e));obtain⟨u,hu,hr⟩:=y 0 v rfl;simp at hu;subst hu;exact hr
theorem VRs.append{σ:vH}:∀{a y b x:List Value},VRs σ a y->VRs σ b x->VRs σ (a++b) (y++x)
 |_,_,_,_,.nil,h=>h
 |_,_,_,_,.cons h c,e=>.cons h (VRs.append c e)
theorem VRs.all_one{σ:vH}:∀{l x:List Value},VRs σ l x->x.all qH=l.all qH
 |_,_,.nil=>rfl
 |_,_,.cons h y=>by simp[h.one,VRs.all_one y]
theorem VR.cells{σ:vH}{v v':Value}(h:VR σ v v'):VRs σ v.cells.toList v'.cells.toList:=by
 cases h with
 |agg h e=>exact h
 |leaf h=>cases v<;>first|exact .cons (.leaf h) .nil|(simp[vL]at h)
 |ptr h=>exact .cons (.ptr h) .nil
 |sliceE h y x=>exact .cons (.sliceE h y x) .nil
 |sliceX h y x he=>exact .cons (.sliceX h y x he) .nil
 |sliceZ x=>exact .cons (.sliceZ x) .nil
 |map h b=>exact .cons (.map h b) .nil
 |func h c x=>exact .cons (.func h c x) .nil
 |yield h b=>exact .cons (.yield h b) .nil
 |iface h=>exact .cons (.iface h) .nil
 |tuple h=>exact .cons (.tuple h) .nil
theorem VR.cells_one{σ:vH}{v v':Value}(h:VR σ v v')(x:∀c,v≠.tuple c):v.cells.toList.all qH=true:=by
 cases h with
 |agg h y=>exact y
 |tuple h=>exact absurd rfl (x _)
 |leaf h=>cases v<;>first|rfl|(simp[vL]at h)
 |_=>rfl
theorem xC{σ:vH}:∀(n:Nat) (v:Value),zP n v=true->VR σ v v:=by
 intro n;induction n with
 |zero=>intro v h;cases v<;>first|exact .leaf h|(simp[zP]at h)
 | succ n b=>
  have all:∀l:List Value,(∀v∈l,zP n v=true)->VRs σ l l:=by
   intro l;induction l with
   |nil=>intro _;exact .nil
   |cons x l y=>intro h;exact .cons (b x (h x (by simp))) (y λv hv=>h v (by simp[hv]))
  intro v h;cases v with
  |iface t v=>exact .iface (b v (by simpa[zP]using h))
  |agg cs=>simp only[zP,List.all_eq_true,zR]at h;exact .agg (all cs.toList λv hv=>(h v hv).2) (by rw[List.all_eq_true];exact λv hv=>(h v hv).1)
  |tuple cs=>simp only[zP,List.all_eq_true]at h;exact .tuple (all cs.toList λv hv=>h v hv)
  |func _ _ _=>simp[zP]at h
  |chan _=>simp[zP]at h
  |_=>exact .leaf h
theorem qSq{σ:vH}:∀(n:Nat) (v v':Value),zP n v=true->VR σ v v'->v'=v:=by
 intro n;induction n with
 |zero=>intro v v' h r;cases r<;>first|rfl|(simp[zP]at h)
 | succ n c=>
  have all:∀l y:List Value,(∀v∈l,zP n v=true)->VRs σ l y->y=l:=by
   intro l;induction l with
   |nil=>intro y _ r;cases r;rfl
   |cons x l b=>
    intro y h r;cases r with
    |cons e g=>rw[c x _ (h x (by simp)) e,b _ (λv hv=>h v (by simp[hv])) g]
  intro v v' h r;cases r with
  |leaf _=>rfl
  |iface hv=>rw[c _ _ (by simpa[zP]using h) hv]
  |agg i j=>simp only[zP,List.all_eq_true,zR]at h;grind
  |tuple i=>simp only[zP,List.all_eq_true]at h;grind
  |_=>simp[zP]at h
def aH(σ:vH)(fr:Fr)(tmps:Array Value):Prop:=
 tmps.size=fr.sz/\∀t v,fr.t.get t=some v->VR σ v (tmps.getD t undef)
theorem aH.mono{σ x:vH}(y:vH.le σ x){fr:Fr}{tmps:Array Value}(h:aH σ fr tmps):aH x fr tmps:=
 ⟨h.1,λt v e=>(h.2 t v e).mono y⟩
inductive ERs (σ:vH):List MapEntry->List MapEntry->Prop
 |nil:ERs σ [] []
 | cons {e e':MapEntry} {l l':List MapEntry} (hk:zK e.key=true) (ek:e'.key=e.key) (hv:VR σ e.val e'.val) (eb:e'.born=e.born)
   (hs:ERs σ l l'):ERs σ (e::l) (e'::l')
theorem ERs.mono{σ h:vH}(x:vH.le σ h):∀{l y:List MapEntry},ERs σ l y->ERs h l y
 |_,_,.nil=>.nil
 |_,_,.cons c e hv g b=>.cons c e (hv.mono x) g (ERs.mono x b)
def qX3(L:Loc)(el h:TypeId)(n:Nat)(x:Nat×Nat):Prop:=(x=(0,0)∨n<=x.1)/\h=el/\L.off%L.sz=0
def pC(E:Env)(σ:vH)(L:Loc)(own:Bool):AObj->Obj->Prop
 |.cells cs el,.cells h y u=>(own=true->qX3 L el y h.size u)/\L.off+L.ext<=h.size/\cs.length<=L.ext/\(∀e,E.types.get el=some e->L.sz=e.size)/\∀i v,cs[i]? = some v->qH v=true/\∃v',h[L.off+i]? = some v'/\VR σ v v'
 |.map es ck,.map es' jQ=>L.off=0/\jQ=ck/\ERs σ es es'.toList
 |.siter s p,.stringIter j o=>L.off=0/\j=s/\o=p
 |.miter m n g q,.mapIter (some m') r x q'=>L.off=0/\(∃M,σ m=some M/\M.off=0/\M.blk=m')/\r=n/\x.toList=g/\q'=q
 |.loop st pd t k a b,.loop l=>L.off=0/\l.state=st/\l.pending=pd/\aH σ t l.tmps/\l.params.toList=k/\l.assign=a/\l.body=b/\vB a=true/\vB b=true/\t.rd=true/\∀c,pd=some c->c=.ret∨∃id,c=.exit id
 |_,_=>False
theorem pC.mono{E:Env}{σ g:vH}(y:vH.le σ g){L:Loc}{own:Bool}{x:AObj}{o:Obj}(h:pC E σ L own x o):pC E g L own x o:=by
 cases x<;>cases o<;>simp only[pC]at h ⊢
 ·obtain⟨r,p,l,k,j⟩:=h;exact⟨r,p,l,k,λi v e=>let ⟨a,v',b,c⟩:=j i v e;⟨a,v',b,c.mono y⟩⟩
 ·exact⟨h.1,h.2.1,h.2.2.mono y⟩
 ·exact h
 ·rename_i m n u q m' z t q';cases m' with
  |none=>simp at h
  |some m'=>simp only at h ⊢;obtain⟨r,⟨M,p,l,k⟩,j⟩:=h;exact⟨r,⟨M,y _ _ p,l,k⟩,j⟩
 exact⟨h.1,h.2.1,h.2.2.1,h.2.2.2.1.mono y,h.2.2.2.2⟩
structure HR (E:Env) (σ:vH) (H:AH) (w:World):Prop where
 objs:∀b k L,H.blocks.get b=some k->σ b=some L->∃o,w.heap[L.blk]? = some o/\pC E σ L k.own k.obj o
 sep:∀b₁ b₂ k₁ k₂ L₁ L₂,H.blocks.get b₁=some k₁->H.blocks.get b₂=some k₂->k₁.own=true->σ b₁=some L₁->σ b₂=some L₂->
  b₁≠b₂->L₁.blk≠L₂.blk
 glob:∀g,g<E.prog.globals.size->∃L,σ g=some L/\L.blk=g/\L.off=0
 wf:∀b k,H.blocks.get b=some k->k.root<=b/\b<H.next
structure Step (E:Env) (σ:vH) (H:AH) (w:World) (σ':vH) (H':AH) (w':World):Prop where
 hr:HR E σ' H' w'
 next:H.next<=H'.next
 ext:∀b,b<H.next∨H'.next<=b->σ' b=σ b
 size:w.heap.size<=w'.heap.size
 low:H'.low<=H.low
 tape:w'.tape=w.tape
 os:w'.os=w.os
 output:w'.output=w.output/\(E.laid=[]->w.drawn<=w'.drawn)
 frame:∀B,B<w.heap.size->(∀b k L,H.blocks.get b=some k->k.own=true->σ b=some L->H'.low<=k.root->L.blk≠B)->w'.heap[B]? = w.heap[B]?
 origin:∀b k L,H'.blocks.get b=some k->k.own=true->σ' b=some L->w.heap.size<=L.blk ∨
  ∃b₀ k₀ L₀,H.blocks.get b₀=some k₀/\k₀.own=true/\σ b₀=some L₀/\L₀.blk=L.blk/\k₀.root=k.root
 old:∀b k,H'.blocks.get b=some k->b<H.next->∃k₀,H.blocks.get b=some k₀/\k₀.root=k.root/\k₀.own=k.own
 keep:∀b k,H.blocks.get b=some k->k.root<H'.low->H'.blocks.get b=some k
 born:∀b k,H'.blocks.get b=some k->H.next<=b->(H.next<=k.root∨H'.low<=k.root)/\k.own=true
theorem Step.refl{E:Env}{σ:vH}{H:AH}{w:World}(h:HR E σ H w):Step E σ H w σ H w where
 hr:=h
 next:=vE _
 ext _ _:=rfl
 size:=vE _
 low:=vE _
 tape:=rfl
 os:=rfl
 output:=⟨rfl,λ_=>vE _⟩
 frame _ _ _:=rfl
 origin b k L x y hs:=.inr ⟨b,k,L,x,y,hs,rfl,rfl⟩
 old b k x _:=⟨k,x,rfl,rfl⟩
 keep _ _ x _:=x
 born b k x c:=absurd (h.wf b k x).2 (by omega)
def wV(σ:vH)(n h:Nat):Prop:=∀b,n<=b->b<h->σ b=none
theorem wV.split{σ x:vH}{n m y:Nat}(h:wV σ n y)(he:∀b,b<n∨m<=b->x b=σ b)(g:n<=m):wV x m y:=
 λb e c=>by rw[he b (.inr e)];exact h b (by omega) c
theorem Step.le{E:Env}{σ x:vH}{H H':AH}{w w':World}(s:Step E σ H w x H' w')(c:wV σ H.next H'.next):vH.le σ x:=by
 intro b L y;by_cases h:b<H.next∨H'.next<=b
 ·rw[s.ext b h];exact y
 rw[c b (by omega) (by omega)]at y;cases y
theorem Step.trans{E:Env}{σ j i:vH}{H p z:AH}{w r q:World}(s:Step E σ H w j p r)(x:Step E j p r i z q):
  Step E σ H w i z q where
 hr:=x.hr
 next:=lT s.next x.next
 ext b h:=by
  rw[x.ext b (by have:=s.next;have:=x.next;omega),s.ext b (by have:=s.next;have:=x.next;omega)]
 size:=lT s.size x.size
 low:=lT x.low s.low
 tape:=x.tape.trans s.tape
 os:=x.os.trans s.os
 output:=⟨x.output.1.trans s.output.1,λe=>lT (s.output.2 e) (x.output.2 e)⟩
 frame B K h:=by
  rw[x.frame B (Nat.lt_of_lt_of_le K s.size),s.frame B K]
  ·exact λb k L c C A F=>h b k L c C A (lT x.low F)
  intro b k L c C A F
  rcases s.origin b k L c C A with y|⟨t,o,u,y,J,G,N,M⟩
  all_goals grind
 origin b k L c C A:=by
  rcases x.origin b k L c C A with y|⟨t,o,u,y,J,G,N,M⟩
  ·exact .inl (lT s.size y)
  rcases s.origin t o u y J G with g1|⟨P,k',Q,g1,g2,g3,g4,g5⟩
  all_goals grind
 old b k c I:=by
  obtain⟨l,y,J,G⟩:=x.old b k c (Nat.lt_of_lt_of_le I s.next)
  obtain⟨o,g1,g2,g3⟩:=s.old b l y I
  grind
 keep b k c F:=x.keep b k (s.keep b k c (Nat.lt_of_lt_of_le F x.low)) F
 born b k c I:=by
  by_cases h:p.next<=b
  ·obtain⟨y,O⟩:=x.born b k c h
   refine⟨?_,O⟩
   rcases y with y|y
   ·exact .inl (lT s.next y)
   exact .inr y
  obtain⟨l,y,J,G⟩:=x.old b k c (by omega)
  obtain⟨g,g0⟩:=s.born b l y I
  refine⟨?_,by rw[←G];exact g0⟩
  rcases g with g|g
  ·exact .inl (by omega)
  exact .inr (by have:=x.low;omega)
def vH.add(σ:vH)(b:Nat)(L:Loc):vH:=λx=>if x=b then some L else σ x
theorem vH.add_le{σ:vH}{b:Nat}{L:Loc}(h:σ b=none):vH.le σ (σ.add b L):=by intro x M y;unfold vH.add;grind
theorem vH.add_self{σ:vH}{b:Nat}{L:Loc}:σ.add b L b=some L:=by simp[vH.add]
theorem vH.add_ne{σ:vH}{b x:Nat}{L:Loc}(h:x≠b):σ.add b L x=σ x:=by simp[vH.add,h]
theorem AH.get_new(H:AH)(o:AObj)(b:Nat):(H.new o).blocks.get b=if b=H.next then some ⟨o,H.next,true⟩else H.blocks.get b:=
 T.get_put _ _ _ _
theorem AH.get_write(H:AH)(b:Nat)(k:ABlk)(o:AObj)(x:Nat):(H.write b k o).blocks.get x=if x=b then some {k with obj:=o}else H.blocks.get x:=
 T.get_put _ _ _ _
def World.push(w:World)(o:Obj):World:={w with heap:=w.heap.push o}
theorem g8(w:World)(o:Obj)(B:Nat):(World.push w o).heap[B]? = if B=w.heap.size then some o else w.heap[B]? :=by simp only[World.push,Array.getElem?_push]
theorem Step.new{E:Env}{σ:vH}{H:AH}{w:World}(hr:HR E σ H w)(P:σ H.next=none)(x:AObj)(o:Obj)(L:Loc)(hL:L.blk=w.heap.size)(K:pC E (σ.add H.next L) L true x o):Step E σ H w (σ.add H.next L) (H.new x) (World.push w o):=by
 have hle:vH.le σ (σ.add H.next L):=vH.add_le P;have lt:∀b k M,H.blocks.get b=some k->σ b=some M->M.blk<w.heap.size:=by intro b k M y hs;obtain⟨J,q,_⟩:=hr.objs b k M y hs;grind
 refine { hr:=?_,next:=Nat.le_succ _,ext:=?_,size:=by simp[World.push],low:=vE _,tape:=rfl,os:=rfl,output:=⟨rfl,λ_=>vE _⟩,
          frame:=?_,origin:=?_,old:=?_,keep:=?_,born:=?_}
 ·refine {objs:=?_,sep:=?_,glob:=?_,wf:=?_}
  ·intro b k M y hs;rw[AH.get_new]at y;by_cases e:b=H.next
   ·subst e;rw[vH.add_self]at hs;cases hs;rw[if_pos rfl]at y;cases y;exact⟨o,by rw[g8,if_pos hL],K⟩
   ·rw[if_neg e]at y;rw[vH.add_ne e]at hs;obtain⟨J,q,p⟩:=hr.objs b k M y hs;refine⟨J,?_,p.mono hle⟩;rw[g8,if_neg (Nat.ne_of_lt (lt b k M y hs))];exact q
  ·intro l j t r z u q p C i c A;rw[AH.get_new]at q p;by_cases I:l=H.next
   ·subst I;rw[if_neg (λe=>A e.symm)]at p;rw[vH.add_self]at i;cases i;rw[vH.add_ne (λe=>A e.symm)]at c;have:=lt j r u p c;omega
   ·rw[if_neg I]at q;rw[vH.add_ne I]at i;by_cases G:j=H.next
    ·subst G;rw[vH.add_self]at c;cases c;have:=lt l t z q i;omega
    ·rw[if_neg G]at p;rw[vH.add_ne G]at c;exact hr.sep l j t r z u q p C i c A
  ·intro g O;obtain⟨M,q,p⟩:=hr.glob g O;exact⟨M,hle g M q,p⟩
  ·intro b k y;rw[AH.get_new]at y;by_cases e:b=H.next
   ·subst e;rw[if_pos rfl]at y;cases y;exact⟨vE _,Nat.lt_succ_self _⟩
   ·rw[if_neg e]at y;exact⟨(hr.wf b k y).1,Nat.lt_succ_of_lt (hr.wf b k y).2⟩
 ·intro b y;have:b≠H.next:=by
   rcases y with h|h
   ·omega
   ·have:H.next+1<=b:=h;omega
  exact vH.add_ne this
 ·intro B Q _;rw[g8,if_neg (Nat.ne_of_lt Q)]
 ·intro b k M y F hs;rw[AH.get_new]at y;by_cases e:b=H.next
  ·subst e;rw[vH.add_self]at hs;cases hs;exact .inl (by omega)
  ·rw[if_neg e]at y;rw[vH.add_ne e]at hs;exact .inr ⟨b,k,M,y,F,hs,rfl,rfl⟩
 ·intro b k y N;rw[AH.get_new,if_neg (by omega)]at y;exact⟨k,y,rfl,rfl⟩
 ·intro b k y _;rw[AH.get_new,if_neg (by have:=(hr.wf b k y).2;omega)];exact y
 ·intro b k y N;rw[AH.get_new]at y;by_cases e:b=H.next
  ·rw[if_pos e]at y;cases y;exact⟨.inl (vE _),rfl⟩
  ·rw[if_neg e]at y;have:=(hr.wf b k y).2;omega
structure WSet (w w':World) (B:Nat) (o:Obj):Prop where
 size:w'.heap.size=w.heap.size
 at_:w'.heap[B]? = some o
 else_:∀B',B'≠B->w'.heap[B']? = w.heap[B']?
 tape:w'.tape=w.tape
 os:w'.os=w.os
 output:w'.output=w.output/\w.drawn<=w'.drawn
theorem Step.write{E:Env}{σ:vH}{H:AH}{w w':World}(hr:HR E σ H w){b:Nat}{k:ABlk}{L:Loc}{x:AObj}{o:Obj}(p:H.blocks.get b=some k)(g:k.own=true)(K:σ b=some L)(q:WSet w w' L.blk o)(U:pC E σ L true x o):Step E σ H w σ (H.write b k x) w':=by
 refine { hr:=?_,next:=vE _,ext:=λ_ _=>rfl,size:=Nat.le_of_eq q.size.symm,low:=Nat.min_le_left _ _,tape:=q.tape,os:=q.os,output:=⟨q.output.1,λ_=>q.output.2⟩,
          frame:=?_,origin:=?_,old:=?_,keep:=?_,born:=?_}
 ·refine {objs:=?_,sep:=?_,glob:=hr.glob,wf:=?_}
  ·intro c k' M y i;rw[AH.get_write]at y;by_cases e:c=b
   ·subst e;rw[if_pos rfl]at y;cases y;rw[K]at i;cases i;exact⟨o,q.at_,by rw[g];exact U⟩
   ·rw[if_neg e]at y;obtain⟨S,z,u⟩:=hr.objs c k' M y i;refine⟨S,?_,u⟩;rw[q.else_ _ (λe'=>hr.sep b c k k' L M p y g K i (λR=>e R.symm) e'.symm)];exact z
  ·intro l j t r C A z u N J I P;rw[AH.get_write]at z u;have g1:∃k',H.blocks.get l=some k'/\k'.own=true:=by
    by_cases e:l=b
    ·subst e;exact⟨k,p,g⟩
    ·rw[if_neg e]at z;exact⟨t,z,N⟩
   have g2:∃k',H.blocks.get j=some k':=by
    by_cases e:j=b
    ·subst e;exact⟨k,p⟩
    ·rw[if_neg e]at u;exact⟨r,u⟩
   obtain⟨G,g1,Q⟩:=g1;obtain⟨F,g2⟩:=g2;exact hr.sep l j G F C A g1 g2 Q J I P
  ·intro c k' y;rw[AH.get_write]at y;by_cases e:c=b
   ·subst e;rw[if_pos rfl]at y;cases y;exact hr.wf c k p
   ·rw[if_neg e]at y;exact hr.wf c k' y
 ·intro B X h;refine q.else_ B λe=>h b k L p g K (Nat.min_le_right _ _) e.symm
 ·intro c k' M y O i;rw[AH.get_write]at y;by_cases e:c=b
  ·subst e;rw[if_pos rfl]at y;cases y;exact .inr ⟨c,k,M,p,g,i,rfl,rfl⟩
  ·rw[if_neg e]at y;exact .inr ⟨c,k',M,y,O,i,rfl,rfl⟩
 ·intro c k' y _;rw[AH.get_write]at y;by_cases e:c=b
  ·subst e;rw[if_pos rfl]at y;cases y;exact⟨k,p,rfl,rfl⟩
  ·rw[if_neg e]at y;exact⟨k',y,rfl,rfl⟩
 ·intro c k' y V;rw[AH.get_write];by_cases e:c=b
  ·subst e;rw[p]at y;cases y;have:Nat.min H.low k.root<=k.root:=Nat.min_le_right _ _;exact absurd V (by simpa[AH.write]using Nat.not_lt.2 this)
  ·rw[if_neg e];exact y
 ·intro c k' y W;have:=λk h=>(hr.wf c k h).2;rw[AH.get_write]at y;by_cases e:c=b
  ·subst e;have:=this k p;omega
  ·rw[if_neg e]at y;have:=this k' y;omega
theorem AH.get_move(H:AH)(b:Nat)(k:ABlk)(x:AObj)(c:Nat):(H.move b k x).blocks.get c=if c=H.next then some ⟨x,k.root,true⟩else if c=b then none else H.blocks.get c:=by simp only[AH.move,T.get_put]
theorem Step.move{E:Env}{σ:vH}{H:AH}{w w':World}(hr:HR E σ H w)(hf:σ H.next=none){b:Nat}{k:ABlk}{L M:Loc}{x:AObj}{o:Obj}(N:H.blocks.get b=some k)(F:k.own=true)(i:(σ b=some L/\WSet w w' L.blk o/\M.blk=L.blk)∨w'=World.push w o/\M.blk=w.heap.size)(ho:pC E (σ.add H.next M) M true x o):Step E σ H w (σ.add H.next M) (H.move b k x) w':=by
 have hle:vH.le σ (σ.add H.next M):=vH.add_le hf;have lt:∀b k M,H.blocks.get b=some k->σ b=some M->M.blk<w.heap.size:=by intro b k M N hs;obtain⟨X,A,_⟩:=hr.objs b k M N hs;grind
 have hbn:b≠H.next:=by have:=(hr.wf b k N).2;omega
 have q:∀R k' t,H.blocks.get R=some k'->σ R=some t->R≠b->t.blk≠M.blk/\w'.heap[t.blk]? = w.heap[t.blk]? :=by
  intro R k' t S j G;rcases i with⟨hs,i,I⟩|⟨i,I⟩
  ·have:=hr.sep b R k k' L t N S F hs j (λe=>G e.symm);exact⟨λe=>this (by omega),i.else_ _ λe=>this e.symm⟩
  ·have:=lt R k' t S j;exact⟨by omega,by rw[i,g8,if_neg (by omega)]⟩
 refine { hr:=?_,next:=Nat.le_succ _,ext:=?_,size:=?_,low:=Nat.min_le_left _ _,tape:=?_,os:=?_,output:=?_,
          frame:=?_,origin:=?_,old:=?_,keep:=?_,born:=?_}
 ·refine {objs:=?_,sep:=?_,glob:=?_,wf:=?_}
  ·intro c k' t y j;rw[AH.get_move]at y;by_cases e:c=H.next
   ·subst e;rw[if_pos rfl]at y;cases y;rw[vH.add_self]at j;cases j;refine⟨o,?_,ho⟩;rcases i with⟨hs,i,I⟩|⟨i,I⟩
    ·rw[I];exact i.at_
    ·rw[i,g8,if_pos I]
   ·rw[if_neg e]at y;rw[vH.add_ne e]at j;by_cases l:c=b
    ·rw[if_pos l]at y;cases y
    ·rw[if_neg l]at y;obtain⟨X,A,r⟩:=hr.objs c k' t y j;exact⟨X,by rw[(q c k' t y j l).2];exact A,r.mono hle⟩
  ·intro u p K J P O A r U C z G;rw[AH.get_move]at A r;by_cases W:u=H.next
   ·subst W;have l:p≠H.next:=λe=>G e.symm;rw[if_neg l]at r;rw[vH.add_ne l]at z;rw[vH.add_self]at C;cases C;by_cases Q:p=b
    ·rw[if_pos Q]at r;cases r
    ·rw[if_neg Q]at r;exact λe=>(q p J O r z Q).1 e.symm
   ·rw[if_neg W]at A;rw[vH.add_ne W]at C;by_cases Q:u=b
    ·rw[if_pos Q]at A;cases A
    ·rw[if_neg Q]at A;by_cases l:p=H.next
     ·subst l;rw[vH.add_self]at z;cases z;exact(q u K P A C Q).1
     ·rw[if_neg l]at r;rw[vH.add_ne l]at z;by_cases Z:p=b
      ·rw[if_pos Z]at r;cases r
      ·rw[if_neg Z]at r;exact hr.sep u p K J P O A r U C z G
  ·intro g hg;obtain⟨t,A,r⟩:=hr.glob g hg;exact⟨t,hle g t A,r⟩
  ·intro c k' y;rw[AH.get_move]at y;by_cases e:c=H.next
   ·subst e;rw[if_pos rfl]at y;cases y;have:=hr.wf b k N;exact⟨by show k.root<=_;omega,Nat.lt_succ_self _⟩
   ·rw[if_neg e]at y;by_cases l:c=b
    ·rw[if_pos l]at y;cases y
    ·rw[if_neg l]at y;exact⟨(hr.wf c k' y).1,Nat.lt_succ_of_lt (hr.wf c k' y).2⟩
 ·intro c y;have:c≠H.next:=by
   rcases y with h|h
   ·omega
   ·have:H.next+1<=c:=h;omega
  exact vH.add_ne this
 ·rcases i with⟨hs,i,_⟩|⟨i,_⟩
  ·exact Nat.le_of_eq i.size.symm
  ·rw[i];simp[World.push]
 ·rcases i with⟨hs,i,_⟩|⟨i,_⟩
  ·exact i.tape
  ·rw[i];rfl
 ·rcases i with⟨hs,i,_⟩|⟨i,_⟩
  ·exact i.os
  ·rw[i];rfl
 ·rcases i with⟨hs,i,_⟩|⟨i,_⟩
  ·exact⟨i.output.1,λ_=>i.output.2⟩
  ·rw[i];exact⟨rfl,λ_=>vE _⟩
 ·intro B hB h;rcases i with⟨hs,i,_⟩|⟨i,_⟩
  ·exact i.else_ B λe=>h b k L N F hs (Nat.min_le_right _ _) e.symm
  ·rw[i,g8,if_neg (Nat.ne_of_lt hB)]
 ·intro c k' t y V j;rw[AH.get_move]at y;by_cases e:c=H.next
  ·subst e;rw[if_pos rfl]at y;cases y;rw[vH.add_self]at j;cases j;rcases i with⟨hs,_,I⟩|⟨_,I⟩
   ·exact .inr ⟨b,k,L,N,F,hs,I.symm,rfl⟩
   ·exact .inl (Nat.le_of_eq I.symm)
  ·rw[if_neg e]at y;rw[vH.add_ne e]at j;by_cases l:c=b
   ·rw[if_pos l]at y;cases y
   ·rw[if_neg l]at y;exact .inr ⟨c,k',t,y,V,j,rfl,rfl⟩
 ·intro c k' y hn;rw[AH.get_move,if_neg (by omega)]at y;by_cases l:c=b
  ·rw[if_pos l]at y;cases y
  ·rw[if_neg l]at y;exact⟨k',y,rfl,rfl⟩
 ·intro c k' y hl;rw[AH.get_move,if_neg (by have:=(hr.wf c k' y).2;omega)];by_cases l:c=b
  ·subst l;rw[N]at y;cases y;have:Nat.min H.low k.root<=k.root:=Nat.min_le_right _ _;exact absurd hl (by simpa[AH.move]using Nat.not_lt.2 this)
  ·rw[if_neg l];exact y
 ·intro c k' y hn;rw[AH.get_move]at y;by_cases e:c=H.next
  ·rw[if_pos e]at y;cases y;exact⟨.inr (Nat.min_le_right _ _),rfl⟩
  ·rw[if_neg e]at y;by_cases l:c=b
   ·rw[if_pos l]at y;cases y
   ·rw[if_neg l]at y;have:=(hr.wf c k' y).2;omega
theorem Step.drew{E:Env}{σ:vH}{H:AH}{w:World}(hr:HR E σ H w){n:Nat}(x:w.drawn<=n):Step E σ H w σ H {w with drawn:=n}:=
  have h:=Step.refl hr
  { hr:=⟨hr.objs,hr.sep,hr.glob,hr.wf⟩,next:=h.next,ext:=h.ext,size:=h.size,low:=h.low,tape:=rfl,os:=rfl,output:=⟨rfl,λ_=>x⟩,frame:=h.frame,
    origin:=h.origin,old:=h.old,keep:=h.keep,born:=h.born}
theorem HR.setLow{E:Env}{σ:vH}{H:AH}{w:World}(hr:HR E σ H w)(n:Nat):HR E σ {H with low:=n} w:=⟨hr.objs,hr.sep,hr.glob,hr.wf⟩
theorem Step.lower{E:Env}{σ y:vH}{H H':AH}{w w':World}{a:Nat}(s:Step E σ {H with low:=a} w y H' w'):
  Step E σ H w y {H' with low:=Nat.min H.low H'.low} w' where
 hr:=s.hr.setLow _
 next:=s.next
 ext:=s.ext
 size:=s.size
 low:=Nat.min_le_left _ _
 tape:=s.tape
 os:=s.os
 output:=s.output
 frame B j h:=s.frame B j λb k L x i g c=>h b k L x i g (lT (Nat.min_le_right _ _) c)
 origin:=s.origin
 old:=s.old
 keep b k x c:=s.keep b k x (Nat.lt_of_lt_of_le c (Nat.min_le_right _ _))
 born b k x e:=⟨(s.born b k x e).1.imp id λh=>lT (Nat.min_le_right _ _) h,(s.born b k x e).2⟩
structure EOk (E:Env):Prop where
 types:∀t ti,E.types.get t=some ti->∃i,E.prog.info? t=some i/\E.prog.underlying t=some ti.desc/\ti.size=i.size/\ti.bytes=i.bytes/\
  (∀z,ti.zero=some z->∃v,i.zero=some v/\zK v=true/\v.cells.toList=z/\z.all qH=true/\z.length=i.size/\(ti.agg=true->v=.agg ⟨z⟩)/\(ti.agg=false->z=[v]))/\ti.agg=qS6 ti.desc
 funcs : ∀ f fn, E.funcs.get f = some fn -> E.prog.funcs[f]? = some fn /\ fn.body.isSome = true /\ fn.name ≠ "runtime.NumGoroutine"
 codes:∀f fn c,E.funcs.get f=some fn->fn.body=some c->vB c=true
 mixed:E.prog.follows .mixedOrders=true
 ng:E.ng=E.prog.globals.size
 fields:∀t ti fs,E.types.get t=some ti->ti.desc=.struct fs->∀f∈fs.toList,∃fi,E.types.get f.type=some fi
theorem take?_spec:∀(l:List Value) (n:Nat) (r:List Value),take? l n=some r->r=l.take n/\n<=l.length
 |_,0,r,h=>by simp[take?]at h;subst h;simp
 | [],_+1,r,h=>by simp[take?]at h
 |x::l,n+1,r,h=>by simp only[take?,Option.map_eq_some_iff]at h;obtain⟨y,b,rfl⟩:=h;obtain⟨e,c⟩:=take?_spec l n y b;grind
theorem mS:∀(cs:List Value) (i:Nat) (vs r:List Value),xA cs i vs=some r->i+vs.length<=cs.length/\r=cs.take i++vs++cs.drop (i+vs.length)
 |cs,0,[],r,h=>by simp[xA]at h;subst h;simp
 | [],0,_::_,r,h=>by simp[xA]at h
 |c::cs,0,v::vs,r,h=>by simp only[xA,Option.map_eq_some_iff]at h;obtain⟨x,y,rfl⟩:=h;obtain⟨g,e⟩:=mS cs 0 vs x y;grind
 | [],_+1,vs,r,h=>by cases vs<;>simp[xA]at h
 |c::cs,i+1,vs,r,h=>by
  have b:(xA cs i vs).map (c :: ·)=some r:=by cases vs<;>simpa[xA]using h
  simp only[Option.map_eq_some_iff]at b;obtain⟨x,y,rfl⟩:=b;obtain⟨g,e⟩:=mS cs i vs x y;grind
theorem qCb{H:AH}{b i n:Nat}{r:List Value}(h:H.loads b i n=some r):∃cs el rt own,H.blocks.get b=some ⟨.cells cs el,rt,own⟩/\r=(cs.drop i).take n/\n<=cs.length-i:=by
 unfold AH.loads at h;split at h
 ·rename_i cs el rt own x;obtain⟨c,y⟩:=take?_spec _ _ _ h;exact⟨cs,el,rt,own,x,c,by simpa using y⟩
 cases h
section
variable{E:Env}{σ:vH}{H:AH}{w:World}
theorem HR.cellsAt(j:HR E σ H w){b:Nat}{L:Loc}{cs:List Value}{el rt:Nat}{own:Bool}(k:H.blocks.get b=some ⟨.cells cs el,rt,own⟩)(g:σ b=some L):∃h x y,w.heap[L.blk]? = some (.cells h x y)/\(own=true->qX3 L el x h.size y)/\L.off+L.ext<=h.size/\cs.length<=L.ext/\(∀c,E.types.get el=some c->L.sz=c.size)/\∀i v,cs[i]? = some v->qH v=true/\∃v',h[L.off+i]? = some v'/\VR σ v v':=by obtain⟨o,l,e⟩:=j.objs b _ L k g;cases o<;>simp only[pC]at e;rename_i h x y;exact⟨h,x,y,l,e⟩
theorem uS(p:HR E σ H w){b i n:Nat}{r:List Value}{L:Loc}(h:H.loads b i n=some r)(o:σ b=some L):∃l,(loadCells ⟨L.blk,L.off+i,none⟩ n).run E.prog w=.ok l.toArray w/\VRs σ r l/\r.length=n/\r.all qH=true:=by
 obtain⟨cs,el,rt,own,q,rfl,hn⟩:=qCb h;obtain⟨x,z,G,u,_,F,C,_,B⟩:=p.cellsAt q o;have hlen:((cs.drop i).take n).length=n:=by simp;omega
 have A:∀j,j<n->((cs.drop i).take n)[j]? = cs[i+j]? :=by grind
 have y:∀j v,((cs.drop i).take n)[j]? = some v->((x.toList.drop (L.off+i)).take n)[j]? = x[L.off+(i+j)]? /\qH v=true/\∃v',x[L.off+(i+j)]? = some v'/\VR σ v v':=by grind
 have c:((x.toList.drop (L.off+i)).take n).length=n:=by grind
 refine⟨(x.toList.drop (L.off+i)).take n,?_,?_,hlen,?_⟩
 ·have:=run_loadCells_list (P:=E.prog) w ⟨L.blk,L.off+i,none⟩ ((x.toList.drop (L.off+i)).take n) ?_
  ·rw[c]at this;exact this
  intro j v hv;have k:j<n:=by have:=(gI hv).1;omega
  have t:(⟨L.blk,L.off+i,none⟩:Addr).add j=⟨L.blk,L.off+i+j,none⟩:=by unfold Addr.add;split<;>simp_all
  rw[t];rw[List.getElem?_take_of_lt k,List.getElem?_drop,Array.getElem?_toList]at hv;simp[World.cell?,u,hv]
 ·refine VRs.of_get (by rw[c,hlen]) λj v hv=>?_;obtain⟨e,_,v',e',g⟩:=y j v hv;exact⟨v',by rw[e,e'],g⟩
 rw[List.all_eq_true];intro v hv;obtain⟨j,k⟩:=List.getElem?_of_mem hv;exact(y j v k).2.1
end
theorem WSet.setRow{w:World}{g:Nat}{old cs:Array Value}{t:TypeId}{fr:Nat×Nat}(h:w.heap[g]? = some (.cells old t fr)):
  WSet w (w.setRow g cs) g (.cells cs t fr) where
 size:=by simp[World.setRow]
 at_:=setRow_heap w g old cs t fr h
 else_ B x:=by simp only[World.setRow,Array.getElem?_modify];rw[if_neg (λe=>x e.symm)]
 tape:=rfl
 os:=rfl
 output:=⟨rfl,vE _⟩
theorem kU(P:Program)(g o:Nat)(t:TypeId)(y:Nat×Nat):∀(vs:List Value) (i:Nat) (cur:Array Value) (w:World),w.heap[g]? = some (.cells cur t y)->(y=(0,0)∨cur.size<=y.1)->o+i+vs.length<=cur.size->
  (∀v∈vs,v.oneCell'=true)->(storeCells ⟨g,o,none⟩ vs i).run P w=.ok () (w.setRow g (cur.toList.take (o+i)++vs++cur.toList.drop (o+i+vs.length)).toArray)
 | [],i,cur,w,b,_,_,_=>by
  simp only[storeCells,List.append_nil,List.length_nil,Nat.add_zero,List.take_append_drop,Array.toArray_toList]
  rw[setRow_self w g cur t y b]
  rfl
 | v::rest,i,cur,w,b,p,l,q=>by
  have hi:o+i<cur.size:=by simp at l;omega
  have j:(⟨g,o,none⟩:Addr).add i=⟨g,o+i,none⟩:=by unfold Addr.add;split<;>simp_all
  have h:w.cell? ⟨g,o+i,none⟩=some cur[o+i]:=by simp[World.cell?,b,hi]
  have c:w.frozen? ⟨g,o+i,none⟩=false:=by
   obtain⟨lo,up⟩:=y
   simp only[World.frozen?,b,Bool.and_eq_false_iff,decide_eq_false_iff_not]
   grind
  have k:(store ((⟨g,o,none⟩:Addr).add i) v).run P w=.ok () (w.setRow g (cur.setIfInBounds (o+i) v)):=by
   rw[j,run_store P w _ v _ (q v (by simp)),h]
   simp[c,setCell_eq_setRow w g (o+i) cur t y v b]
  have next:=kU P g o t y rest (i+1) (cur.setIfInBounds (o+i) v) (w.setRow g (cur.setIfInBounds (o+i) v)) (setRow_heap w g cur _ t _ b) (by simpa using p) (by simp at l ⊢;omega)
   (λx r=>q x (by simp[r]))
  simp only[storeCells,Sem.run_bind,k,Result.andThen_ok,next,setRow_setRow]
  congr 3
  have e:=list_seg_step cur.toList (o+i) v rest (by simp at l ⊢;omega)
  grind
theorem qOI(v:Value):v.oneCell'=qH v:=by cases v<;>rfl
section
variable{E:Env}{σ:vH}{H:AH}{w:World}
theorem bT(G:HR E σ H w){b i:Nat}{vs y:List Value}{H':AH}{L:Loc}(h:H.stores b i vs=some H')(F:σ b=some L)(hv:VRs σ vs y)(B:vs.all qH=true):∃w',(storeCells ⟨L.blk,L.off+i,none⟩ y).run E.prog w=.ok () w'/\Step E σ H w σ H' w':=by
 unfold AH.stores at h;split at h;case h_2=>cases h
 rename_i cs el rt I;simp only[Option.map_eq_some_iff]at h;obtain⟨cs',mJ,rfl⟩:=h;obtain⟨J,q⟩:=mS _ _ _ _ mJ;obtain⟨x,C,M,g1,g2,g3,g4,g5,g6⟩:=G.cellsAt I F;obtain⟨p,r,k⟩:=g2 rfl;have o:=hv.length
 have g:=kU E.prog L.blk (L.off+i) C M y 0 x w g1 p (by rw[o];omega)
  (λv z=>by rw[qOI];have:=hv.all_one;rw[B,List.all_eq_true]at this;exact this v z)
 refine⟨_,g,Step.write G I rfl F (WSet.setRow g1) ?_⟩;have A:cs'.length=cs.length:=by rw[q];simp;omega
 have l:(x.toList.take (L.off+i+0)++y++x.toList.drop (L.off+i+0+y.length)).toArray.size=x.size:=by simp;omega
 refine⟨λ_=>⟨by rw[l];exact p,r,k⟩,?_,by rw[A];exact g4,g5,?_⟩
 ·simp;omega
 intro j v c;have K:j<cs.length:=by have:=(gI c).1;omega
 have ht:(cs.take i).length=i:=by simp;omega
 have e:(x.toList.take (L.off+i)).length=L.off+i:=by simp;omega
 simp only[Nat.add_zero,List.getElem?_toArray];rw[q]at c;by_cases c1:j<i
 ·have u:(cs.take i++vs++cs.drop (i+vs.length))[j]? = cs[j]? :=by
   rw[List.append_assoc,List.getElem?_append_left (by omega),List.getElem?_take_of_lt c1]
  have t:(x.toList.take (L.off+i)++y++x.toList.drop (L.off+i+y.length))[L.off+j]? = x[L.off+j]? :=by
   rw[List.append_assoc,List.getElem?_append_left (by omega),List.getElem?_take_of_lt (by omega),Array.getElem?_toList]
  rw[u]at c;rw[t]
  exact g6 j v c
 by_cases N:j<i+vs.length
 ·have u:(cs.take i++vs++cs.drop (i+vs.length))[j]? = vs[j-i]? :=by
   rw[List.append_assoc,List.getElem?_append_right (by omega),List.getElem?_append_left (by omega),ht]
  have t:(x.toList.take (L.off+i)++y++x.toList.drop (L.off+i+y.length))[L.off+j]? = y[j-i]? :=by
   rw[List.append_assoc,List.getElem?_append_right (by omega),List.getElem?_append_left (by omega),e]
   congr 1;omega
  rw[u]at c;rw[t]
  rw[List.all_eq_true]at B
  exact⟨B v (List.mem_of_getElem? c),hv.get _ v c⟩
 have u:(cs.take i++vs++cs.drop (i+vs.length))[j]? = cs[j]? :=by
  rw[List.append_assoc,List.getElem?_append_right (by omega),List.getElem?_append_right (by omega),ht,List.getElem?_drop]
  congr 1;omega
 have t:(x.toList.take (L.off+i)++y++x.toList.drop (L.off+i+y.length))[L.off+j]? = x[L.off+j]? :=by
  rw[List.append_assoc,List.getElem?_append_right (by omega),List.getElem?_append_right (by omega),e,List.getElem?_drop,Array.getElem?_toList]
  congr 1;omega
 rw[u]at c;rw[t];exact g6 j v c
theorem qBQ(he:EOk E){t:TypeId}{ti:TI}(h:E.types.get t=some ti)(w:World):(isAgg t).run E.prog w=.ok ti.agg w:=by obtain⟨i,b,y,_,_,_,x⟩:=he.types t ti h;simp only[isAgg,Sem.run_bind,run_underlying y,Result.andThen_ok];rw[x];cases ti.desc<;>rfl
theorem zX(he:EOk E){t:TypeId}{ti:TI}(h:E.types.get t=some ti)(w:World):(sizeOf t).run E.prog w=.ok ti.size w:=by obtain⟨i,y,_,x,_⟩:=he.types t ti h;simp[sizeOf,run_typeInfo w y,x]
theorem zV(he:EOk E){t:TypeId}{ti:TI}(h:E.types.get t=some ti)(w:World):(underlying t).run E.prog w=.ok ti.desc w:=by obtain⟨i,_,x,_⟩:=he.types t ti h;exact run_underlying x w
theorem gA(he:EOk E){t:TypeId}{ti:TI}{z:List Value}(h:E.types.get t=some ti)(x:ti.zero=some z)(w:World):∃v,(zeroValue t).run E.prog w=.ok v w/\zK v=true/\v.cells.toList=z/\z.all qH=true/\z.length=ti.size:=by obtain⟨i,c,_,b,_,y,_⟩:=he.types t ti h;obtain⟨v,g1,g2,g3,g4,g5,_⟩:=y z x;exact⟨v,by simp[zeroValue,run_typeInfo w c,g1],g2,g3,g4,by rw[g5,b]⟩
theorem qAA(he:EOk E){t:TypeId}{ti:TI}{z:List Value}{v:Value}(h:E.types.get t=some ti)(y:ti.zero=some z)(hv:rF ti.agg z=some v)(w:World):(zeroValue t).run E.prog w=.ok v w/\zK v=true:=by
 obtain⟨i,c,_,g,_,b,_⟩:=he.types t ti h;obtain⟨u,g1,g2,g3,g4,g5,g6,g7⟩:=b z y;have e:v=u:=by
  cases x:ti.agg with
  |true=>rw[x]at hv;simp only[rF,oI]at hv;rw[g6 x,hv]
  |false=>rw[x,g7 x]at hv;simp only[rF,oI]at hv;exact hv.symm
 subst e;exact⟨by simp[zeroValue,run_typeInfo w c,g1],g2⟩
theorem mF(b o n:Nat):(⟨b,o,none⟩:Addr).add n=⟨b,o+n,none⟩:=by unfold Addr.add;split<;>simp_all
theorem qGC(he:EOk E)(q:HR E σ H w){t:TypeId}{a z v:Value}(h:rC E H t a=some v)(G:VR σ a z):∃v',(Instr.loadAt t z).run E.prog w=.ok v' w/\VR σ v v':=by
 unfold rC at h;split at h;case h_2=>cases h
 rename_i B b o k;cases G with
 |leaf I=>simp[vL]at I
 | ptr p=>
  rename_i L;simp only[Instr.loadAt,Instr.sureAddr,Sem.run_bind,Sem.run_pure,Result.andThen_ok,loadVar,qBQ he k];cases y:B.agg with
  |true=>rw[y,cond_true]at h;simp only[Option.map_eq_some_iff]at h;obtain⟨l,g,rfl⟩:=h;obtain⟨j,c,i,_,r⟩:=uS q g p;refine⟨.agg ⟨j⟩,?_,.agg i r⟩;simp[zX he k,c]
  | false=>
   rw[y,cond_false]at h;split at h
   ·rename_i u g;cases h;obtain⟨j,c,i,_,r⟩:=uS q g p;cases i with
    |cons C e=>
     cases e;rename_i v';refine⟨v',?_,C⟩;simp only[loadCells,loadCellsFrom,mF,Nat.add_zero,Sem.run_bind,Sem.run_pure]at c;simp only[Bool.false_eq_true,if_false];revert c;cases F:(load {block:=L.blk,off:=L.off+o,spot:=none}).run E.prog w with
     |ok x A=>simp only[Result.andThen_ok];intro c;cases c;rfl
     |halt x A=>simp
   cases h
theorem qK3(he:EOk E)(l:HR E σ H w){t:TypeId}{a g v v':Value}{H':AH}(h:kQ E H t a v=some H')(p:VR σ a g)(hv:VR σ v v')(e:∀c,v≠.tuple c):∃w',(Instr.storeAt t g v').run E.prog w=.ok () w'/\Step E σ H w σ H' w':=by
 unfold kQ at h;split at h;case h_2=>cases h
 rename_i i b o j;simp only[qZ]at h;split at h;case isFalse=>cases h
 rename_i x;cases p with
 |leaf u=>simp[vL]at u
 |ptr k=>
  rename_i L;obtain⟨w',r,q⟩:=bT l h k hv.cells (hv.cells_one e);refine⟨w',?_,q⟩;have y:v'.cells.size=i.size:=by have:=hv.cells.length;simp only[Array.length_toList]at this x;omega
  simp only[Instr.storeAt,Instr.sureAddr,Sem.run_bind,Sem.run_pure,Result.andThen_ok,storeVar,zX he j];simp[y,r]
end
theorem Step.drop{E:Env}{σ:vH}{H:AH}{w w':World}(hr:HR E σ H w){b:Nat}{k:ABlk}{L:Loc}(I:H.blocks.get b=some k)(g:k.own=true)(N:σ b=some L)(C:w'.heap.size=w.heap.size)(j:∀B,B≠L.blk->w'.heap[B]? = w.heap[B]?)(O:w'.tape=w.tape)(F:w'.os=w.os)(i:w'.output=w.output/\w.drawn<=w'.drawn):Step E σ H w σ {blocks:=H.blocks.put b none,next:=H.next,low:=Nat.min H.low k.root} w':=by
 have l:∀c x,(H.blocks.put b none).get c=some x->c≠b/\H.blocks.get c=some x:=by intro c x h;rw[T.get_put]at h;grind
 refine { hr:=⟨?_,?_,hr.glob,?_⟩,next:=vE _,ext:=λ_ _=>rfl,size:=Nat.le_of_eq C.symm,low:=Nat.min_le_left _ _,tape:=O,os:=F,output:=⟨i.1,λ_=>i.2⟩,
          frame:=?_,origin:=?_,old:=?_,keep:=?_,born:=?_}
 ·intro c x M y A;obtain⟨G,y⟩:=l c x y;obtain⟨o,K,J⟩:=hr.objs c x M y A;exact⟨o,by rw[j _ (λe=>hr.sep b c k x L M I y g N A (Ne.symm G) e.symm)];exact K,J⟩
 ·intro t r q p z u K J;exact hr.sep t r q p z u (l _ _ K).2 (l _ _ J).2
 ·intro c x y;exact hr.wf c x (l _ _ y).2
 ·intro B _ h;exact j B (λe=>h b k L I g N (Nat.min_le_right _ _) e.symm)
 ·intro c x M y P A;exact .inr ⟨c,x,M,(l _ _ y).2,P,A,rfl,rfl⟩
 ·intro c x y _;exact⟨x,(l _ _ y).2,rfl,rfl⟩
 ·intro c x y Q;show(H.blocks.put b none).get c=_;rw[T.get_put];by_cases e:c=b
  ·subst e;rw[I]at y;cases y;have:Nat.min H.low k.root<=k.root:=Nat.min_le_right _ _;exact absurd Q (Nat.not_lt.2 this)
  ·rw[if_neg e];exact y
 ·intro c x y R;have:=(hr.wf c x (l _ _ y).2).2;omega
theorem yH{α:Type}(P:Program)(w:World):∀(s:Sem α) (a:α),qT P s=some a->s.run P w=.ok a w:=by
 intro s;induction s with
 |pure a=>intro b h;simp[qT]at h;subst h;rfl
 |program k x=>intro b h;exact x P b (by simpa[qT]using h)
 |mark m k x=>intro b h;exact x b (by simpa[qT]using h)
 |_=>intro b h;simp[qT]at h
theorem flat?_spec{v:Option Value}{u:Value}(h:flat? v=some u):v=some u/\zK u=true:=by unfold flat? at h;grind
theorem gH{α:Sort _}(a b:Bool)(x y:α):(bif a&&b then x else y)=bif a then(bif b then x else y)else y:=by cases a<;>rfl
section
variable{E:Env}{σ:vH}{H:AH}{w:World}{fr:Fr}{a:Act}
theorem pA(he:EOk E)(b:HR E σ H w)(e:aH σ fr a.tmps){x:Operand}{v:Value}(h:ev E fr x=some v):VR σ v (a.eval x):=by
 cases x with
 |tmp t=>exact e.2 t v h
 |const c=>
  simp only[ev]at h;cases y:zK c with
  |true=>rw[y,cond_true]at h;cases h;exact xC _ _ y
  |false=>rw[y,cond_false]at h;cases h
 |global g=>
  simp only[ev,vU]at h;split at h;case isFalse=>cases h
  rename_i o;cases h;obtain⟨L,l,k,j⟩:=b.glob g (by rw[←he.ng];omega);have:=VR.ptr (i:=0) l;rw[k,j]at this;exact this
 |func f=>simp only[ev]at h;cases h;exact .func rfl .nil .nil
theorem tL:∀{xs:List Operand} {vs:List Value},(∀x∈xs,∀v,ev E fr x=some v->VR σ v (a.eval x))->rV E fr xs=some vs->VRs σ vs (xs.map a.eval)
 | [],vs,_,h=>by simp[rV]at h;subst h;exact .nil
 |x::xs,vs,b,h=>by
  simp only[rV]at h;split at h
  ·cases h
  rename_i v hv;simp only[Option.map_eq_some_iff]at h;obtain⟨c,g,rfl⟩:=h;exact .cons (b x (by simp) v hv) (tL (λy e=>b y (by simp[e])) g)
inductive PRs (σ:vH):List (Nat×Value)->List (Nat×Value)->Prop
 |nil:PRs σ [] []
 |cons {i:Nat} {v v':Value} {l l':List (Nat×Value)} (h:VR σ v v') (ht:∀c,v≠.tuple c) (hs:PRs σ l l'):PRs σ ((i,v)::l) ((i,v')::l')
theorem uL:∀{xs:List (Nat×Operand)} {vs:List (Nat×Value)},(∀x∈xs.map (·.2),∀v,ev E fr x=some v->VR σ v (a.eval x))->parts? E fr xs=some vs->
  PRs σ vs (xs.map λ(i,x)=>(i,a.eval x))
 | [],vs,_,h=>by simp[parts?]at h;subst h;exact .nil
 |(i,x)::xs,vs,g,h=>by
  simp only[parts?]at h
  split at h
  ·cases h
  ·cases h
  rename_i v b hv
  simp only[Option.map_eq_some_iff]at h
  obtain⟨j,l,rfl⟩:=h
  exact .cons (g x (by simp) v hv) (λc e=>b c e) (uL (λy k=>g y (by simp only[List.map_cons,List.mem_cons];exact .inr k)) l)
theorem VRs.take:∀{l x:List Value} (n:Nat),VRs σ l x->VRs σ (l.take n) (x.take n)
 |_,_,0,_=>by simpa using VRs.nil
 |_,_,_+1,.nil=>.nil
 |_,_,n+1,.cons h y=>.cons h (VRs.take n y)
theorem VRs.drop:∀{l x:List Value} (n:Nat),VRs σ l x->VRs σ (l.drop n) (x.drop n)
 |_,_,0,h=>h
 |_,_,_+1,.nil=>.nil
 |_,_,n+1,.cons _ y=>VRs.drop n y
theorem qEl(off:Nat):∀(vs:List Value) (k:Nat) (cs:Array Value),off+k+vs.length<=cs.size->
  ((vs.zipIdx k).foldl (λ(cs:Array Value) (x:Value×Nat)=>cs.setIfInBounds (off+x.2) x.1) cs).toList=cs.toList.take (off+k)++vs++cs.toList.drop (off+k+vs.length)
 | [],k,cs,_=>by simp
 |v::vs,k,cs,h=>by
  simp only[List.zipIdx_cons,List.foldl_cons]
  rw[qEl off vs (k+1) _ (by simp at h ⊢;omega)]
  have y:off+k<cs.toList.length:=by simp at h ⊢;omega
  simp only[Array.toList_setIfInBounds]
  apply List.ext_getElem?
  intro j
  simp only[List.getElem?_append,List.length_append,List.length_take,List.length_set,List.getElem?_take,List.getElem?_drop,List.getElem?_set,List.length_cons]
  grind
theorem qHC{p:Value->Bool}{l:List Value}(n:Nat)(h:l.all p=true):(l.take n).all p=true:=by grind
theorem qHD{p:Value->Bool}{l:List Value}(n:Nat)(h:l.all p=true):(l.drop n).all p=true:=by grind
theorem sS(y:Nat->Option (Nat×Nat)):∀{ps b:List (Nat×Value)} {cs r:List Value} {cs':Array Value},PRs σ ps b->VRs σ cs cs'.toList->cs.all qH=true->
  dN cs ps y=some r->∃o,Instr.fill y cs' b=some o/\VRs σ r o.toList/\r.all qH=true/\r.length=cs.length
 |_,_,cs,r,cs',.nil,k,p,h=>by
  simp[dN]at h;subst h;exact⟨cs',rfl,k,p,rfl⟩
 | _,_,cs,r,cs',.cons (i:=i) (v:=v) (v':=v') hv B C,k,p,h=>by
  simp only[dN]at h
  split at h
  ·cases h
  rename_i off size F
  simp only[qZ]at h
  split at h
  case isFalse=>cases h
  rename_i t
  split at h
  case h_2=>cases h
  rename_i l mJ
  obtain⟨G,g2⟩:=mS _ _ _ _ mJ
  have j:=k.length
  have c:=hv.cells.length
  have u:=qEl off v'.cells.toList 0 cs' (by simp only[Array.length_toList]at j c G t ⊢;omega)
  have q:VRs σ l (v'.cells.zipIdx.foldl (λ(cs:Array Value) (x:Value×Nat)=>cs.setIfInBounds (off+x.2) x.1) cs').toList:=by
   have e:v'.cells.zipIdx.foldl (λ(cs:Array Value) (x:Value×Nat)=>cs.setIfInBounds (off+x.2) x.1) cs' =
     (v'.cells.toList.zipIdx 0).foldl (λ(cs:Array Value) (x:Value×Nat)=>cs.setIfInBounds (off+x.2) x.1) cs':=by
    rw[←Array.foldl_toList,Array.toList_zipIdx]
   rw[e,u,g2,c]
   exact((k.take _).append hv.cells).append (k.drop _)
  have g:l.all qH=true:=by
   rw[g2,List.all_append,List.all_append,qHC _ p,qHD _ p,hv.cells_one B];rfl
  obtain⟨o,J,A,z,I⟩:=sS y C q g h
  refine⟨o,?_,A,z,?_⟩
  ·simp only[Instr.fill,F]
   grind
  grind
theorem yW(z:List Value):∀n,(xM z n).length=n*z.length
 |0=>by simp[xM]
 |n+1=>by simp[xM,yW z n,Nat.succ_mul];omega
theorem qGh(z:List Value):∀n i,i<n*z.length->(xM z n)[i]? = z[i%z.length]?
 |0,i,h=>by simp at h
 |n+1,i,h=>by
  rw[Nat.succ_mul]at h;simp only[xM];by_cases x:i<z.length
  ·rw[List.getElem?_append_left x,Nat.mod_eq_of_lt x]
  rw[List.getElem?_append_right (by omega),qGh z n (i-z.length) (by omega)]
  congr 1
  exact(Nat.mod_eq_sub_mod (by omega)).symm
theorem qBR{z:List Value}{v:Value}:∀{n:Nat},v∈xM z n->v∈z
 |0,h=>by simp[xM]at h
 |n+1,h=>by simp only[xM,List.mem_append]at h;exact h.elim id qBR
theorem aI(z:Array Value)(n s:Nat)(y:s=z.size):((Array.range (n*s)).map (λi=>z[i%z.size]!)).toList=xM z.toList n:=by
 subst y;apply List.ext_getElem?;intro i;by_cases h:i<n*z.size
 ·rw[qGh z.toList n i (by simpa using h)];have x:0<z.size:=by grind
  have hm:i%z.size<z.size:=Nat.mod_lt _ x;simp[h,hm]
 have b:(xM z.toList n).length<=i:=by rw[yW];simp;omega
 grind
theorem qCF:∀{l:List Value},(∀v∈l,VR σ v v)->VRs σ l l
 | [],_=>.nil
 |v::l,h=>.cons (h v (by simp)) (qCF λu hu=>h u (by simp[hu]))
theorem oQ{v:Value}{z:List Value}(h:zK v=true)(x:v.cells.toList=z):VRs σ z z:=by have:=(xC (σ:=σ) 6 v h).cells;rw[x]at this;exact this
theorem VRs.mem_refl:∀{l:List Value},VRs σ l l->∀v∈l,VR σ v v
 |_,.nil,v,h=>by simp at h
 |_,.cons h x,v,hv=>by
  simp at hv;rcases hv with rfl|hv
  ·exact h
  exact VRs.mem_refl x v hv
theorem e9{z:List Value}(h:VRs σ z z)(n:Nat):VRs σ (xM z n) (xM z n):=qCF λv hv=>h.mem_refl v (qBR hv)
theorem sJ{z:List Value}(h:z.all qH=true)(n:Nat):(xM z n).all qH=true:=by rw[List.all_eq_true]at h ⊢;exact λv hv=>h v (qBR hv)
end
def qMw(E:Env)(σ:vH)(w:World):AR->Next->Prop
 |.val v,.value v'=>VR σ v v'
 |.skip,.skip=>True
 |.rcv,.recover=>True
 |.enter f x,.enter y h=>y=f/\VRs σ x h.toList/\∃fn,E.funcs.get f=some fn
 |.round l x,nx=>∃(L:Loc) (lo:Loop) (h:List Value),σ l=some L/\w.heap[L.blk]? = some (.loop lo)/\VRs σ x h/\h.length=lo.params.size/\nx=.round L.blk lo.fn ((lo.params.zip ⟨h⟩).foldl (λtmps (t,a)=>tmps.setIfInBounds t a) lo.tmps) lo.assign lo.body
 |_,_=>False
def j9(E:Env)(σ:vH)(H:AH)(w:World)(r:qEJ)(s:Sem Next):Prop:=
 ∀x H',r=some (x,H')->wV σ H.next H'.next->∃h w' nx,s.run E.prog w=.ok nx w'/\Step E σ H w h H' w'/\qMw E h w' x nx
section
variable{E:Env}{σ:vH}{H:AH}{w:World}{fr:Fr}{a:Act}
theorem j9.one(y:HR E σ H w){x:Option Value}{s:Sem Value}(h:∀v,x=some v->∃v',s.run E.prog w=.ok v' w/\VR σ v v'):j9 E σ H w (one H x) (do pure (.value (←s))):=by intro e H' he _;simp only[Go.Am.one,Option.map_eq_some_iff]at he;obtain⟨v,hv,he⟩:=he;cases he;obtain⟨v',c,b⟩:=h v hv;exact⟨σ,w,.value v',by simp[c],Step.refl y,b⟩
theorem j9.none{s:Sem Next}:j9 E σ H w none s:=λ_ _ h=>by cases h
theorem qD4(k:HR E σ H w)(e:σ H.next=none){cs:List Value}{cs':Array Value}{el:TypeId}(hv:VRs σ cs (cs'.toList.take cs.length))(l:cs.length<=cs'.size)(j:cs.all qH=true):∃L,L.blk=w.heap.size/\L.off=0/\L.ext=cs'.size/\(∀x,E.types.get el=some x->L.sz=x.size)/\Step E σ H w (σ.add H.next L) (H.new (.cells cs el)) (World.push w (.cells cs' el)):=by
 let L:Loc:=⟨w.heap.size,0,cs'.size,match E.types.get el with|some x=>x.size|none=>0⟩;have y:∀x,E.types.get el=some x->L.sz=x.size:=λx h=>by simp[L,h]
 refine⟨L,rfl,rfl,rfl,y,Step.new k e _ _ L rfl ?_⟩;refine⟨λ_=>⟨.inl rfl,rfl,Nat.zero_mod _⟩,by simp[L],l,y,λi v c=>?_⟩;rw[List.all_eq_true]at j;refine⟨j v (List.mem_of_getElem? c),?_⟩;obtain⟨v',g,o⟩:=hv.get i v c;have b:i<cs.length:=(gI c).1;rw[List.getElem?_take_of_lt b,Array.getElem?_toList]at g;exact⟨v',by simpa[L]using g,o.mono (vH.add_le e)⟩
theorem iS(y:HR E σ H w)(b:σ H.next=none){cs cs':List Value}{el:TypeId}(hv:VRs σ cs cs')(c:cs.all qH=true):∃L,L.blk=w.heap.size/\L.off=0/\L.ext=cs.length/\(∀x,E.types.get el=some x->L.sz=x.size)/\Step E σ H w (σ.add H.next L) (H.new (.cells cs el)) (World.push w (.cells ⟨cs'⟩ el)):=by have h:=hv.length;obtain⟨L,g1,g2,g3,g4,g5⟩:=qD4 y b (cs':=⟨cs'⟩) (el:=el) (by rw[←h];simpa using hv) (by simp[h]) c;exact⟨L,g1,g2,by rw[g3];simp[h],g4,g5⟩
theorem wV.head{n x:Nat}(h:wV σ n x)(y:n<x):σ n=none:=h n (vE _) y
theorem qMr(he:EOk E)(c:HR E σ H w)(t:TypeId):
  j9 E σ H w (match E.types.get t with
   |some {zero:=some z,..}=>some (.val (.pointer (some ⟨H.next,0,none⟩)),H.new (.cells z t))
   |_=>none) (do pure (.value (←Instr.alloc t true (.tuple #[])))):=by
 intro r H' h e
 split at h
 case h_2=>cases h
 rename_i p d sz o z ag b
 cases h
 obtain⟨v,l,k,y,j,q⟩:=gA he b rfl w
 have x:=e.head (Nat.lt_succ_self _)
 obtain⟨L,g1,g2,g3,g4,g5⟩:=iS c x (el:=t) (oQ (σ:=σ) k y) j
 refine⟨_,_,.value (.pointer (some ⟨w.heap.size,0,none⟩)),?_,g5,?_⟩
 ·have:v.cells=⟨z⟩:=by cases g:v.cells;simp[g]at y;rw[y]
  simp[Instr.alloc,l,newVar,newRow,World.push,this]
 have:=VR.ptr (σ:=σ.add H.next L) (i:=0) vH.add_self
 rw[g1,g2]at this
 exact this
theorem qSV(he:EOk E)(b:HR E σ H w)(t:TypeId){v v':Value}(hv:VR σ v v')(x:∀c,v≠.tuple c):j9 E σ H w (some (.val (.pointer (some ⟨H.next,0,none⟩)),H.new (.cells v.cells.toList t))) (do pure (.value (←Instr.box t v'))):=by
 intro g H' h e;cases h;have y:=e.head (Nat.lt_succ_self _);obtain⟨L,g1,g2,g3,g4,g5⟩:=iS b y (el:=t) hv.cells (hv.cells_one x);refine⟨_,_,.value (.pointer (some ⟨w.heap.size,0,none⟩)),?_,g5,?_⟩
 ·simp[Instr.box,newVar,newRow,World.push]
 have:=VR.ptr (σ:=σ.add H.next L) (i:=0) vH.add_self;rw[g1,g2]at this;exact this
theorem qBZ(he:EOk E):∀(fs:List Field),(∀f∈fs,∃c,E.types.get f.type=some c)->
  ∃y:List (Nat×Nat),(fs.mapM (λ(f:Field)=>(do pure (f.offset,←sizeOf f.type):Sem (Nat×Nat)))).run E.prog w=.ok y w/\∀i p,fieldPlace? E fs i=some p->y[i]? = some p
 | [],_=>⟨[],by simp,by simp[fieldPlace?]⟩
 |f::fs,h=>by
  obtain⟨y,k,j⟩:=qBZ he fs λg e=>h g (by simp[e])
  obtain⟨c,x⟩:=h f (by simp)
  refine⟨(f.offset,c.size)::y,?_,?_⟩
  ·simp only[List.mapM_cons,Sem.run_bind,zX he x,Result.andThen_ok,k,Sem.run_pure]
  intro i p b
  cases i with
  |zero=>simp[fieldPlace?,x]at b;simp[b]
  |succ i=>simpa using j i p (by simpa[fieldPlace?]using b)
theorem qD1{place place':Nat->Option (Nat×Nat)}(c:∀i p,place i=some p->place' i=some p):∀(x:List (Nat×Value)) (cs r:List Value),
  dN cs x place=some r->dN cs x place'=some r
 | [],cs,r,h=>h
 |(i,v)::x,cs,r,h=>by
  simp only[dN]at h ⊢
  split at h
  ·cases h
  rename_i off size b
  rw[c i _ b]
  simp only[qZ]at h ⊢
  split at h
  case isFalse=>cases h
  rename_i y
  rw[if_pos y]
  split at h
  case h_2=>cases h
  exact qD1 c x _ _ h
theorem qMg(he:EOk E){t:TypeId}{ps y:List (Nat×Value)}{v:Value}(q:PRs σ ps y)(h:qAn E t ps=some v):∃v',(Instr.build t ⟨y⟩).run E.prog w=.ok v' w/\VR σ v v':=by
 unfold qAn at h;split at h
 ·rename_i I fs sz G z ag g;simp only[Option.map_eq_some_iff]at h;obtain⟨l,u,rfl⟩:=h;obtain⟨o,C,B,j,A,M⟩:=gA he g rfl w;obtain⟨J,L,K⟩:=qBZ (w:=w) he fs.toList (he.fields t _ fs g rfl);have r:=qD1 (place':=λx=>J[x]?) (λi p q=>K i p q) _ _ _ u;obtain⟨c,g1,g2,g3,g4⟩:=sS (σ:=σ) (cs':=o.cells) _ q (by rw[j];exact oQ B j) A r;refine⟨.agg c,?_,by cases c;exact .agg g2 g3⟩;simp only[Instr.build,Sem.run_bind,C,Result.andThen_ok,zV he g,Array.mapM_eq_mapM_toList,Sem.run_map,L];simp[g1]
 ·rename_i I n k sz G z ag g;cases b:E.types.get k with
  |none=>simp[b]at h
  |some e=>simp only[b,Option.bind_some,Option.map_eq_some_iff]at h;obtain⟨l,u,rfl⟩:=h;obtain⟨o,C,B,j,A,M⟩:=gA he g rfl w;obtain⟨c,g1,g2,g3,g4⟩:=sS (σ:=σ) (cs':=o.cells) _ q (by rw[j];exact oQ B j) A u;refine⟨.agg c,?_,by cases c;exact .agg g2 g3⟩;have F:Instr.fill (λi=>some (i*e.size,e.size)) o.cells y=some c:=g1;simp only[Instr.build,Sem.run_bind,C,Result.andThen_ok,zV he g,zX he b];simp[F]
 cases h
theorem qC7(he:EOk E)(U:HR E σ H w){t:TypeId}{n:Nat}{ps k:List (Nat×Value)}(V:PRs σ ps k):j9 E σ H w (kE E H t n ps) (do pure (.value (←Instr.buildSlice t n ⟨k⟩))):=by
 intro ar H' h X;unfold kE at h;split at h;case h_2=>cases h
 rename_i ti r sz by_ z0 ag J;split at h;case h_2=>cases h
 rename_i dd ed x eby N eag g;rw[gH,qZ,vU]at h;split at h;case isFalse=>cases h
 rename_i A;split at h;case isFalse=>cases h
 rename_i M;simp only[Option.map_eq_some_iff]at h;obtain⟨l,W,h⟩:=h;cases h;obtain⟨u,h1,h2,F,h4,h5⟩:=gA he g rfl w;have z:=oQ (σ:=σ) h2 F;have o:u.cells.size=x:=by rw[←A,←F];simp
 have C:n*x+n<=1000000:=by have:Nat.mul n (Nat.succ x)=n*x+n:=Nat.mul_succ n x;omega
 obtain⟨j,e,S⟩:∃j:Array Value,j=(if n*x=0 then #[]else u.cells)/\
   ((Array.range (n*x)).map (λi=>j[i%j.size]!)).toList=xM N n:=by
  by_cases y:n*x=0
  ·refine⟨#[],by simp[y],?_⟩
   rw[y]
   have:(xM N n).length=0:=by rw[yW,A,y]
   simp[List.length_eq_zero_iff.1 this]
  refine⟨u.cells,by simp[y],?_⟩
  rw[aI u.cells n x o.symm,F]
 obtain⟨O,g1,g2,g3,g4⟩:=sS (σ:=σ) (cs':=(Array.range (n*x)).map (λi=>j[i%j.size]!)) _ V (by rw[S];exact e9 z n) (sJ h4 n) W;have q:Instr.fill (λi=>some (i*x,x)) ((Array.range (n*x)).map (λi=>j[i%j.size]!)) k=some O:=g1;have B:=X.head (Nat.lt_succ_self _);obtain⟨L,I,G,R,Q,P⟩:=iS U B (el:=r) g2 g3;refine⟨_,_,.value (.slice (some ⟨w.heap.size,0,none⟩) n n),?_,P,?_⟩
 ·have p:¬n*x>2^24:=by omega
  by_cases y:n*x=0
  ·rw[if_pos y]at e;subst e;simp only[Instr.buildSlice,Sem.run_bind,zV he J,Result.andThen_ok,zX he g,if_neg p,if_pos y,Sem.run_pure,q];simp[newRow,World.push]
  rw[if_neg y]at e;subst e;simp only[Instr.buildSlice,Sem.run_bind,zV he J,Result.andThen_ok,zX he g,if_neg p,if_neg y,Sem.run_pure,h1,q];simp[newRow,World.push]
 have K:n<zI:=by unfold zI;omega
 by_cases y:n=0
 ·have:=VR.sliceE (σ:=σ.add H.next L) (i:=0) (l:=n) (c:=n) vH.add_self (vE _) K;rw[I,G]at this;subst y;exact this
 have:=VR.sliceX (σ:=σ.add H.next L) (b:=H.next) (i:=0) (l:=n) (c:=n) vH.add_self (vE _) K (by rw[R,Q _ g,g4,yW,A];simp);rw[I,G]at this;have hb:Nat.beq n 0=false:=by
  cases Z:Nat.beq n 0 with
  |false=>rfl
  |true=>exact absurd (vP Z) y
 rw[hb];exact this
end
end Go.Am
