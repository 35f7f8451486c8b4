/- What came in, opened: an abstract heap with a block for every list. Conditions: none. -/
import Derived.Test.YtminhjecpnpaeaaGreatDoorUn
import Derived.Test.YtminhjecpnpaeaaGreatDoorAm7
import Derived.WalkKit
import Derived.OpenShut
import Derived.Deep.Slices
import Derived.Deep.Strs
set_option linter.unusedVariables false
set_option linter.unusedSimpArgs false
namespace Go.Am
open Go
def qNm(P:Program)(rec:TypeId->Option (List Sh)):List Field->List Sh->Option (List Sh)
 | [],acc=>some acc
 |f::r,acc=>bif Nat.beq f.offset acc.length then match rec f.type with
  |some s=>bif Nat.beq (P.cellsOf f.type) s.length then qNm P rec r (acc++s)else none
  |none=>none
  else none
def qHF(P:Program)(e:TypeId)(ss:List Sh):Option Sh:=match P.underlying e with
 |some (.struct _)=>some (.st ss)
 |some (.array _ _)=>none
 |_=>match ss with
  | [s]=>some s
  |_=>none
def oG(P:Program):Nat->TypeId->Option (List Sh)
 |0,_=>none
 | n+1,t=>match P.underlying t with
  |some .bool=>some [.bool]
  |some (.int k)=>some [.int k]
  |some .string=>some [.str]
  | some (.slice e)=>match oG P n e with
   |some ss=>match qHF P e ss with
    |some s=>bif Nat.beq (P.cellsOf e) ss.length&&Nat.blt 0 ss.length then some [.sl e ss.length s]else none
    |none=>none
   |none=>none
  |some (.struct h)=>match qNm P (oG P n) h.toList []with
   |some ss=>bif Nat.beq (P.cellsOf t) ss.length then some ss else none
   |none=>none
  |_=>none
structure Bk where
 loc:Option Loc
 cs:List Value
 el:TypeId
def Bk.a(k:Bk):ABlk:=⟨.cells k.cs k.el,0,false⟩
def fA(m:Nat):List (Nat×ABlk)->T ABlk->T ABlk
 | [],t=>t
 |p::r,t=>if p.1<m then(fA m r t).put p.1 (some p.2)else fA m r t
def jW(b:Nat):List (Nat×ABlk)->Option ABlk
 | []=>none
 |p::r=>if b=p.1 then some p.2 else jW b r
theorem dR{m b:Nat}{t:T ABlk}:∀l:List (Nat×ABlk),(fA m l t).get b=if b<m then(match jW b l with|some k=>some k|none=>t.get b)else t.get b
 | []=>by simp[fA,jW]
 |p::r=>by
  unfold fA jW;by_cases h:p.1<m
  ·rw[if_pos h,T.get_put,dR r];grind
  rw[if_neg h,dR r];grind
def qCI(E:Env)(b:Nat):Loc:=match jW b E.laid with
 |some ⟨.cells cs el,_,_⟩=>⟨b,0,cs.length,match E.types.get el with|some h=>h.size|none=>0⟩
 |_=>⟨b,0,0,0⟩
theorem qCH(E:Env)(b:Nat):(qCI E b).blk=b/\(qCI E b).off=0:=by unfold qCI;split<;>exact⟨rfl,rfl⟩
def fW(E:Env)(m:Nat)(L:List Bk):AH:={blocks:=fA m E.laid (T.ofList .leaf m (L.map Bk.a)),next:=Nat.add m L.length,low:=qT}
def mQ(E:Env)(m:Nat)(L:List Bk):zU:=λb=>if b<m then some (qCI E b)else L[b-m]?.bind Bk.loc
theorem tN(E:Env)(m:Nat)(L:List Bk)(b:Nat):(fW E m L).blocks.get b=if m<=b then L[b-m]?.map Bk.a else jW b E.laid:=by
 have y:(T.ofList .leaf m (L.map Bk.a)).get b=if m<=b then L[b-m]?.map Bk.a else none:=by
  rw[gP];by_cases h:m<=b/\b<m+(L.map Bk.a).length
  ·grind
  rw[if_neg h];by_cases x:m<=b
  ·rw[if_pos x,List.getElem?_eq_none (by simp at h;omega)];rfl
  rw[if_neg x];rfl
 simp only[fW];rw[dR,y];grind
theorem tO{E:Env}{m:Nat}{L x:List Bk}:zB.le (fW E m L).blocks.get (fW E m (L++x)).blocks.get:=by intro b k h;rw[tN]at h ⊢;grind
theorem dP{E:Env}{m:Nat}{L x:List Bk}:zU.le (mQ E m L) (mQ E m (L++x)):=by intro b l h;unfold mQ at h ⊢;grind
def qEO(E:Env)(m:Nat)(W:World)(L:List Bk):Prop:=∀(i:Nat) (k:Bk) (l:Loc),L[i]? = some k->k.loc=some l->∃o,W.heap[l.blk]? = some o/\oA E (mQ E m L) l false (.cells k.cs k.el) o
theorem qEO.snoc{E:Env}{m:Nat}{W:World}{L:List Bk}{k:Bk}(h:qEO E m W L)(j:∀l,k.loc=some l->∃o,W.heap[l.blk]? = some o/\oA E (mQ E m L) l false (.cells k.cs k.el) o):qEO E m W (L++[k]):=by
 intro i k' l x g;rcases Nat.lt_or_ge i L.length with y|b
 ·rw[List.getElem?_append_left y]at x;obtain⟨o,e,c⟩:=h i k' l x g;exact⟨o,e,c.mono dP⟩
 rw[List.getElem?_append_right b]at x;have:i-L.length=0:=by grind
 rw[this]at x;simp only[List.getElem?_cons_zero,oI]at x;subst x;obtain⟨o,e,c⟩:=j l g;exact⟨o,e,c.mono dP⟩
theorem qCA:∀{x:List Sh} {cs:List D},jB x cs->cs.length=x.length
 | [],cs,h=>by simp only[jB]at h;rw[h];rfl
 |s::ss,cs,h=>by simp only[jB]at h;obtain⟨d,ds,rfl,_,y⟩:=h;simp[qCA y]
theorem qCB:∀{ss ts:List Sh} {ds es:List D},jB ss ds->jB ts es->jB (ss++ts) (ds++es)
 | [],_,ds,es,h,x=>by simp only[jB]at h;subst h;exact x
 |s::ss,_,ds,es,h,x=>by simp only[jB]at h;obtain⟨d,ds,rfl,b,y⟩:=h;simp only[List.cons_append,jB];exact⟨d,ds++es,rfl,b,qCB y x⟩
theorem qEX{σ:zU}:∀{l x k k':List Value},VRs σ l x->VRs σ k k'->VRs σ (l++k) (x++k')
 |_,_,_,_,.nil,h=>h
 |_,_,_,_,.cons h y,b=>.cons h (qEX y b)
section
variable{E:Env}{H:Type}{enc:TypeId×Value->H}{P:Program}{W:World}{m:Nat}
def qQT(st:Bool)(ds:List D):D:=bif st then .agg ds else ds.headD .nil
theorem qRQ{e:TypeId}{ss:List Sh}{s:Sh}{n:Nat}(c:oG P n e=some ss)(h:qHF P e ss=some s):∃st,∀ds,jB ss ds->vF s (qQT st ds)/\(qQT st ds).cells=ds:=by
 unfold qHF at h;split at h
 ·rename_i y hu;simp only[oI]at h;subst h;exact⟨true,λds hd=>⟨⟨ds,rfl,hd⟩,rfl⟩⟩
 ·cases h
 rename_i i g;split at h;case h_2=>cases h
 rename_i b;simp only[oI]at h;subst h;refine⟨false,λds hd=>?_⟩;simp only[jB]at hd;obtain⟨d,l,rfl,hd,rfl⟩:=hd;refine⟨hd,?_⟩;show D.cells d=[d];have x:∀y,b≠.st y:=by
  intro y j;cases n with
  |zero=>cases c
  |succ n=>simp only[oG]at c;grind
 cases b with
 |int k=>simp only[vF]at hd;obtain⟨n,rfl⟩:=hd;rfl
 |bool=>simp only[vF]at hd;obtain⟨n,rfl⟩:=hd;rfl
 |str=>simp only[vF]at hd;obtain⟨n,rfl⟩:=hd;rfl
 |st y=>exact absurd rfl (x y)
 |sl el sz e=>simp only[vF]at hd;rcases hd with rfl|⟨es,rfl,_⟩<;>rfl
end
end Go.Am
namespace Go.Am
open Go
section
variable{E:Env}{H:Type}{enc:TypeId×Value->H}{P:Program}{W:World}{m:Nat}
theorem qHq{n sz:Nat}(f:Nat->List Value)(k:∀i,i<n->(f i).length=sz)(e:0<sz):∀(i:Nat),i<n*sz->(((List.range n).map f).flatten)[i]? = (f (i/sz))[i%sz]? :=by
 have y:∀(l:List (List Value)),(∀c∈l,c.length=sz)->∀i,l.flatten[i]? = (l[i/sz]?.getD [])[i%sz]? :=by
  intro l;induction l with
  |nil=>intro _ i;simp
  |cons c l ih=>
   intro h i;have b:=h c List.mem_cons_self;rw[List.flatten_cons];rcases Nat.lt_or_ge i sz with x|x
   ·rw[List.getElem?_append_left (by omega),Nat.div_eq_of_lt x,Nat.mod_eq_of_lt x];rfl
   rw[List.getElem?_append_right (by omega),ih (λd hd=>h d (mC _ hd)),b];have p:i/sz=(i-sz)/sz+1:=by rw[Nat.div_eq_sub_div e x]
   have o:i%sz=(i-sz)%sz:=Nat.mod_eq_sub_mod x;rw[p,o];rfl
 intro i x;rw[y _ (λc b=>by obtain⟨j,g,rfl⟩:=List.mem_map.1 b;exact k j (List.mem_range.1 g))];have hd:i/sz<n:=Nat.div_lt_of_lt_mul (by rw[Nat.mul_comm];exact x);rw[List.getElem?_map,List.getElem?_range hd];rfl
theorem qTN{σ:zU}{vs cs:List Value}(h:VRs σ vs cs){i:Nat}{v:Value}(hv:vs[i]? = some v):∃v',cs[i]? = some v'/\VR σ v v':=h.get i v hv
theorem take?_all:∀(l:List Value) (n:Nat),n=l.length->take? l n=some l
 | [],0,_=>rfl
 | [],_+1,h=>by simp at h
 |_::_,0,h=>by simp at h
 |x::l,n+1,h=>by simp only[take?,take?_all l n (by simpa using h),Option.map_some]
theorem qA2{sz:Nat}:∀l:List (List Value),(∀c∈l,c.length=sz)->l.flatten.length=l.length*sz
 | [],_=>by simp
 |c::l,h=>by rw[List.flatten_cons,List.length_append,h c List.mem_cons_self,qA2 l (λd hd=>h d (mC _ hd)),List.length_cons,Nat.succ_mul,Nat.add_comm]
theorem qHS{st:Bool}:∀x:List (List D),(∀d∈x,(qQT st d).cells=d)->(x.map (qQT st)).flatMap D.cells=x.flatten
 | [],_=>rfl
 |d::x,h=>by rw[List.map_cons,List.flatMap_cons,List.flatten_cons,h d List.mem_cons_self,qHS x (λc y=>h c (mC _ y))]
end
end Go.Am
namespace Go.Am
open Go
section
variable{E:Env}{H:Type}{enc:TypeId×Value->H}{P:Program}{W:World}{m:Nat}
def qAC(P:Program)(n:Nat):List TypeId->Option (List Sh)
 | []=>some []
 | t::ts=>match oG P n t with
  |some ss=>match qHF P t ss,qAC P n ts with
   |some s,some r=>some (s::r)
   |_,_=>none
  |none=>none
theorem fJ{L:List Bk}{b:Nat}{k:ABlk}(h:(fW E m L).blocks.get b=some k):(m<=b/\b<m+L.length/\∃x,L[b-m]? = some x/\k=x.a)∨(b<m/\jW b E.laid=some k):=by rw[tN]at h;grind
structure TabOK (E:Env) (m:Nat) (W:World):Prop where
 nodup:(E.laid.map Prod.fst).Nodup
 lt:∀p∈E.laid,p.1<m/\p.2.root<=p.1/\p.2.own=false
 at_:∀p∈E.laid,∀σ:zU,∃o,W.heap[p.1]? = some o/\oA E σ (qCI E p.1) false p.2.obj o
theorem oS{b:Nat}{k:ABlk}:∀{l:List (Nat×ABlk)},jW b l=some k->(b,k)∈l
 | [],h=>by cases h
 |p::r,h=>by
  unfold jW at h;split at h
  ·grind
  exact mC _ (oS h)
theorem qA4{p:Nat×ABlk}:∀{l:List (Nat×ABlk)},(l.map Prod.fst).Nodup->p∈l->jW p.1 l=some p.2
 | [],_,h=>by cases h
 |q::r,x,h=>by
  rw[List.map_cons,List.nodup_cons]at x;unfold jW;rcases List.mem_cons.1 h with rfl|h
  ·rw[if_pos rfl]
  rw[if_neg (λe=>x.1 (by rw[←e];exact List.mem_map.2 ⟨p,h,rfl⟩))];exact qA4 x.2 h
theorem qQ7{W:World}(x:TabOK E m W){L:List Bk}:qJF E (fW E m L).blocks.get:=by intro p h;rw[tN,if_neg (by have:=(x.lt p h).1;omega)];exact qA4 x.nodup h
theorem qRh(i:m=E.prog.globals.size)(e:TabOK E m W){L:List Bk}(hL:qEO E m W L):HR E (mQ E m L) (fW E m L) W:=by
 refine⟨?_,?_,?_,?_⟩
 ·intro b k l j y;rcases fJ j with⟨c,h,x,h3,rfl⟩|⟨c,h⟩
  ·unfold mQ at y;rw[if_neg (by omega),h3]at y;exact hL _ x l h3 y
  unfold mQ at y;rw[if_pos c]at y;cases y;have i:=oS h;obtain⟨o,C,B⟩:=e.at_ _ i (mQ E m L);rw[(qCH E b).1];have r:=(e.lt _ i).2.2;grind
 ·intro u t q p z w c _ A;rcases fJ c with⟨_,_,x,_,rfl⟩|⟨_,h⟩
  ·cases A
  have:=(e.lt _ (oS h)).2.2;grind
 ·intro g F;exact⟨qCI E g,by unfold mQ;rw[if_pos (by omega)],(qCH E g).1,(qCH E g).2⟩
 intro b k j;rcases fJ j with⟨c,h,x,h3,rfl⟩|⟨c,h⟩
 ·exact⟨Nat.zero_le _,h⟩
 exact⟨(e.lt _ (oS h)).2.1,by show b<m+L.length;omega⟩
theorem qHd(u:m=E.prog.globals.size)(o:TabOK E m W){f:FuncId}{ds:List D}{b:Bool}(h:Holds E f ds (.leaf (.bool b))){L:List Bk}(hL:qEO E m W L){az y:List Value}(hd:DRs (fW E m L).blocks.get ds az)(hv:VRs (mQ E m L) az y):Calls E.prog f ⟨y⟩ W λe w'=>e=.returned (.bool b)/\Kept W w':=by
 have q:=qRh u o hL;have h:qJG E f ds (.leaf (.bool b)):=by
  rcases h with⟨_,h⟩|⟨_,_,_,_,rfl,_⟩
  ·exact h
  cases hd with
  |cons p _=>cases p
 obtain⟨v,H',g',p,r,h3,M,K,J,I,G,A⟩:=h.2 (fW E m L) (fW E m L).blocks.get az (λb k g=>q.wf b k g) (zB.le_refl _) (qQ7 o) hd;have c:yD (mQ E m L) (fW E m L).next H'.next:=by intro b g _;have w:m+L.length<=b:=g;unfold mQ;grind
 refine(p (mQ E m L) W y q hv c).mono λe w' ⟨t,v',F,C,st⟩=>?_;have i:v=.bool b:=A.leaf_inv.1;subst i;cases C;refine⟨F,st.size,λB z=>st.frame B z (λb k l g j=>?_),st.tape,st.os,st.output.1⟩;rcases fJ g with⟨_,_,x,_,rfl⟩|⟨_,r⟩
 ·cases j
 have:=(o.lt _ (oS r)).2.2;simp only at this;rw[this]at j;cases j
end
end Go.Am
namespace Go.Am
open Go
section
variable{E:Env}
theorem qLp{σ:zU}{H:AH}{w w':World}(hr:HR E σ H w)(k:KeptD w w'):Step E σ H w σ {H with next:=H.next+1} w':=by
 have s:=Step.kept hr k;exact
 { hr:=⟨s.hr.objs,s.hr.sep,s.hr.glob,λb h x=>⟨(hr.wf b h x).1,Nat.lt_succ_of_lt (hr.wf b h x).2⟩⟩
   next:=Nat.le_succ _,ext:=λ_ _=>rfl,size:=s.size,low:=lR _,tape:=s.tape,os:=s.os,output:=s.output,frame:=s.frame,
   origin:=s.origin,old:=λb h x _=>⟨h,x,rfl,rfl⟩,keep:=s.keep,born:=λb h x y=>absurd (hr.wf b h x).2 (Nat.not_lt.2 y)}
theorem qFG{f:FuncId}(p:∃fn,E.funcs.get f=some fn)(h:∀w,Calls E.prog f #[] w λe w'=>e=.returned (.bool true)/\KeptD w w')(y:f<gM:=by decide):Holds E f [] (dB true):=by refine .inl ⟨y,p,λH g j x o _ hd=>?_⟩;cases hd;refine⟨.bool true,{H with next:=H.next+1},g,?_,Nat.lt_succ_self _,λb k i=>⟨(x b k i).1,Nat.lt_succ_of_lt (x b k i).2⟩,λ_ _=>rfl,Nat.min_le_left _ _,zB.le_refl _,o,λ_ _=>rfl,.leaf rfl⟩;intro σ w c l hv _;cases hv;exact(h w).mono λe w' ⟨r,q⟩=>⟨σ,.bool true,r,.leaf rfl,qLp l q⟩
theorem qIs(he:EOk E){t:TypeId}{x:TI}(h:E.types.get t=some x):x.size=E.prog.cellsOf t:=by obtain⟨i,b,_,y,_⟩:=he.types t x h;rw[y];simp only[Program.cellsOf,b,Option.map_some,Option.getD_some]
end
end Go.Am
