/- What came in, opened: an abstract heap with a block for every list. Conditions: none. -/
import Derived.Test.YtpbmnkajhedaiaaGreatUn
import Derived.Test.YtpbmnkajhedaiaaGreatAm7
import Derived.WalkKit
import Derived.OpenShut
import Derived.Deep.Slices
import Derived.Deep.Strs
set_option linter.all false
namespace Go.Am
open Go
def qOb(P:Program)(rec:TypeId->Option (List Sh)):List Field->List Sh->Option (List Sh)
 | [],acc=>some acc
 |f::r,acc=>bif Nat.beq f.offset acc.length then match rec f.type with
  |some s=>bif Nat.beq (P.cellsOf f.type) s.length then qOb P rec r (acc++s)else none
  |none=>none
  else none
def qHe(P:Program)(e:TypeId)(ss:List Sh):Option Sh:=match P.underlying e with
 |some (.struct _)=>some (.st ss)
 |some (.array _ _)=>none
 |_=>match ss with
  | [s]=>some s
  |_=>none
def gX(P:Program):Nat->TypeId->Option (List Sh)
 |0,_=>none
 | n+1,t=>match P.underlying t with
  |some .bool=>some [.bool]
  |some (.int k)=>some [.int k]
  |some .string=>some [.str]
  | some (.slice e)=>match gX P n e with
   |some ss=>match qHe P e ss with
    |some s=>bif Nat.beq (P.cellsOf e) ss.length&&Nat.blt 0 ss.length then some [.sl e ss.length s]else none
    |none=>none
   |none=>none
  |some (.struct fs)=>match qOb P (gX P n) fs.toList []with
   |some ss=>bif Nat.beq (P.cellsOf t) ss.length then some ss else none
   |none=>none
  |_=>none
structure Bk where
 loc:Option Loc
 cs:List Value
 el:TypeId
def Bk.a(k:Bk):ABlk:=⟨.cells k.cs k.el,0,false⟩
def fC(m:Nat):List (Nat×ABlk)->T ABlk->T ABlk
 | [],t=>t
 |p::r,t=>if p.1<m then(fC m r t).put p.1 (some p.2)else fC m r t
def kB(b:Nat):List (Nat×ABlk)->Option ABlk
 | []=>none
 |p::r=>if b=p.1 then some p.2 else kB b r
theorem dL{m b:Nat}{t:T ABlk}:∀l:List (Nat×ABlk),(fC m l t).get b=if b<m then(match kB b l with|some k=>some k|none=>t.get b)else t.get b
 | []=>by simp[fC,kB]
 |p::r=>by
  unfold fC kB;by_cases h:p.1<m
  ·rw[if_pos h,T.get_put,dL r];grind
  rw[if_neg h,dL r];grind
def qLT(E:Env)(b:Nat):Loc:=match kB b E.laid with
 |some ⟨.cells cs el,_,_⟩=>⟨b,0,cs.length,match E.types.get el with|some h=>h.size|none=>0⟩
 |_=>⟨b,0,0,0⟩
theorem qCw(E:Env)(b:Nat):(qLT E b).blk=b/\(qLT E b).off=0:=by unfold qLT;split<;>exact⟨rfl,rfl⟩
def dY(E:Env)(m:Nat)(L:List Bk):AH:={blocks:=fC m E.laid (T.ofList .leaf m (L.map Bk.a)),next:=Nat.add m L.length,low:=zI}
def nI(E:Env)(m:Nat)(L:List Bk):vH:=λb=>if b<m then some (qLT E b)else L[b-m]?.bind Bk.loc
theorem tA(E:Env)(m:Nat)(L:List Bk)(b:Nat):(dY E m L).blocks.get b=if m<=b then L[b-m]?.map Bk.a else kB b E.laid:=by
 have y:(T.ofList .leaf m (L.map Bk.a)).get b=if m<=b then L[b-m]?.map Bk.a else none:=by
  rw[gM];by_cases h:m<=b/\b<m+(L.map Bk.a).length
  ·grind
  rw[if_neg h];by_cases x:m<=b
  ·rw[if_pos x,List.getElem?_eq_none (by simp at h;omega)];rfl
  rw[if_neg x];rfl
 simp only[dY];rw[dL,y];grind
theorem dX{E:Env}{m:Nat}{L x:List Bk}:zG.le (dY E m L).blocks.get (dY E m (L++x)).blocks.get:=by intro b k h;rw[tA]at h ⊢;grind
theorem l8{E:Env}{m:Nat}{L x:List Bk}:vH.le (nI E m L) (nI E m (L++x)):=by intro b l h;unfold nI at h ⊢;grind
def qDp(E:Env)(m:Nat)(W:World)(L:List Bk):Prop:=∀(i:Nat) (k:Bk) (l:Loc),L[i]? = some k->k.loc=some l->∃o,W.heap[l.blk]? = some o/\pC E (nI E m L) l false (.cells k.cs k.el) o
theorem qDp.snoc{E:Env}{m:Nat}{W:World}{L:List Bk}{k:Bk}(h:qDp E m W L)(j:∀l,k.loc=some l->∃o,W.heap[l.blk]? = some o/\pC E (nI E m L) l false (.cells k.cs k.el) o):qDp E m W (L++[k]):=by
 intro i k' l x g;rcases Nat.lt_or_ge i L.length with y|b
 ·rw[List.getElem?_append_left y]at x;obtain⟨o,e,c⟩:=h i k' l x g;exact⟨o,e,c.mono l8⟩
 rw[List.getElem?_append_right b]at x;have:i-L.length=0:=by grind
 rw[this]at x;simp only[List.getElem?_cons_zero,oI]at x;subst x;obtain⟨o,e,c⟩:=j l g;exact⟨o,e,c.mono l8⟩
theorem qCs:∀{fs:List Sh} {cs:List D},jG fs cs->cs.length=fs.length
 | [],cs,h=>by simp only[jG]at h;rw[h];rfl
 |s::ss,cs,h=>by simp only[jG]at h;obtain⟨d,ds,rfl,_,x⟩:=h;simp[qCs x]
theorem iV:∀{ss ts:List Sh} {ds es:List D},jG ss ds->jG ts es->jG (ss++ts) (ds++es)
 | [],_,ds,es,h,x=>by simp only[jG]at h;subst h;exact x
 |s::ss,_,ds,es,h,x=>by simp only[jG]at h;obtain⟨d,ds,rfl,b,y⟩:=h;simp only[List.cons_append,jG];exact⟨d,ds++es,rfl,b,iV y x⟩
theorem qA5{σ:vH}:∀{l x k k':List Value},VRs σ l x->VRs σ k k'->VRs σ (l++k) (x++k')
 |_,_,_,_,.nil,h=>h
 |_,_,_,_,.cons h y,b=>.cons h (qA5 y b)
section
variable{E:Env}{H:Type}{enc:TypeId×Value->H}{P:Program}{W:World}{m:Nat}
def qFQ(E:Env)(m:Nat)(W:World)(x:List Bk)(ss:List Sh)(cs:List Value):Prop:=
 ∃(h:List Bk) (vs:List Value) (ds:List D),qDp E m W (x++h)/\VRs (nI E m (x++h)) vs cs/\DRs (dY E m (x++h)).blocks.get ds vs/\jG ss ds/\vs.all qH=true
theorem qFQ.app{h:List Bk}{ss ts:List Sh}{cs es:List Value}(y:qFQ E m W h ss cs)(x:∀L,qDp E m W L->qFQ E m W L ts es):qFQ E m W h (ss++ts) (cs++es):=by
 obtain⟨i,vs,ds,a1,a2,a3,a4,a5⟩:=y;obtain⟨g,us,xs,k,e,c,b,j⟩:=x _ a1;refine⟨i++g,vs++us,ds++xs,?_,?_,?_,iV a4 b,?_⟩
 ·grind
 ·rw[←List.append_assoc];exact qA5 (a2.mono l8) e
 ·rw[←List.append_assoc];exact(a3.mono dX).append c
 grind
def qRW(st:Bool)(ds:List D):D:=bif st then .agg ds else ds.headD .nil
theorem qSC{e:TypeId}{ss:List Sh}{s:Sh}{n:Nat}(b:gX P n e=some ss)(h:qHe P e ss=some s):∃st,∀ds,jG ss ds->wY s (qRW st ds)/\(qRW st ds).cells=ds:=by
 unfold qHe at h;split at h
 ·rename_i fs hu;simp only[oI]at h;subst h;exact⟨true,λds hd=>⟨⟨ds,rfl,hd⟩,rfl⟩⟩
 ·cases h
 rename_i g c;split at h;case h_2=>cases h
 rename_i y;simp only[oI]at h;subst h;refine⟨false,λds hd=>?_⟩;simp only[jG]at hd;obtain⟨d,l,rfl,hd,rfl⟩:=hd;refine⟨hd,?_⟩;show D.cells d=[d];have x:∀fs,y≠.st fs:=by
  intro fs i;cases n with
  |zero=>cases b
  |succ n=>simp only[gX]at b;grind
 cases y with
 |int k=>simp only[wY]at hd;obtain⟨n,rfl⟩:=hd;rfl
 |bool=>simp only[wY]at hd;obtain⟨n,rfl⟩:=hd;rfl
 |str=>simp only[wY]at hd;obtain⟨n,rfl⟩:=hd;rfl
 |st fs=>exact absurd rfl (x fs)
 |sl el sz e=>simp only[wY]at hd;rcases hd with rfl|⟨es,rfl,_⟩<;>rfl
end
section
variable{E:Env}{H:Type}{enc:TypeId×Value->H}{P:Program}{W:World}{m:Nat}
theorem qG1{n sz:Nat}(f:Nat->List Value)(g:∀i,i<n->(f i).length=sz)(b:0<sz):∀(i:Nat),i<n*sz->(((List.range n).map f).flatten)[i]? = (f (i/sz))[i%sz]? :=by
 have key:∀(l:List (List Value)),(∀c∈l,c.length=sz)->∀i,l.flatten[i]? = (l[i/sz]?.getD [])[i%sz]? :=by
  intro l;induction l with
  |nil=>intro _ i;simp
  |cons c l y=>
   intro h i;have x:=h c List.mem_cons_self;rw[List.flatten_cons];rcases Nat.lt_or_ge i sz with hi|hi
   ·rw[List.getElem?_append_left (by omega),Nat.div_eq_of_lt hi,Nat.mod_eq_of_lt hi];rfl
   rw[List.getElem?_append_right (by omega),y (λd hd=>h d (mC _ hd)),x];have o:i/sz=(i-sz)/sz+1:=by rw[Nat.div_eq_sub_div b hi]
   have k:i%sz=(i-sz)%sz:=Nat.mod_eq_sub_mod hi;rw[o,k];rfl
 intro i hi;rw[key _ (λc x=>by obtain⟨j,e,rfl⟩:=List.mem_map.1 x;exact g j (List.mem_range.1 e))];have hd:i/sz<n:=Nat.div_lt_of_lt_mul (by rw[Nat.mul_comm];exact hi);rw[List.getElem?_map,List.getElem?_range hd];rfl
theorem qVl{σ:vH}{vs cs:List Value}(h:VRs σ vs cs){i:Nat}{v:Value}(hv:vs[i]? = some v):∃v',cs[i]? = some v'/\VR σ v v':=h.get i v hv
theorem take?_all:∀(l:List Value) (n:Nat),n=l.length->take? l n=some l
 | [],0,_=>rfl
 | [],_+1,h=>by simp at h
 |_::_,0,h=>by simp at h
 |x::l,n+1,h=>by simp only[take?,take?_all l n (by simpa using h),Option.map_some]
theorem qAM{sz:Nat}:∀l:List (List Value),(∀c∈l,c.length=sz)->l.flatten.length=l.length*sz
 | [],_=>by simp
 |c::l,h=>by rw[List.flatten_cons,List.length_append,h c List.mem_cons_self,qAM l (λd hd=>h d (mC _ hd)),List.length_cons,Nat.succ_mul,Nat.add_comm]
theorem qHp{st:Bool}:∀x:List (List D),(∀d∈x,(qRW st d).cells=d)->(x.map (qRW st)).flatMap D.cells=x.flatten
 | [],_=>rfl
 |d::x,h=>by rw[List.map_cons,List.flatMap_cons,List.flatten_cons,h d List.mem_cons_self,qHp x (λc y=>h c (mC _ y))]
end
section
variable{E:Env}{H:Type}{enc:TypeId×Value->H}{P:Program}{W:World}{m:Nat}
def qAq(P:Program)(n:Nat):List TypeId->Option (List Sh)
 | []=>some []
 | t::ts=>match gX P n t with
  |some ss=>match qHe P t ss,qAq P n ts with
   |some s,some r=>some (s::r)
   |_,_=>none
  |none=>none
theorem fK{L:List Bk}{b:Nat}{k:ABlk}(h:(dY E m L).blocks.get b=some k):(m<=b/\b<m+L.length/\∃x,L[b-m]? = some x/\k=x.a)∨(b<m/\kB b E.laid=some k):=by rw[tA]at h;grind
structure TabOK (E:Env) (m:Nat) (W:World):Prop where
 nodup:(E.laid.map Prod.fst).Nodup
 lt:∀p∈E.laid,p.1<m/\p.2.root<=p.1/\p.2.own=false
 at_:∀p∈E.laid,∀σ:vH,∃o,W.heap[p.1]? = some o/\pC E σ (qLT E p.1) false p.2.obj o
theorem qK1{W:World}(h:E.laid=[]):TabOK E m W:=by refine⟨by rw[h];exact List.nodup_nil,?_,?_⟩;all_goals grind
theorem oF{b:Nat}{k:ABlk}:∀{l:List (Nat×ABlk)},kB b l=some k->(b,k)∈l
 | [],h=>by cases h
 |p::r,h=>by
  unfold kB at h;split at h
  ·grind
  exact mC _ (oF h)
theorem qAO{p:Nat×ABlk}:∀{l:List (Nat×ABlk)},(l.map Prod.fst).Nodup->p∈l->kB p.1 l=some p.2
 | [],_,h=>by cases h
 |q::r,hn,h=>by
  rw[List.map_cons,List.nodup_cons]at hn;unfold kB;rcases List.mem_cons.1 h with rfl|h
  ·rw[if_pos rfl]
  rw[if_neg (λe=>hn.1 (by rw[←e];exact List.mem_map.2 ⟨p,h,rfl⟩))];exact qAO hn.2 h
theorem qSa{W:World}(x:TabOK E m W){L:List Bk}:qHK E (dY E m L).blocks.get:=by intro p h;rw[tA,if_neg (by have:=(x.lt p h).1;omega)];exact qAO x.nodup h
theorem qSh(i:m=E.prog.globals.size)(e:TabOK E m W){L:List Bk}(hL:qDp E m W L):HR E (nI E m L) (dY E m L) W:=by
 refine⟨?_,?_,?_,?_⟩
 ·intro b k l j y;rcases fK j with⟨c,h,x,p,rfl⟩|⟨c,h⟩
  ·unfold nI at y;rw[if_neg (by omega),p]at y;exact hL _ x l p y
  unfold nI at y;rw[if_pos c]at y;cases y;have i:=oF h;obtain⟨o,F,C⟩:=e.at_ _ i (nI E m L);rw[(qCw E b).1];have t:=(e.lt _ i).2.2;grind
 ·intro w u r q A z c _ B;rcases fK c with⟨_,_,x,_,rfl⟩|⟨_,h⟩
  ·cases B
  have:=(e.lt _ (oF h)).2.2;grind
 ·intro g G;exact⟨qLT E g,by unfold nI;rw[if_pos (by omega)],(qCw E g).1,(qCw E g).2⟩
 intro b k j;rcases fK j with⟨c,h,x,p,rfl⟩|⟨c,h⟩
 ·exact⟨Nat.zero_le _,h⟩
 exact⟨(e.lt _ (oF h)).2.1,by show b<m+L.length;omega⟩
theorem qGP(u:m=E.prog.globals.size)(o:TabOK E m W){f:FuncId}{ds:List D}{b:Bool}(h:Holds E f ds (.leaf (.bool b))){L:List Bk}(hL:qDp E m W L){azq y:List Value}(hd:DRs (dY E m L).blocks.get ds azq)(hv:VRs (nI E m L) azq y):Calls E.prog f ⟨y⟩ W λe w'=>e=.returned (.bool b)/\Kept W w':=by
 have q:=qSh u o hL;have h:qFS E f ds (.leaf (.bool b)):=by
  rcases h with⟨_,h⟩|⟨_,_,_,_,rfl,_⟩
  ·exact h
  cases hd with
  |cons p _=>cases p
 obtain⟨v,H',g',p,r,M,K,J,I,G,h8,A⟩:=h.2 (dY E m L) (dY E m L).blocks.get azq (λb k g=>q.wf b k g) (zG.le_refl _) (qSa o) hd;have c:wV (nI E m L) (dY E m L).next H'.next:=by intro b g _;have w:m+L.length<=b:=g;unfold nI;grind
 refine(p (nI E m L) W y q hv c).mono λe w' ⟨t,v',F,C,st⟩=>?_;have i:v=.bool b:=A.leaf_inv.1;subst i;cases C;refine⟨F,st.size,λB z=>st.frame B z (λb k l g j=>?_),st.tape,st.os,st.output.1⟩;rcases fK g with⟨_,_,x,_,rfl⟩|⟨_,r⟩
 ·cases j
 have:=(o.lt _ (oF r)).2.2;simp only at this;rw[this]at j;cases j
end
section
variable{E:Env}
theorem qK4{σ:vH}{H:AH}{w w':World}(hr:HR E σ H w)(k:KeptD w w'):Step E σ H w σ {H with next:=H.next+1} w':=by
 have s:=Step.kept hr k;exact
 { hr:=⟨s.hr.objs,s.hr.sep,s.hr.glob,λb h x=>⟨(hr.wf b h x).1,Nat.lt_succ_of_lt (hr.wf b h x).2⟩⟩
   next:=Nat.le_succ _,ext:=λ_ _=>rfl,size:=s.size,low:=vE _,tape:=s.tape,os:=s.os,output:=s.output,frame:=s.frame,
   origin:=s.origin,old:=λb h x _=>⟨h,x,rfl,rfl⟩,keep:=s.keep,born:=λb h x y=>absurd (hr.wf b h x).2 (Nat.not_lt.2 y)}
theorem qFt{f:FuncId}(p:∃fn,E.funcs.get f=some fn)(h:∀w,Calls E.prog f #[] w λe w'=>e=.returned (.bool true)/\KeptD w w')(y:f<cQ:=by decide):Holds E f [] (dB true):=by refine .inl ⟨y,p,λH g j x o _ hd=>?_⟩;cases hd;refine⟨.bool true,{H with next:=H.next+1},g,?_,Nat.lt_succ_self _,λb k i=>⟨(x b k i).1,Nat.lt_succ_of_lt (x b k i).2⟩,λ_ _=>rfl,Nat.min_le_left _ _,zG.le_refl _,o,λ_ _=>rfl,.leaf rfl⟩;intro σ w c l hv _;cases hv;exact(h w).mono λe w' ⟨r,q⟩=>⟨σ,.bool true,r,.leaf rfl,qK4 l q⟩
theorem qLP{P:Program}(b:cM P=true){f:FuncId}{n m:Nat}(c:∃fn,(pP P).funcs.get f=some fn)(y:Nat.ble P.globals.size m=true)(h:isTrue (qLc (pP P) n (.call f []) (oO m))=true)(x:f<cQ:=by decide):Holds (pP P) f [] (dB true):=
 qFt c (λw=>(qHl b y h w).mono λ_ _ ⟨l,k,j,i,g,e⟩=>⟨l,k,j,i,g,e⟩) x
theorem qIc(he:EOk E){t:TypeId}{ti:TI}(h:E.types.get t=some ti):ti.size=E.prog.cellsOf t:=by obtain⟨i,y,_,x,_⟩:=he.types t ti h;rw[x];simp only[Program.cellsOf,y,Option.map_some,Option.getD_some]
end
end Go.Am
