/- What came in, opened: an abstract heap with a block for every list. Conditions: none. -/
import Derived.Test.YtocbbgmhkhallaaGreatDoorUn
import Derived.Test.YtocbbgmhkhallaaGreatDoorAm7
import Derived.WalkKit
import Derived.OpenShut
import Derived.Deep.Slices
import Derived.Deep.Strs
set_option linter.unusedVariables false
set_option linter.unusedSimpArgs false
namespace Go.Am
open Go
abbrev jc:=@List.flatten_cons
def qN8(P:LK)(rec:LN->Option (List Sh)):List Field->List Sh->Option (List Sh)
 | [],acc=>some acc
 |f::r,acc=>bif Nat.beq f.offset acc.length then match rec f.type with
  |some s=>bif Nat.beq (P.cellsOf f.type) s.length then qN8 P rec r (acc++s)else none
  |none=>none
  else none
def qHV(P:LK)(e:LN)(ss:List Sh):Option Sh:=match P.underlying e with
 |some (.struct _)=>some (.st ss)
 |some (.array _ _)=>none
 |_=>match ss with
  | [s]=>some s
  |_=>none
def oQ(P:LK):Nat->LN->Option (List Sh)
 |0,_=>none
 | n+1,t=>match P.underlying t with
  |some .bool=>some [.bool]
  |some (.int k)=>some [.int k]
  |some .string=>some [.str]
  | some (.slice e)=>match oQ P n e with
   |some ss=>match qHV P e ss with
    |some s=>bif Nat.beq (P.cellsOf e) ss.length&&Nat.blt 0 ss.length then some [.sl e ss.length s]else none
    |none=>none
   |none=>none
  |some (.struct fs)=>match qN8 P (oQ P n) fs.toList []with
   |some ss=>bif Nat.beq (P.cellsOf t) ss.length then some ss else none
   |none=>none
  |_=>none
structure Bk where
 loc:Option Loc
 cs:LA
 el:LN
def Bk.a(k:Bk):ABlk:=⟨.cells k.cs k.el,0,false⟩
def fQ(m:Nat):List (Nat×ABlk)->T ABlk->T ABlk
 | [],t=>t
 |p::r,t=>if p.1<m then(fQ m r t).put p.1 (some p.2)else fQ m r t
def kW(b:Nat):List (Nat×ABlk)->Option ABlk
 | []=>none
 |p::r=>if b=p.1 then some p.2 else kW b r
theorem eG{m b:Nat}{t:T ABlk}:∀l:List (Nat×ABlk),(fQ m l t).get b=if b<m then(match kW b l with|some k=>some k|none=>t.get b)else t.get b
 | []=>by simp[fQ,kW]
 |p::r=>by
  unfold fQ kW;by_cases h:p.1<m
  ·rw[bo h,T.ch,eG r];grind
  rw[bf h,eG r];grind
def qMk(E:Env)(b:Nat):Loc:=match kW b E.laid with
 |some ⟨.cells cs el,_,_⟩=>⟨b,0,cs.length,match E.types.get el with|some h=>h.size|none=>0⟩
 |_=>⟨b,0,0,0⟩
theorem qCO(E:Env)(b:Nat):(qMk E b).hS=b/\(qMk E b).off=0:=by unfold qMk;split<;>exact⟨rfl,rfl⟩
def eP(E:Env)(m:Nat)(L:List Bk):AH:={blocks:=fQ m E.laid (T.ofList .leaf m (L.map Bk.a)),next:=Nat.add m L.length,low:=zX}
def mJ(E:Env)(m:Nat)(L:List Bk):vO:=λb=>if b<m then some (qMk E b)else L[b-m]?.bind Bk.loc
theorem tX(E:Env)(m:Nat)(L:List Bk)(b:Nat):(eP E m L).blocks.get b=if m<=b then L[b-m]?.map Bk.a else kW b E.laid:=by
 have y:(T.ofList .leaf m (L.map Bk.a)).get b=if m<=b then L[b-m]?.map Bk.a else none:=by
  rw[gY];by_cases h:m<=b/\b<m+(L.map Bk.a).length
  ·grind
  rw[bf h];by_cases x:m<=b
  ·rw[bo x,List.getElem?_eq_none (by simp at h;omega)];rfl
  rw[bf x];rfl
 simp only[eP];rw[eG,y];grind
variable{E:Env}{L:List Bk}{m:Nat}
theorem eO{x:List Bk}:zR.le (eP E m L).blocks.get (eP E m (L++x)).blocks.get:=by intro b k h;rw[tX]at h ⊢;grind
theorem bV{x:List Bk}:vO.le (mJ E m L) (mJ E m (L++x)):=by intro b l h;unfold mJ at h ⊢;grind
def qDM(E:Env)(m:Nat)(W:LP)(L:List Bk):Prop:=∀(i:Nat) (k:Bk) (l:Loc),L[i]? = some k->k.loc=some l->∃o,W.heap[l.hS]? = some o/\m9 E (mJ E m L) l false (.cells k.cs k.el) o
theorem qDM.snoc{W:LP}{k:Bk}(h:qDM E m W L)(j:∀l,k.loc=some l->∃o,W.heap[l.hS]? = some o/\m9 E (mJ E m L) l false (.cells k.cs k.el) o):qDM E m W (L++[k]):=by
 intro i k' l x g;rcases ir i L.length with y|b
 ·rw[bz y]at x;obtain⟨o,e,c⟩:=h i k' l x g;exact⟨o,e,c.mono bV⟩
 rw[bu b]at x;have:i-L.length=0:=by grind
 rw[this]at x;simp only[dq,oI]at x;subst x;obtain⟨o,e,c⟩:=j l g;exact⟨o,e,c.mono bV⟩
theorem qCJ:∀{fs:List Sh} {cs:LR},jG fs cs->cs.length=fs.length
 | [],cs,h=>by simp only[jG]at h;rw[h];rfl
 |s::ss,cs,h=>by simp only[jG]at h;obtain⟨d,ds,rfl,_,x⟩:=h;simp[qCJ x]
theorem aU:∀{ss ts:List Sh} {ds es:LR},jG ss ds->jG ts es->jG (ss++ts) (ds++es)
 | [],_,ds,es,h,x=>by simp only[jG]at h;subst h;exact x
 |s::ss,_,ds,es,h,x=>by simp only[jG]at h;obtain⟨d,ds,rfl,b,y⟩:=h;simp only[ej,jG];exact⟨d,ds++es,rfl,b,aU y x⟩
theorem qBv{σ:vO}:∀{l x k k':LA},VRs σ l x->VRs σ k k'->VRs σ (l++k) (x++k')
 |_,_,_,_,.nil,h=>h
 |_,_,_,_,.cons h y,b=>.cons h (qBv y b)
section
variable{E:Env}{H:Type}{enc:LN×LQ->H}{P:LK}{W:LP}{m:Nat}
def qGB(E:Env)(m:Nat)(W:LP)(x:List Bk)(ss:List Sh)(cs:LA):Prop:=
 ∃(h:List Bk) (vs:LA) (ds:LR),qDM E m W (x++h)/\VRs (mJ E m (x++h)) vs cs/\DRs (eP E m (x++h)).blocks.get ds vs/\jG ss ds/\vs.all qU=true
theorem qGB.app{h:List Bk}{ss ts:List Sh}{cs es:LA}(y:qGB E m W h ss cs)(x:∀L,qDM E m W L->qGB E m W L ts es):qGB E m W h (ss++ts) (cs++es):=by
 obtain⟨j,vs,ds,a1,a2,a3,g,o⟩:=y;obtain⟨i,us,xs,l,e,c,b,k⟩:=x _ a1;refine⟨j++i,vs++us,ds++xs,?_,?_,?_,aU g b,?_⟩
 ·grind
 ·rw[←ay];exact qBv (a2.mono bV) e
 ·rw[←ay];exact(a3.mono eO).append c
 grind
def qRB(st:Bool)(ds:LR):D:=bif st then .agg ds else ds.headD .nil
theorem qSE{e:LN}{ss:List Sh}{s:Sh}{n:Nat}(b:oQ P n e=some ss)(h:qHV P e ss=some s):∃st,∀ds,jG ss ds->zE s (qRB st ds)/\(qRB st ds).cells=ds:=by
 unfold qHV at h;split at h
 ·rename_i fs hu;simp only[oI]at h;subst h;exact⟨true,λds hd=>⟨⟨ds,rfl,hd⟩,rfl⟩⟩
 ·cases h
 rename_i g c;split at h;case h_2=>cases h
 rename_i y;simp only[oI]at h;subst h;refine⟨false,λds hd=>?_⟩;simp only[jG]at hd;obtain⟨d,l,rfl,hd,rfl⟩:=hd;refine⟨hd,?_⟩;show D.cells d=[d];have x:∀fs,y≠.st fs:=by
  intro fs i;cases n with
  |zero=>cases b
  |succ n=>simp only[oQ]at b;grind
 cases y with
 |int k=>simp only[zE]at hd;obtain⟨n,rfl⟩:=hd;rfl
 |bool=>simp only[zE]at hd;obtain⟨n,rfl⟩:=hd;rfl
 |str=>simp only[zE]at hd;obtain⟨n,rfl⟩:=hd;rfl
 |st fs=>exact absurd rfl (x fs)
 |sl el sz e=>simp only[zE]at hd;rcases hd with rfl|⟨es,rfl,_⟩<;>rfl
end
section
variable{E:Env}{H:Type}{enc:LN×LQ->H}{P:LK}{W:LP}{m:Nat}
theorem qHE{n sz:Nat}(f:Nat->LA)(k:∀i,i<n->(f i).length=sz)(e:0<sz):∀(i:Nat),i<n*sz->(((List.range n).map f).flatten)[i]? = (f (i/sz))[i%sz]? :=by
 have y:∀(l:List (LA)),(∀c∈l,c.length=sz)->∀i,l.flatten[i]? = (l[i/sz]?.getD [])[i%sz]? :=by
  intro l;induction l with
  |nil=>intro _ i;simp
  |cons c l ih=>
   intro h i;have b:=h c aq;rw[jc];rcases ir i sz with x|x
   ·rw[bz (by omega),Nat.div_eq_of_lt x,Nat.mod_eq_of_lt x];rfl
   rw[bu (by omega),ih (λd hd=>h d (mC _ hd)),b];have p:i/sz=(i-sz)/sz+1:=by rw[Nat.div_eq_sub_div e x]
   have o:i%sz=(i-sz)%sz:=Nat.mod_eq_sub_mod x;rw[p,o];rfl
 intro i x;rw[y _ (λc b=>by obtain⟨j,g,rfl⟩:=dy.1 b;exact k j (je.1 g))];have hd:i/sz<n:=Nat.div_lt_of_lt_mul (by rw[Nat.mul_comm];exact x);rw[cw,gb hd];rfl
theorem qVx{σ:vO}{vs cs:LA}(h:VRs σ vs cs){i:Nat}{v:LQ}(hv:vs[i]? = some v):∃v',cs[i]? = some v'/\VR σ v v':=h.get i v hv
theorem take?_all:∀(l:LA) (n:Nat),n=l.length->take? l n=some l
 | [],0,_=>rfl
 | [],_+1,h=>by simp at h
 |_::_,0,h=>by simp at h
 |x::l,n+1,h=>by simp only[take?,take?_all l n (by simpa using h),aj]
theorem qBc{sz:Nat}:∀l:List (LA),(∀c∈l,c.length=sz)->l.flatten.length=l.length*sz
 | [],_=>by simp
 |c::l,h=>by rw[jc,bx,h c aq,qBc l (λd hd=>h d (mC _ hd)),dj,jf,Nat.add_comm]
theorem qH7{st:Bool}:∀x:List (LR),(∀d∈x,(qRB st d).cells=d)->(x.map (qRB st)).flatMap D.cells=x.flatten
 | [],_=>rfl
 |d::x,h=>by rw[fa,fp,jc,h d aq,qH7 x (λc y=>h c (mC _ y))]
end
variable{f:LO}
section
variable{E:Env}{H:Type}{enc:LN×LQ->H}{P:LK}{W:LP}{m:Nat}
def qAM(P:LK)(n:Nat):List LN->Option (List Sh)
 | []=>some []
 | t::ts=>match oQ P n t with
  |some ss=>match qHV P t ss,qAM P n ts with
   |some s,some r=>some (s::r)
   |_,_=>none
  |none=>none
theorem fX{b:Nat}{k:ABlk}(h:(eP E m L).blocks.get b=some k):(m<=b/\b<m+L.length/\∃x,L[b-m]? = some x/\k=x.a)∨(b<m/\kW b E.laid=some k):=by rw[tX]at h;grind
structure TabOK (E:Env) (m:Nat) (W:LP):Prop where
 nodup:(E.laid.map Prod.fst).Nodup
 lt:∀p∈E.laid,p.1<m/\p.2.root<=p.1/\p.2.own=false
 at_:∀p∈E.laid,∀σ:vO,∃o,W.heap[p.1]? = some o/\m9 E σ (qMk E p.1) false p.2.obj o
theorem qLz{W:LP}(h:E.laid=[]):TabOK E m W:=by refine⟨by rw[h];exact jq,?_,?_⟩;all_goals grind
theorem oY{b:Nat}{k:ABlk}:∀{l:List (Nat×ABlk)},kW b l=some k->(b,k)∈l
 | [],h=>by cases h
 |p::r,h=>by
  unfold kW at h;split at h
  ·grind
  exact mC _ (oY h)
theorem qBf{p:Nat×ABlk}:∀{l:List (Nat×ABlk)},(l.map Prod.fst).Nodup->p∈l->kW p.1 l=some p.2
 | [],_,h=>by cases h
 |q::r,x,h=>by
  rw[fa,List.nodup_cons]at x;unfold kW;rcases bl.1 h with rfl|h
  ·rw[bo rfl]
  rw[bf (λe=>x.1 (by rw[←e];exact dy.2 ⟨p,h,rfl⟩))];exact qBf x.2 h
theorem qRY{W:LP}(x:TabOK E m W):qJV E (eP E m L).blocks.get:=by intro p h;rw[tX,bf (by have:=(x.lt p h).1;omega)];exact qBf x.nodup h
theorem qR5(i:m=E.prog.globals.size)(e:TabOK E m W)(B:qDM E m W L):HR E (mJ E m L) (eP E m L) W:=by
 refine⟨?_,?_,?_,?_⟩
 ·intro b k l j y;rcases fX j with⟨c,h,x,h3,rfl⟩|⟨c,h⟩
  ·unfold mJ at y;rw[bf (by omega),h3]at y;exact B _ x l h3 y
  unfold mJ at y;rw[bo c]at y;cases y;have i:=oY h;obtain⟨o,F,C⟩:=e.at_ _ i (mJ E m L);rw[(qCO E b).1];have r:=(e.lt _ i).2.2;grind
 ·intro u t q p z w c _ A;rcases fX c with⟨_,_,x,_,rfl⟩|⟨_,h⟩
  ·cases A
  have:=(e.lt _ (oY h)).2.2;grind
 ·intro g G;exact⟨qMk E g,by unfold mJ;rw[bo (by omega)],(qCO E g).1,(qCO E g).2⟩
 intro b k j;rcases fX j with⟨c,h,x,h3,rfl⟩|⟨c,h⟩
 ·exact⟨cq _,h⟩
 exact⟨(e.lt _ (oY h)).2.1,by show b<m+L.length;omega⟩
theorem qHu(u:m=E.prog.globals.size)(o:TabOK E m W){ds:LR}{b:Bool}(h:qA E f ds (.leaf (.bool b)))(z:qDM E m W L){az y:LA}(hd:DRs (eP E m L).blocks.get ds az)(hv:VRs (mJ E m L) az y):Calls E.prog f ⟨y⟩ W λe w'=>e=.returned (.bool b)/\Kept W w':=by
 have q:=qR5 u o z;have h:qJX E f ds (.leaf (.bool b)):=by
  rcases h with⟨_,h⟩|⟨_,_,_,_,rfl,_⟩
  ·exact h
  cases hd with
  |cons p _=>cases p
 obtain⟨v,H',g',p,r,h3,K,h5,J,I,h8,C⟩:=h.2 (eP E m L) (eP E m L).blocks.get az (λb k g=>q.wf b k g) (zR.le_refl _) (qRY o) hd;have c:yU (mJ E m L) (eP E m L).next H'.next:=by intro b g _;have w:m+L.length<=b:=g;unfold mJ;grind
 refine(p (mJ E m L) W y q hv c).mono λe w' ⟨t,v',G,F,st⟩=>?_;have i:v=.bool b:=C.de.1;subst i;cases F;refine⟨G,st.size,λB A=>st.frame B A (λb k l g j=>?_),st.tape,st.os,st.output.1⟩;rcases fX g with⟨_,_,x,_,rfl⟩|⟨_,r⟩
 ·cases j
 have:=(o.lt _ (oY r)).2.2;simp only at this;rw[this]at j;cases j
end
section
variable{E:Env}
theorem qLC{σ:vO}{H:AH}{w w':LP}(hr:HR E σ H w)(k:KeptD w w'):Step E σ H w σ {H with next:=H.next+1} w':=by
 have s:=Step.kept hr k;exact
 { hr:=⟨s.hr.kq,s.hr.sep,s.hr.la,λb h x=>⟨(hr.wf b h x).1,dp (hr.wf b h x).2⟩⟩
   next:=cx _,ext:=λ_ _=>rfl,size:=s.size,low:=vP _,tape:=s.tape,os:=s.os,output:=s.output,frame:=s.frame,
   origin:=s.origin,kp:=λb h x _=>⟨h,x,rfl,rfl⟩,hN:=s.hN,born:=λb h x y=>absurd (hr.wf b h x).2 (Nat.not_lt.2 y)}
theorem qF1(p:∃fn,E.funcs.get f=some fn)(h:∀w,Calls E.prog f #[] w λe w'=>e=.returned (.bool true)/\KeptD w w')(y:f<dU:=by decide):qA E f [] (dB true):=by refine .inl ⟨y,p,λH g j x o _ hd=>?_⟩;cases hd;refine⟨.bool true,{H with next:=H.next+1},g,?_,bw _,λb k i=>⟨(x b k i).1,dp (x b k i).2⟩,λ_ _=>rfl,dw _ _,zR.le_refl _,o,λ_ _=>rfl,.leaf rfl⟩;intro σ w c l hv _;cases hv;exact(h w).mono λe w' ⟨r,q⟩=>⟨σ,.bool true,r,.leaf rfl,qLC l q⟩
theorem qIM(he:EOk E){t:LN}{x:TI}(h:E.types.get t=some x):x.size=E.prog.cellsOf t:=by obtain⟨i,b,_,y,_⟩:=he.types t x h;rw[y];simp only[Program.cellsOf,b,aj,gg]
end
end Go.Am
