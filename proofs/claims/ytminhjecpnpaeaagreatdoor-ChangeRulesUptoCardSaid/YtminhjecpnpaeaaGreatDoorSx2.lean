/- Symbolic runs: states and what they say. Conditions: none. -/
import Derived.Test.YtminhjecpnpaeaaGreatDoorSx1
set_option linter.unusedVariables false
set_option linter.unusedSimpArgs false
namespace Go.Am
open Go
theorem T.get_map{α h:Type}(f:α->h):∀(t:T α) (n:Nat),(t.map f).get n=(t.get n).map f
 |.leaf,_=>rfl
 |.node v l r,n=>by simp only[T.map,T.get_node,T.get_map f l,T.get_map f r];grind
theorem qFw{g:zB}:∀(n:Nat) (v:Value),zK n v=true->DR g (qAa n v) v:=by
 intro n;induction n with
 | zero=>
  intro v h;cases v<;>first|(exact .leaf rfl)|(simp[zK]at h;done)|skip
  ·rename_i a;exact .leaf (by simpa[zK,wJ]using h)
  ·rename_i a l c;cases a with
   |none=>simp[zK]at h;rw[h.1,h.2];exact .nil
   |some a=>simp[zK]at h
  exact .leaf (by simpa[zK,wJ]using h)
 | succ n ih=>
  have all:∀l:List Value,(∀v∈l,zK n v=true)->DRs g (l.map (qAa n)) l:=by
   intro l;induction l with
   |nil=>intro _;exact .nil
   |cons x l y=>intro h;exact .cons (ih x (h x (by simp))) (y λv hv=>h v (by simp[hv]))
  intro v h;cases v<;>first|(exact .leaf rfl)|(simp[zK]at h;done)|skip
  ·rename_i a;exact .leaf (by simpa[zK,wJ]using h)
  ·rename_i a l c;cases a with
   |none=>simp[zK]at h;rw[h.1,h.2];exact .nil
   |some a=>simp[zK]at h
  ·exact .leaf (by simpa[zK,wJ]using h)
  ·exact .iface (ih _ (by simpa[zK]using h))
  ·rename_i cs;simp only[zK,List.all_eq_true,aE]at h;exact .agg (all cs.toList λv hv=>(h v hv).2) (by rw[List.all_eq_true];exact λv hv=>(h v hv).1)
  rename_i cs;simp only[zK,List.all_eq_true]at h;exact .tup (all cs.toList λv hv=>h v hv)
mutual
def SV.bd(n m:Nat):SV->Prop
 |.v i=>i<n
 |.c _=>True
 |.loc b _=>b<m
 |.ptr s i _ _=>s.bd n m/\i.bd n m
 |.pp i _=>i<n
 |.agg cs=>SV.bds n m cs
 |.tup cs=>SV.bds n m cs
 |.fn _ a b=>SV.bds n m a/\SV.bds n m b
 |.ifc _ x=>x.bd n m
 |.yld b=>b<m
def SV.bds(n m:Nat):List SV->Prop
 | []=>True
 |x::xs=>x.bd n m/\SV.bds n m xs
end
mutual
theorem SV.bd_mono{n m e j:Nat}(c:n<=e)(y:m<=j):∀{x:SV},x.bd n m->x.bd e j
 |.v i,h=>Nat.lt_of_lt_of_le h c
 |.c _,_=>trivial
 |.loc b _,h=>Nat.lt_of_lt_of_le h y
 |.ptr s i _ _,h=>⟨SV.bd_mono c y h.1,SV.bd_mono c y h.2⟩
 |.pp i _,h=>Nat.lt_of_lt_of_le h c
 |.agg cs,h=>SV.bds_mono c y (xs:=cs) h
 |.tup cs,h=>SV.bds_mono c y (xs:=cs) h
 |.fn _ a b,h=>⟨SV.bds_mono c y h.1,SV.bds_mono c y h.2⟩
 |.ifc _ x,h=>SV.bd_mono c y (x:=x) h
 |.yld b,h=>Nat.lt_of_lt_of_le h y
theorem SV.bds_mono{n m x y:Nat}(c:n<=x)(b:m<=y):∀{xs:List SV},SV.bds n m xs->SV.bds x y xs
 | [],_=>trivial
 |_::_,h=>⟨SV.bd_mono c b h.1,SV.bds_mono c b h.2⟩
end
mutual
theorem SV.val_congr{ve e:Nat->Value}{lb j:Nat->Nat}{n m:Nat}(c:∀i,i<n->e i=ve i)(y:∀b,b<m->j b=lb b):∀{x:SV},x.bd n m->x.val e j=x.val ve lb
 |.v i,h=>c i h
 |.c _,_=>rfl
 |.loc b _,h=>by simp only[SV.val,y b h]
 |.ptr s i _ _,h=>by simp only[SV.val,SV.val_congr c y h.1,SV.val_congr c y h.2]
 |.pp i _,h=>by simp only[SV.val,c i h]
 |.agg cs,h=>by simp only[SV.val,SV.vals_congr c y (xs:=cs) h]
 |.tup cs,h=>by simp only[SV.val,SV.vals_congr c y (xs:=cs) h]
 |.fn _ a b,h=>by simp only[SV.val,SV.vals_congr c y h.1,SV.vals_congr c y h.2]
 |.ifc _ x,h=>by simp only[SV.val,SV.val_congr c y (x:=x) h]
 |.yld b,h=>by simp only[SV.val,y b h]
theorem SV.vals_congr{ve x:Nat->Value}{lb y:Nat->Nat}{n m:Nat}(e:∀i,i<n->x i=ve i)(c:∀b,b<m->y b=lb b):∀{xs:List SV},SV.bds n m xs->SV.vals x y xs=SV.vals ve lb xs
 | [],_=>rfl
 |_::_,h=>by simp only[SV.vals,SV.val_congr e c h.1,SV.vals_congr e c h.2]
end
mutual
theorem SV.d_congr{ρ ρ':Nat->D}{n m:Nat}(y:∀i,i<n->ρ' i=ρ i):∀{x:SV},x.bd n m->x.d ρ'=x.d ρ
 |.v i,h=>y i h
 |.c _,_=>rfl
 |.loc b _,h=>rfl
 |.ptr s i _ _,h=>rfl
 |.pp i _,h=>by simp only[SV.d,y i h]
 |.agg cs,h=>by simp only[SV.d,SV.ds_congr y (xs:=cs) h]
 |.tup cs,h=>by simp only[SV.d,SV.ds_congr y (xs:=cs) h]
 |.fn _ a b,h=>by simp only[SV.d,SV.ds_congr y h.1,SV.ds_congr y h.2]
 |.ifc _ x,h=>by simp only[SV.d,SV.d_congr y (x:=x) h]
 |.yld _,_=>rfl
theorem SV.ds_congr{ρ ρ':Nat->D}{n m:Nat}(x:∀i,i<n->ρ' i=ρ i):∀{xs:List SV},SV.bds n m xs->SV.ds ρ' xs=SV.ds ρ xs
 | [],_=>rfl
 |_::_,h=>by simp only[SV.ds,SV.d_congr x h.1,SV.ds_congr x h.2]
end
theorem SV.vals_map(ve:Nat->Value)(lb:Nat->Nat):∀xs:List SV,SV.vals ve lb xs=xs.map (SV.val ve lb)
 | []=>rfl
 |x::xs=>by simp[SV.vals,SV.vals_map ve lb xs]
theorem SV.ds_map(ρ:Nat->D):∀xs:List SV,SV.ds ρ xs=xs.map (SV.d ρ)
 | []=>rfl
 |x::xs=>by simp[SV.ds,SV.ds_map ρ xs]
theorem SV.bds_iff{n m:Nat}:∀{xs:List SV},SV.bds n m xs↔∀x∈xs,x.bd n m
 | []=>by simp[SV.bds]
 |x::xs=>by simp[SV.bds,SV.bds_iff (xs:=xs)]
structure Lim where
 n:Nat
 K:Nat->Prop
 F:List Nat:=[]
 /-- the frames that wait, and the loop dU a function that is under way -/
 frs:List Fr:=[]
 rd:Bool:=false
 lfr:Fr:=⟨0,false,.leaf⟩
 lps:List Tmp:=[]
 las:Code:=.skip
 lbd:Code:=.skip
def Lim.own(L:Lim)(b h:Nat):Prop:=L.n<=h/\¬L.K b
def Lim.base(L:Lim)(n:Nat):Prop:=L.n<=n/\∀b,L.K b->b<n
def Lim.of(n:Nat):Lim:={n:=n,K:=(·< n)}
theorem Lim.base.mono{L:Lim}{n m:Nat}(h:L.base n)(x:n<=m):L.base m:=⟨lT h.1 x,λb y=>Nat.lt_of_lt_of_le (h.2 b y) x⟩
theorem Lim.base.new{L:Lim}{n:Nat}(h:L.base n):L.own n n:=⟨h.1,λx=>Nat.lt_irrefl _ (h.2 n x)⟩
theorem Lim.of_base(n:Nat):(Lim.of n).base n:=⟨lR _,λ_ h=>h⟩
def vR(v:Value):Option Nat:=match v with
 |.slice (some ⟨b,_,_⟩) _ c=>if qT<=c then some b else none
 |.map (some b)=>some b
 |_=>none
structure OwnL (g:zB) (bs:zB) (n0:Lim) (d:D) (v:Value) (B l:Nat) (cs vs:List Value) (el rt sz:Nat) (es:List D):Prop where
 v:v=.slice (some ⟨B,0,none⟩) l qT
 d:d=.sl el sz es
 b:bs B=some ⟨.cells cs el,rt,true⟩
 rt:n0.own B rt
 t:take? cs (l*sz)=some vs
 r:DRs g (es.flatMap D.cells) vs
 n:es.length=l
 s:∀e∈es,e.cells.length=sz
 x:l<qT
 o:vs.all qE=true
structure OwnM (g:zB) (bs:zB) (n0:Lim) (d:D) (v:Value) (B:Nat) (es:List MapEntry) (clock rt:Nat) (ks:List Value) (ds:List D):Prop where
 v:v=.map (some B)
 d:d=.mp ks ds
 b:bs B=some ⟨.map es clock,rt,true⟩
 rt:n0.own B rt
 k:es.map (·.key)=ks
 r:DRs g ds (es.map (·.val))
theorem OwnM.own{g c:zB}{n0:Lim}{d:D}{v:Value}{B:Nat}{es:List MapEntry}{x y:Nat}{b:List Value}{ds:List D}(h:OwnM g c n0 d v B es x y b ds):vR v=some B:=by rw[h.v];rfl
theorem OwnM.mono{g g' e bs':zB}{n0:Lim}{d:D}{v:Value}{B:Nat}{es:List MapEntry}{x y:Nat}{c:List Value}{ds:List D}(h:OwnM g e n0 d v B es x y c ds)(i:zB.le g g')(j:∀B,vR v=some B->bs' B=e B):OwnM g' bs' n0 d v B es x y c ds:=
 {h with b:=by rw[j B h.own];exact h.b,r:=h.r.mono i}
def qGa(g:zB)(d:D)(v:Value):Prop:=(v=.slice none 0 0/\d=.nil)∨(DR g d v/\∃a,v=.slice (some a) 0 0)
theorem qGa.dr{g:zB}{d:D}{v:Value}(h:qGa g d v):DR g d v:=by
 rcases h with⟨y,x⟩|⟨h,_⟩
 ·rw[y,x];exact .nil
 exact h
theorem qGa.own{g:zB}{d:D}{v:Value}(h:qGa g d v):vR v=none:=by
 rcases h with⟨x,_⟩|⟨_,a,h⟩
 ·rw[x];rfl
 rw[h];simp[vR,qT]
theorem qGa.mono{g g':zB}(x:zB.le g g'){d:D}{v:Value}(h:qGa g d v):qGa g' d v:=by
 rcases h with h|⟨h,a⟩
 ·exact .inl h
 exact .inr ⟨h.mono x,a⟩
theorem qGa.sl{g:zB}{d:D}{v:Value}(h:qGa g d v):d=.nil∨∃el sz,d=.sl el sz []:=by
 rcases h with⟨_,y⟩|⟨h,a,rfl⟩
 ·exact .inl y
 cases h with
 |leaf b=>simp[wJ]at b
 |sl e c hv x=>exact .inr ⟨_,_,by rw[List.length_eq_zero_iff.1 x]⟩
theorem qGa.one{g:zB}{d:D}{v:Value}(h:qGa g d v):d.one=true:=by rcases h.sl with rfl|⟨el,sz,rfl⟩<;>rfl
def kW(g:zB)(y:zB)(n0:Lim)(d:D)(v:Value):Prop:=
 qGa g d v∨(∃B l cs vs el x sz es,OwnL g y n0 d v B l cs vs el x sz es)∨∃B es h x b ds,OwnM g y n0 d v B es h x b ds
def qA8(g:zB)(h:zB)(n0:Lim)(s:VSt)(d:D)(v:Value):Prop:=(s.one=true->d.one=true)/\match s.k with
 |.pure=>DR g d v
 |.full=>qGa g d v
 |.fresh=>kW g h n0 d v
 |.dead=>True
 |.ptr=>DR g d v/\∃cs o,d=.ptr cs o
def jO(ρ:Nat->D)(ve:Nat->Value)(lb:Nat->Nat)(cs:List Value):Blk->Prop
 |.cells xs=>cs=SV.vals ve lb xs
 |.whole x n=>cs=(x.val ve lb).cells.toList/\∃ds,x.d ρ=.agg ds/\ds.length=n
 |.loop _ _=>False
 |.tcells _ xs=>cs=SV.vals ve lb xs
def qLr:Nat->LoopState
 |0=>.ready
 |1=>.busy
 |_=>.done
def qDD:Nat->Option Code
 |0=>none
 |1=>some .ret
 |n+2=>some (.exit n)
def nC(n0:Lim)(ρ:Nat->D)(ve:Nat->Value)(lb:Nat->Nat)(h:zB)(l:Nat):Blk->Prop
 |.loop st y=>∃rt,h l=some ⟨.loop (qLr st) (qDD y) ⟨n0.lfr.sz,true,n0.lfr.t⟩ n0.lps n0.las n0.lbd,rt,true⟩/\n0.own l rt
 |.tcells 0 xs=>∃rt st n,h l=some ⟨.siter st n,rt,true⟩/\n0.own l rt/\jO ρ ve lb [.string st,goInt n] (.tcells 0 xs)
 |.tcells (t+1) xs=>∃rt p cs,h l=some ⟨.cells (p::cs) t,rt,true⟩/\n0.own l rt/\(p=.pointer none∨p=.pointer (some ⟨l,0,none⟩))/\jO ρ ve lb cs (.tcells (t+1) xs)
 |x=>∃el rt cs,h l=some ⟨.cells cs el,rt,true⟩/\n0.own l rt/\jO ρ ve lb cs x
def Blk.bd(n m:Nat):Blk->Prop
 |.cells xs=>SV.bds n m xs
 |.whole x _=>x.bd n m
 |.loop _ _=>True
 |.tcells _ xs=>SV.bds n m xs
def WF(H:AH):Prop:=∀b k,H.blocks.get b=some k->k.root<=b/\b<H.next
def St.live(S:St)(b:Nat):Prop:=∃x,S.blks[b]? = some (some x)
structure SM (n0:Lim) (S:St) (ρ:List D) (ve:Nat->Value) (lb:Nat->Nat) (g:zB) (H:AH):Prop where
 len:ρ.length=S.sts.length
 wf:WF H
 mem:zB.le g H.blocks.get
 base:n0.base H.next
 fix:n0.F.length<=S.blks.length/\∀k a,n0.F[k]? = some a->lb k=a
 vars:∀i s,S.sts[i]? = some s->qA8 g H.blocks.get n0 s (getD ρ i) (ve i)
 blks:∀b x,S.blks[b]? = some (some x)->x.bd S.n S.blks.length/\nC n0 (getD ρ) ve lb H.blocks.get (lb b) x
 sepLG:∀b,S.live b->g (lb b)=none
 sepFG:∀i B,S.freshV i=true->vR (ve i)=some B->g B=none
 sepL:∀a b,S.live a->S.live b->lb a=lb b->a=b
 sepF:∀i j B,S.freshV i=true->S.freshV j=true->vR (ve i)=some B->vR (ve j)=some B->i=j
 sepX:∀b i,S.live b->S.freshV i=true->vR (ve i)≠some (lb b)
def bU(frs:List Fr)(sav:List (List (Nat×SV)))(n m:Nat)(ve:Nat->Value)(lb:Nat->Nat):Prop:=
 ∀(j:Nat) (l:List (Nat×SV)),sav[j]? = some l->∀(t:Nat) (x:SV),(t,x)∈l->x.bd n m/\∃f:Fr,frs[j]? = some f/\f.t.get t=some (x.val ve lb)
theorem bU.congr{frs:List Fr}{sav:List (List (Nat×SV))}{n m k p:Nat}{ve y:Nat->Value}{lb c:Nat->Nat}(A:n<=k)(z:m<=p)(C:∀i,i<n->y i=ve i)(B:∀b,b<m->c b=lb b)(h:bU frs sav n m ve lb):bU frs sav k p y c:=by intro j l w t x u;obtain⟨e,f,r,q⟩:=h j l w t x u;exact⟨SV.bd_mono A z e,f,r,by rw[SV.val_congr C B e];exact q⟩
theorem bU.nil{frs:List Fr}{n m:Nat}{ve:Nat->Value}{lb:Nat->Nat}:bU frs [] n m ve lb:=by intro j l h;simp at h
def qJF(E:Env)(g:zB):Prop:=∀p∈E.laid,g p.1=some p.2
theorem qJF.mono{E:Env}{g g':zB}(h:qJF E g)(y:zB.le g g'):qJF E g':=λp x=>y _ _ (h p x)
structure SR (E:Env) (n0:Lim) (H0:AH) (g0:zB) (S:St) (ρ:List D) (ve:Nat->Value) (lb:Nat->Nat) (g:zB) (fr:Fr) (H:AH):Prop extends SM n0 S ρ ve lb g H where
 sz:fr.sz=S.sz
 rd:fr.rd=n0.rd
 slots:∀t x,S.slots.get t=some x->x.bd S.n S.blks.length/\fr.t.get t=some (x.val ve lb)
 sav:bU n0.frs S.sav S.n S.blks.length ve lb
 keep:∀b,n0.K b->H.blocks.get b=H0.blocks.get b
 gk:∀b,n0.K b->g b=g0 b
 low:Nat.min H0.low n0.n<=H.low
 tab:qJF E g
section
variable{E:Env}{n0:Lim}{H0:AH}{S:St}{ρ:List D}{ve:Nat->Value}{lb:Nat->Nat}{g g':zB}{fr:Fr}{H:AH}
theorem kW.mono{e bs':zB}(y:zB.le g g'){d:D}{v:Value}(c:∀B,vR v=some B->bs' B=e B)(h:kW g e n0 d v):kW g' bs' n0 d v:=by
 rcases h with h|⟨B,l,cs,vs,el,rt,sz,es,h⟩|⟨B,es,x,rt,i,ds,h⟩
 ·exact .inl (h.mono y)
 ·refine .inr (.inl ⟨B,l,cs,vs,el,rt,sz,es,{h with b:=?_,r:=h.r.mono y}⟩);rw[c B (by rw[h.v];simp[vR])];exact h.b
 exact .inr (.inr ⟨B,es,x,rt,i,ds,h.mono y c⟩)
theorem qA8.mono{b bs':zB}(y:zB.le g g'){s:VSt}{d:D}{v:Value}(c:s.k=.fresh->∀B,vR v=some B->bs' B=b B)(h:qA8 g b n0 s d v):qA8 g' bs' n0 s d v:=by
 obtain⟨k,o⟩:=s;refine⟨h.1,?_⟩;have x:=h.2;cases k<;>simp only at x ⊢
 ·exact x.mono y
 ·exact x.mono y
 ·exact x.mono y (c rfl)
 exact⟨x.1.mono y,x.2⟩
def Blk.isL:Blk->Bool
 |.loop _ _=>true
 |.tcells _ _=>true
 |_=>false
theorem nC.cells{ρ:Nat->D}{c:zB}{l:Nat}{x:Blk}(b:x.isL=false)(h:nC n0 ρ ve lb c l x):∃el rt cs,c l=some ⟨.cells cs el,rt,true⟩/\n0.own l rt/\jO ρ ve lb cs x:=by
 cases x with
 |loop st e=>cases b
 |tcells t xs=>cases b
 |cells cs=>exact h
 |whole y n=>exact h
theorem nC.ofCells{ρ:Nat->D}{c:zB}{l:Nat}{x:Blk}(b:x.isL=false)(h:∃el rt cs,c l=some ⟨.cells cs el,rt,true⟩/\n0.own l rt/\jO ρ ve lb cs x):nC n0 ρ ve lb c l x:=by
 cases x with
 |loop st e=>cases b
 |tcells t xs=>cases b
 |cells cs=>exact h
 |whole y n=>exact h
theorem nC.here{ρ:Nat->D}{e:zB}{l:Nat}{x:Blk}(h:nC n0 ρ ve lb e l x):∃k,e l=some k/\n0.own l k.root:=by
 cases x with
 |loop st i=>obtain⟨rt,c,b⟩:=h;exact⟨_,c,b⟩
 |tcells t xs=>cases t with
  |zero=>obtain⟨rt,p,cs,c,b,_⟩:=h;exact⟨_,c,b⟩
  |succ t=>obtain⟨rt,p,cs,c,b,_⟩:=h;exact⟨_,c,b⟩
 |cells cs=>obtain⟨el,rt,cs,c,b,_⟩:=h;exact⟨_,c,b⟩
 |whole y n=>obtain⟨el,rt,cs,c,b,_⟩:=h;exact⟨_,c,b⟩
theorem nC.congr{ρ ρ':Nat->D}{i:Nat->Value}{j:Nat->Nat}{r bs':zB}{l q:Nat}{x:Blk}(h:nC n0 ρ ve lb r l x)(e:bs' q=r l)(u:q=l)(k:∀cs,jO ρ ve lb cs x->jO ρ' i j cs x):nC n0 ρ' i j bs' q x:=by
 subst u;cases x with
 |loop st z=>obtain⟨rt,c,b⟩:=h;exact⟨rt,by rw[e];exact c,b⟩
 |tcells t xs=>cases t with
  |zero=>obtain⟨rt,p,cs,c,b,h3⟩:=h;exact⟨rt,p,cs,by rw[e];exact c,b,k _ h3⟩
  |succ t=>obtain⟨rt,p,cs,c,b,w,h3⟩:=h;exact⟨rt,p,cs,by rw[e];exact c,b,w,k _ h3⟩
 |cells cs=>obtain⟨el,rt,cs,c,b,h3⟩:=h;exact⟨el,rt,cs,by rw[e];exact c,b,k _ h3⟩
 |whole y n=>obtain⟨el,rt,cs,c,b,h3⟩:=h;exact⟨el,rt,cs,by rw[e];exact c,b,k _ h3⟩
theorem zC{i:Nat}:S.freshV i=true↔∃o,S.sts[i]? = some ⟨.fresh,o⟩:=by unfold St.freshV;grind
theorem qQv{i:Nat}(h:S.pureV i=true):∃s,S.sts[i]? = some s/\(s.k=.pure∨s.k=.full∨s.k=.ptr):=by unfold St.pureV at h;grind
theorem qIB(h:SM n0 S ρ ve lb g H){i:Nat}(x:S.isPtr i=true):DR g (getD ρ i) (ve i)/\∃cs o,getD ρ i=.ptr cs o:=by
 unfold St.isPtr at x;split at x
 ·rename_i o y;exact(h.vars i _ y).2
 cases x
theorem qFl(h:SM n0 S ρ ve lb g H){i:Nat}(x:S.pureV i=true):DR g (getD ρ i) (ve i):=by
 obtain⟨s,b,y⟩:=qQv x;have:=(h.vars i s b).2;obtain⟨k,o⟩:=s;rcases y with rfl|rfl|rfl
 ·exact this
 ·exact this.dr
 exact this.1
theorem qIG(h:SM n0 S ρ ve lb g H){i:Nat}(x:S.oneV i=true):(getD ρ i).one=true:=by
 unfold St.oneV at x;split at x
 ·rename_i o y;exact(h.vars i _ y).1 x
 cases x
def qEN(g:zB)(y:zB)(d:D)(v:Value):Prop:=DR g d v∨(∃n0 B l cs vs el x sz es,OwnL g y n0 d v B l cs vs el x sz es)∨∃n0 B es h x b ds,OwnM g y n0 d v B es h x b ds
theorem qUm{p:D}{v:Value}{off:Nat}(h:DR g p v)(x:∃cs o,p=.ptr cs o):DR g (qZF p off) (qQz v off):=by
 obtain⟨cs,o,rfl⟩:=x;cases h with
 |ptr b hv y=>exact .ptr b hv y
theorem qFs(h:SM n0 S ρ ve lb g H):∀{x:SV},dV S x=true->DR g (x.d (getD ρ)) (x.val ve lb)->qE (x.val ve lb)=true
 |.v i,y,hd=>by rw[hd.one];exact qIG h y
 |.c x,y,_=>y
 |.loc _ _,_,_=>rfl
 |.ptr s i sz off,_,_=>by simp only[SV.val,qCc];split<;>rfl
 |.pp i off,_,_=>by simp only[SV.val,qQz];split<;>rfl
 |.agg _,y,_=>by cases y
 |.tup _,y,_=>by cases y
 |.fn _ _ _,_,_=>rfl
 |.ifc _ _,_,_=>rfl
 |.yld _,_,_=>rfl
mutual
theorem jQ(h:SM n0 S ρ ve lb g H):∀{x:SV},wC S x=true->DR g (x.d (getD ρ)) (x.val ve lb)
 |.v i,y=>qFl h y
 |.c x,y=>qFw 6 x y
 |.loc _ _,y=>by cases y
 |.ptr _ _ _ _,y=>by cases y
 |.pp i off,y=>by obtain⟨k,j⟩:=qIB h y;exact qUm k j
 |.agg cs,y=>by
  simp only[wC,aE]at y;have:=bE h y.1;refine .agg this ?_;rw[List.all_eq_true];intro v hv;rw[SV.vals_map]at hv;obtain⟨x,c,rfl⟩:=List.mem_map.1 hv;have e:dV S x=true:=by grind
  exact qFs h e (qKa h y.1 c)
 |.tup cs,y=>.tup (bE h (xs:=cs) y)
 |.fn f a b,y=>by simp only[wC,aE]at y;exact .clo y.1.1 (bE h y.1.2) (bE h y.2)
 |.ifc t x,y=>.iface (jQ h (x:=x) y)
theorem bE(h:SM n0 S ρ ve lb g H):∀{xs:List SV},cH S xs=true->DRs g (SV.ds (getD ρ) xs) (SV.vals ve lb xs)
 | [],_=>.nil
 |x::xs,y=>by simp only[cH,aE]at y;exact .cons (jQ h y.1) (bE h y.2)
theorem qKa(h:SM n0 S ρ ve lb g H):∀{xs:List SV},cH S xs=true->∀{x:SV},x∈xs->DR g (x.d (getD ρ)) (x.val ve lb)
 |y::xs,b,x,c=>by
  simp only[cH,aE]at b;by_cases e:x=y
  ·rw[e];exact jQ h b.1
  exact qKa h b.2 (by simpa[e]using c)
end
theorem zE(h:SM n0 S ρ ve lb g H){x:SV}(b:wB S x=true):qEN g H.blocks.get (x.d (getD ρ)) (x.val ve lb):=by
 have y:wC S x=true->qEN g H.blocks.get (x.d (getD ρ)) (x.val ve lb):=λb=>.inl (jQ h b);cases x with
 | v i=>
  simp only[wB,St.readV]at b;split at b
  ·cases b
  ·rename_i s p j;obtain⟨k,o⟩:=s;have hv:=(h.vars i _ j).2;cases k with
   |pure=>exact .inl hv
   |full=>exact .inl hv.dr
   |ptr=>exact .inl hv.1
   |dead=>exact absurd rfl (p o)
   |fresh=>
    rcases hv with q|⟨B,l,cs,vs,el,rt,sz,es,q⟩|⟨B,es,c,rt,e,ds,q⟩
    ·exact .inl q.dr
    ·exact .inr (.inl ⟨n0,B,l,cs,vs,el,rt,sz,es,q⟩)
    exact .inr (.inr ⟨n0,B,es,c,rt,e,ds,q⟩)
  cases b
 |_=>exact y b
structure SliceR (g:zB) (bs:zB) (el:TypeId) (sz:Nat) (es:List D) (v:Value) (b o l c rt:Nat) (cs vs:List Value) (own:Bool):Prop where
 v:v=.slice (some ⟨b,o,none⟩) l c
 b:bs b=some ⟨.cells cs el,rt,own⟩
 t:take? (cs.drop o) (l*sz)=some vs
 r:DRs g (es.flatMap D.cells) vs
 n:es.length=l
 s:∀e∈es,e.cells.length=sz
 c:l<=c
 x:l<qT
 o:vs.all qE=true
theorem qEN.sl{y:zB}(hm:zB.le g y){el:TypeId}{sz:Nat}{es:List D}{v:Value}(h:qEN g y (.sl el sz es) v):∃b o l c rt cs vs own,SliceR g y el sz es v b o l c rt cs vs own:=by
 rcases h with h|⟨n0,B,l,cs,vs,zS,rt,sz,es',h⟩|⟨n0,B,es,x,rt,r,ds,h⟩
 ·cases h with
  |sl q i hv k hs p e j=>exact⟨_,_,_,_,_,_,_,_,rfl,hm _ _ q,i,hv,k,hs,p,e,j⟩
 ·have hd:=h.d;cases hd;exact⟨B,0,l,qT,rt,cs,vs,true,h.v,h.b,by simpa using h.t,h.r,h.n,h.s,Nat.le_of_lt h.x,h.x,h.o⟩
 have hd:=h.d;cases hd
def D.ownable:D->Bool
 |.sl _ _ _=>true
 |.mp _ _=>true
 |_=>false
theorem qEN.dr{b:zB}{d:D}{v:Value}(h:qEN g b d v)(x:d.ownable=false):DR g d v:=by
 rcases h with h|⟨n0,B,l,cs,vs,zS,rt,sz,es',h⟩|⟨n0,B,es,y,rt,c,ds,h⟩
 ·exact h
 ·rw[h.d]at x;cases x
 rw[h.d]at x;cases x
theorem qEN.keys{y:zB}(hm:zB.le g y){b:List Value}{ds:List D}{v:Value}(h:qEN g y (.mp b ds) v):∃r es x rt own,v=.map (some r)/\y r=some ⟨.map es x,rt,own⟩/\es.map (·.key)=b/\DRs g ds (es.map (·.val)):=by
 rcases h with h|⟨n0,B,l,cs,vs,zS,rt,sz,es',h⟩|⟨n0,B,es,x,rt,c,j,h⟩
 ·cases h with
  |mp i e hv=>exact⟨_,_,_,_,_,rfl,hm _ _ i,e,hv⟩
 ·have hd:=h.d;cases hd
 have hd:=h.d;cases hd;exact⟨B,es,x,rt,true,h.v,h.b,h.k,h.r⟩
end
end Go.Am
namespace Go.Am
open Go
def mW(ve:Nat->Value)(n:Nat)(v:Value):Nat->Value:=λi=>if i=n then v else ve i
theorem iK{ve:Nat->Value}{n:Nat}{v:Value}{i:Nat}(h:i<n):mW ve n v i=ve i:=if_neg (by omega)
theorem jA{ve:Nat->Value}{n:Nat}{v:Value}:mW ve n v n=v:=if_pos rfl
theorem qKA{ρ:List D}{d:D}{i:Nat}(h:i < ρ.length):getD (ρ++[d]) i=getD ρ i:=by simp[getD,List.getElem?_append_left h]
theorem tS{ρ:List D}{d:D}:getD (ρ++[d]) ρ.length=d:=by simp[getD]
section
variable{E:Env}{n0:Lim}{H0:AH}{g0:zB}{S:St}{ρ:List D}{ve:Nat->Value}{lb:Nat->Nat}{g:zB}{fr:Fr}{H:AH}
theorem jO.congr{ρ ρ':Nat->D}{ve y:Nat->Value}{lb c:Nat->Nat}{n m:Nat}(k:∀i,i<n->y i=ve i)(j:∀b,b<m->c b=lb b)(h3:∀i,i<n->ρ' i=ρ i){cs:List Value}{x:Blk}(e:x.bd n m)(h:jO ρ ve lb cs x):jO ρ' y c cs x:=by
 cases x with
 |cells xs=>simp only[jO]at h ⊢;rw[h,SV.vals_congr k j e]
 |whole x l=>simp only[jO]at h ⊢;rw[SV.val_congr k j e,SV.d_congr h3 e];exact h
 |loop _ _=>exact h
 |tcells _ xs=>simp only[jO]at h ⊢;rw[h,SV.vals_congr k j e]
theorem Blk.bd_mono{n m y e:Nat}(c:n<=y)(b:m<=e){x:Blk}(h:x.bd n m):x.bd y e:=by
 cases x with
 |cells xs=>exact SV.bds_mono c b h
 |whole x y=>exact SV.bd_mono c b h
 |loop _ _=>trivial
 |tcells _ xs=>exact SV.bds_mono c b h
theorem xQ{k:VK}{o:Bool}:(S.new k o).n=S.n+1:=by simp[St.new,St.n]
theorem qCm{k:VK}{o:Bool}{i:Nat}{s:VSt}(h:(S.new k o).sts[i]? = some s):(i<S.n/\S.sts[i]? = some s)∨(i=S.n/\s=⟨k,o⟩):=by
 simp only[St.new]at h;rcases Nat.lt_trichotomy i S.sts.length with x|x|x
 ·rw[List.getElem?_append_left x]at h;exact .inl ⟨x,h⟩
 ·subst x;simp at h;exact .inr ⟨rfl,h.symm⟩
 grind
theorem gQ{k:VK}{o:Bool}(b:k≠.fresh){i:Nat}(h:(S.new k o).freshV i=true):S.freshV i=true/\i<S.n:=by
 obtain⟨e,c⟩:=zC.1 h;rcases qCm c with⟨y,x⟩|⟨y,x⟩
 ·exact⟨zC.2 ⟨_,x⟩,y⟩
 cases x;exact absurd rfl b
theorem tU{i:Nat}(h:S.freshV i=true):i<S.n:=by obtain⟨o,h⟩:=zC.1 h;exact(gI h).1
theorem SM.new(h:SM n0 S ρ ve lb g H){k:VK}{o:Bool}{d:D}{v:Value}(p:k≠.fresh)(hv:qA8 g H.blocks.get n0 ⟨k,o⟩ d v):SM n0 (S.new k o) (ρ++[d]) (mW ve S.n v) lb g H:=by
 have C:ρ.length=S.n:=h.len;have l:∀i,i<S.n->mW ve S.n v i=ve i:=λi e=>iK e;have u:∀i,i<S.n->getD (ρ++[d]) i=getD ρ i:=λi e=>qKA (by omega);refine {len:=by simp[St.new,h.len],wf:=h.wf,mem:=h.mem,base:=h.base,fix:=h.fix,vars:=?_,blks:=?_,sepLG:=h.sepLG,sepFG:=?_,sepL:=h.sepL,sepF:=?_,sepX:=?_}
 ·intro i s A;rcases qCm A with⟨y,c⟩|⟨y,c⟩
  ·rw[l i y,u i y];exact h.vars i s c
  subst y c;rw[jA,←C,tS];exact hv
 ·intro b x q;obtain⟨r,z⟩:=h.blks b x q;exact⟨Blk.bd_mono (by rw[xQ];omega) (lR _) r,z.congr rfl rfl λ_ w=>w.congr l (λ_ _=>rfl) u r⟩
 ·intro i B G t;obtain⟨y,c⟩:=gQ p G;rw[l i c]at t;exact h.sepFG i B y t
 ·intro i j B e F y c;obtain⟨a1,a2⟩:=gQ p e;obtain⟨J,I⟩:=gQ p F;rw[l _ a2]at y;rw[l _ I]at c;exact h.sepF i j B a1 J y c
 intro b i q e;obtain⟨a1,a2⟩:=gQ p e;rw[l _ a2];exact h.sepX b i q a1
structure ExtS (S:St) (ρ:List D) (ve:Nat->Value) (g:zB) (S':St) (ρ':List D) (ve':Nat->Value) (g':zB):Prop where
 n:S.n<=S'.n
 slots:S'.slots=S.slots
 blks:S'.blks=S.blks
 sz:S'.sz=S.sz
 sav:S'.sav=S.sav
 ve:∀i,i<S.n->ve' i=ve i
 ρ:∀i,i<S.n->getD ρ' i=getD ρ i
 g:zB.le g g'
theorem ExtS.refl:ExtS S ρ ve g S ρ ve g:=⟨lR _,rfl,rfl,rfl,rfl,λ_ _=>rfl,λ_ _=>rfl,zB.le_refl _⟩
theorem ExtS.trans{j e:St}{h ρ2:List D}{x ve2:Nat->Value}{g1 c:zB}(a:ExtS S ρ ve g j h x g1)(b:ExtS j h x g1 e ρ2 ve2 c):ExtS S ρ ve g e ρ2 ve2 c:=
 ⟨lT a.n b.n,b.slots.trans a.slots,b.blks.trans a.blks,b.sz.trans a.sz,b.sav.trans a.sav,λi y=>(b.ve i (Nat.lt_of_lt_of_le y a.n)).trans (a.ve i y),λi y=>(b.ρ i (Nat.lt_of_lt_of_le y a.n)).trans (a.ρ i y),zB.le_trans a.g b.g⟩
theorem ExtS.val{S':St}{ρ':List D}{y:Nat->Value}{g':zB}(e:ExtS S ρ ve g S' ρ' y g'){x:SV}{m:Nat}(h:x.bd S.n m):x.val y lb=x.val ve lb:=
 SV.val_congr e.ve (λ_ _=>rfl) h
theorem ExtS.d{S':St}{ρ':List D}{y:Nat->Value}{g':zB}(e:ExtS S ρ ve g S' ρ' y g'){x:SV}{m:Nat}(h:x.bd S.n m):x.d (getD ρ')=x.d (getD ρ):=
 SV.d_congr e.ρ h
theorem ExtS.bd{S':St}{ρ':List D}{y:Nat->Value}{g':zB}(e:ExtS S ρ ve g S' ρ' y g'){x:SV}(h:x.bd S.n S.blks.length):x.bd S'.n S'.blks.length:=by rw[e.blks];exact SV.bd_mono e.n (lR _) h
theorem ExtS.bds{S':St}{ρ':List D}{y:Nat->Value}{g':zB}(e:ExtS S ρ ve g S' ρ' y g'){x:List SV}(h:SV.bds S.n S.blks.length x):SV.bds S'.n S'.blks.length x:=by rw[e.blks];exact SV.bds_mono e.n (lR _) h
theorem SR.ext(h:SR E n0 H0 g0 S ρ ve lb g fr H){S':St}{ρ':List D}{y:Nat->Value}{g':zB}(m:SM n0 S' ρ' y lb g' H)(e:ExtS S ρ ve g S' ρ' y g')(k:∀b,n0.K b->g' b=g b):SR E n0 H0 g0 S' ρ' y lb g' fr H:=
  { m with
    sz:=by rw[e.sz];exact h.sz
    rd:=h.rd
    slots:=λt x c=>by rw[e.slots]at c;obtain⟨j,l⟩:=h.slots t x c;exact⟨e.bd j,by rw[e.val j];exact l⟩
    sav:=by rw[e.sav,e.blks];exact h.sav.congr e.n (lR _) e.ve (λ_ _=>rfl)
    keep:=h.keep
    low:=h.low
    tab:=h.tab.mono e.g
    gk:=λb i=>(k b i).trans (h.gk b i)}
theorem wN(h:ρ.length=S.n){k:VK}{o:Bool}{d:D}{v:Value}:ExtS S ρ ve g (S.new k o) (ρ++[d]) (mW ve S.n v) g:=
 ⟨by rw[xQ];omega,rfl,rfl,rfl,rfl,λi x=>iK x,λi x=>qKA (by omega),zB.le_refl _⟩
theorem SR.new(h:SR E n0 H0 g0 S ρ ve lb g fr H){k:VK}{o:Bool}{d:D}{v:Value}(x:k≠.fresh)(hv:qA8 g H.blocks.get n0 ⟨k,o⟩ d v):
  SR E n0 H0 g0 (S.new k o) (ρ++[d]) (mW ve S.n v) lb g fr H:=
 h.ext (h.toSM.new x hv) (wN h.len) (λ_ _=>rfl)
theorem qEp{i j:Nat}{s:VSt}(h:(S.freeze i).sts[j]? = some s):∃x,S.sts[j]? = some x/\s=if i=j then tV x else x:=by simp only[St.freeze,List.getElem?_modify]at h;grind
theorem qHm{i:Nat}:(S.freeze i).n=S.n:=by simp[St.freeze,St.n]
theorem qCK{s:VSt}:(tV s).k≠.fresh:=by
 unfold tV;split
 ·simp
 rename_i h;intro e;obtain⟨k,o⟩:=s;simp only at e;subst e;exact h _ rfl
theorem nE{i j:Nat}(h:(S.freeze i).freshV j=true):S.freshV j=true/\i≠j:=by
 obtain⟨o,h⟩:=zC.1 h;obtain⟨b,c,y⟩:=qEp h;split at y
 ·exact absurd (by rw[←y]) (qCK (s:=b))
 rename_i x;subst y;exact⟨zC.2 ⟨_,c⟩,x⟩
theorem qL7(h:SR E n0 H0 g0 S ρ ve lb g fr H)(i:Nat):∃g',ExtS S ρ ve g (S.freeze i) ρ ve g'/\SR E n0 H0 g0 (S.freeze i) ρ ve lb g' fr H:=by
 have key:∀g',zB.le g g'->zB.le g' H.blocks.get->(∀b,n0.K b->g' b=g b)->(∀o,S.sts[i]? = some ⟨.fresh,o⟩->DR g' (getD ρ i) (ve i))->(∀B,g' B≠g B->S.freshV i=true/\vR (ve i)=some B)->
   ExtS S ρ ve g (S.freeze i) ρ ve g'/\SR E n0 H0 g0 (S.freeze i) ρ ve lb g' fr H:=by
  intro g' O R U V w
  have e:ExtS S ρ ve g (S.freeze i) ρ ve g':=⟨by rw[qHm];exact lR _,rfl,rfl,rfl,rfl,λ_ _=>rfl,λ_ _=>rfl,O⟩
  refine⟨e,h.ext ?_ e U⟩
  refine {len:=by simp[St.freeze,h.len],wf:=h.wf,mem:=R,base:=h.base,fix:=h.fix,vars:=?_,blks:=?_,sepLG:=?_,sepFG:=?_,sepL:=h.sepL,sepF:=?_,sepX:=?_}
  ·intro j s P
   obtain⟨N,r,p⟩:=qEp P
   have hv:=(h.vars j N r).mono O (bs':=H.blocks.get) (λ_ _ _=>rfl)
   split at p
   ·rename_i J
    subst J
    obtain⟨k,o⟩:=N
    cases k<;>(subst p;first|exact hv|skip)
    exact⟨hv.1,V o r⟩
   subst p;exact hv
  ·intro b x y
   obtain⟨F,C⟩:=h.blks b x y
   exact⟨by rw[qHm];exact F,C⟩
  ·intro b y
   have G:=h.sepLG b y
   cases L:g' (lb b)with
   |none=>rfl
   |some k=>
    obtain⟨r,p⟩:=w (lb b) (by rw[L,G];simp)
    exact absurd p (h.sepX b i y r)
  ·intro j B I u
   obtain⟨r,p⟩:=nE I
   have G:=h.sepFG j B r u
   cases L:g' B with
   |none=>rfl
   |some k=>
    obtain⟨F,C⟩:=w B (by rw[L,G];simp)
    exact absurd (h.sepF i j B F r C u) p
  ·intro a b B W y r p
   exact h.sepF a b B (nE W).1 (nE y).1 r p
  intro b j y I
  exact h.sepX b j y (nE I).1
 cases A:S.freshV i with
 |false=>exact⟨g,key g (zB.le_refl _) h.mem (λ_ _=>rfl) (λo u=>by rw[zC.2 ⟨o,u⟩]at A;cases A) (λB w=>absurd rfl w)⟩
 | true=>
  obtain⟨o,u⟩:=zC.1 A
  have add:∀B:Nat,vR (ve i)=some B->(∃rt,n0.own B rt)->(∀g',zB.le g g'->g' B=H.blocks.get B->DR g' (getD ρ i) (ve i))->
    ∃g',ExtS S ρ ve g (S.freeze i) ρ ve g'/\SR E n0 H0 g0 (S.freeze i) ρ ve lb g' fr H:=by
   intro B z t K
   have c:zB.le g (λb=>if b=B then H.blocks.get b else g b):=by
    intro b k y
    simp only
    split
    ·exact h.mem b k y
    exact y
   refine⟨λb=>if b=B then H.blocks.get b else g b,key _ c ?_ ?_ ?_ ?_⟩
   ·intro b k y
    simp only at y
    split at y
    ·exact y
    exact h.mem b k y
   ·intro b y
    rw[if_neg]
    intro e
    subst e
    obtain⟨rt,t⟩:=t
    exact t.2 y
   ·intro _ _
    exact K _ c (by simp only[if_true])
   intro b y
   split at y
   ·rename_i e;rw[e];exact⟨A,z⟩
   exact absurd rfl y
  rcases(h.vars i _ u).2 with q|⟨B,l,cs,vs,el,rt,sz,es,q⟩|⟨B,es,M,rt,X,ds,q⟩
  ·exact⟨g,key g (zB.le_refl _) h.mem (λ_ _=>rfl) (λ_ _=>q.dr) (λB w=>absurd rfl w)⟩
  ·refine add B (by rw[q.v];simp[vR]) ⟨_,q.rt⟩ λg' c e=>?_;rw[q.v,q.d];exact .sl (g:=g') (sz:=sz) (cs:=cs) (by rw[e];exact q.b) (by simpa using q.t) (q.r.mono c) q.n q.s (Nat.le_of_lt q.x) q.x q.o
  refine add B q.own ⟨_,q.rt⟩ λg' c e=>?_;rw[q.v,q.d];exact .mp (g:=g') (by rw[e];exact q.b) q.k (q.r.mono c)
mutual
theorem mD:∀(x:SV) {S:St} {g:zB},SR E n0 H0 g0 S ρ ve lb g fr H->∃g',ExtS S ρ ve g (rC S x) ρ ve g'/\SR E n0 H0 g0 (rC S x) ρ ve lb g' fr H
 |.v i,_,_,h=>qL7 h i
 |.c _,_,g,h=>⟨g,.refl,h⟩
 |.loc _ _,_,g,h=>⟨g,.refl,h⟩
 |.ptr _ _ _ _,_,g,h=>⟨g,.refl,h⟩
 |.pp _ _,_,g,h=>⟨g,.refl,h⟩
 |.agg cs,_,_,h=>xC cs h
 |.tup cs,_,_,h=>xC cs h
 |.fn _ a b,_,_,h=>by obtain⟨l,k,c⟩:=xC a h;obtain⟨e,j,y⟩:=xC b c;exact⟨e,k.trans j,y⟩
 |.ifc _ x,_,_,h=>mD x h
 |.yld _,_,g,h=>⟨g,.refl,h⟩
theorem xC:∀(xs:List SV) {S:St} {g:zB},SR E n0 H0 g0 S ρ ve lb g fr H->∃g',ExtS S ρ ve g (vM S xs) ρ ve g'/\SR E n0 H0 g0 (vM S xs) ρ ve lb g' fr H
 | [],_,g,h=>⟨g,.refl,h⟩
 |x::xs,_,_,h=>by obtain⟨j,i,b⟩:=mD x h;obtain⟨c,e,y⟩:=xC xs b;exact⟨c,i.trans e,y⟩
end
theorem mB(h:SR E n0 H0 g0 S ρ ve lb g fr H){i:Nat}{b:Bool}(p:S.pureV i=true)(hd:getD ρ i=.leaf (.bool b)):SR E n0 H0 g0 (S.known i b) ρ ve lb g fr H:=by
 have hv:ve i=.bool b:=by have:=qFl h.toSM p;rw[hd]at this;exact this.leaf_inv.1
 refine {h with slots:=?_};intro t x l;simp only[St.known,T.get_map,Option.map_eq_some_iff]at l;obtain⟨y,q,rfl⟩:=l;obtain⟨k,c⟩:=h.slots t y q;cases y with
 |v j=>
  simp only[SV.known,qY];split
  ·rename_i e;subst e;exact⟨trivial,by rw[c];simp only[SV.val,hv]⟩
  exact⟨k,c⟩
 |_=>exact⟨k,c⟩
theorem uY(h:SR E n0 H0 g0 S ρ ve lb g fr H){dst:Option Tmp}{y:SV}{S':St}(k:y.bd S.n S.blks.length)(c:S.put dst y=some S'):∃i,wR fr dst (y.val ve lb)=some i/\SR E n0 H0 g0 S' ρ ve lb g i H:=by
 cases dst with
 |none=>cases c;exact⟨fr,rfl,h⟩
 |some d=>
  simp only[St.put,vQ]at c;split at c;case isFalse=>cases c
  rename_i j;cases c;refine⟨⟨fr.sz,fr.rd,fr.t.put d (some (y.val ve lb))⟩,?_,?_⟩
  ·simp only[wR,vQ,h.sz];rw[if_pos j]
  refine {h with slots:=?_};intro t x b;simp only at b ⊢;rw[T.get_put]at b ⊢;by_cases e:t=d
  ·rw[if_pos e]at b ⊢;cases b;exact⟨k,rfl⟩
  rw[if_neg e]at b ⊢;exact h.slots t x b
variable{HS:FuncId->List D->D->Prop}{Q:Res1->Prop}
theorem zV{o:TOp}{args:List SV}{k:VK}{one:Bool}{κ:K1}(h:wp E HS Q (jX o args k one S κ) ρ):∃d,(∀x∈args,wB S x=true)/\o.eval E (SV.ds (getD ρ) args)=some d/\wp E HS Q (κ (.v S.n) (S.new k one)) (ρ++[d]):=by
 unfold jX at h;cases hr:args.all (wB S)with
 |false=>rw[hr]at h;cases h
 |true=>
  rw[hr]at h;simp only[cond_true,wp]at h;split at h
  ·rename_i d hd;rw[List.all_eq_true]at hr;exact⟨d,hr,hd,h⟩
  cases h
end
end Go.Am
namespace Go.Am
open Go
def nB(ag:Bool)(size off:Nat)(vs:List Value):Option Value:=
 bif ag then(take? (vs.drop off) size).map λl=>.agg ⟨l⟩else vs[off]?
theorem qH3{α:Type}{a b:Bool}{x:α}{r:α}(h:(bif a&&b then some x else none)=some r):a=true/\b=true/\x=r:=by grind
theorem lX{p:Value->Bool}{vs:List Value}(h:vs.all p=true)(o n:Nat):((vs.drop o).take n).all p=true:=by grind
section
variable{g:zB}
theorem s8{ag:Bool}{size off:Nat}{ds:List D}{vs:List Value}{d:D}(h:DRs g ds vs)(i:vs.all qE=true)(x:bF ag size off ds=some d):∃v,nB ag size off vs=some v/\DR g d v/\(ag=false->d.one=true)/\(ag=true->∃cs,d=.agg cs/\cs.length=size):=by
 cases ag with
 |true=>
  simp only[bF,cond_true,vQ]at x;split at x;case isFalse=>cases x
  rename_i j;cases x;have k:=h.length;refine⟨.agg ⟨(vs.drop off).take size⟩,?_,.agg ((h.drop off).take size) (lX i _ _),(λe=>by cases e),λ_=>⟨_,rfl,?_⟩⟩
  ·simp only[nB,cond_true];rw[xI (by simp;omega)];rfl
  simp;omega
 | false=>
  simp only[bF,cond_false]at x;split at x
  ·rename_i d' hd;cases y:d'.one with
   |false=>rw[y]at x;cases x
   |true=>rw[y]at x;cases x;obtain⟨v,c,b⟩:=h.get _ _ hd;exact⟨v,c,b,λ_=>y,λe=>by cases e⟩
  cases x
theorem aM{ag:Bool}{size:Nat}{d d':D}(h:eK ag size d=some d'):d'=d/\(ag=true->∃cs,d=.agg cs/\cs.length=size)/\(ag=false->d.one=true/\size=1):=by
 cases ag with
 |true=>
  simp only[eK,cond_true]at h;split at h
  ·rename_i cs;simp only[qY]at h;grind
  cases h
 |false=>simp only[eK,cond_false]at h;obtain⟨y,x,h3⟩:=qH3 h;simp_all
theorem cells_one{d:D}{v:Value}(h:DR g d v)(x:d.one=true):v.cells.toList=[v]:=by have:=h.one;rw[x]at this;cases v<;>first|rfl|(simp[qE]at this)
theorem wT{d:D}{v:Value}{cs:List D}(h:DR g d v)(hd:d=.agg cs):∃vs,v=.agg ⟨vs⟩/\DRs g cs vs/\vs.all qE=true:=by
 subst hd;cases h with
 |agg h o=>exact⟨_,rfl,h,o⟩
def dC(v:Value):Prop:=∀c,v≠.tuple c
theorem qAc{d:D}{v:Value}(h:DR g d v)(x:d.one=true):dC v:=by
 intro c e;subst e;cases h with
 |tup h=>cases x
 |leaf h=>simp[wJ]at h
theorem bG{d:D}{v:Value}{cs:List D}(h:DR g d v)(hd:d=.agg cs):dC v:=by obtain⟨vs,rfl,_⟩:=wT h hd;intro c e;cases e
end
section
variable{E:Env}{n0:Lim}{H0:AH}{g0:zB}{S:St}{ρ:List D}{ve:Nat->Value}{lb:Nat->Nat}{g:zB}{fr:Fr}{H:AH}{HS:FuncId->List D->D->Prop}{Q:Res1->Prop}
def lY(E:Env)(HS:FuncId->List D->D->Prop)(Q:Res1->Prop)(n0:Lim)(H0:AH)(g0:zB)(S:St)(ρ:List D)(ve:Nat->Value)(lb:Nat->Nat)(g:zB)(fr:Fr)(H:AH){α:Type}(κ:α->St->Tree)(P:α->St->List D->(Nat->Value)->zB->Prop):Prop:=
 ∃y S' ρ' h g',ExtS S ρ ve g S' ρ' h g'/\SR E n0 H0 g0 S' ρ' h lb g' fr H/\wp E HS Q (κ y S') ρ'/\P y S' ρ' h g'
theorem qB9(h:SM n0 S ρ ve lb g H){x:SV}(y:wB S x=true){cs:List D}(hd:x.d (getD ρ)=.agg cs):DR g (x.d (getD ρ)) (x.val ve lb):=
 (zE h y).dr (by rw[hd];rfl)
theorem qQR{k:VK}{o:Bool}{x:SV}{m:Nat}(y:x.bd S.n m)(h:dV S x=true):dV (S.new k o) x=true:=by
 cases x with
 |v i=>have b:i<S.sts.length:=y;simp only[dV,St.oneV,St.new]at h ⊢;grind
 |_=>exact h
theorem qNZ{k:VK}:(S.new k true).oneV S.n=true:=by simp[St.oneV,St.new,St.n]
theorem qRo{i:Nat}{cs:List D}{vs:List Value}(R:vs.all qE=true):∀(n k:Nat) (acc:List SV) (S:St) (ρ:List D) (ve:Nat->Value) (g:zB) (κ:List SV->St->Tree),getD ρ i=.agg cs->ve i=.agg ⟨vs⟩->i<S.n->DRs g cs vs->k+n=cs.length->SV.bds S.n S.blks.length acc->SV.vals ve lb acc=vs.take k->acc.all (dV S)=true->SR E n0 H0 g0 S ρ ve lb g fr H->wp E HS Q (qKD i n k acc S κ) ρ->lY E HS Q n0 H0 g0 S ρ ve lb g fr H κ λl S' _ p _=>SV.bds S'.n S'.blks.length l/\SV.vals p lb l=vs/\l.all (dV S')=true:=by
 intro n;induction n with
 |zero=>intro k acc S ρ ve g κ hd hv C u B r c b h z;refine⟨acc,S,ρ,ve,g,.refl,h,z,r,?_,b⟩;have V:=u.length;have A:k=cs.length:=B;rw[c,A,←V];exact List.take_length
 | succ n ih=>
  intro k acc S ρ ve g κ hd hv C u B r c b h z;have w:wp E HS Q (jX (.fld false 1 k) [.v i] .pure true S λy S=>qKD i n (k+1) (acc++[y]) S κ) ρ:=z;obtain⟨d,_,I,W⟩:=zV w;simp only[SV.ds,SV.d,hd,qCX,D.cells]at I;obtain⟨v,G,P,O,_⟩:=s8 u R I;have h3:=h.new (k:=.pure) (o:=true) (by simp) (d:=d) (v:=v) ⟨λ_=>O rfl,P⟩;have e:ExtS S ρ ve g (S.new .pure true) (ρ++[d]) (mW ve S.n v) g:=wN h.len;have U:i<(S.new .pure true).n:=by rw[xQ];omega
  have F:SV.bds (S.new .pure true).n (S.new .pure true).blks.length (acc++[SV.v S.n]):=by
   rw[SV.bds_iff]at r ⊢;intro x j;rcases List.mem_append.1 j with j|j
   ·exact SV.bd_mono (by rw[xQ];omega) (lR _) (r x j)
   simp only[List.mem_singleton]at j;subst j;show S.n<(S.new .pure true).n;rw[xQ];omega
  have t:SV.vals (mW ve S.n v) lb (acc++[SV.v S.n])=vs.take (k+1):=by rw[SV.vals_map,List.map_append,←SV.vals_map,SV.vals_congr e.ve (λ_ _=>rfl) r,c];simp only[nB,cond_false]at G;obtain⟨K,J⟩:=gI G;rw[List.take_succ_eq_append_getElem K,J];simp[SV.val,jA]
  have q:(acc++[SV.v S.n]).all (dV (S.new .pure true))=true:=by rw[List.all_append,aE];refine⟨?_,by simp[dV,qNZ]⟩;rw[List.all_eq_true]at b ⊢;rw[SV.bds_iff]at r;intro x j;exact qQR (r x j) (b x j)
  obtain⟨y,S',ρ',p,g',e',N,M,L⟩:=ih (k+1) (acc++[SV.v S.n]) (S.new .pure true) (ρ++[d]) (mW ve S.n v) g κ (by rw[e.ρ i C];exact hd) (by rw[e.ve i C];exact hv) U u (by rw[←B];exact Nat.add_right_comm k 1 n) F t q h3 W;exact⟨y,S',ρ',p,g',e.trans e',N,M,L⟩
theorem qAB{o:TOp}{args:List SV}{k:VK}{one:Bool}{κ:K1}(h:SR E n0 H0 g0 S ρ ve lb g fr H)(y:wp E HS Q (qH2 o args k one S κ) ρ):∃g' d,ExtS S ρ ve g (vM S args) ρ ve g'/\SR E n0 H0 g0 (vM S args) ρ ve lb g' fr H/\(∀x∈args,wC (vM S args) x=true)/\o.eval E (SV.ds (getD ρ) args)=some d/\wp E HS Q (κ (.v (vM S args).n) ((vM S args).new k one)) (ρ++[d]):=by
 obtain⟨g',e,b⟩:=xC args h;unfold qH2 at y;cases hr:args.all (wC (vM S args))with
 |false=>simp only[hr]at y;cases y
 |true=>
  simp only[hr,cond_true,wp]at y;split at y
  ·rename_i d hd;rw[List.all_eq_true]at hr;exact⟨g',d,e,b,hr,hd,y⟩
  cases y
theorem qB8{b:zB}{d:D}{v:Value}(h:qEN g b d v)(y:d.one=true):v.cells.toList=[v]/\dC v:=by
 rcases h with h|⟨_,B,l,cs,vs,el,rt,sz,es,q⟩|⟨_,B,es,x,rt,i,ds,q⟩
 ·exact⟨cells_one h y,qAc h y⟩
 ·rw[q.v];exact⟨rfl,λc e=>by cases e⟩
 rw[q.v];exact⟨rfl,λc e=>by cases e⟩
def qNE:SV->Bool
 |.loc _ _=>true
 |.ptr _ _ _ _=>true
 |.pp _ _=>true
 |.fn _ _ _=>true
 |.ifc _ _=>true
 |_=>false
theorem qLl{x:SV}(h:qNE x=true):(x.val ve lb).cells.toList=[x.val ve lb]/\dC (x.val ve lb):=by
 cases x<;>first|(cases h;done)|skip
 ·exact⟨rfl,λc e=>by cases e⟩
 ·simp only[SV.val,qCc];split<;>exact⟨rfl,λc e=>by cases e⟩
 ·simp only[SV.val,qQz];split<;>exact⟨rfl,λc e=>by cases e⟩
 ·exact⟨rfl,λc e=>by cases e⟩
 exact⟨rfl,λc e=>by cases e⟩
theorem qHM{ag:Bool}{size:Nat}{v:Value}{l:List SV}(h:aL ag size v=some l):l=v.cells.toList.map .c/\v.cells.toList.length=size/\dC v/\zF v=true:=by
 simp only[aL]at h;cases x:zF v with
 |false=>simp[x]at h
 |true=>simp only[x,Bool.true_and]at h;obtain⟨b,h3,y⟩:=qH3 h;refine⟨y.symm,vE b,?_,rfl⟩;intro c e;subst e;cases h3
theorem qE1(l:List Value):SV.vals ve lb (l.map .c)=l:=by
 rw[SV.vals_map,List.map_map];have:(SV.val ve lb∘SV.c)=id:=by funext x;rfl
 rw[this,List.map_id]
theorem qLc{n m:Nat}(l:List Value):SV.bds n m (l.map .c):=by rw[SV.bds_iff];intro x h;obtain⟨v,_,rfl⟩:=List.mem_map.1 h;trivial
theorem nL(h:SR E n0 H0 g0 S ρ ve lb g fr H){x:SV}{ag:Bool}{size:Nat}{κ:List SV->St->Tree}(B:x.bd S.n S.blks.length)(j:wp E HS Q (rZ x ag size S κ) ρ):lY E HS Q n0 H0 g0 S ρ ve lb g fr H κ λl S' _ r _=>SV.bds S'.n S'.blks.length l/\SV.vals r lb l=(x.val ve lb).cells.toList/\l.length=size/\dC (x.val ve lb):=by
 have p:qNE x=true->wp E HS Q (bif !ag&&Nat.beq size 1 then κ [x] S else .fail) ρ->
   lY E HS Q n0 H0 g0 S ρ ve lb g fr H κ λl S' _ r _=>SV.bds S'.n S'.blks.length l/\SV.vals r lb l=(x.val ve lb).cells.toList/\l.length=size/\dC (x.val ve lb):=by
  intro V j
  cases q:(!ag&&Nat.beq size 1)with
  |false=>rw[q]at j;cases j
  |true=>
   rw[q]at j
   simp only[aE]at q
   obtain⟨I,G⟩:=qLl (ve:=ve) (lb:=lb) V
   exact⟨[x],S,ρ,ve,g,.refl,h,j,⟨B,trivial⟩,by rw[I];rfl,(vE q.2).symm,G⟩
 cases x with
 |loc b o=>exact p rfl j
 |ptr a b c d=>exact p rfl j
 |pp i o=>exact p rfl j
 |fn f a b=>exact p rfl j
 |ifc t x=>exact p rfl j
 |tup cs=>cases j
 |yld b=>cases j
 |agg cs=>
  simp only[rZ]at j;cases q:(ag&&Nat.beq cs.length size&&cs.all (dV S))with
  |false=>rw[q]at j;cases j
  |true=>rw[q]at j;simp only[aE]at q;exact⟨cs,S,ρ,ve,g,.refl,h,j,B,rfl,vE q.1.2,λc e=>by cases e⟩
 |c v=>
  simp only[rZ]at j;split at j
  ·rename_i l F;obtain⟨rfl,w,h3,_⟩:=qHM F;exact⟨_,S,ρ,ve,g,.refl,h,j,qLc _,qE1 _,by rw[List.length_map];exact w,h3⟩
  cases j
 | v i=>
  have hi:i<S.n:=B;simp only[rZ]at j;cases ag with
  | true=>
   simp only[cond_true]at j;obtain⟨d,M,w,h3⟩:=zV j;have J:=zE h.toSM (M _ (List.mem_singleton.2 rfl));simp only[SV.ds,SV.d,aH]at w;obtain⟨rfl,L,_⟩:=aM w;obtain⟨cs,hd,F⟩:=L rfl;have u:DR g (getD ρ i) (ve i):=J.dr (by simp only[SV.d];rw[hd];rfl);obtain⟨vs,hv,z,A⟩:=wT u hd;have K:=h.new (k:=.pure) (o:=false) (by simp) (d:=getD ρ i) (v:=ve i) ⟨(λe=>by cases e),u⟩;have e:ExtS S ρ ve g (S.new .pure false) (ρ++[getD ρ i]) (mW ve S.n (ve i)) g:=wN h.len;have W:getD (ρ++[getD ρ i]) S.n=getD ρ i:=by have:S.n=ρ.length:=h.len.symm;rw[this,tS]
   obtain⟨y,S',ρ',r,g',e',U,R,P,O,Z⟩:=qRo (i:=S.n) (cs:=cs) (vs:=vs) A size 0 [] (S.new .pure false) (ρ++[getD ρ i]) (mW ve S.n (ve i)) g κ (by rw[W,hd]) (by rw[jA,hv]) (by rw[xQ];exact Nat.lt_succ_self _) z (by rw[F];exact Nat.zero_add _) trivial (by simp[SV.vals]) rfl K h3;refine⟨y,S',ρ',r,g',e.trans e',U,R,P,?_,?_,?_⟩
   ·rw[O];simp only[SV.val,hv];rfl
   ·have:(SV.vals r lb y).length=vs.length:=by rw[O]
    rw[SV.vals_map,List.length_map,z.length,F]at this;exact this
   simp only[SV.val];exact bG u hd
  | false=>
   simp only[cond_false,qY]at j;split at j;case isFalse=>cases j
   rename_i hs;cases q:S.oneV i&&S.readV i with
   |true=>rw[q]at j;simp only[aE]at q;have J:=zE h.toSM (x:=.v i) q.2;obtain⟨I,G⟩:=qB8 J (qIG h.toSM q.1);exact⟨[.v i],S,ρ,ve,g,.refl,h,j,⟨B,trivial⟩,by rw[I];rfl,hs.symm,G⟩
   |false=>
    rw[q]at j;simp only[cond_false]at j;obtain⟨g',d,e,N,M,w,h3⟩:=qAB h j;have C:=jQ N.toSM (M _ (List.mem_singleton.2 rfl));simp only[SV.ds,SV.d,aH]at w;obtain⟨rfl,_,L⟩:=aM w;obtain⟨A,_⟩:=L rfl;simp only[SV.d,SV.val]at C;have K:=N.new (k:=.pure) (o:=true) (by simp) (d:=getD ρ i) (v:=ve i) ⟨λ_=>A,C⟩;have X:ExtS (vM S [.v i]) ρ ve g' ((vM S [.v i]).new .pure true) (ρ++[getD ρ i]) (mW ve (vM S [.v i]).n (ve i)) g':=wN N.len;refine⟨_,_,_,_,_,e.trans X,K,h3,⟨?_,trivial⟩,?_,hs.symm,?_⟩
    ·show _<((vM S [.v i]).new .pure true).n;rw[xQ];exact Nat.lt_succ_self _
    ·simp only[SV.vals,SV.val,jA];exact(cells_one C A).symm
    exact qAc C A
end
end Go.Am
namespace Go.Am
open Go
def mO(E:Env)(fr:Fr)(o:Oper)(H:AH)(v:Value)(H':AH):Prop:=
 H.next<=H'.next/\∃l,pF E H.next l/\(∀a∈l,a.H'.next<=H'.next)/\∀ih,qJH l ih->vL E ih fr o H=some (v,H')
theorem mO.of_val{E:Env}{fr:Fr}{o:Oper}{H H':AH}{v:Value}(x:H.next<=H'.next)(h:vT E fr o H=some (.val v,H')):mO E fr o H v H':=
 ⟨x,[],trivial,λ_ h=>(by cases h),λih _=>by simp only[vL,h]⟩
theorem mO.of_skip{E:Env}{fr:Fr}{o:Oper}{H H':AH}(x:H.next<=H'.next)(h:vT E fr o H=some (.skip,H')):mO E fr o H (.tuple #[]) H':=
 ⟨x,[],trivial,λ_ h=>(by cases h),λih _=>by simp only[vL,h]⟩
section
variable{E:Env}{n0:Lim}{H0:AH}{g0:zB}{S:St}{ρ:List D}{ve:Nat->Value}{lb:Nat->Nat}{g:zB}{fr:Fr}{H:AH}{HS:FuncId->List D->D->Prop}{Q:Res1->Prop}
def jS(wm:Bool)(E:Env)(HS:FuncId->List D->D->Prop)(Q:Res1->Prop)(n0:Lim)(H0:AH)(g0:zB)(fr:Fr)(H:AH)(o:Oper)(κ:K1):Prop:=
 ∃y S' ρ' h x g' H',SR E n0 H0 g0 S' ρ' h x g' fr H'/\y.bd S'.n S'.blks.length/\wp E HS Q (κ y S') ρ'/\mO E fr o H (y.val h x) H'/\(wm=false->Nat.min H.low H.next<=H'.low)
theorem jS.same{wm:Bool}{o:Oper}{κ:K1}{y:SV}{S':St}{ρ':List D}{x:Nat->Value}{g':zB}(h:SR E n0 H0 g0 S' ρ' x lb g' fr H)(c:y.bd S'.n S'.blks.length)(b:wp E HS Q (κ y S') ρ')(e:vT E fr o H=some (.val (y.val x lb),H)):
  jS wm E HS Q n0 H0 g0 fr H o κ:=
 ⟨y,S',ρ',x,lb,g',H,h,c,b,.of_val (lR _) e,λ_=>Nat.min_le_left _ _⟩
theorem zJ(h:SR E n0 H0 g0 S ρ ve lb g fr H){x:Operand}{y:SV}(b:rP S x=some y):y.bd S.n S.blks.length/\ev E fr x=some (y.val ve lb):=by
 cases x with
 |tmp t=>exact h.slots t y b
 |const v=>
  simp only[rP]at b;cases c:zF v with
  |false=>simp[c]at b
  |true=>simp only[c,cond_true,oI]at b;subst b;exact⟨trivial,by simp only[ev,c,cond_true,SV.val]⟩
 |global g=>cases b
 |func f=>simp only[rP,oI]at b;subst b;exact⟨⟨trivial,trivial⟩,rfl⟩
theorem rF(h:SR E n0 H0 g0 S ρ ve lb g fr H):∀{xs:List Operand} {ys:List SV},bO S xs=some ys->SV.bds S.n S.blks.length ys/\rO E fr xs=some (SV.vals ve lb ys)
 | [],ys,y=>by simp only[bO,oI]at y;subst y;exact⟨trivial,rfl⟩
 |x::xs,ys,y=>by
  simp only[bO]at y;split at y
  ·rename_i a l k j;cases y;obtain⟨i,e⟩:=zJ (E:=E) h k;obtain⟨c,b⟩:=rF h j;exact⟨⟨i,c⟩,by simp only[rO,e,b,Option.map_some,SV.vals]⟩
  cases y
theorem oM(h:SM n0 S ρ ve lb g H){i B:Nat}(b:S.freshV i=true)(x:vR (ve i)=some B):B<H.next/\H.blocks.get B≠none:=by
 obtain⟨o,hs⟩:=zC.1 b;rcases(h.vars i _ hs).2 with q|⟨B',l,cs,vs,el,rt,sz,es,q⟩|⟨B',es,y,rt,c,ds,q⟩
 ·rw[q.own]at x;cases x
 rotate_left
 ·rw[q.own]at x;cases x;exact⟨(h.wf _ _ q.b).2,by rw[q.b];simp⟩
 rw[q.v]at x;simp only[vR,lR,if_true,oI]at x;subst x;exact⟨(h.wf _ _ q.b).2,by rw[q.b];simp⟩
theorem xL(h:SM n0 S ρ ve lb g H){b:Nat}(i:S.live b):lb b<H.next/\¬n0.K (lb b):=by obtain⟨x,e⟩:=i;obtain⟨k,c,y⟩:=(h.blks b x e).2.here;have:=h.wf _ _ c;exact⟨this.2,y.2⟩
theorem qOC(h:SM n0 S ρ ve lb g H){b:Nat}{k:ABlk}(x:g b=some k):b<H.next:=(h.wf _ _ (h.mem b k x)).2
theorem SR.heap(h:SR E n0 H0 g0 S ρ ve lb g fr H){H':AH}(y:∀b,b<H.next->H'.blocks.get b=H.blocks.get b)(e:WF H')(r:H.next<=H'.next)(t:Nat.min H0.low n0.n<=H'.low):SR E n0 H0 g0 S ρ ve lb g fr H':=by
 refine {len:=h.len,wf:=e,mem:=?_,base:=h.base.mono r,fix:=h.fix,vars:=?_,blks:=?_,sepLG:=h.sepLG,sepFG:=h.sepFG,sepL:=h.sepL,sepF:=h.sepF,sepX:=h.sepX,sz:=h.sz,rd:=h.rd,slots:=h.slots,sav:=h.sav,keep:=?_,low:=t,gk:=h.gk,tab:=h.tab}
 ·intro b k c;rw[y b (qOC h.toSM c)];exact h.mem b k c
 ·intro i s hs;refine(h.vars i s hs).mono (zB.le_refl _) λj B u=>y B ?_;obtain⟨k,o⟩:=s;simp only at j;subst j;exact(oM h.toSM (zC.2 ⟨o,hs⟩) u).1
 ·intro b x c;obtain⟨q,p⟩:=h.blks b x c;exact⟨q,p.congr (y _ (xL h.toSM ⟨x,c⟩).1) rfl λ_ l=>l⟩
 intro b c;rw[y b (h.base.2 b c)];exact h.keep b c
theorem WF.new(h:WF H)(o:AObj):WF (H.new o):=by
 intro b k x;rw[AH.get_new]at x;split at x
 ·rename_i e;cases x;subst e;exact⟨lR _,Nat.lt_succ_self _⟩
 exact⟨(h b k x).1,Nat.lt_succ_of_lt (h b k x).2⟩
theorem lG{o:AObj}:∀b,b<H.next->(H.new o).blocks.get b=H.blocks.get b:=λb h=>by
 rw[AH.get_new,if_neg (by omega)]
def qDz(lb:Nat->Nat)(m x:Nat):Nat->Nat:=λb=>if b=m then x else lb b
theorem qBn{b:Nat}(h:S.live b):b<S.blks.length:=by obtain⟨x,y⟩:=h;grind
theorem SR.allocO(h:SR E n0 H0 g0 S ρ ve lb g fr H){o:AObj}{x:Blk}(G:x.bd S.n S.blks.length)(r:∀L:zB,L H.next=some ⟨o,H.next,true⟩->n0.own H.next H.next->nC n0 (getD ρ) ve lb L H.next x):SR E n0 H0 g0 {S with blks:=S.blks++[some x]} ρ ve (qDz lb S.blks.length H.next) g fr (H.new o):=by
 have z:=h.heap (H':=H.new o) lG (h.wf.new _) (Nat.le_succ _) h.low;have j:∀b,b<S.blks.length->qDz lb S.blks.length H.next b=lb b:=λb r=>if_neg (by omega);have l:H.blocks.get H.next=none:=by
  cases F:H.blocks.get H.next with
  |none=>rfl
  |some k=>exact absurd (h.wf _ _ F).2 (Nat.lt_irrefl _)
 have q:∀b,St.live {S with blks:=S.blks++[some x]} b->(b<S.blks.length/\S.live b)∨b=S.blks.length:=by
  intro b ⟨y,e⟩;simp only at e;rcases Nat.lt_trichotomy b S.blks.length with p|p|p
  ·rw[List.getElem?_append_left p]at e;exact .inl ⟨p,y,e⟩
  all_goals grind
 have c:qDz lb S.blks.length H.next S.blks.length=H.next:=if_pos rfl;refine {len:=h.len,wf:=z.wf,mem:=z.mem,base:=z.base,fix:=⟨by simp only[List.length_append];exact lT h.fix.1 (Nat.le_add_right _ _),λk a I=>by rw[j k (Nat.lt_of_lt_of_le (gI I).1 h.fix.1)];exact h.fix.2 k a I⟩,vars:=z.vars,blks:=?_,sepLG:=?_,sepFG:=h.sepFG,sepL:=?_,sepF:=h.sepF,sepX:=?_,sz:=h.sz,rd:=h.rd,slots:=?_,sav:=h.sav.congr (lR _) (by simp) (λ_ _=>rfl) j,keep:=z.keep,low:=h.low,gk:=h.gk,tab:=h.tab}
 ·intro b y e;simp only at e;rcases Nat.lt_or_ge b S.blks.length with p|p
  ·rw[List.getElem?_append_left p]at e;obtain⟨A,C⟩:=z.blks b y e;exact⟨Blk.bd_mono (lR _) (by simp) A,C.congr (by rw[j b p]) (j b p) λ_ B=>B.congr (λ_ _=>rfl) j (λ_ _=>rfl) A⟩
  rw[List.getElem?_append_right p]at e;have:b=S.blks.length:=by have:=(gI e).1;simp at this;omega
  subst this;simp at e;subst e;have M:=r (H.new o).blocks.get (by rw[AH.get_new,if_pos rfl]) h.base.new;exact⟨Blk.bd_mono (lR _) (by simp) G,M.congr (by rw[c]) c λ_ B=>B.congr (λ_ _=>rfl) j (λ_ _=>rfl) G⟩
 ·intro b r;rcases q b r with⟨w,u⟩|rfl
  ·rw[j b w];exact h.sepLG b u
  rw[c];cases F:g H.next with
  |none=>rfl
  |some k=>rw[h.mem _ _ F]at l;cases l
 ·intro a b O r he;rcases q a O with⟨w,u⟩|rfl<;>rcases q b r with⟨h3,K⟩|rfl
  ·rw[j a w,j b h3]at he;exact h.sepL a b u K he
  ·rw[j a w,c]at he;have:=(xL h.toSM u).1;omega
  ·rw[j b h3,c]at he;have:=(xL h.toSM K).1;omega
  rfl
 ·intro b i r J;rcases q b r with⟨w,u⟩|rfl
  ·rw[j b w];exact h.sepX b i u J
  rw[c];intro N;have:=(oM h.toSM J N).1;omega
 intro t y e;obtain⟨A,C⟩:=h.slots t y e;exact⟨SV.bd_mono (lR _) (by simp) A,by rw[C,SV.val_congr (λ_ _=>rfl) j A]⟩
theorem SR.alloc(h:SR E n0 H0 g0 S ρ ve lb g fr H){cs:List Value}{el:TypeId}{x:Blk}(j:x.bd S.n S.blks.length)(c:jO (getD ρ) ve lb cs x)(b:x.isL=false:=by rfl):
  SR E n0 H0 g0 {S with blks:=S.blks++[some x]} ρ ve (qDz lb S.blks.length H.next) g fr (H.new (.cells cs el)):=by
 refine h.allocO j λk i e=>?_
 cases x with
 |cells xs=>exact⟨el,_,cs,i,e,c⟩
 |whole y n=>exact⟨el,_,cs,i,e,c⟩
 |loop _ _=>exact c.elim
 |tcells _ _=>cases b
theorem WF.write(h:WF H){b:Nat}{k:ABlk}(y:H.blocks.get b=some k)(o:AObj):WF (H.write b k o):=by
 intro c k' x;rw[AH.get_write]at x;split at x
 ·rename_i e;cases x;subst e;exact h c k y
 exact h c k' x
theorem SR.storeO(h:SR E n0 H0 g0 S ρ ve lb g fr H){b:Nat}{z x:Blk}{F o:AObj}{rt:Nat}(w:S.blks[b]? = some (some z))(L:H.blocks.get (lb b)=some ⟨F,rt,true⟩)(O:x.bd S.n S.blks.length)(P:∀M:zB,M (lb b)=some ⟨o,rt,true⟩->n0.own (lb b) rt->nC n0 (getD ρ) ve lb M (lb b) x):SR E n0 H0 g0 (S.setBlk b x) ρ ve lb g fr (H.write (lb b) ⟨F,rt,true⟩ o):=by
 have j:S.live b:=⟨z,w⟩;have K:b<S.blks.length:=qBn j;obtain⟨V,J,I⟩:=(h.blks b z w).2.here;rw[L]at J;cases J;have r:∀c,(S.setBlk b x).live c->S.live c:=by
  intro c ⟨y,q⟩;simp only[St.setBlk,List.getElem?_set]at q;split at q
  ·rename_i e;subst e;exact j
  ·exact⟨y,q⟩
 have l:∀c,c≠lb b->(H.write (lb b) ⟨F,rt,true⟩ o).blocks.get c=H.blocks.get c:=λc p=>by rw[AH.get_write,if_neg p]
 refine { len:=h.len,wf:=h.wf.write L _,mem:=?_,base:=h.base,fix:=⟨by simp only[St.setBlk,List.length_set];exact h.fix.1,h.fix.2⟩,vars:=?_,blks:=?_,sepLG:=λc p=>h.sepLG c (r c p),sepFG:=h.sepFG,sepL:=λa c R p=>h.sepL a c (r a R) (r c p),sepF:=h.sepF,
          sepX:=λc i p=>h.sepX c i (r c p),sz:=h.sz,rd:=h.rd,slots:=?_,sav:=h.sav.congr (lR _) (by simp[St.setBlk]) (λ_ _=>rfl) (λ_ _=>rfl),keep:=?_,low:=?_,gk:=h.gk,tab:=h.tab}
 ·intro c k p;rw[l c (λe=>by rw[e,h.sepLG b j]at p;cases p)];exact h.mem c k p
 ·intro i s hs;refine(h.vars i s hs).mono (zB.le_refl _) λu B U=>l B ?_;obtain⟨k,o⟩:=s;simp only at u;subst u;intro e;subst e;exact h.sepX b i j (zC.2 ⟨o,hs⟩) U
 ·intro c y q;simp only[St.setBlk,List.getElem?_set]at q;split at q
  ·rename_i e;subst e;cases q;exact⟨by simpa[St.setBlk,St.n]using O,P _ (by rw[AH.get_write,if_pos rfl]) I⟩
  ·rename_i G;obtain⟨C,A⟩:=h.blks c y q;exact⟨by simpa[St.setBlk,St.n]using C,A.congr (l _ (λe=>G (h.sepL c b ⟨y,q⟩ j e).symm)) rfl λ_ N=>N⟩
 ·intro t y q;obtain⟨C,A⟩:=h.slots t y q;exact⟨by simpa[St.setBlk,St.n]using C,A⟩
 ·intro c p;rw[l c (λe=>(xL h.toSM j).2 (e▸p))];exact h.keep c p
 ·show _<=Nat.min H.low rt;exact Nat.le_min.2 ⟨h.low,lT (Nat.min_le_right _ _) I.1⟩
theorem SR.store(h:SR E n0 H0 g0 S ρ ve lb g fr H){b:Nat}{l x:Blk}{cs cs':List Value}{el:TypeId}{rt:Nat}(e:S.blks[b]? = some (some l))(q:H.blocks.get (lb b)=some ⟨.cells cs el,rt,true⟩)(p:x.bd S.n S.blks.length)(i:jO (getD ρ) ve lb cs' x)(c:x.isL=false:=by rfl):
  SR E n0 H0 g0 (S.setBlk b x) ρ ve lb g fr (H.write (lb b) ⟨.cells cs el,rt,true⟩ (.cells cs' el)):=by
 refine h.storeO e q p λr k j=>?_
 cases x with
 |cells xs=>exact⟨el,_,cs',k,j,i⟩
 |whole y n=>exact⟨el,_,cs',k,j,i⟩
 |loop _ _=>exact i.elim
 |tcells _ _=>cases c
end
end Go.Am
namespace Go.Am
open Go
theorem dN:∀{cs vs:List Value},cs.length=vs.length->j4 cs 0 vs=some vs
 | [],[],_=>rfl
 | [],_::_,h=>by simp at h
 |_::_,[],h=>by simp at h
 |c::cs,v::vs,h=>by simp only[j4];rw[dN (by simpa using h)];rfl
theorem nU{ve:Nat->Value}{lb:Nat->Nat}:∀{cs:List SV} {i:Nat} {l r:List SV},wY cs i l=some r->j4 (SV.vals ve lb cs) i (SV.vals ve lb l)=some (SV.vals ve lb r)
 |_,0,[],_,h=>by simp only[wY,oI]at h;rw[h];simp[SV.vals,j4]
 | [],0,_::_,_,h=>by cases h
 |c::cs,0,v::vs,r,h=>by simp only[wY,Option.map_eq_some_iff]at h;obtain⟨y,x,rfl⟩:=h;simp only[SV.vals,j4,nU x,Option.map_some]
 | [],_+1,_,_,h=>by simp[wY]at h
 |c::cs,i+1,l,r,h=>by simp only[wY,Option.map_eq_some_iff]at h;obtain⟨y,x,rfl⟩:=h;simp only[SV.vals,j4,nU x,Option.map_some]
theorem nV{n m:Nat}:∀{cs:List SV} {i:Nat} {l r:List SV},wY cs i l=some r->SV.bds n m cs->SV.bds n m l->SV.bds n m r
 |_,0,[],_,h,x,_=>by simp only[wY,oI]at h;rw[←h];exact x
 | [],0,_::_,_,h,_,_=>by cases h
 |c::cs,0,v::vs,r,h,x,y=>by simp only[wY,Option.map_eq_some_iff]at h;obtain⟨b,h3,rfl⟩:=h;exact⟨y.1,nV h3 x.2 y.2⟩
 | [],_+1,_,_,h,_,_=>by simp[wY]at h
 |c::cs,i+1,l,r,h,x,y=>by simp only[wY,Option.map_eq_some_iff]at h;obtain⟨b,h3,rfl⟩:=h;exact⟨x.1,nV h3 x.2 y⟩
section
variable{E:Env}{n0:Lim}{H0:AH}{g0:zB}{S:St}{ρ:List D}{ve:Nat->Value}{lb:Nat->Nat}{g:zB}{fr:Fr}{H:AH}{HS:FuncId->List D->D->Prop}{Q:Res1->Prop}{o:Oper}{κ:K1}{wm:Bool}
theorem qKg(h:SR E n0 H0 g0 S ρ ve lb g fr H){x:Operand}(b:o.op=.move x∨o.op=.assign x)(c:wp E HS Q (match rP S x with|some y=>κ y S|none=>.fail) ρ):jS wm E HS Q n0 H0 g0 fr H o κ:=by
 split at c
 ·rename_i y j;obtain⟨i,e⟩:=zJ (E:=E) h j;refine .same h i c ?_;rcases b with b|b<;>(unfold vT;rw[b];simp only[e,one,Option.map_some])
 cases c
theorem qBq{i:Nat}{a b:Tree}(h:wp E HS Q (.ite (.v i) a b) ρ):∃t,getD ρ i=.leaf (.bool t)/\wp E HS Q (if t then a else b) ρ:=by simp only[wp,SV.d]at h;grind
theorem uK(h:SM n0 S ρ ve lb g H){i:Nat}(x:S.pureV i=true){t:Bool}(hd:getD ρ i=.leaf (.bool t)):ve i=.bool t:=by have:=qFl h x;rw[hd]at this;exact this.leaf_inv.1
theorem qQG(h:SR E n0 H0 g0 S ρ ve lb g fr H){c a b:Operand}(p:o.op=.pick c a b)(e:wp E HS Q (vZ E o S κ) ρ):jS wm E HS Q n0 H0 g0 fr H o κ:=by
 unfold vZ at e;rw[p]at e;simp only at e;have j:∀{S:St} {t:Bool} {x:Operand},SR E n0 H0 g0 S ρ ve lb g fr H->ev E fr c=some (.bool t)->(t=true/\x=a∨t=false/\x=b)->wp E HS Q (match rP S x with|some y=>κ y S|none=>.fail) ρ->jS wm E HS Q n0 H0 g0 fr H o κ:=by
  intro S t x h k w e;split at e
  ·rename_i y u;obtain⟨r,q⟩:=zJ (E:=E) h u;refine .same h r e ?_;unfold vT;rw[p];rcases w with⟨rfl,rfl⟩|⟨rfl,rfl⟩<;>simp only[k,q,one,Option.map_some]
  cases e
 split at e
 ·rename_i k;exact j h (zJ (E:=E) h k).2 (.inl ⟨rfl,rfl⟩) e
 ·rename_i k;exact j h (zJ (E:=E) h k).2 (.inr ⟨rfl,rfl⟩) e
 ·rename_i i k;cases l:S.pureV i with
  |false=>rw[l]at e;cases e
  |true=>
   rw[l]at e;simp only[cond_true]at e;obtain⟨t,hd,e⟩:=qBq e;have hv:=(zJ (E:=E) h k).2;simp only[SV.val,uK h.toSM l hd]at hv;cases t with
   |true=>exact j (mB h l hd) hv (.inl ⟨rfl,rfl⟩) e
   |false=>exact j (mB h l hd) hv (.inr ⟨rfl,rfl⟩) e
 cases e
theorem jC{b:Bool}{a:Tree}(h:wp E HS Q (bif b then a else .fail) ρ):b=true/\wp E HS Q a ρ:=by
 cases b with
 |true=>exact⟨rfl,h⟩
 |false=>cases h
theorem pZ{x:AObj}:Nat.min H.low H.next<=(H.new x).low:=Nat.min_le_left _ _
theorem qIR(x:Option Blk):SV.bd (St.n {S with blks:=S.blks++[x]}) (S.blks++[x]).length (.loc S.blks.length 0):=by show S.blks.length<(S.blks++[x]).length;simp
theorem qNQ(h:SR E n0 H0 g0 S ρ ve lb g fr H){t:TypeId}(b:o.op=.alloc t)(y:wp E HS Q (vZ E o S κ) ρ):jS wm E HS Q n0 H0 g0 fr H o κ:=by
 unfold vZ at y;rw[b]at y;simp only at y;split at y
 ·rename_i ds sz e z ag c;obtain⟨_,y⟩:=jC y;refine⟨_,_,_,_,_,_,_,h.alloc (el:=t) (cs:=z) (x:=.cells (z.map .c)) (qLc _) (qE1 z).symm,qIR _,y,.of_val (Nat.le_succ _) ?_,λ_=>pZ⟩;unfold vT;rw[b];simp only[c,SV.val,qDz,if_true]
 cases y
theorem qUv(h:SR E n0 H0 g0 S ρ ve lb g fr H){t:TypeId}{x:Operand}(J:o.op=.box t x)(j:wp E HS Q (vZ E o S κ) ρ):jS wm E HS Q n0 H0 g0 fr H o κ:=by
 unfold vZ at j;rw[J]at j;simp only at j;split at j;case h_2=>cases j
 rename_i y w O ht;obtain⟨V,he⟩:=zJ (E:=E) h O
 have r:∀{S':St} {ρ':List D} {p:Nat->Value} {g':zB} {b:Blk},SR E n0 H0 g0 S' ρ' p lb g' fr H->b.isL=false->b.bd S'.n S'.blks.length->jO (getD ρ') p lb (y.val ve lb).cells.toList b->dC (y.val ve lb)->
   wp E HS Q (κ (.loc S'.blks.length 0) {S' with blks:=S'.blks++[some b]}) ρ'->jS wm E HS Q n0 H0 g0 fr H o κ:=by
  intro S' ρ' p g' b G C F A B j
  refine⟨_,_,_,_,_,_,_,G.alloc (el:=t) F A C,qIR _,j,.of_val (Nat.le_succ _) ?_,λ_=>pZ⟩
  unfold vT
  rw[J]
  simp only[he]
  split
  ·rename_i c q
   simp only[oI]at q
   exact absurd q (B _)
  ·rename_i v hn q
   simp only[oI]at q
   subst q
   simp only[SV.val,qDz,if_true]
  rename_i q;cases q
 have I:wp E HS Q (rZ y w.agg w.size S λl S=>κ (.loc S.blks.length 0) {S with blks:=S.blks++[some (.cells l)]}) ρ->jS wm E HS Q n0 H0 g0 fr H o κ:=by intro j;obtain⟨l,S',ρ',p,g',e,G,z,N,M,_,L⟩:=nL h V j;exact r G (b:=.cells l) rfl N M.symm L z
 split at j
 ·rename_i i W;obtain⟨d,h1,K,h3⟩:=zV j;have P:=zE h.toSM (h1 _ (List.mem_singleton.2 rfl));simp only[SV.ds,SV.d,aH]at K;obtain⟨rfl,Z,_⟩:=aM K;obtain⟨cs,hd,R⟩:=Z rfl;have u:DR g (getD ρ i) (ve i):=P.dr (by simp only[SV.d];rw[hd];rfl);have X:=h.new (k:=.pure) (o:=false) (by simp) (d:=getD ρ i) (v:=ve i) ⟨(λe=>by cases e),u⟩;have U:getD (ρ++[getD ρ i]) S.n=getD ρ i:=by have:S.n=ρ.length:=h.len.symm;rw[this,tS]
  refine r X (b:=.whole (.v S.n) w.size) rfl ?_ ?_ (bG u hd) h3
  ·show S.n<(S.new .pure false).n;rw[xQ];exact Nat.lt_succ_self _
  refine⟨?_,cs,?_,R⟩
  ·simp only[SV.val,jA]
  show getD (ρ++[getD ρ i]) S.n=_;rw[U,hd]
 exact I j
theorem qHH(h:SR E n0 H0 g0 S ρ ve lb g fr H){a:SV}{κ:K1}(q:a.bd S.n S.blks.length)(j:wp E HS Q (qFW a S κ) ρ):lY E HS Q n0 H0 g0 S ρ ve lb g fr H κ λy S' _ c _=>y.bd S'.n S'.blks.length/\y.val c lb=a.val ve lb:=by
 cases a with
 | v i=>
  simp only[qFW]at j;obtain⟨d,t,b,h3⟩:=zV j;have p:=zE h.toSM (t _ (List.mem_singleton.2 rfl));simp only[SV.ds,SV.d,yZ]at b;split at b
  ·rename_i cs off hd;simp only[oI]at b;subst b;rw[hd]at h3;have x:DR g (getD ρ i) (ve i):=p.dr (by simp only[SV.d];rw[hd];rfl);rw[hd]at x;have r:=h.new (k:=.ptr) (o:=true) (by simp) (d:=.ptr cs off) (v:=ve i) ⟨λ_=>rfl,x,cs,off,rfl⟩;have e:ExtS S ρ ve g (S.new .ptr true) (ρ++[.ptr cs off]) (mW ve S.n (ve i)) g:=wN h.len;have l:wp E HS Q (κ (SV.pp S.n 0) (S.new VK.ptr true)) (ρ++[.ptr cs off]):=h3;refine⟨_,_,_,_,_,e,r,l,?_,?_⟩
   ·show S.n<(S.new .ptr true).n;rw[xQ];exact Nat.lt_succ_self _
   simp only[SV.val,jA];generalize ve i=u at x;cases x with
   |ptr=>rfl
  cases b
 |_=>exact⟨_,S,ρ,ve,g,.refl,h,j,q,rfl⟩
theorem qLX{b i:Nat}{cs:List Value}{el:TypeId}{rt:Nat}{own:Bool}{v:Value}(h:H.blocks.get b=some ⟨.cells cs el,rt,own⟩)(hv:cs[i]? = some v):H.loads b i 1=some [v]:=by simp only[AH.loads,h];obtain⟨x,rfl⟩:=gI hv;rw[xI (by simp;omega),List.drop_eq_getElem_cons x,List.take_succ_cons,List.take_zero]
theorem bJ{t:TypeId}{x:TI}(e:E.types.get t=some x){b i:Nat}{cs:List Value}{el:TypeId}{rt:Nat}{own:Bool}{v:Value}(c:H.blocks.get b=some ⟨.cells cs el,rt,own⟩)(y:nB x.agg x.size i cs=some v):k9 E H t (.pointer (some ⟨b,i,none⟩))=some v:=by
 simp only[k9,e];cases h:x.agg with
 |true=>simp only[h,nB,cond_true]at y ⊢;simp only[AH.loads,c];exact y
 |false=>simp only[h,nB,cond_false]at y ⊢;simp only[qLX c y]
theorem qGK{ag:Bool}{size off:Nat}{cs:List SV}{x:SV}(h:qAQ ag size off cs=some x):nB ag size off (SV.vals ve lb cs)=some (x.val ve lb):=by
 cases ag with
 |true=>
  simp only[qAQ,cond_true,vQ]at h;split at h;case isFalse=>cases h
  rename_i y;cases h;simp only[nB,cond_true,SV.vals_map];rw[xI (by simp;omega)];simp[SV.val,SV.vals_map,List.map_drop,List.map_take]
 |false=>simp only[qAQ,cond_false]at h;simp only[nB,cond_false,SV.vals_map,List.getElem?_map,h,Option.map_some]
theorem qGL{n m:Nat}{ag:Bool}{size off:Nat}{cs:List SV}{x:SV}(h:qAQ ag size off cs=some x)(y:SV.bds n m cs):x.bd n m:=by
 rw[SV.bds_iff]at y;cases ag with
 |true=>
  simp only[qAQ,cond_true,vQ]at h;split at h
  ·cases h;show SV.bds n m _;rw[SV.bds_iff];grind
  cases h
 |false=>simp only[qAQ,cond_false]at h;grind
theorem cJ{y:zB}{d:D}{v:Value}{n:Nat}(h:qEN g y d v)(x:dY d=some n):∃k,v=.int k (.ofNat n):=by
 unfold dY at x;split at x
 ·rename_i k m;cases x;exact⟨k,(h.dr rfl).leaf_inv.1⟩
 cases x
theorem qBv{p:zB}(u:zB.le g p){d i:D}{v j:Value}(h:qEN g p d v)(z:qEN g p i j){e:D}(he:bQ d i=some e):∃b o l c k n cs rO el rt own,v=.slice (some ⟨b,o,none⟩) l c/\j=.int k (.ofNat n)/\n<l/\p b=some ⟨.cells cs el,rt,own⟩/\(∃es,d=.sl el e.cells.length es/\es.length=l)/\take? (cs.drop (o+n*e.cells.length)) e.cells.length=some rO/\DRs g e.cells rO/\rO.all qE=true:=by
 unfold bQ at he;split at he
 ·rename_i n t;obtain⟨k,w⟩:=cJ z t;cases d with
  |sl el sz es=>
   simp only[D.es]at he;obtain⟨b,o,l,c,rt,cs,vs,own,q⟩:=h.sl u;have y:=q.s e (List.mem_of_getElem? he);have x:n<es.length:=(gI he).1;have r:n*sz+sz<=l*sz:=qUH (by rw[←q.n];exact x);refine⟨b,o,l,c,k,n,cs,(vs.drop (n*sz)).take sz,el,rt,own,q.v,w,by rw[←q.n];exact x,q.b,⟨es,by rw[y],q.n⟩,?_,?_,lX q.o _ _⟩
   ·rw[y,←List.drop_drop];exact qDT q.t r
   have:=(q.r.drop (n*sz)).take sz;rw[qRs q.s he]at this;exact this
  |_=>simp[D.es]at he
 cases he
theorem qBl(h:SR E n0 H0 g0 S ρ ve lb g fr H){t:TypeId}{a:SV}(hb:a.bd S.n S.blks.length)(j:wp E HS Q (qEe E t a S κ) ρ):lY E HS Q n0 H0 g0 S ρ ve lb g fr H κ λy S' _ z _=>y.bd S'.n S'.blks.length/\k9 E H t (a.val ve lb)=some (y.val z lb):=by
 unfold qEe at j;obtain⟨a',S,ρ,w,g1,e0,h,j,hb,hv⟩:=qHH h hb j;rw[←hv];suffices hs:lY E HS Q n0 H0 g0 S ρ w lb g1 fr H κ λy S' _ z _=>y.bd S'.n S'.blks.length/\k9 E H t (a'.val w lb)=some (y.val z lb) by obtain⟨y,S',ρ',z,g',e,r⟩:=hs;exact⟨y,S',ρ',z,g',e0.trans e,r⟩
 split at j
 ·cases j
 rename_i B R;simp only at j;split at j
 ·rename_i b off;split at j
  ·rename_i cs N;obtain⟨q1,el,rt,cs',P,q3,X⟩:=h.blks b _ N;simp only[jO]at X;subst X;split at j
   ·rename_i x hx;exact⟨x,S,ρ,w,g1,.refl,h,j,qGL hx q1,bJ R P (qGK hx)⟩
   cases j
  ·rename_i x n N;obtain⟨q1,el,rt,cs',P,q3,X,ds,O,q6⟩:=h.blks b _ N;subst X;cases C:(Nat.beq off 0&&Nat.beq B.size n&&B.agg)with
   |true=>
    rw[C]at j;simp only[aE]at C;obtain⟨hr,j⟩:=jC j;obtain⟨vs,hv,F,Z⟩:=wT (qB9 h.toSM hr O) O;refine⟨x,S,ρ,w,g1,.refl,h,j,q1,bJ R P ?_⟩;have J:=vE C.1.1;have p:=vE C.1.2;rw[J,p,C.2,hv];have hl:vs.length=n:=by rw[F.length,q6]
    show nB true n 0 vs=_;simp only[nB,cond_true,List.drop_zero];rw[xI (by omega),List.take_of_length_le (by omega)];rfl
   |false=>
    rw[C]at j;simp only[cond_false]at j;obtain⟨d,J,p,h3⟩:=zV j;obtain⟨vs,hv,F,Z⟩:=wT (qB9 h.toSM (J _ (List.mem_singleton.2 rfl)) O) O;simp only[SV.ds,qCX,O,D.cells]at p;obtain⟨v,u,L,K,_⟩:=s8 F Z p;refine⟨_,_,_,_,_,wN h.len,h.new (k:=.pure) (o:=!B.agg) (by simp) (d:=d) (v:=v) ⟨λe=>K (by simpa using e),L⟩,h3,?_,?_⟩
    ·show S.n<(S.new .pure _).n;rw[xQ];exact Nat.lt_succ_self _
    rw[hv]at P;simp only[SV.val,jA];exact bJ R P u
  cases j
 ·rename_i s i sz off;obtain⟨d,J,p,h3⟩:=zV j;have hr1:=zE h.toSM (J s (by simp));have hr2:=zE h.toSM (J i (by simp));simp only[SV.ds,uB]at p;split at p;case h_2=>cases p
  rename_i e he;obtain⟨b,o',l,c,k,n,cs,rO,el,rt,own,w1,w2,w3,w4,⟨wes,wd,_⟩,w5,W,w7⟩:=qBv h.mem hr1 hr2 he;cases C:(Nat.beq (s.d (getD ρ)).szD sz&&Nat.ble (off+(bif B.agg then B.size else 1)) sz)with
  |false=>rw[C]at p;cases p
  | true=>
   rw[C]at p;simp only[aE]at C;have G:=vE C.1;rw[wd]at G;simp only[D.szD]at G;have I:=o9 C.2;simp only[cond_true]at p;have V:∀v,nB B.agg B.size off rO=some v->DR g1 d v->(B.agg=false->d.one=true)->lY E HS Q n0 H0 g0 S ρ w lb g1 fr H κ λy S' _ z _=>y.bd S'.n S'.blks.length/\k9 E H t ((SV.ptr s i sz off).val w lb)=some (y.val z lb):=by
    intro v u L K;refine⟨_,_,_,_,_,wN h.len,h.new (k:=.pure) (o:=!B.agg) (by simp) (d:=d) (v:=v) ⟨λe=>K (by simpa using e),L⟩,h3,?_,?_⟩
    ·show S.n<(S.new .pure _).n;rw[xQ];exact Nat.lt_succ_self _
    simp only[SV.val,jA,w1,w2,qCc];refine bJ R w4 ?_;obtain⟨u1,u2⟩:=jF w5;rw[G]at u1 u2;cases U:B.agg with
    |true=>
     simp only[U,nB,cond_true,Option.map_eq_some_iff]at u I ⊢;obtain⟨l',u,rfl⟩:=u;refine⟨l',?_,rfl⟩;obtain⟨u3,u4⟩:=jF u;rw[u1]at u3 u4;rw[←List.drop_drop,xI (by simp at u2 u4 ⊢;omega),u3]
     congr 1
     rw[List.drop_take,List.take_take,Nat.min_eq_left (by omega)]
    |false=>
     simp only[U,nB,cond_false]at u I ⊢;rw[u1,List.getElem?_take]at u;split at u
     ·rw[List.getElem?_drop]at u;exact u
     cases u
   cases A:(B.agg&&Nat.beq off 0&&Nat.beq B.size sz)with
   |true=>
    rw[A]at p;simp only[aE,cond_true]at A p;obtain⟨rfl,q,_⟩:=aM p;obtain⟨ecs,rfl,hecs⟩:=q rfl;simp only[D.cells]at w5 W G;refine V (.agg ⟨rO⟩) ?_ (.agg W w7) (λe=>by rw[A.1.1]at e;cases e);have hel:rO.length=sz:=by rw[W.length,G]
    simp only[nB,A.1.1,cond_true,vE A.1.2,vE A.2,List.drop_zero];rw[xI (by omega),List.take_of_length_le (by omega)];rfl
   |false=>rw[A]at p;simp only[cond_false]at p;obtain⟨v,u,L,K,_⟩:=s8 W w7 p;exact V v u L K
 ·rename_i i off;obtain⟨d,J,p,h3⟩:=zV j;have hp:wC S (.pp i off)=true:=J _ (List.mem_singleton.2 rfl);have M:=jQ h.toSM hp;obtain⟨hp1,cs,o',hp2⟩:=qIB h.toSM (i:=i) hp;simp only[SV.ds,SV.d,hp2,qZF,qO3]at p M;generalize hvv:(SV.pp i off).val w lb=vv at M;cases M with
  |ptr hbk F Z=>
   rename_i b rt vs el own;obtain⟨v,u,L,K,_⟩:=s8 F Z p;refine⟨_,_,_,_,_,wN h.len,h.new (k:=.pure) (o:=!B.agg) (by simp) (d:=d) (v:=v) ⟨λe=>K (by simpa using e),L⟩,h3,?_,?_⟩
   ·show S.n<(S.new .pure _).n;rw[xQ];exact Nat.lt_succ_self _
   simp only[SV.val,jA]at hvv ⊢;exact bJ R (h.mem _ _ hbk) u
 cases j
end
end Go.Am
namespace Go.Am
open Go
section
variable{E:Env}{n0:Lim}{H0:AH}{g0:zB}{S:St}{ρ:List D}{ve:Nat->Value}{lb:Nat->Nat}{g:zB}{fr:Fr}{H:AH}{HS:FuncId->List D->D->Prop}{Q:Res1->Prop}{o:Oper}{κ:K1}{wm:Bool}
theorem pJ{k:VK}{b:Bool}{m:Nat}:SV.bd (S.new k b).n m (.v S.n):=by show S.n<(S.new k b).n;rw[xQ];exact Nat.lt_succ_self _
theorem qFJ(h:SM n0 S ρ ve lb g H){d:D}:getD (ρ++[d]) S.n=d:=by have:S.n=ρ.length:=h.len.symm;rw[this,tS]
theorem qK7(h:SR E n0 H0 g0 S ρ ve lb g fr H){i:Nat}{size:Nat}{κ:K1}(b:wp E HS Q (jX (.chk true size) [.v i] .pure false S κ) ρ):∃cs,getD ρ i=.agg cs/\cs.length=size/\DR g (getD ρ i) (ve i)/\SR E n0 H0 g0 (S.new .pure false) (ρ++[getD ρ i]) (mW ve S.n (ve i)) lb g fr H/\wp E HS Q (κ (.v S.n) (S.new .pure false)) (ρ++[getD ρ i]):=by obtain⟨d,p,y,h3⟩:=zV b;have c:=zE h.toSM (p _ (List.mem_singleton.2 rfl));simp only[SV.ds,SV.d,aH]at y;obtain⟨rfl,l,_⟩:=aM y;obtain⟨cs,hd,j⟩:=l rfl;have x:DR g (getD ρ i) (ve i):=c.dr (by simp only[SV.d];rw[hd];rfl);exact⟨cs,hd,j,x,h.new (k:=.pure) (o:=false) (by simp) (d:=getD ρ i) (v:=ve i) ⟨(λe=>by cases e),x⟩,h3⟩
theorem qBP{t:TypeId}{h:TI}(x:E.types.get t=some h){b i:Nat}{cs r:List Value}{el:TypeId}{rt:Nat}{v:Value}(c:H.blocks.get b=some ⟨.cells cs el,rt,true⟩)(y:v.cells.toList.length=h.size)(hs:j4 cs i v.cells.toList=some r):kD E H t (.pointer (some ⟨b,i,none⟩)) v=some (H.write b ⟨.cells cs el,rt,true⟩ (.cells r el)):=by simp only[kD,x,qY];rw[if_pos y];simp only[AH.stores,c,hs,Option.map_some]
theorem qNI(h:SR E n0 H0 g0 S ρ ve lb g fr H){t:TypeId}{x1 x2:Operand}{a x:SV}(ho:o.op=.store t x1 x2)(h1:ev E fr x1=some (a.val ve lb))(h2:ev E fr x2=some (x.val ve lb))(hb:a.bd S.n S.blks.length)(hx:x.bd S.n S.blks.length)(p:wp E HS Q (qIo E t a x S κ) ρ):jS true E HS Q n0 H0 g0 fr H o κ:=by
 unfold qIo at p;split at p
 ·cases p
 rename_i C ht;split at p;case h_2=>cases p
 rename_i b off
 have K:∀{S':St} {ρ':List D} {q:Nat->Value} {g':zB} {blk w:Blk} {cs r:List Value} {el:TypeId} {rt:Nat},SR E n0 H0 g0 S' ρ' q lb g' fr H->S'.blks[b]? = some (some w)->H.blocks.get (lb b)=some ⟨.cells cs el,rt,true⟩->
   dC (x.val ve lb)->(x.val ve lb).cells.toList.length=C.size->j4 cs off (x.val ve lb).cells.toList=some r->blk.isL=false->blk.bd S'.n S'.blks.length->jO (getD ρ') q lb r blk->
   wp E HS Q (κ (.tup []) (S'.setBlk b blk)) ρ'->jS true E HS Q n0 H0 g0 fr H o κ:=by
  intro S' ρ' q g' blk w cs r el rt J k hk hnt hlen z hnl hbd hok p
  refine⟨.tup [],_,_,_,_,_,_,J.store k hk hbd hok hnl,trivial,p,.of_skip (lR _) ?_,λe=>by cases e⟩
  unfold vT
  rw[ho]
  simp only[h1,h2]
  have X:=qBP (t:=t) ht hk hlen z
  simp only[SV.val]at X ⊢
  split
  ·rename_i c _ A
   simp only[oI]at A
   exact absurd A (hnt _)
  ·rename_i a' v' hn O e2
   simp only[oI]at O e2
   subst O e2
   rw[X]
   rfl
  rename_i hn
  exact absurd rfl (hn _ _ rfl)
 have F:∀{w:Blk} {cs:List Value} {el:TypeId} {rt:Nat},S.blks[b]? = some (some w)->H.blocks.get (lb b)=some ⟨.cells cs el,rt,true⟩->cs.length=C.size->off=0->
   wp E HS Q (qE8 C b x S κ) ρ->jS true E HS Q n0 H0 g0 fr H o κ:=by
  intro w cs el rt k hk B Z I
  subst Z
  have dec:wp E HS Q (rZ x C.agg C.size S λl S=>κ (.tup []) (S.setBlk b (.cells l))) ρ->jS true E HS Q n0 H0 g0 fr H o κ:=by
   intro p
   obtain⟨l,S',ρ',q,g',e,J,j,U,G,R,N⟩:=nL h hx p
   have hlen:(x.val ve lb).cells.toList.length=C.size:=by rw[←G,SV.vals_map,List.length_map,R]
   exact K (S':=S') (blk:=.cells l) J (by rw[e.blks];exact k) hk N hlen (dN (by rw[B,hlen])) rfl U G.symm j
  unfold qE8 at I
  split at I
  ·rename_i i
   obtain⟨cs',hd,hl,hdr,J,j⟩:=qK7 h I
   obtain⟨vs,hv,L,ho'⟩:=wT hdr hd
   have hlen:((SV.v i).val ve lb).cells.toList.length=C.size:=by
    simp only[SV.val,hv]
    show vs.length=_
    rw[L.length,hl]
   refine K (S':=S.new .pure false) (blk:=.whole (.v S.n) C.size) J k hk (bG hdr hd) hlen (dN (by rw[B,hlen])) rfl (pJ (m:=S.blks.length)) ⟨?_,cs',?_,hl⟩ j
   ·simp only[SV.val,jA]
   show getD _ S.n=_
   rw[qFJ h.toSM,hd]
  exact dec I
 split at p
 ·rename_i cs k;obtain⟨q1,el,rt,cs',W,q3,V⟩:=h.blks b _ k;simp only[jO]at V;subst V;cases A:(C.agg&&Nat.beq off 0&&Nat.beq cs.length C.size)with
  |true=>rw[A]at p;simp only[aE]at A;simp only[cond_true]at p;exact F k W (by rw[SV.vals_map,List.length_map];exact vE A.2) (vE A.1.2) p
  |false=>
   rw[A]at p;simp only[cond_false]at p;obtain⟨l,S',ρ',q,g',e,J,j,U,G,R,N⟩:=nL h hx p;simp only at j;split at j
   ·rename_i M z;have u:=nU (ve:=q) (lb:=lb) z;have B:SV.vals q lb cs=SV.vals ve lb cs:=SV.vals_congr e.ve (λ_ _=>rfl) q1;rw[B,G]at u;exact K (S':=S') (blk:=.cells M) J (by rw[e.blks];exact k) W N (by rw[←G,SV.vals_map,List.length_map,R]) u rfl (nV z (e.bds q1) U) rfl j
   cases j
 ·rename_i y n k;obtain⟨q1,el,rt,cs',W,q3,V,ds,q5,q6⟩:=h.blks b _ k;cases A:(C.agg&&Nat.beq off 0&&Nat.beq n C.size&&wB S y)with
  |true=>rw[A]at p;simp only[aE]at A;simp only[cond_true]at p;obtain⟨vs,hv,L,_⟩:=wT (qB9 h.toSM A.2 q5) q5;refine F k W ?_ (vE A.1.1.2) p;rw[V,hv,←vE A.1.2,←q6];exact L.length
  |false=>
   rw[A]at p;simp only[cond_false]at p;obtain⟨cl,S1,ρ1,P,g1,O,h1',hw1,s1,s2,s3,s4⟩:=nL h q1 p;obtain⟨l,S',ρ',q,g',e,J,j,U,G,R,N⟩:=nL h1' (O.bd hx) hw1;have hxv:x.val P lb=x.val ve lb:=O.val hx;rw[hxv]at G N;simp only at j;split at j
   ·rename_i M z;have u:=nU (ve:=q) (lb:=lb) z;have B:SV.vals q lb cl=SV.vals P lb cl:=SV.vals_congr e.ve (λ_ _=>rfl) s1;rw[B,s2,G,←V]at u;exact K (S':=S') (blk:=.cells M) J (by rw[e.blks,O.blks];exact k) W N (by rw[←G,SV.vals_map,List.length_map,R]) u rfl (nV z (e.bds s1) U) rfl j
   cases j
 cases p
end
end Go.Am
