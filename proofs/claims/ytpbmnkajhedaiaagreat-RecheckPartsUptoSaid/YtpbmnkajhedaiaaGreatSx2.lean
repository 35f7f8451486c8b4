/- Symbolic runs: states and what they say. Conditions: none. -/
import Derived.Test.YtpbmnkajhedaiaaGreatSx1
set_option linter.all false
namespace Go.Am
open Go
theorem T.get_map{α h:Type}(f:α->h):∀(t:T α) (n:Nat),(t.map f).get n=(t.get n).map f
 |.leaf,_=>rfl
 |.node v l r,n=>by simp only[T.map,T.get_node,T.get_map f l,T.get_map f r];grind
theorem qFf{g:zG}:∀(n:Nat) (v:Value),zP n v=true->DR g (uM n v) v:=by
 intro n;induction n with
 | zero=>
  intro v h;cases v<;>first|(exact .leaf rfl)|(simp[zP]at h;done)|skip
  ·rename_i a;exact .leaf (by simpa[zP,wM]using h)
  ·rename_i a l c;cases a with
   |none=>simp[zP]at h;rw[h.1,h.2];exact .nil
   |some a=>simp[zP]at h
  exact .leaf (by simpa[zP,wM]using h)
 | succ n b=>
  have all:∀l:List Value,(∀v∈l,zP n v=true)->DRs g (l.map (uM n)) l:=by
   intro l;induction l with
   |nil=>intro _;exact .nil
   |cons x l y=>intro h;exact .cons (b x (h x (by simp))) (y λv hv=>h v (by simp[hv]))
  intro v h;cases v<;>first|(exact .leaf rfl)|(simp[zP]at h;done)|skip
  ·rename_i a;exact .leaf (by simpa[zP,wM]using h)
  ·rename_i a l c;cases a with
   |none=>simp[zP]at h;rw[h.1,h.2];exact .nil
   |some a=>simp[zP]at h
  ·exact .leaf (by simpa[zP,wM]using h)
  ·exact .iface (b _ (by simpa[zP]using h))
  ·rename_i cs;simp only[zP,List.all_eq_true,zR]at h;exact .agg (all cs.toList λv hv=>(h v hv).2) (by rw[List.all_eq_true];exact λv hv=>(h v hv).1)
  rename_i cs;simp only[zP,List.all_eq_true]at h;exact .tup (all cs.toList λv hv=>h v hv)
mutual
def SV.bd(n m:Nat):SV->Prop
 |.v i=>i<n
 |.c _=>True
 |.loc b _=>b<m
 |.ptr s i _ _=>s.bd n m/\i.bd n m
 |.pp i _=>i<n
 |.agg cs=>SV.bds n m cs
 |.tup cs=>SV.bds n m cs
 |.fn _ a b=>SV.bds n m a/\SV.bds n m b
 |.ifc _ x=>x.bd n m
 |.yld b=>b<m
def SV.bds(n m:Nat):List SV->Prop
 | []=>True
 |x::xs=>x.bd n m/\SV.bds n m xs
end
mutual
theorem SV.bd_mono{n m e m':Nat}(c:n<=e)(y:m<=m'):∀{x:SV},x.bd n m->x.bd e m'
 |.v i,h=>Nat.lt_of_lt_of_le h c
 |.c _,_=>trivial
 |.loc b _,h=>Nat.lt_of_lt_of_le h y
 |.ptr s i _ _,h=>⟨SV.bd_mono c y h.1,SV.bd_mono c y h.2⟩
 |.pp i _,h=>Nat.lt_of_lt_of_le h c
 |.agg cs,h=>SV.bds_mono c y (xs:=cs) h
 |.tup cs,h=>SV.bds_mono c y (xs:=cs) h
 |.fn _ a b,h=>⟨SV.bds_mono c y h.1,SV.bds_mono c y h.2⟩
 |.ifc _ x,h=>SV.bd_mono c y (x:=x) h
 |.yld b,h=>Nat.lt_of_lt_of_le h y
theorem SV.bds_mono{n m x m':Nat}(b:n<=x)(y:m<=m'):∀{xs:List SV},SV.bds n m xs->SV.bds x m' xs
 | [],_=>trivial
 |_::_,h=>⟨SV.bd_mono b y h.1,SV.bds_mono b y h.2⟩
end
mutual
theorem SV.val_congr{ve e:Nat->Value}{lb j:Nat->Nat}{n m:Nat}(c:∀i,i<n->e i=ve i)(y:∀b,b<m->j b=lb b):∀{x:SV},x.bd n m->x.val e j=x.val ve lb
 |.v i,h=>c i h
 |.c _,_=>rfl
 |.loc b _,h=>by simp only[SV.val,y b h]
 |.ptr s i _ _,h=>by simp only[SV.val,SV.val_congr c y h.1,SV.val_congr c y h.2]
 |.pp i _,h=>by simp only[SV.val,c i h]
 |.agg cs,h=>by simp only[SV.val,SV.vals_congr c y (xs:=cs) h]
 |.tup cs,h=>by simp only[SV.val,SV.vals_congr c y (xs:=cs) h]
 |.fn _ a b,h=>by simp only[SV.val,SV.vals_congr c y h.1,SV.vals_congr c y h.2]
 |.ifc _ x,h=>by simp only[SV.val,SV.val_congr c y (x:=x) h]
 |.yld b,h=>by simp only[SV.val,y b h]
theorem SV.vals_congr{ve x:Nat->Value}{lb y:Nat->Nat}{n m:Nat}(e:∀i,i<n->x i=ve i)(c:∀b,b<m->y b=lb b):∀{xs:List SV},SV.bds n m xs->SV.vals x y xs=SV.vals ve lb xs
 | [],_=>rfl
 |_::_,h=>by simp only[SV.vals,SV.val_congr e c h.1,SV.vals_congr e c h.2]
end
mutual
theorem SV.d_congr{ρ ρ':Nat->D}{n m:Nat}(y:∀i,i<n->ρ' i=ρ i):∀{x:SV},x.bd n m->x.d ρ'=x.d ρ
 |.v i,h=>y i h
 |.c _,_=>rfl
 |.loc b _,h=>rfl
 |.ptr s i _ _,h=>rfl
 |.pp i _,h=>by simp only[SV.d,y i h]
 |.agg cs,h=>by simp only[SV.d,SV.ds_congr y (xs:=cs) h]
 |.tup cs,h=>by simp only[SV.d,SV.ds_congr y (xs:=cs) h]
 |.fn _ a b,h=>by simp only[SV.d,SV.ds_congr y h.1,SV.ds_congr y h.2]
 |.ifc _ x,h=>by simp only[SV.d,SV.d_congr y (x:=x) h]
 |.yld _,_=>rfl
theorem SV.ds_congr{ρ ρ':Nat->D}{n m:Nat}(x:∀i,i<n->ρ' i=ρ i):∀{xs:List SV},SV.bds n m xs->SV.ds ρ' xs=SV.ds ρ xs
 | [],_=>rfl
 |_::_,h=>by simp only[SV.ds,SV.d_congr x h.1,SV.ds_congr x h.2]
end
theorem SV.vals_map(ve:Nat->Value)(lb:Nat->Nat):∀xs:List SV,SV.vals ve lb xs=xs.map (SV.val ve lb)
 | []=>rfl
 |x::xs=>by simp[SV.vals,SV.vals_map ve lb xs]
theorem SV.ds_map(ρ:Nat->D):∀xs:List SV,SV.ds ρ xs=xs.map (SV.d ρ)
 | []=>rfl
 |x::xs=>by simp[SV.ds,SV.ds_map ρ xs]
theorem SV.bds_iff{n m:Nat}:∀{xs:List SV},SV.bds n m xs↔∀x∈xs,x.bd n m
 | []=>by simp[SV.bds]
 |x::xs=>by simp[SV.bds,SV.bds_iff (xs:=xs)]
structure Lim where
 n:Nat
 K:Nat->Prop
 F:List Nat:=[]
 /-- the frames that wait, and the loop dN a function that is under way -/
 frs:List Fr:=[]
 rd:Bool:=false
 lfr:Fr:=⟨0,false,.leaf⟩
 lps:List Tmp:=[]
 las:Code:=.skip
 lbd:Code:=.skip
def Lim.own(L:Lim)(b rt:Nat):Prop:=L.n<=rt/\¬L.K b
def Lim.base(L:Lim)(n:Nat):Prop:=L.n<=n/\∀b,L.K b->b<n
def Lim.of(n:Nat):Lim:={n:=n,K:=(·< n)}
theorem Lim.base.mono{L:Lim}{n m:Nat}(h:L.base n)(x:n<=m):L.base m:=⟨lT h.1 x,λb y=>Nat.lt_of_lt_of_le (h.2 b y) x⟩
theorem Lim.base.new{L:Lim}{n:Nat}(h:L.base n):L.own n n:=⟨h.1,λx=>Nat.lt_irrefl _ (h.2 n x)⟩
theorem Lim.of_base(n:Nat):(Lim.of n).base n:=⟨vE _,λ_ h=>h⟩
def jB(v:Value):Option Nat:=match v with
 |.slice (some ⟨b,_,_⟩) _ c=>if zI<=c then some b else none
 |.map (some b)=>some b
 |_=>none
structure OwnL (g:zG) (bs:zG) (n0:Lim) (d:D) (v:Value) (B l:Nat) (cs vs:List Value) (el rt sz:Nat) (es:List D):Prop where
 v:v=.slice (some ⟨B,0,none⟩) l zI
 d:d=.sl el sz es
 b:bs B=some ⟨.cells cs el,rt,true⟩
 rt:n0.own B rt
 t:take? cs (l*sz)=some vs
 r:DRs g (es.flatMap D.cells) vs
 n:es.length=l
 s:∀e∈es,e.cells.length=sz
 x:l<zI
 o:vs.all qH=true
structure OwnM (g:zG) (bs:zG) (n0:Lim) (d:D) (v:Value) (B:Nat) (es:List MapEntry) (clock rt:Nat) (ks:List Value) (ds:List D):Prop where
 v:v=.map (some B)
 d:d=.mp ks ds
 b:bs B=some ⟨.map es clock,rt,true⟩
 rt:n0.own B rt
 k:es.map (·.key)=ks
 r:DRs g ds (es.map (·.val))
theorem OwnM.own{g b:zG}{n0:Lim}{d:D}{v:Value}{B:Nat}{es:List MapEntry}{x rt:Nat}{y:List Value}{ds:List D}(h:OwnM g b n0 d v B es x rt y ds):jB v=some B:=by rw[h.v];rfl
theorem OwnM.mono{g g' c bs':zG}{n0:Lim}{d:D}{v:Value}{B:Nat}{es:List MapEntry}{x rt:Nat}{y:List Value}{ds:List D}(h:OwnM g c n0 d v B es x rt y ds)(e:zG.le g g')(i:∀B,jB v=some B->bs' B=c B):OwnM g' bs' n0 d v B es x rt y ds:=
 {h with b:=by rw[i B h.own];exact h.b,r:=h.r.mono e}
def qFR(g:zG)(d:D)(v:Value):Prop:=(v=.slice none 0 0/\d=.nil)∨(DR g d v/\∃a,v=.slice (some a) 0 0)
theorem qFR.dr{g:zG}{d:D}{v:Value}(h:qFR g d v):DR g d v:=by
 rcases h with⟨y,x⟩|⟨h,_⟩
 ·rw[y,x];exact .nil
 exact h
theorem qFR.own{g:zG}{d:D}{v:Value}(h:qFR g d v):jB v=none:=by
 rcases h with⟨x,_⟩|⟨_,a,h⟩
 ·rw[x];rfl
 rw[h];simp[jB,zI]
theorem qFR.mono{g g':zG}(x:zG.le g g'){d:D}{v:Value}(h:qFR g d v):qFR g' d v:=by
 rcases h with h|⟨h,a⟩
 ·exact .inl h
 exact .inr ⟨h.mono x,a⟩
theorem qFR.sl{g:zG}{d:D}{v:Value}(h:qFR g d v):d=.nil∨∃el sz,d=.sl el sz []:=by
 rcases h with⟨_,y⟩|⟨h,a,rfl⟩
 ·exact .inl y
 cases h with
 |leaf b=>simp[wM]at b
 |sl e c hv x=>exact .inr ⟨_,_,by rw[List.length_eq_zero_iff.1 x]⟩
theorem qFR.one{g:zG}{d:D}{v:Value}(h:qFR g d v):d.one=true:=by rcases h.sl with rfl|⟨el,sz,rfl⟩<;>rfl
def rA(g:zG)(x:zG)(n0:Lim)(d:D)(v:Value):Prop:=
 qFR g d v∨(∃B l cs vs el rt sz es,OwnL g x n0 d v B l cs vs el rt sz es)∨∃B es h rt y ds,OwnM g x n0 d v B es h rt y ds
def qAT(g:zG)(h:zG)(n0:Lim)(s:VSt)(d:D)(v:Value):Prop:=(s.one=true->d.one=true)/\match s.k with
 |.pure=>DR g d v
 |.full=>qFR g d v
 |.fresh=>rA g h n0 d v
 |.dead=>True
 |.ptr=>DR g d v/\∃cs o,d=.ptr cs o
def jT(ρ:Nat->D)(ve:Nat->Value)(lb:Nat->Nat)(cs:List Value):Blk->Prop
 |.cells xs=>cs=SV.vals ve lb xs
 |.whole x n=>cs=(x.val ve lb).cells.toList/\∃ds,x.d ρ=.agg ds/\ds.length=n
 |.loop _ _=>False
 |.tcells _ xs=>cs=SV.vals ve lb xs
def qK6:Nat->LoopState
 |0=>.ready
 |1=>.busy
 |_=>.done
def qDv:Nat->Option Code
 |0=>none
 |1=>some .ret
 |n+2=>some (.exit n)
def rE(n0:Lim)(ρ:Nat->D)(ve:Nat->Value)(lb:Nat->Nat)(h:zG)(l:Nat):Blk->Prop
 |.loop st pd=>∃rt,h l=some ⟨.loop (qK6 st) (qDv pd) ⟨n0.lfr.sz,true,n0.lfr.t⟩ n0.lps n0.las n0.lbd,rt,true⟩/\n0.own l rt
 |.tcells 0 xs=>∃rt st n,h l=some ⟨.siter st n,rt,true⟩/\n0.own l rt/\jT ρ ve lb [.string st,goInt n] (.tcells 0 xs)
 |.tcells (t+1) xs=>∃rt p cs,h l=some ⟨.cells (p::cs) t,rt,true⟩/\n0.own l rt/\(p=.pointer none∨p=.pointer (some ⟨l,0,none⟩))/\jT ρ ve lb cs (.tcells (t+1) xs)
 |x=>∃el rt cs,h l=some ⟨.cells cs el,rt,true⟩/\n0.own l rt/\jT ρ ve lb cs x
def Blk.bd(n m:Nat):Blk->Prop
 |.cells xs=>SV.bds n m xs
 |.whole x _=>x.bd n m
 |.loop _ _=>True
 |.tcells _ xs=>SV.bds n m xs
def WF(H:AH):Prop:=∀b k,H.blocks.get b=some k->k.root<=b/\b<H.next
def St.live(S:St)(b:Nat):Prop:=∃x,S.blks[b]? = some (some x)
structure SM (n0:Lim) (S:St) (ρ:List D) (ve:Nat->Value) (lb:Nat->Nat) (g:zG) (H:AH):Prop where
 len:ρ.length=S.sts.length
 wf:WF H
 mem:zG.le g H.blocks.get
 base:n0.base H.next
 fix:n0.F.length<=S.blks.length/\∀k a,n0.F[k]? = some a->lb k=a
 vars:∀i s,S.sts[i]? = some s->qAT g H.blocks.get n0 s (getD ρ i) (ve i)
 blks:∀b x,S.blks[b]? = some (some x)->x.bd S.n S.blks.length/\rE n0 (getD ρ) ve lb H.blocks.get (lb b) x
 sepLG:∀b,S.live b->g (lb b)=none
 sepFG:∀i B,S.freshV i=true->jB (ve i)=some B->g B=none
 sepL:∀a b,S.live a->S.live b->lb a=lb b->a=b
 sepF:∀i j B,S.freshV i=true->S.freshV j=true->jB (ve i)=some B->jB (ve j)=some B->i=j
 sepX:∀b i,S.live b->S.freshV i=true->jB (ve i)≠some (lb b)
def dA(frs:List Fr)(sav:List (List (Nat×SV)))(n m:Nat)(ve:Nat->Value)(lb:Nat->Nat):Prop:=
 ∀(j:Nat) (l:List (Nat×SV)),sav[j]? = some l->∀(t:Nat) (x:SV),(t,x)∈l->x.bd n m/\∃f:Fr,frs[j]? = some f/\f.t.get t=some (x.val ve lb)
theorem dA.congr{frs:List Fr}{sav:List (List (Nat×SV))}{n m k m':Nat}{ve y:Nat->Value}{lb c:Nat->Nat}(z:n<=k)(w:m<=m')(B:∀i,i<n->y i=ve i)(A:∀b,b<m->c b=lb b)(h:dA frs sav n m ve lb):dA frs sav k m' y c:=by intro j l u t x r;obtain⟨e,f,q,p⟩:=h j l u t x r;exact⟨SV.bd_mono z w e,f,q,by rw[SV.val_congr B A e];exact p⟩
theorem dA.nil{frs:List Fr}{n m:Nat}{ve:Nat->Value}{lb:Nat->Nat}:dA frs [] n m ve lb:=by intro j l h;simp at h
def qHK(E:Env)(g:zG):Prop:=∀p∈E.laid,g p.1=some p.2
theorem qHK.mono{E:Env}{g g':zG}(h:qHK E g)(y:zG.le g g'):qHK E g':=λp x=>y _ _ (h p x)
structure SR (E:Env) (n0:Lim) (H0:AH) (g0:zG) (S:St) (ρ:List D) (ve:Nat->Value) (lb:Nat->Nat) (g:zG) (fr:Fr) (H:AH):Prop extends SM n0 S ρ ve lb g H where
 sz:fr.sz=S.sz
 rd:fr.rd=n0.rd
 slots:∀t x,S.slots.get t=some x->x.bd S.n S.blks.length/\fr.t.get t=some (x.val ve lb)
 sav:dA n0.frs S.sav S.n S.blks.length ve lb
 keep:∀b,n0.K b->H.blocks.get b=H0.blocks.get b
 gk:∀b,n0.K b->g b=g0 b
 low:Nat.min H0.low n0.n<=H.low
 tab:qHK E g
section
variable{E:Env}{n0:Lim}{H0:AH}{S:St}{ρ:List D}{ve:Nat->Value}{lb:Nat->Nat}{g g':zG}{fr:Fr}{H:AH}
theorem rA.mono{e bs':zG}(y:zG.le g g'){d:D}{v:Value}(c:∀B,jB v=some B->bs' B=e B)(h:rA g e n0 d v):rA g' bs' n0 d v:=by
 rcases h with h|⟨B,l,cs,vs,el,rt,sz,es,h⟩|⟨B,es,x,rt,i,ds,h⟩
 ·exact .inl (h.mono y)
 ·refine .inr (.inl ⟨B,l,cs,vs,el,rt,sz,es,{h with b:=?_,r:=h.r.mono y}⟩);rw[c B (by rw[h.v];simp[jB])];exact h.b
 exact .inr (.inr ⟨B,es,x,rt,i,ds,h.mono y c⟩)
theorem qAT.mono{b bs':zG}(y:zG.le g g'){s:VSt}{d:D}{v:Value}(c:s.k=.fresh->∀B,jB v=some B->bs' B=b B)(h:qAT g b n0 s d v):qAT g' bs' n0 s d v:=by
 obtain⟨k,o⟩:=s;refine⟨h.1,?_⟩;have x:=h.2;cases k<;>simp only at x ⊢
 ·exact x.mono y
 ·exact x.mono y
 ·exact x.mono y (c rfl)
 exact⟨x.1.mono y,x.2⟩
def Blk.isL:Blk->Bool
 |.loop _ _=>true
 |.tcells _ _=>true
 |_=>false
theorem rE.cells{ρ:Nat->D}{c:zG}{l:Nat}{x:Blk}(b:x.isL=false)(h:rE n0 ρ ve lb c l x):∃el rt cs,c l=some ⟨.cells cs el,rt,true⟩/\n0.own l rt/\jT ρ ve lb cs x:=by
 cases x with
 |loop st pd=>cases b
 |tcells t xs=>cases b
 |cells cs=>exact h
 |whole y n=>exact h
theorem rE.ofCells{ρ:Nat->D}{c:zG}{l:Nat}{x:Blk}(b:x.isL=false)(h:∃el rt cs,c l=some ⟨.cells cs el,rt,true⟩/\n0.own l rt/\jT ρ ve lb cs x):rE n0 ρ ve lb c l x:=by
 cases x with
 |loop st pd=>cases b
 |tcells t xs=>cases b
 |cells cs=>exact h
 |whole y n=>exact h
theorem rE.here{ρ:Nat->D}{e:zG}{l:Nat}{x:Blk}(h:rE n0 ρ ve lb e l x):∃k,e l=some k/\n0.own l k.root:=by
 cases x with
 |loop st pd=>obtain⟨rt,c,b⟩:=h;exact⟨_,c,b⟩
 |tcells t xs=>cases t with
  |zero=>obtain⟨rt,p,cs,c,b,_⟩:=h;exact⟨_,c,b⟩
  |succ t=>obtain⟨rt,p,cs,c,b,_⟩:=h;exact⟨_,c,b⟩
 |cells cs=>obtain⟨el,rt,cs,c,b,_⟩:=h;exact⟨_,c,b⟩
 |whole y n=>obtain⟨el,rt,cs,c,b,_⟩:=h;exact⟨_,c,b⟩
theorem rE.congr{ρ ρ':Nat->D}{j:Nat->Value}{k:Nat->Nat}{u bs':zG}{l r:Nat}{x:Blk}(h:rE n0 ρ ve lb u l x)(e:bs' r=u l)(w:r=l)(q:∀cs,jT ρ ve lb cs x->jT ρ' j k cs x):rE n0 ρ' j k bs' r x:=by
 subst w;cases x with
 |loop st pd=>obtain⟨rt,c,b⟩:=h;exact⟨rt,by rw[e];exact c,b⟩
 |tcells t xs=>cases t with
  |zero=>obtain⟨rt,p,cs,c,b,i⟩:=h;exact⟨rt,p,cs,by rw[e];exact c,b,q _ i⟩
  |succ t=>obtain⟨rt,p,cs,c,b,z,i⟩:=h;exact⟨rt,p,cs,by rw[e];exact c,b,z,q _ i⟩
 |cells cs=>obtain⟨el,rt,cs,c,b,i⟩:=h;exact⟨el,rt,cs,by rw[e];exact c,b,q _ i⟩
 |whole y n=>obtain⟨el,rt,cs,c,b,i⟩:=h;exact⟨el,rt,cs,by rw[e];exact c,b,q _ i⟩
theorem zL{i:Nat}:S.freshV i=true↔∃o,S.sts[i]? = some ⟨.fresh,o⟩:=by unfold St.freshV;grind
theorem qRv{i:Nat}(h:S.pureV i=true):∃s,S.sts[i]? = some s/\(s.k=.pure∨s.k=.full∨s.k=.ptr):=by unfold St.pureV at h;grind
theorem qIk(h:SM n0 S ρ ve lb g H){i:Nat}(x:S.isPtr i=true):DR g (getD ρ i) (ve i)/\∃cs o,getD ρ i=.ptr cs o:=by
 unfold St.isPtr at x;split at x
 ·rename_i o y;exact(h.vars i _ y).2
 cases x
theorem qE5(h:SM n0 S ρ ve lb g H){i:Nat}(x:S.pureV i=true):DR g (getD ρ i) (ve i):=by
 obtain⟨s,b,y⟩:=qRv x;have:=(h.vars i s b).2;obtain⟨k,o⟩:=s;rcases y with rfl|rfl|rfl
 ·exact this
 ·exact this.dr
 exact this.1
theorem qIn(h:SM n0 S ρ ve lb g H){i:Nat}(x:S.oneV i=true):(getD ρ i).one=true:=by
 unfold St.oneV at x;split at x
 ·rename_i o y;exact(h.vars i _ y).1 x
 cases x
def qEH(g:zG)(x:zG)(d:D)(v:Value):Prop:=DR g d v∨(∃n0 B l cs vs el rt sz es,OwnL g x n0 d v B l cs vs el rt sz es)∨∃n0 B es h rt y ds,OwnM g x n0 d v B es h rt y ds
theorem qWg{p:D}{v:Value}{off:Nat}(h:DR g p v)(x:∃cs o,p=.ptr cs o):DR g (zCz p off) (qRy v off):=by
 obtain⟨cs,o,rfl⟩:=x;cases h with
 |ptr b hv y=>exact .ptr b hv y
theorem qFc(h:SM n0 S ρ ve lb g H):∀{x:SV},dP S x=true->DR g (x.d (getD ρ)) (x.val ve lb)->qH (x.val ve lb)=true
 |.v i,y,hd=>by rw[hd.one];exact qIn h y
 |.c x,y,_=>y
 |.loc _ _,_,_=>rfl
 |.ptr s i sz off,_,_=>by simp only[SV.val,qBY];split<;>rfl
 |.pp i off,_,_=>by simp only[SV.val,qRy];split<;>rfl
 |.agg _,y,_=>by cases y
 |.tup _,y,_=>by cases y
 |.fn _ _ _,_,_=>rfl
 |.ifc _ _,_,_=>rfl
 |.yld _,_,_=>rfl
mutual
theorem jX(h:SM n0 S ρ ve lb g H):∀{x:SV},wH S x=true->DR g (x.d (getD ρ)) (x.val ve lb)
 |.v i,y=>qE5 h y
 |.c x,y=>qFf 6 x y
 |.loc _ _,y=>by cases y
 |.ptr _ _ _ _,y=>by cases y
 |.pp i off,y=>by obtain⟨k,j⟩:=qIk h y;exact qWg k j
 |.agg cs,y=>by
  simp only[wH,zR]at y;have:=bD h y.1;refine .agg this ?_;rw[List.all_eq_true];intro v hv;rw[SV.vals_map]at hv;obtain⟨x,c,rfl⟩:=List.mem_map.1 hv;have e:dP S x=true:=by grind
  exact qFc h e (qJT h y.1 c)
 |.tup cs,y=>.tup (bD h (xs:=cs) y)
 |.fn f a b,y=>by simp only[wH,zR]at y;exact .clo y.1.1 (bD h y.1.2) (bD h y.2)
 |.ifc t x,y=>.iface (jX h (x:=x) y)
theorem bD(h:SM n0 S ρ ve lb g H):∀{xs:List SV},cB S xs=true->DRs g (SV.ds (getD ρ) xs) (SV.vals ve lb xs)
 | [],_=>.nil
 |x::xs,y=>by simp only[cB,zR]at y;exact .cons (jX h y.1) (bD h y.2)
theorem qJT(h:SM n0 S ρ ve lb g H):∀{xs:List SV},cB S xs=true->∀{x:SV},x∈xs->DR g (x.d (getD ρ)) (x.val ve lb)
 |y::xs,b,x,c=>by
  simp only[cB,zR]at b;by_cases e:x=y
  ·rw[e];exact jX h b.1
  exact qJT h b.2 (by simpa[e]using c)
end
theorem zH(h:SM n0 S ρ ve lb g H){x:SV}(b:wG S x=true):qEH g H.blocks.get (x.d (getD ρ)) (x.val ve lb):=by
 have y:wH S x=true->qEH g H.blocks.get (x.d (getD ρ)) (x.val ve lb):=λb=>.inl (jX h b);cases x with
 | v i=>
  simp only[wG,St.readV]at b;split at b
  ·cases b
  ·rename_i s p j;obtain⟨k,o⟩:=s;have hv:=(h.vars i _ j).2;cases k with
   |pure=>exact .inl hv
   |full=>exact .inl hv.dr
   |ptr=>exact .inl hv.1
   |dead=>exact absurd rfl (p o)
   |fresh=>
    rcases hv with q|⟨B,l,cs,vs,el,rt,sz,es,q⟩|⟨B,es,c,rt,e,ds,q⟩
    ·exact .inl q.dr
    ·exact .inr (.inl ⟨n0,B,l,cs,vs,el,rt,sz,es,q⟩)
    exact .inr (.inr ⟨n0,B,es,c,rt,e,ds,q⟩)
  cases b
 |_=>exact y b
structure SliceR (g:zG) (bs:zG) (el:TypeId) (sz:Nat) (es:List D) (v:Value) (b o l c rt:Nat) (cs vs:List Value) (own:Bool):Prop where
 v:v=.slice (some ⟨b,o,none⟩) l c
 b:bs b=some ⟨.cells cs el,rt,own⟩
 t:take? (cs.drop o) (l*sz)=some vs
 r:DRs g (es.flatMap D.cells) vs
 n:es.length=l
 s:∀e∈es,e.cells.length=sz
 c:l<=c
 x:l<zI
 o:vs.all qH=true
theorem qEH.sl{y:zG}(hm:zG.le g y){el:TypeId}{sz:Nat}{es:List D}{v:Value}(h:qEH g y (.sl el sz es) v):∃b o l c rt cs vs own,SliceR g y el sz es v b o l c rt cs vs own:=by
 rcases h with h|⟨n0,B,l,cs,vs,vK,rt,sz,es',h⟩|⟨n0,B,es,x,rt,q,ds,h⟩
 ·cases h with
  |sl p ht hv j hs k e i=>exact⟨_,_,_,_,_,_,_,_,rfl,hm _ _ p,ht,hv,j,hs,k,e,i⟩
 ·have hd:=h.d;cases hd;exact⟨B,0,l,zI,rt,cs,vs,true,h.v,h.b,by simpa using h.t,h.r,h.n,h.s,Nat.le_of_lt h.x,h.x,h.o⟩
 have hd:=h.d;cases hd
def D.ownable:D->Bool
 |.sl _ _ _=>true
 |.mp _ _=>true
 |_=>false
theorem qEH.dr{b:zG}{d:D}{v:Value}(h:qEH g b d v)(x:d.ownable=false):DR g d v:=by
 rcases h with h|⟨n0,B,l,cs,vs,vK,rt,sz,es',h⟩|⟨n0,B,es,y,rt,c,ds,h⟩
 ·exact h
 ·rw[h.d]at x;cases x
 rw[h.d]at x;cases x
theorem qEH.keys{y:zG}(hm:zG.le g y){b:List Value}{ds:List D}{v:Value}(h:qEH g y (.mp b ds) v):∃r es x rt own,v=.map (some r)/\y r=some ⟨.map es x,rt,own⟩/\es.map (·.key)=b/\DRs g ds (es.map (·.val)):=by
 rcases h with h|⟨n0,B,l,cs,vs,vK,rt,sz,es',h⟩|⟨n0,B,es,x,rt,c,j,h⟩
 ·cases h with
  |mp i e hv=>exact⟨_,_,_,_,_,rfl,hm _ _ i,e,hv⟩
 ·have hd:=h.d;cases hd
 have hd:=h.d;cases hd;exact⟨B,es,x,rt,true,h.v,h.b,h.k,h.r⟩
end
def mN(ve:Nat->Value)(n:Nat)(v:Value):Nat->Value:=λi=>if i=n then v else ve i
theorem iG{ve:Nat->Value}{n:Nat}{v:Value}{i:Nat}(h:i<n):mN ve n v i=ve i:=if_neg (by omega)
theorem jA{ve:Nat->Value}{n:Nat}{v:Value}:mN ve n v n=v:=if_pos rfl
theorem qKf{ρ:List D}{d:D}{i:Nat}(h:i < ρ.length):getD (ρ++[d]) i=getD ρ i:=by simp[getD,List.getElem?_append_left h]
theorem tC{ρ:List D}{d:D}:getD (ρ++[d]) ρ.length=d:=by simp[getD]
section
variable{E:Env}{n0:Lim}{H0:AH}{g0:zG}{S:St}{ρ:List D}{ve:Nat->Value}{lb:Nat->Nat}{g:zG}{fr:Fr}{H:AH}
theorem jT.congr{ρ ρ':Nat->D}{ve y:Nat->Value}{lb c:Nat->Nat}{n m:Nat}(k:∀i,i<n->y i=ve i)(j:∀b,b<m->c b=lb b)(l:∀i,i<n->ρ' i=ρ i){cs:List Value}{x:Blk}(e:x.bd n m)(h:jT ρ ve lb cs x):jT ρ' y c cs x:=by
 cases x with
 |cells xs=>simp only[jT]at h ⊢;rw[h,SV.vals_congr k j e]
 |whole x p=>simp only[jT]at h ⊢;rw[SV.val_congr k j e,SV.d_congr l e];exact h
 |loop _ _=>exact h
 |tcells _ xs=>simp only[jT]at h ⊢;rw[h,SV.vals_congr k j e]
theorem Blk.bd_mono{n m y m':Nat}(c:n<=y)(b:m<=m'){x:Blk}(h:x.bd n m):x.bd y m':=by
 cases x with
 |cells xs=>exact SV.bds_mono c b h
 |whole x y=>exact SV.bd_mono c b h
 |loop _ _=>trivial
 |tcells _ xs=>exact SV.bds_mono c b h
theorem xW{k:VK}{o:Bool}:(S.new k o).n=S.n+1:=by simp[St.new,St.n]
theorem qB9{k:VK}{o:Bool}{i:Nat}{s:VSt}(h:(S.new k o).sts[i]? = some s):(i<S.n/\S.sts[i]? = some s)∨(i=S.n/\s=⟨k,o⟩):=by
 simp only[St.new]at h;rcases Nat.lt_trichotomy i S.sts.length with hi|hi|hi
 ·rw[List.getElem?_append_left hi]at h;exact .inl ⟨hi,h⟩
 ·subst hi;simp at h;exact .inr ⟨rfl,h.symm⟩
 grind
theorem gN{k:VK}{o:Bool}(b:k≠.fresh){i:Nat}(h:(S.new k o).freshV i=true):S.freshV i=true/\i<S.n:=by
 obtain⟨e,c⟩:=zL.1 h;rcases qB9 c with⟨y,x⟩|⟨y,x⟩
 ·exact⟨zL.2 ⟨_,x⟩,y⟩
 cases x;exact absurd rfl b
theorem tF{i:Nat}(h:S.freshV i=true):i<S.n:=by obtain⟨o,h⟩:=zL.1 h;exact(gI h).1
theorem SM.new(h:SM n0 S ρ ve lb g H){k:VK}{o:Bool}{d:D}{v:Value}(p:k≠.fresh)(hv:qAT g H.blocks.get n0 ⟨k,o⟩ d v):SM n0 (S.new k o) (ρ++[d]) (mN ve S.n v) lb g H:=by
 have C:ρ.length=S.n:=h.len;have l:∀i,i<S.n->mN ve S.n v i=ve i:=λi e=>iG e;have u:∀i,i<S.n->getD (ρ++[d]) i=getD ρ i:=λi e=>qKf (by omega);refine {len:=by simp[St.new,h.len],wf:=h.wf,mem:=h.mem,base:=h.base,fix:=h.fix,vars:=?_,blks:=?_,sepLG:=h.sepLG,sepFG:=?_,sepL:=h.sepL,sepF:=?_,sepX:=?_}
 ·intro i s A;rcases qB9 A with⟨y,c⟩|⟨y,c⟩
  ·rw[l i y,u i y];exact h.vars i s c
  subst y c;rw[jA,←C,tC];exact hv
 ·intro b x q;obtain⟨r,z⟩:=h.blks b x q;exact⟨Blk.bd_mono (by rw[xW];omega) (vE _) r,z.congr rfl rfl λ_ w=>w.congr l (λ_ _=>rfl) u r⟩
 ·intro i B G t;obtain⟨y,c⟩:=gN p G;rw[l i c]at t;exact h.sepFG i B y t
 ·intro i j B e F y c;obtain⟨a1,a2⟩:=gN p e;obtain⟨J,I⟩:=gN p F;rw[l _ a2]at y;rw[l _ I]at c;exact h.sepF i j B a1 J y c
 intro b i q e;obtain⟨a1,a2⟩:=gN p e;rw[l _ a2];exact h.sepX b i q a1
structure ExtS (S:St) (ρ:List D) (ve:Nat->Value) (g:zG) (S':St) (ρ':List D) (ve':Nat->Value) (g':zG):Prop where
 n:S.n<=S'.n
 slots:S'.slots=S.slots
 blks:S'.blks=S.blks
 sz:S'.sz=S.sz
 sav:S'.sav=S.sav
 ve:∀i,i<S.n->ve' i=ve i
 ρ:∀i,i<S.n->getD ρ' i=getD ρ i
 g:zG.le g g'
theorem ExtS.refl:ExtS S ρ ve g S ρ ve g:=⟨vE _,rfl,rfl,rfl,rfl,λ_ _=>rfl,λ_ _=>rfl,zG.le_refl _⟩
theorem ExtS.trans{j e:St}{h ρ2:List D}{x ve2:Nat->Value}{g1 c:zG}(a:ExtS S ρ ve g j h x g1)(b:ExtS j h x g1 e ρ2 ve2 c):ExtS S ρ ve g e ρ2 ve2 c:=
 ⟨lT a.n b.n,b.slots.trans a.slots,b.blks.trans a.blks,b.sz.trans a.sz,b.sav.trans a.sav,λi y=>(b.ve i (Nat.lt_of_lt_of_le y a.n)).trans (a.ve i y),λi y=>(b.ρ i (Nat.lt_of_lt_of_le y a.n)).trans (a.ρ i y),zG.le_trans a.g b.g⟩
theorem ExtS.val{S':St}{ρ':List D}{y:Nat->Value}{g':zG}(e:ExtS S ρ ve g S' ρ' y g'){x:SV}{m:Nat}(h:x.bd S.n m):x.val y lb=x.val ve lb:=
 SV.val_congr e.ve (λ_ _=>rfl) h
theorem ExtS.d{S':St}{ρ':List D}{y:Nat->Value}{g':zG}(e:ExtS S ρ ve g S' ρ' y g'){x:SV}{m:Nat}(h:x.bd S.n m):x.d (getD ρ')=x.d (getD ρ):=
 SV.d_congr e.ρ h
theorem ExtS.bd{S':St}{ρ':List D}{y:Nat->Value}{g':zG}(e:ExtS S ρ ve g S' ρ' y g'){x:SV}(h:x.bd S.n S.blks.length):x.bd S'.n S'.blks.length:=by rw[e.blks];exact SV.bd_mono e.n (vE _) h
theorem ExtS.bds{S':St}{ρ':List D}{y:Nat->Value}{g':zG}(e:ExtS S ρ ve g S' ρ' y g'){x:List SV}(h:SV.bds S.n S.blks.length x):SV.bds S'.n S'.blks.length x:=by rw[e.blks];exact SV.bds_mono e.n (vE _) h
theorem SR.ext(h:SR E n0 H0 g0 S ρ ve lb g fr H){S':St}{ρ':List D}{y:Nat->Value}{g':zG}(m:SM n0 S' ρ' y lb g' H)(e:ExtS S ρ ve g S' ρ' y g')(k:∀b,n0.K b->g' b=g b):SR E n0 H0 g0 S' ρ' y lb g' fr H:=
  { m with
    sz:=by rw[e.sz];exact h.sz
    rd:=h.rd
    slots:=λt x c=>by rw[e.slots]at c;obtain⟨j,l⟩:=h.slots t x c;exact⟨e.bd j,by rw[e.val j];exact l⟩
    sav:=by rw[e.sav,e.blks];exact h.sav.congr e.n (vE _) e.ve (λ_ _=>rfl)
    keep:=h.keep
    low:=h.low
    tab:=h.tab.mono e.g
    gk:=λb i=>(k b i).trans (h.gk b i)}
theorem wQ(h:ρ.length=S.n){k:VK}{o:Bool}{d:D}{v:Value}:ExtS S ρ ve g (S.new k o) (ρ++[d]) (mN ve S.n v) g:=
 ⟨by rw[xW];omega,rfl,rfl,rfl,rfl,λi x=>iG x,λi x=>qKf (by omega),zG.le_refl _⟩
theorem SR.new(h:SR E n0 H0 g0 S ρ ve lb g fr H){k:VK}{o:Bool}{d:D}{v:Value}(x:k≠.fresh)(hv:qAT g H.blocks.get n0 ⟨k,o⟩ d v):
  SR E n0 H0 g0 (S.new k o) (ρ++[d]) (mN ve S.n v) lb g fr H:=
 h.ext (h.toSM.new x hv) (wQ h.len) (λ_ _=>rfl)
theorem qEk{i j:Nat}{s:VSt}(h:(S.freeze i).sts[j]? = some s):∃s0,S.sts[j]? = some s0/\s=if i=j then tG s0 else s0:=by simp only[St.freeze,List.getElem?_modify]at h;grind
theorem qGX{i:Nat}:(S.freeze i).n=S.n:=by simp[St.freeze,St.n]
theorem qCy{s:VSt}:(tG s).k≠.fresh:=by
 unfold tG;split
 ·simp
 rename_i h;intro e;obtain⟨k,o⟩:=s;simp only at e;subst e;exact h _ rfl
theorem rJ{i j:Nat}(h:(S.freeze i).freshV j=true):S.freshV j=true/\i≠j:=by
 obtain⟨o,h⟩:=zL.1 h;obtain⟨s0,b,y⟩:=qEk h;split at y
 ·exact absurd (by rw[←y]) (qCy (s:=s0))
 rename_i x;subst y;exact⟨zL.2 ⟨_,b⟩,x⟩
theorem qLU(h:SR E n0 H0 g0 S ρ ve lb g fr H)(i:Nat):∃g',ExtS S ρ ve g (S.freeze i) ρ ve g'/\SR E n0 H0 g0 (S.freeze i) ρ ve lb g' fr H:=by
 have key:∀g',zG.le g g'->zG.le g' H.blocks.get->(∀b,n0.K b->g' b=g b)->(∀o,S.sts[i]? = some ⟨.fresh,o⟩->DR g' (getD ρ i) (ve i))->(∀B,g' B≠g B->S.freshV i=true/\jB (ve i)=some B)->
   ExtS S ρ ve g (S.freeze i) ρ ve g'/\SR E n0 H0 g0 (S.freeze i) ρ ve lb g' fr H:=by
  intro g' M O P hi w
  have e:ExtS S ρ ve g (S.freeze i) ρ ve g':=⟨by rw[qGX];exact vE _,rfl,rfl,rfl,rfl,λ_ _=>rfl,λ_ _=>rfl,M⟩
  refine⟨e,h.ext ?_ e P⟩
  refine {len:=by simp[St.freeze,h.len],wf:=h.wf,mem:=O,base:=h.base,fix:=h.fix,vars:=?_,blks:=?_,sepLG:=?_,sepFG:=?_,sepL:=h.sepL,sepF:=?_,sepX:=?_}
  ·intro j s N
   obtain⟨s0,r,p⟩:=qEk N
   have hv:=(h.vars j s0 r).mono M (bs':=H.blocks.get) (λ_ _ _=>rfl)
   split at p
   ·rename_i I
    subst I
    obtain⟨k,o⟩:=s0
    cases k<;>(subst p;first|exact hv|skip)
    exact⟨hv.1,hi o r⟩
   subst p;exact hv
  ·intro b x y
   obtain⟨F,C⟩:=h.blks b x y
   exact⟨by rw[qGX];exact F,C⟩
  ·intro b y
   have hn:=h.sepLG b y
   cases K:g' (lb b)with
   |none=>rfl
   |some k=>
    obtain⟨r,p⟩:=w (lb b) (by rw[K,hn];simp)
    exact absurd p (h.sepX b i y r)
  ·intro j B G u
   obtain⟨r,p⟩:=rJ G
   have hn:=h.sepFG j B r u
   cases K:g' B with
   |none=>rfl
   |some k=>
    obtain⟨F,C⟩:=w B (by rw[K,hn];simp)
    exact absurd (h.sepF i j B F r C u) p
  ·intro a b B R y r p
   exact h.sepF a b B (rJ R).1 (rJ y).1 r p
  intro b j y G
  exact h.sepX b j y (rJ G).1
 cases A:S.freshV i with
 |false=>exact⟨g,key g (zG.le_refl _) h.mem (λ_ _=>rfl) (λo u=>by rw[zL.2 ⟨o,u⟩]at A;cases A) (λB w=>absurd rfl w)⟩
 | true=>
  obtain⟨o,u⟩:=zL.1 A
  have add:∀B:Nat,jB (ve i)=some B->(∃rt,n0.own B rt)->(∀g',zG.le g g'->g' B=H.blocks.get B->DR g' (getD ρ i) (ve i))->
    ∃g',ExtS S ρ ve g (S.freeze i) ρ ve g'/\SR E n0 H0 g0 (S.freeze i) ρ ve lb g' fr H:=by
   intro B z t J
   have c:zG.le g (λb=>if b=B then H.blocks.get b else g b):=by
    intro b k y
    simp only
    split
    ·exact h.mem b k y
    exact y
   refine⟨λb=>if b=B then H.blocks.get b else g b,key _ c ?_ ?_ ?_ ?_⟩
   ·intro b k y
    simp only at y
    split at y
    ·exact y
    exact h.mem b k y
   ·intro b y
    rw[if_neg]
    intro e
    subst e
    obtain⟨rt,t⟩:=t
    exact t.2 y
   ·intro _ _
    exact J _ c (by simp only[if_true])
   intro b y
   split at y
   ·rename_i e;rw[e];exact⟨A,z⟩
   exact absurd rfl y
  rcases(h.vars i _ u).2 with q|⟨B,l,cs,vs,el,rt,sz,es,q⟩|⟨B,es,L,rt,U,ds,q⟩
  ·exact⟨g,key g (zG.le_refl _) h.mem (λ_ _=>rfl) (λ_ _=>q.dr) (λB w=>absurd rfl w)⟩
  ·refine add B (by rw[q.v];simp[jB]) ⟨_,q.rt⟩ λg' c e=>?_;rw[q.v,q.d];exact .sl (g:=g') (sz:=sz) (cs:=cs) (by rw[e];exact q.b) (by simpa using q.t) (q.r.mono c) q.n q.s (Nat.le_of_lt q.x) q.x q.o
  refine add B q.own ⟨_,q.rt⟩ λg' c e=>?_;rw[q.v,q.d];exact .mp (g:=g') (by rw[e];exact q.b) q.k (q.r.mono c)
mutual
theorem nT:∀(x:SV) {S:St} {g:zG},SR E n0 H0 g0 S ρ ve lb g fr H->∃g',ExtS S ρ ve g (pH S x) ρ ve g'/\SR E n0 H0 g0 (pH S x) ρ ve lb g' fr H
 |.v i,_,_,h=>qLU h i
 |.c _,_,g,h=>⟨g,.refl,h⟩
 |.loc _ _,_,g,h=>⟨g,.refl,h⟩
 |.ptr _ _ _ _,_,g,h=>⟨g,.refl,h⟩
 |.pp _ _,_,g,h=>⟨g,.refl,h⟩
 |.agg cs,_,_,h=>xF cs h
 |.tup cs,_,_,h=>xF cs h
 |.fn _ a b,_,_,h=>by obtain⟨l,k,c⟩:=xF a h;obtain⟨e,j,y⟩:=xF b c;exact⟨e,k.trans j,y⟩
 |.ifc _ x,_,_,h=>nT x h
 |.yld _,_,g,h=>⟨g,.refl,h⟩
theorem xF:∀(xs:List SV) {S:St} {g:zG},SR E n0 H0 g0 S ρ ve lb g fr H->∃g',ExtS S ρ ve g (vR S xs) ρ ve g'/\SR E n0 H0 g0 (vR S xs) ρ ve lb g' fr H
 | [],_,g,h=>⟨g,.refl,h⟩
 |x::xs,_,_,h=>by obtain⟨j,i,b⟩:=nT x h;obtain⟨c,e,y⟩:=xF xs b;exact⟨c,i.trans e,y⟩
end
theorem nQ(h:SR E n0 H0 g0 S ρ ve lb g fr H){i:Nat}{b:Bool}(p:S.pureV i=true)(hd:getD ρ i=.leaf (.bool b)):SR E n0 H0 g0 (S.known i b) ρ ve lb g fr H:=by
 have hv:ve i=.bool b:=by have:=qE5 h.toSM p;rw[hd]at this;exact this.leaf_inv.1
 refine {h with slots:=?_};intro t x l;simp only[St.known,T.get_map,Option.map_eq_some_iff]at l;obtain⟨y,q,rfl⟩:=l;obtain⟨k,c⟩:=h.slots t y q;cases y with
 |v j=>
  simp only[SV.known,qZ];split
  ·rename_i e;subst e;exact⟨trivial,by rw[c];simp only[SV.val,hv]⟩
  exact⟨k,c⟩
 |_=>exact⟨k,c⟩
theorem uK(h:SR E n0 H0 g0 S ρ ve lb g fr H){dst:Option Tmp}{y:SV}{S':St}(k:y.bd S.n S.blks.length)(c:S.put dst y=some S'):∃i,yC fr dst (y.val ve lb)=some i/\SR E n0 H0 g0 S' ρ ve lb g i H:=by
 cases dst with
 |none=>cases c;exact⟨fr,rfl,h⟩
 |some d=>
  simp only[St.put,vU]at c;split at c;case isFalse=>cases c
  rename_i j;cases c;refine⟨⟨fr.sz,fr.rd,fr.t.put d (some (y.val ve lb))⟩,?_,?_⟩
  ·simp only[yC,vU,h.sz];rw[if_pos j]
  refine {h with slots:=?_};intro t x b;simp only at b ⊢;rw[T.get_put]at b ⊢;by_cases e:t=d
  ·rw[if_pos e]at b ⊢;cases b;exact⟨k,rfl⟩
  rw[if_neg e]at b ⊢;exact h.slots t x b
variable{HS:FuncId->List D->D->Prop}{Q:Res1->Prop}
theorem vG{o:TOp}{args:List SV}{k:VK}{one:Bool}{κ:K1}(h:wp E HS Q (j7 o args k one S κ) ρ):∃d,(∀x∈args,wG S x=true)/\o.eval E (SV.ds (getD ρ) args)=some d/\wp E HS Q (κ (.v S.n) (S.new k one)) (ρ++[d]):=by
 unfold j7 at h;cases hr:args.all (wG S)with
 |false=>rw[hr]at h;cases h
 |true=>
  rw[hr]at h;simp only[cond_true,wp]at h;split at h
  ·rename_i d hd;rw[List.all_eq_true]at hr;exact⟨d,hr,hd,h⟩
  cases h
end
def rB(ag:Bool)(size off:Nat)(vs:List Value):Option Value:=
 bif ag then(take? (vs.drop off) size).map λl=>.agg ⟨l⟩else vs[off]?
theorem qHA{α:Type}{a b:Bool}{x:α}{r:α}(h:(bif a&&b then some x else none)=some r):a=true/\b=true/\x=r:=by grind
theorem lV{p:Value->Bool}{vs:List Value}(h:vs.all p=true)(o n:Nat):((vs.drop o).take n).all p=true:=by grind
section
variable{g:zG}
theorem sQ{ag:Bool}{size off:Nat}{ds:List D}{vs:List Value}{d:D}(h:DRs g ds vs)(i:vs.all qH=true)(x:mW ag size off ds=some d):∃v,rB ag size off vs=some v/\DR g d v/\(ag=false->d.one=true)/\(ag=true->∃cs,d=.agg cs/\cs.length=size):=by
 cases ag with
 |true=>
  simp only[mW,cond_true,vU]at x;split at x;case isFalse=>cases x
  rename_i j;cases x;have l:=h.length;refine⟨.agg ⟨(vs.drop off).take size⟩,?_,.agg ((h.drop off).take size) (lV i _ _),(λe=>by cases e),λ_=>⟨_,rfl,?_⟩⟩
  ·simp only[rB,cond_true];rw[wZ (by simp;omega)];rfl
  simp;omega
 | false=>
  simp only[mW,cond_false]at x;split at x
  ·rename_i k hd;cases y:k.one with
   |false=>rw[y]at x;cases x
   |true=>rw[y]at x;cases x;obtain⟨v,c,b⟩:=h.get _ _ hd;exact⟨v,c,b,λ_=>y,λe=>by cases e⟩
  cases x
theorem aD{ag:Bool}{size:Nat}{d x:D}(h:eG ag size d=some x):x=d/\(ag=true->∃cs,d=.agg cs/\cs.length=size)/\(ag=false->d.one=true/\size=1):=by
 cases ag with
 |true=>
  simp only[eG,cond_true]at h;split at h
  ·rename_i cs;simp only[qZ]at h;grind
  cases h
 |false=>simp only[eG,cond_false]at h;obtain⟨c,b,y⟩:=qHA h;simp_all
theorem cells_one{d:D}{v:Value}(h:DR g d v)(x:d.one=true):v.cells.toList=[v]:=by have:=h.one;rw[x]at this;cases v<;>first|rfl|(simp[qH]at this)
theorem wU{d:D}{v:Value}{cs:List D}(h:DR g d v)(hd:d=.agg cs):∃vs,v=.agg ⟨vs⟩/\DRs g cs vs/\vs.all qH=true:=by
 subst hd;cases h with
 |agg h o=>exact⟨_,rfl,h,o⟩
def dC(v:Value):Prop:=∀c,v≠.tuple c
theorem uO{d:D}{v:Value}(h:DR g d v)(x:d.one=true):dC v:=by
 intro c e;subst e;cases h with
 |tup h=>cases x
 |leaf h=>simp[wM]at h
theorem bE{d:D}{v:Value}{cs:List D}(h:DR g d v)(hd:d=.agg cs):dC v:=by obtain⟨vs,rfl,_⟩:=wU h hd;intro c e;cases e
end
section
variable{E:Env}{n0:Lim}{H0:AH}{g0:zG}{S:St}{ρ:List D}{ve:Nat->Value}{lb:Nat->Nat}{g:zG}{fr:Fr}{H:AH}{HS:FuncId->List D->D->Prop}{Q:Res1->Prop}
def lZ(E:Env)(HS:FuncId->List D->D->Prop)(Q:Res1->Prop)(n0:Lim)(H0:AH)(g0:zG)(S:St)(ρ:List D)(ve:Nat->Value)(lb:Nat->Nat)(g:zG)(fr:Fr)(H:AH){α:Type}(κ:α->St->Tree)(P:α->St->List D->(Nat->Value)->zG->Prop):Prop:=
 ∃y S' ρ' h g',ExtS S ρ ve g S' ρ' h g'/\SR E n0 H0 g0 S' ρ' h lb g' fr H/\wp E HS Q (κ y S') ρ'/\P y S' ρ' h g'
theorem qBV(h:SM n0 S ρ ve lb g H){x:SV}(y:wG S x=true){cs:List D}(hd:x.d (getD ρ)=.agg cs):DR g (x.d (getD ρ)) (x.val ve lb):=
 (zH h y).dr (by rw[hd];rfl)
theorem qRT{k:VK}{o:Bool}{x:SV}{m:Nat}(y:x.bd S.n m)(h:dP S x=true):dP (S.new k o) x=true:=by
 cases x with
 |v i=>have b:i<S.sts.length:=y;simp only[dP,St.oneV,St.new]at h ⊢;grind
 |_=>exact h
theorem qOQ{k:VK}:(S.new k true).oneV S.n=true:=by simp[St.oneV,St.new,St.n]
theorem qSo{i:Nat}{cs:List D}{vs:List Value}(U:vs.all qH=true):∀(n k:Nat) (acc:List SV) (S:St) (ρ:List D) (ve:Nat->Value) (g:zG) (κ:List SV->St->Tree),getD ρ i=.agg cs->ve i=.agg ⟨vs⟩->i<S.n->DRs g cs vs->k+n=cs.length->SV.bds S.n S.blks.length acc->SV.vals ve lb acc=vs.take k->acc.all (dP S)=true->SR E n0 H0 g0 S ρ ve lb g fr H->wp E HS Q (qKi i n k acc S κ) ρ->lZ E HS Q n0 H0 g0 S ρ ve lb g fr H κ λl S' _ p _=>SV.bds S'.n S'.blks.length l/\SV.vals p lb l=vs/\l.all (dP S')=true:=by
 intro n;induction n with
 |zero=>intro k acc S ρ ve g κ hd hv C u B r c b h z;refine⟨acc,S,ρ,ve,g,.refl,h,z,r,?_,b⟩;have W:=u.length;have A:k=cs.length:=B;rw[c,A,←W];exact List.take_length
 | succ n R=>
  intro k acc S ρ ve g κ hd hv C u B r c b h z;have w:wp E HS Q (j7 (.fld false 1 k) [.v i] .pure true S λy S=>qKi i n (k+1) (acc++[y]) S κ) ρ:=z;obtain⟨d,_,I,X⟩:=vG w;simp only[SV.ds,SV.d,hd,qCM,D.cells]at I;obtain⟨v,G,P,O,_⟩:=sQ u U I;have Z:=h.new (k:=.pure) (o:=true) (by simp) (d:=d) (v:=v) ⟨λ_=>O rfl,P⟩;have e:ExtS S ρ ve g (S.new .pure true) (ρ++[d]) (mN ve S.n v) g:=wQ h.len;have V:i<(S.new .pure true).n:=by rw[xW];omega
  have F:SV.bds (S.new .pure true).n (S.new .pure true).blks.length (acc++[SV.v S.n]):=by
   rw[SV.bds_iff]at r ⊢;intro x j;rcases List.mem_append.1 j with j|j
   ·exact SV.bd_mono (by rw[xW];omega) (vE _) (r x j)
   simp only[List.mem_singleton]at j;subst j;show S.n<(S.new .pure true).n;rw[xW];omega
  have t:SV.vals (mN ve S.n v) lb (acc++[SV.v S.n])=vs.take (k+1):=by rw[SV.vals_map,List.map_append,←SV.vals_map,SV.vals_congr e.ve (λ_ _=>rfl) r,c];simp only[rB,cond_false]at G;obtain⟨K,J⟩:=gI G;rw[List.take_succ_eq_append_getElem K,J];simp[SV.val,jA]
  have q:(acc++[SV.v S.n]).all (dP (S.new .pure true))=true:=by rw[List.all_append,zR];refine⟨?_,by simp[dP,qOQ]⟩;rw[List.all_eq_true]at b ⊢;rw[SV.bds_iff]at r;intro x j;exact qRT (r x j) (b x j)
  obtain⟨y,S',ρ',p,g',e',N,M,L⟩:=R (k+1) (acc++[SV.v S.n]) (S.new .pure true) (ρ++[d]) (mN ve S.n v) g κ (by rw[e.ρ i C];exact hd) (by rw[e.ve i C];exact hv) V u (by rw[←B];exact Nat.add_right_comm k 1 n) F t q Z X;exact⟨y,S',ρ',p,g',e.trans e',N,M,L⟩
theorem qAp{o:TOp}{args:List SV}{k:VK}{one:Bool}{κ:K1}(h:SR E n0 H0 g0 S ρ ve lb g fr H)(y:wp E HS Q (qHz o args k one S κ) ρ):∃g' d,ExtS S ρ ve g (vR S args) ρ ve g'/\SR E n0 H0 g0 (vR S args) ρ ve lb g' fr H/\(∀x∈args,wH (vR S args) x=true)/\o.eval E (SV.ds (getD ρ) args)=some d/\wp E HS Q (κ (.v (vR S args).n) ((vR S args).new k one)) (ρ++[d]):=by
 obtain⟨g',e,b⟩:=xF args h;unfold qHz at y;cases hr:args.all (wH (vR S args))with
 |false=>simp only[hr]at y;cases y
 |true=>
  simp only[hr,cond_true,wp]at y;split at y
  ·rename_i d hd;rw[List.all_eq_true]at hr;exact⟨g',d,e,b,hr,hd,y⟩
  cases y
theorem qBU{b:zG}{d:D}{v:Value}(h:qEH g b d v)(y:d.one=true):v.cells.toList=[v]/\dC v:=by
 rcases h with h|⟨_,B,l,cs,vs,el,rt,sz,es,q⟩|⟨_,B,es,x,rt,i,ds,q⟩
 ·exact⟨cells_one h y,uO h y⟩
 ·rw[q.v];exact⟨rfl,λc e=>by cases e⟩
 rw[q.v];exact⟨rfl,λc e=>by cases e⟩
def qOt:SV->Bool
 |.loc _ _=>true
 |.ptr _ _ _ _=>true
 |.pp _ _=>true
 |.fn _ _ _=>true
 |.ifc _ _=>true
 |_=>false
theorem qKY{x:SV}(h:qOt x=true):(x.val ve lb).cells.toList=[x.val ve lb]/\dC (x.val ve lb):=by
 cases x<;>first|(cases h;done)|skip
 ·exact⟨rfl,λc e=>by cases e⟩
 ·simp only[SV.val,qBY];split<;>exact⟨rfl,λc e=>by cases e⟩
 ·simp only[SV.val,qRy];split<;>exact⟨rfl,λc e=>by cases e⟩
 ·exact⟨rfl,λc e=>by cases e⟩
 exact⟨rfl,λc e=>by cases e⟩
theorem qHj{ag:Bool}{size:Nat}{v:Value}{l:List SV}(h:aC ag size v=some l):l=v.cells.toList.map .c/\v.cells.toList.length=size/\dC v/\zK v=true:=by
 simp only[aC]at h;cases x:zK v with
 |false=>simp[x]at h
 |true=>simp only[x,Bool.true_and]at h;obtain⟨i,b,y⟩:=qHA h;refine⟨y.symm,vP i,?_,rfl⟩;intro c e;subst e;cases b
theorem qEL(l:List Value):SV.vals ve lb (l.map .c)=l:=by
 rw[SV.vals_map,List.map_map];have:(SV.val ve lb∘SV.c)=id:=by funext x;rfl
 rw[this,List.map_id]
theorem qKQ{n m:Nat}(l:List Value):SV.bds n m (l.map .c):=by rw[SV.bds_iff];intro x h;obtain⟨v,_,rfl⟩:=List.mem_map.1 h;trivial
theorem nA(h:SR E n0 H0 g0 S ρ ve lb g fr H){x:SV}{ag:Bool}{size:Nat}{κ:List SV->St->Tree}(C:x.bd S.n S.blks.length)(j:wp E HS Q (pY x ag size S κ) ρ):lZ E HS Q n0 H0 g0 S ρ ve lb g fr H κ λl S' _ r _=>SV.bds S'.n S'.blks.length l/\SV.vals r lb l=(x.val ve lb).cells.toList/\l.length=size/\dC (x.val ve lb):=by
 have p:qOt x=true->wp E HS Q (bif !ag&&Nat.beq size 1 then κ [x] S else .fail) ρ->
   lZ E HS Q n0 H0 g0 S ρ ve lb g fr H κ λl S' _ r _=>SV.bds S'.n S'.blks.length l/\SV.vals r lb l=(x.val ve lb).cells.toList/\l.length=size/\dC (x.val ve lb):=by
  intro W j
  cases q:(!ag&&Nat.beq size 1)with
  |false=>rw[q]at j;cases j
  |true=>
   rw[q]at j
   simp only[zR]at q
   obtain⟨J,I⟩:=qKY (ve:=ve) (lb:=lb) W
   exact⟨[x],S,ρ,ve,g,.refl,h,j,⟨C,trivial⟩,by rw[J];rfl,(vP q.2).symm,I⟩
 cases x with
 |loc b o=>exact p rfl j
 |ptr a b c d=>exact p rfl j
 |pp i o=>exact p rfl j
 |fn f a b=>exact p rfl j
 |ifc t x=>exact p rfl j
 |tup cs=>cases j
 |yld b=>cases j
 |agg cs=>
  simp only[pY]at j;cases q:(ag&&Nat.beq cs.length size&&cs.all (dP S))with
  |false=>rw[q]at j;cases j
  |true=>rw[q]at j;simp only[zR]at q;exact⟨cs,S,ρ,ve,g,.refl,h,j,C,rfl,vP q.1.2,λc e=>by cases e⟩
 |c v=>
  simp only[pY]at j;split at j
  ·rename_i l G;obtain⟨rfl,w,B,_⟩:=qHj G;exact⟨_,S,ρ,ve,g,.refl,h,j,qKQ _,qEL _,by rw[List.length_map];exact w,B⟩
  cases j
 | v i=>
  have hi:i<S.n:=C;simp only[pY]at j;cases ag with
  | true=>
   simp only[cond_true]at j;obtain⟨d,N,w,B⟩:=vG j;have K:=zH h.toSM (N _ (List.mem_singleton.2 rfl));simp only[SV.ds,SV.d,iZ]at w;obtain⟨rfl,M,_⟩:=aD w;obtain⟨cs,hd,G⟩:=M rfl;have u:DR g (getD ρ i) (ve i):=K.dr (by simp only[SV.d];rw[hd];rfl);obtain⟨vs,hv,z,A⟩:=wU u hd;have L:=h.new (k:=.pure) (o:=false) (by simp) (d:=getD ρ i) (v:=ve i) ⟨(λe=>by cases e),u⟩;have e:ExtS S ρ ve g (S.new .pure false) (ρ++[getD ρ i]) (mN ve S.n (ve i)) g:=wQ h.len;have X:getD (ρ++[getD ρ i]) S.n=getD ρ i:=by have:S.n=ρ.length:=h.len.symm;rw[this,tC]
   obtain⟨y,S',ρ',r,g',e',V,U,R,P,r5⟩:=qSo (i:=S.n) (cs:=cs) (vs:=vs) A size 0 [] (S.new .pure false) (ρ++[getD ρ i]) (mN ve S.n (ve i)) g κ (by rw[X,hd]) (by rw[jA,hv]) (by rw[xW];exact Nat.lt_succ_self _) z (by rw[G];exact Nat.zero_add _) trivial (by simp[SV.vals]) rfl L B;refine⟨y,S',ρ',r,g',e.trans e',V,U,R,?_,?_,?_⟩
   ·rw[P];simp only[SV.val,hv];rfl
   ·have:(SV.vals r lb y).length=vs.length:=by rw[P]
    rw[SV.vals_map,List.length_map,z.length,G]at this;exact this
   simp only[SV.val];exact bE u hd
  | false=>
   simp only[cond_false,qZ]at j;split at j;case isFalse=>cases j
   rename_i hs;cases q:S.oneV i&&S.readV i with
   |true=>rw[q]at j;simp only[zR]at q;have K:=zH h.toSM (x:=.v i) q.2;obtain⟨J,I⟩:=qBU K (qIn h.toSM q.1);exact⟨[.v i],S,ρ,ve,g,.refl,h,j,⟨C,trivial⟩,by rw[J];rfl,hs.symm,I⟩
   |false=>
    rw[q]at j;simp only[cond_false]at j;obtain⟨g',d,e,O,N,w,B⟩:=qAp h j;have F:=jX O.toSM (N _ (List.mem_singleton.2 rfl));simp only[SV.ds,SV.d,iZ]at w;obtain⟨rfl,_,M⟩:=aD w;obtain⟨A,_⟩:=M rfl;simp only[SV.d,SV.val]at F;have L:=O.new (k:=.pure) (o:=true) (by simp) (d:=getD ρ i) (v:=ve i) ⟨λ_=>A,F⟩;have Z:ExtS (vR S [.v i]) ρ ve g' ((vR S [.v i]).new .pure true) (ρ++[getD ρ i]) (mN ve (vR S [.v i]).n (ve i)) g':=wQ O.len;refine⟨_,_,_,_,_,e.trans Z,L,B,⟨?_,trivial⟩,?_,hs.symm,?_⟩
    ·show _<((vR S [.v i]).new .pure true).n;rw[xW];exact Nat.lt_succ_self _
    ·simp only[SV.vals,SV.val,jA];exact(cells_one F A).symm
    exact uO F A
end
def mH(E:Env)(fr:Fr)(o:Oper)(H:AH)(v:Value)(H':AH):Prop:=
 H.next<=H'.next/\∃l,gD E H.next l/\(∀a∈l,a.H'.next<=H'.next)/\∀h,qJr l h->vS E h fr o H=some (v,H')
theorem mH.of_val{E:Env}{fr:Fr}{o:Oper}{H H':AH}{v:Value}(x:H.next<=H'.next)(h:v9 E fr o H=some (.val v,H')):mH E fr o H v H':=
 ⟨x,[],trivial,λ_ h=>(by cases h),λy _=>by simp only[vS,h]⟩
theorem mH.of_skip{E:Env}{fr:Fr}{o:Oper}{H H':AH}(x:H.next<=H'.next)(h:v9 E fr o H=some (.skip,H')):mH E fr o H (.tuple #[]) H':=
 ⟨x,[],trivial,λ_ h=>(by cases h),λy _=>by simp only[vS,h]⟩
section
variable{E:Env}{n0:Lim}{H0:AH}{g0:zG}{S:St}{ρ:List D}{ve:Nat->Value}{lb:Nat->Nat}{g:zG}{fr:Fr}{H:AH}{HS:FuncId->List D->D->Prop}{Q:Res1->Prop}
def jZ(wm:Bool)(E:Env)(HS:FuncId->List D->D->Prop)(Q:Res1->Prop)(n0:Lim)(H0:AH)(g0:zG)(fr:Fr)(H:AH)(o:Oper)(κ:K1):Prop:=
 ∃y S' ρ' h x g' H',SR E n0 H0 g0 S' ρ' h x g' fr H'/\y.bd S'.n S'.blks.length/\wp E HS Q (κ y S') ρ'/\mH E fr o H (y.val h x) H'/\(wm=false->Nat.min H.low H.next<=H'.low)
theorem jZ.same{wm:Bool}{o:Oper}{κ:K1}{y:SV}{S':St}{ρ':List D}{x:Nat->Value}{g':zG}(h:SR E n0 H0 g0 S' ρ' x lb g' fr H)(c:y.bd S'.n S'.blks.length)(b:wp E HS Q (κ y S') ρ')(e:v9 E fr o H=some (.val (y.val x lb),H)):
  jZ wm E HS Q n0 H0 g0 fr H o κ:=
 ⟨y,S',ρ',x,lb,g',H,h,c,b,.of_val (vE _) e,λ_=>Nat.min_le_left _ _⟩
theorem zQ(h:SR E n0 H0 g0 S ρ ve lb g fr H){x:Operand}{y:SV}(b:pW S x=some y):y.bd S.n S.blks.length/\ev E fr x=some (y.val ve lb):=by
 cases x with
 |tmp t=>exact h.slots t y b
 |const v=>
  simp only[pW]at b;cases c:zK v with
  |false=>simp[c]at b
  |true=>simp only[c,cond_true,oI]at b;subst b;exact⟨trivial,by simp only[ev,c,cond_true,SV.val]⟩
 |global g=>cases b
 |func f=>simp only[pW,oI]at b;subst b;exact⟨⟨trivial,trivial⟩,rfl⟩
theorem rL(h:SR E n0 H0 g0 S ρ ve lb g fr H):∀{xs:List Operand} {ys:List SV},cL S xs=some ys->SV.bds S.n S.blks.length ys/\rV E fr xs=some (SV.vals ve lb ys)
 | [],ys,y=>by simp only[cL,oI]at y;subst y;exact⟨trivial,rfl⟩
 |x::xs,ys,y=>by
  simp only[cL]at y;split at y
  ·rename_i a l k j;cases y;obtain⟨i,e⟩:=zQ (E:=E) h k;obtain⟨c,b⟩:=rL h j;exact⟨⟨i,c⟩,by simp only[rV,e,b,Option.map_some,SV.vals]⟩
  cases y
theorem oA(h:SM n0 S ρ ve lb g H){i B:Nat}(b:S.freshV i=true)(x:jB (ve i)=some B):B<H.next/\H.blocks.get B≠none:=by
 obtain⟨o,hs⟩:=zL.1 b;rcases(h.vars i _ hs).2 with q|⟨B',l,cs,vs,el,rt,sz,es,q⟩|⟨B',es,y,rt,c,ds,q⟩
 ·rw[q.own]at x;cases x
 rotate_left
 ·rw[q.own]at x;cases x;exact⟨(h.wf _ _ q.b).2,by rw[q.b];simp⟩
 rw[q.v]at x;simp only[jB,vE,if_true,oI]at x;subst x;exact⟨(h.wf _ _ q.b).2,by rw[q.b];simp⟩
theorem xQ(h:SM n0 S ρ ve lb g H){b:Nat}(i:S.live b):lb b<H.next/\¬n0.K (lb b):=by obtain⟨x,e⟩:=i;obtain⟨k,c,y⟩:=(h.blks b x e).2.here;have:=h.wf _ _ c;exact⟨this.2,y.2⟩
theorem qPn(h:SM n0 S ρ ve lb g H){b:Nat}{k:ABlk}(x:g b=some k):b<H.next:=(h.wf _ _ (h.mem b k x)).2
theorem SR.heap(h:SR E n0 H0 g0 S ρ ve lb g fr H){H':AH}(y:∀b,b<H.next->H'.blocks.get b=H.blocks.get b)(e:WF H')(r:H.next<=H'.next)(t:Nat.min H0.low n0.n<=H'.low):SR E n0 H0 g0 S ρ ve lb g fr H':=by
 refine {len:=h.len,wf:=e,mem:=?_,base:=h.base.mono r,fix:=h.fix,vars:=?_,blks:=?_,sepLG:=h.sepLG,sepFG:=h.sepFG,sepL:=h.sepL,sepF:=h.sepF,sepX:=h.sepX,sz:=h.sz,rd:=h.rd,slots:=h.slots,sav:=h.sav,keep:=?_,low:=t,gk:=h.gk,tab:=h.tab}
 ·intro b k c;rw[y b (qPn h.toSM c)];exact h.mem b k c
 ·intro i s hs;refine(h.vars i s hs).mono (zG.le_refl _) λj B u=>y B ?_;obtain⟨k,o⟩:=s;simp only at j;subst j;exact(oA h.toSM (zL.2 ⟨o,hs⟩) u).1
 ·intro b x c;obtain⟨q,p⟩:=h.blks b x c;exact⟨q,p.congr (y _ (xQ h.toSM ⟨x,c⟩).1) rfl λ_ l=>l⟩
 intro b c;rw[y b (h.base.2 b c)];exact h.keep b c
theorem WF.new(h:WF H)(o:AObj):WF (H.new o):=by
 intro b k x;rw[AH.get_new]at x;split at x
 ·rename_i e;cases x;subst e;exact⟨vE _,Nat.lt_succ_self _⟩
 exact⟨(h b k x).1,Nat.lt_succ_of_lt (h b k x).2⟩
theorem m7{o:AObj}:∀b,b<H.next->(H.new o).blocks.get b=H.blocks.get b:=λb h=>by
 rw[AH.get_new,if_neg (by omega)]
def qDq(lb:Nat->Nat)(m x:Nat):Nat->Nat:=λb=>if b=m then x else lb b
theorem qBe{b:Nat}(h:S.live b):b<S.blks.length:=by obtain⟨x,y⟩:=h;grind
theorem SR.allocO(h:SR E n0 H0 g0 S ρ ve lb g fr H){o:AObj}{x:Blk}(G:x.bd S.n S.blks.length)(r:∀M:zG,M H.next=some ⟨o,H.next,true⟩->n0.own H.next H.next->rE n0 (getD ρ) ve lb M H.next x):SR E n0 H0 g0 {S with blks:=S.blks++[some x]} ρ ve (qDq lb S.blks.length H.next) g fr (H.new o):=by
 have z:=h.heap (H':=H.new o) m7 (h.wf.new _) (Nat.le_succ _) h.low;have j:∀b,b<S.blks.length->qDq lb S.blks.length H.next b=lb b:=λb r=>if_neg (by omega);have l:H.blocks.get H.next=none:=by
  cases F:H.blocks.get H.next with
  |none=>rfl
  |some k=>exact absurd (h.wf _ _ F).2 (Nat.lt_irrefl _)
 have q:∀b,St.live {S with blks:=S.blks++[some x]} b->(b<S.blks.length/\S.live b)∨b=S.blks.length:=by
  intro b ⟨y,e⟩;simp only at e;rcases Nat.lt_trichotomy b S.blks.length with p|p|p
  ·rw[List.getElem?_append_left p]at e;exact .inl ⟨p,y,e⟩
  all_goals grind
 have c:qDq lb S.blks.length H.next S.blks.length=H.next:=if_pos rfl;refine {len:=h.len,wf:=z.wf,mem:=z.mem,base:=z.base,fix:=⟨by simp only[List.length_append];exact lT h.fix.1 (Nat.le_add_right _ _),λk a I=>by rw[j k (Nat.lt_of_lt_of_le (gI I).1 h.fix.1)];exact h.fix.2 k a I⟩,vars:=z.vars,blks:=?_,sepLG:=?_,sepFG:=h.sepFG,sepL:=?_,sepF:=h.sepF,sepX:=?_,sz:=h.sz,rd:=h.rd,slots:=?_,sav:=h.sav.congr (vE _) (by simp) (λ_ _=>rfl) j,keep:=z.keep,low:=h.low,gk:=h.gk,tab:=h.tab}
 ·intro b y e;simp only at e;rcases Nat.lt_or_ge b S.blks.length with p|p
  ·rw[List.getElem?_append_left p]at e;obtain⟨A,C⟩:=z.blks b y e;exact⟨Blk.bd_mono (vE _) (by simp) A,C.congr (by rw[j b p]) (j b p) λ_ B=>B.congr (λ_ _=>rfl) j (λ_ _=>rfl) A⟩
  rw[List.getElem?_append_right p]at e;have:b=S.blks.length:=by have:=(gI e).1;simp at this;omega
  subst this;simp at e;subst e;have N:=r (H.new o).blocks.get (by rw[AH.get_new,if_pos rfl]) h.base.new;exact⟨Blk.bd_mono (vE _) (by simp) G,N.congr (by rw[c]) c λ_ B=>B.congr (λ_ _=>rfl) j (λ_ _=>rfl) G⟩
 ·intro b r;rcases q b r with⟨w,u⟩|rfl
  ·rw[j b w];exact h.sepLG b u
  rw[c];cases F:g H.next with
  |none=>rfl
  |some k=>rw[h.mem _ _ F]at l;cases l
 ·intro a b P r he;rcases q a P with⟨w,u⟩|rfl<;>rcases q b r with⟨L,K⟩|rfl
  ·rw[j a w,j b L]at he;exact h.sepL a b u K he
  ·rw[j a w,c]at he;have:=(xQ h.toSM u).1;omega
  ·rw[j b L,c]at he;have:=(xQ h.toSM K).1;omega
  rfl
 ·intro b i r J;rcases q b r with⟨w,u⟩|rfl
  ·rw[j b w];exact h.sepX b i u J
  rw[c];intro O;have:=(oA h.toSM J O).1;omega
 intro t y e;obtain⟨A,C⟩:=h.slots t y e;exact⟨SV.bd_mono (vE _) (by simp) A,by rw[C,SV.val_congr (λ_ _=>rfl) j A]⟩
theorem SR.alloc(h:SR E n0 H0 g0 S ρ ve lb g fr H){cs:List Value}{el:TypeId}{x:Blk}(j:x.bd S.n S.blks.length)(c:jT (getD ρ) ve lb cs x)(b:x.isL=false:=by rfl):
  SR E n0 H0 g0 {S with blks:=S.blks++[some x]} ρ ve (qDq lb S.blks.length H.next) g fr (H.new (.cells cs el)):=by
 refine h.allocO j λk i e=>?_
 cases x with
 |cells xs=>exact⟨el,_,cs,i,e,c⟩
 |whole y n=>exact⟨el,_,cs,i,e,c⟩
 |loop _ _=>exact c.elim
 |tcells _ _=>cases b
theorem WF.write(h:WF H){b:Nat}{k:ABlk}(y:H.blocks.get b=some k)(o:AObj):WF (H.write b k o):=by
 intro c k' x;rw[AH.get_write]at x;split at x
 ·rename_i e;cases x;subst e;exact h c k y
 exact h c k' x
theorem SR.storeO(h:SR E n0 H0 g0 S ρ ve lb g fr H){b:Nat}{z x:Blk}{F o:AObj}{rt:Nat}(w:S.blks[b]? = some (some z))(L:H.blocks.get (lb b)=some ⟨F,rt,true⟩)(O:x.bd S.n S.blks.length)(P:∀M:zG,M (lb b)=some ⟨o,rt,true⟩->n0.own (lb b) rt->rE n0 (getD ρ) ve lb M (lb b) x):SR E n0 H0 g0 (S.setBlk b x) ρ ve lb g fr (H.write (lb b) ⟨F,rt,true⟩ o):=by
 have j:S.live b:=⟨z,w⟩;have K:b<S.blks.length:=qBe j;obtain⟨V,J,I⟩:=(h.blks b z w).2.here;rw[L]at J;cases J;have r:∀c,(S.setBlk b x).live c->S.live c:=by
  intro c ⟨y,q⟩;simp only[St.setBlk,List.getElem?_set]at q;split at q
  ·rename_i e;subst e;exact j
  ·exact⟨y,q⟩
 have l:∀c,c≠lb b->(H.write (lb b) ⟨F,rt,true⟩ o).blocks.get c=H.blocks.get c:=λc p=>by rw[AH.get_write,if_neg p]
 refine { len:=h.len,wf:=h.wf.write L _,mem:=?_,base:=h.base,fix:=⟨by simp only[St.setBlk,List.length_set];exact h.fix.1,h.fix.2⟩,vars:=?_,blks:=?_,sepLG:=λc p=>h.sepLG c (r c p),sepFG:=h.sepFG,sepL:=λa c R p=>h.sepL a c (r a R) (r c p),sepF:=h.sepF,
          sepX:=λc i p=>h.sepX c i (r c p),sz:=h.sz,rd:=h.rd,slots:=?_,sav:=h.sav.congr (vE _) (by simp[St.setBlk]) (λ_ _=>rfl) (λ_ _=>rfl),keep:=?_,low:=?_,gk:=h.gk,tab:=h.tab}
 ·intro c k p;rw[l c (λe=>by rw[e,h.sepLG b j]at p;cases p)];exact h.mem c k p
 ·intro i s hs;refine(h.vars i s hs).mono (zG.le_refl _) λu B U=>l B ?_;obtain⟨k,o⟩:=s;simp only at u;subst u;intro e;subst e;exact h.sepX b i j (zL.2 ⟨o,hs⟩) U
 ·intro c y q;simp only[St.setBlk,List.getElem?_set]at q;split at q
  ·rename_i e;subst e;cases q;exact⟨by simpa[St.setBlk,St.n]using O,P _ (by rw[AH.get_write,if_pos rfl]) I⟩
  ·rename_i G;obtain⟨C,A⟩:=h.blks c y q;exact⟨by simpa[St.setBlk,St.n]using C,A.congr (l _ (λe=>G (h.sepL c b ⟨y,q⟩ j e).symm)) rfl λ_ N=>N⟩
 ·intro t y q;obtain⟨C,A⟩:=h.slots t y q;exact⟨by simpa[St.setBlk,St.n]using C,A⟩
 ·intro c p;rw[l c (λe=>(xQ h.toSM j).2 (e▸p))];exact h.keep c p
 ·show _<=Nat.min H.low rt;exact Nat.le_min.2 ⟨h.low,lT (Nat.min_le_right _ _) I.1⟩
theorem SR.store(h:SR E n0 H0 g0 S ρ ve lb g fr H){b:Nat}{l x:Blk}{cs cs':List Value}{el:TypeId}{rt:Nat}(e:S.blks[b]? = some (some l))(q:H.blocks.get (lb b)=some ⟨.cells cs el,rt,true⟩)(p:x.bd S.n S.blks.length)(i:jT (getD ρ) ve lb cs' x)(c:x.isL=false:=by rfl):
  SR E n0 H0 g0 (S.setBlk b x) ρ ve lb g fr (H.write (lb b) ⟨.cells cs el,rt,true⟩ (.cells cs' el)):=by
 refine h.storeO e q p λr k j=>?_
 cases x with
 |cells xs=>exact⟨el,_,cs',k,j,i⟩
 |whole y n=>exact⟨el,_,cs',k,j,i⟩
 |loop _ _=>exact i.elim
 |tcells _ _=>cases c
end
theorem dJ:∀{cs vs:List Value},cs.length=vs.length->xA cs 0 vs=some vs
 | [],[],_=>rfl
 | [],_::_,h=>by simp at h
 |_::_,[],h=>by simp at h
 |c::cs,v::vs,h=>by simp only[xA];rw[dJ (by simpa using h)];rfl
theorem nG{ve:Nat->Value}{lb:Nat->Nat}:∀{cs:List SV} {i:Nat} {l r:List SV},yA cs i l=some r->xA (SV.vals ve lb cs) i (SV.vals ve lb l)=some (SV.vals ve lb r)
 |_,0,[],_,h=>by simp only[yA,oI]at h;rw[h];simp[SV.vals,xA]
 | [],0,_::_,_,h=>by cases h
 |c::cs,0,v::vs,r,h=>by simp only[yA,Option.map_eq_some_iff]at h;obtain⟨y,x,rfl⟩:=h;simp only[SV.vals,xA,nG x,Option.map_some]
 | [],_+1,_,_,h=>by simp[yA]at h
 |c::cs,i+1,l,r,h=>by simp only[yA,Option.map_eq_some_iff]at h;obtain⟨y,x,rfl⟩:=h;simp only[SV.vals,xA,nG x,Option.map_some]
theorem nH{n m:Nat}:∀{cs:List SV} {i:Nat} {l r:List SV},yA cs i l=some r->SV.bds n m cs->SV.bds n m l->SV.bds n m r
 |_,0,[],_,h,x,_=>by simp only[yA,oI]at h;rw[←h];exact x
 | [],0,_::_,_,h,_,_=>by cases h
 |c::cs,0,v::vs,r,h,x,y=>by simp only[yA,Option.map_eq_some_iff]at h;obtain⟨e,b,rfl⟩:=h;exact⟨y.1,nH b x.2 y.2⟩
 | [],_+1,_,_,h,_,_=>by simp[yA]at h
 |c::cs,i+1,l,r,h,x,y=>by simp only[yA,Option.map_eq_some_iff]at h;obtain⟨e,b,rfl⟩:=h;exact⟨x.1,nH b x.2 y⟩
section
variable{E:Env}{n0:Lim}{H0:AH}{g0:zG}{S:St}{ρ:List D}{ve:Nat->Value}{lb:Nat->Nat}{g:zG}{fr:Fr}{H:AH}{HS:FuncId->List D->D->Prop}{Q:Res1->Prop}{o:Oper}{κ:K1}{wm:Bool}
theorem qJY(h:SR E n0 H0 g0 S ρ ve lb g fr H){x:Operand}(b:o.op=.move x∨o.op=.assign x)(c:wp E HS Q (match pW S x with|some y=>κ y S|none=>.fail) ρ):jZ wm E HS Q n0 H0 g0 fr H o κ:=by
 split at c
 ·rename_i y j;obtain⟨i,e⟩:=zQ (E:=E) h j;refine .same h i c ?_;rcases b with b|b<;>(unfold v9;rw[b];simp only[e,one,Option.map_some])
 cases c
theorem qBh{i:Nat}{a b:Tree}(h:wp E HS Q (.ite (.v i) a b) ρ):∃t,getD ρ i=.leaf (.bool t)/\wp E HS Q (if t then a else b) ρ:=by simp only[wp,SV.d]at h;grind
theorem tV(h:SM n0 S ρ ve lb g H){i:Nat}(x:S.pureV i=true){t:Bool}(hd:getD ρ i=.leaf (.bool t)):ve i=.bool t:=by have:=qE5 h x;rw[hd]at this;exact this.leaf_inv.1
theorem qRG(h:SR E n0 H0 g0 S ρ ve lb g fr H){c a b:Operand}(p:o.op=.pick c a b)(e:wp E HS Q (vZ E o S κ) ρ):jZ wm E HS Q n0 H0 g0 fr H o κ:=by
 unfold vZ at e;rw[p]at e;simp only at e;have j:∀{S:St} {t:Bool} {x:Operand},SR E n0 H0 g0 S ρ ve lb g fr H->ev E fr c=some (.bool t)->(t=true/\x=a∨t=false/\x=b)->wp E HS Q (match pW S x with|some y=>κ y S|none=>.fail) ρ->jZ wm E HS Q n0 H0 g0 fr H o κ:=by
  intro S t x h k w e;split at e
  ·rename_i y u;obtain⟨r,q⟩:=zQ (E:=E) h u;refine .same h r e ?_;unfold v9;rw[p];rcases w with⟨rfl,rfl⟩|⟨rfl,rfl⟩<;>simp only[k,q,one,Option.map_some]
  cases e
 split at e
 ·rename_i k;exact j h (zQ (E:=E) h k).2 (.inl ⟨rfl,rfl⟩) e
 ·rename_i k;exact j h (zQ (E:=E) h k).2 (.inr ⟨rfl,rfl⟩) e
 ·rename_i i k;cases l:S.pureV i with
  |false=>rw[l]at e;cases e
  |true=>
   rw[l]at e;simp only[cond_true]at e;obtain⟨t,hd,e⟩:=qBh e;have hv:=(zQ (E:=E) h k).2;simp only[SV.val,tV h.toSM l hd]at hv;cases t with
   |true=>exact j (nQ h l hd) hv (.inl ⟨rfl,rfl⟩) e
   |false=>exact j (nQ h l hd) hv (.inr ⟨rfl,rfl⟩) e
 cases e
theorem jC{b:Bool}{a:Tree}(h:wp E HS Q (bif b then a else .fail) ρ):b=true/\wp E HS Q a ρ:=by
 cases b with
 |true=>exact⟨rfl,h⟩
 |false=>cases h
theorem pF{x:AObj}:Nat.min H.low H.next<=(H.new x).low:=Nat.min_le_left _ _
theorem qIz(x:Option Blk):SV.bd (St.n {S with blks:=S.blks++[x]}) (S.blks++[x]).length (.loc S.blks.length 0):=by show S.blks.length<(S.blks++[x]).length;simp
theorem qOF(h:SR E n0 H0 g0 S ρ ve lb g fr H){t:TypeId}(b:o.op=.alloc t)(y:wp E HS Q (vZ E o S κ) ρ):jZ wm E HS Q n0 H0 g0 fr H o κ:=by
 unfold vZ at y;rw[b]at y;simp only at y;split at y
 ·rename_i ds sz e z ag c;obtain⟨_,y⟩:=jC y;refine⟨_,_,_,_,_,_,_,h.alloc (el:=t) (cs:=z) (x:=.cells (z.map .c)) (qKQ _) (qEL z).symm,qIz _,y,.of_val (Nat.le_succ _) ?_,λ_=>pF⟩;unfold v9;rw[b];simp only[c,SV.val,qDq,if_true]
 cases y
theorem qWp(h:SR E n0 H0 g0 S ρ ve lb g fr H){t:TypeId}{x:Operand}(I:o.op=.box t x)(j:wp E HS Q (vZ E o S κ) ρ):jZ wm E HS Q n0 H0 g0 fr H o κ:=by
 unfold vZ at j;rw[I]at j;simp only at j;split at j;case h_2=>cases j
 rename_i y u N ht;obtain⟨U,he⟩:=zQ (E:=E) h N
 have key:∀{S':St} {ρ':List D} {p:Nat->Value} {g':zG} {b:Blk},SR E n0 H0 g0 S' ρ' p lb g' fr H->b.isL=false->b.bd S'.n S'.blks.length->jT (getD ρ') p lb (y.val ve lb).cells.toList b->dC (y.val ve lb)->
   wp E HS Q (κ (.loc S'.blks.length 0) {S' with blks:=S'.blks++[some b]}) ρ'->jZ wm E HS Q n0 H0 g0 fr H o κ:=by
  intro S' ρ' p g' b F B C z A j
  refine⟨_,_,_,_,_,_,_,F.alloc (el:=t) C z B,qIz _,j,.of_val (Nat.le_succ _) ?_,λ_=>pF⟩
  unfold v9
  rw[I]
  simp only[he]
  split
  ·rename_i c q
   simp only[oI]at q
   exact absurd q (A _)
  ·rename_i v hn q
   simp only[oI]at q
   subst q
   simp only[SV.val,qDq,if_true]
  rename_i q;cases q
 have G:wp E HS Q (pY y u.agg u.size S λl S=>κ (.loc S.blks.length 0) {S with blks:=S.blks++[some (.cells l)]}) ρ->jZ wm E HS Q n0 H0 g0 fr H o κ:=by intro j;obtain⟨l,S',ρ',p,g',e,F,w,M,L,_,K⟩:=nA h U j;exact key F (b:=.cells l) rfl M L.symm K w
 split at j
 ·rename_i i V;obtain⟨d,h1,J,Z⟩:=vG j;have O:=zH h.toSM (h1 _ (List.mem_singleton.2 rfl));simp only[SV.ds,SV.d,iZ]at J;obtain⟨rfl,X,_⟩:=aD J;obtain⟨cs,hd,P⟩:=X rfl;have r:DR g (getD ρ i) (ve i):=O.dr (by simp only[SV.d];rw[hd];rfl);have W:=h.new (k:=.pure) (o:=false) (by simp) (d:=getD ρ i) (v:=ve i) ⟨(λe=>by cases e),r⟩;have R:getD (ρ++[getD ρ i]) S.n=getD ρ i:=by have:S.n=ρ.length:=h.len.symm;rw[this,tC]
  refine key W (b:=.whole (.v S.n) u.size) rfl ?_ ?_ (bE r hd) Z
  ·show S.n<(S.new .pure false).n;rw[xW];exact Nat.lt_succ_self _
  refine⟨?_,cs,?_,P⟩
  ·simp only[SV.val,jA]
  show getD (ρ++[getD ρ i]) S.n=_;rw[R,hd]
 exact G j
theorem qHf(h:SR E n0 H0 g0 S ρ ve lb g fr H){a:SV}{κ:K1}(r:a.bd S.n S.blks.length)(j:wp E HS Q (qFE a S κ) ρ):lZ E HS Q n0 H0 g0 S ρ ve lb g fr H κ λy S' _ c _=>y.bd S'.n S'.blks.length/\y.val c lb=a.val ve lb:=by
 cases a with
 | v i=>
  simp only[qFE]at j;obtain⟨d,u,b,p⟩:=vG j;have q:=zH h.toSM (u _ (List.mem_singleton.2 rfl));simp only[SV.ds,SV.d,qBl]at b;split at b
  ·rename_i cs off hd;simp only[oI]at b;subst b;rw[hd]at p;have x:DR g (getD ρ i) (ve i):=q.dr (by simp only[SV.d];rw[hd];rfl);rw[hd]at x;have t:=h.new (k:=.ptr) (o:=true) (by simp) (d:=.ptr cs off) (v:=ve i) ⟨λ_=>rfl,x,cs,off,rfl⟩;have e:ExtS S ρ ve g (S.new .ptr true) (ρ++[.ptr cs off]) (mN ve S.n (ve i)) g:=wQ h.len;have l:wp E HS Q (κ (SV.pp S.n 0) (S.new VK.ptr true)) (ρ++[.ptr cs off]):=p;refine⟨_,_,_,_,_,e,t,l,?_,?_⟩
   ·show S.n<(S.new .ptr true).n;rw[xW];exact Nat.lt_succ_self _
   simp only[SV.val,jA];generalize ve i=w at x;cases x with
   |ptr=>rfl
  cases b
 |_=>exact⟨_,S,ρ,ve,g,.refl,h,j,r,rfl⟩
theorem qLH{b i:Nat}{cs:List Value}{el:TypeId}{rt:Nat}{own:Bool}{v:Value}(h:H.blocks.get b=some ⟨.cells cs el,rt,own⟩)(hv:cs[i]? = some v):H.loads b i 1=some [v]:=by simp only[AH.loads,h];obtain⟨x,rfl⟩:=gI hv;rw[wZ (by simp;omega),List.drop_eq_getElem_cons x,List.take_succ_cons,List.take_zero]
theorem bG{t:TypeId}{ti:TI}(ht:E.types.get t=some ti){b i:Nat}{cs:List Value}{el:TypeId}{rt:Nat}{own:Bool}{v:Value}(y:H.blocks.get b=some ⟨.cells cs el,rt,own⟩)(x:rB ti.agg ti.size i cs=some v):rC E H t (.pointer (some ⟨b,i,none⟩))=some v:=by
 simp only[rC,ht];cases h:ti.agg with
 |true=>simp only[h,rB,cond_true]at x ⊢;simp only[AH.loads,y];exact x
 |false=>simp only[h,rB,cond_false]at x ⊢;simp only[qLH y x]
theorem qGn{ag:Bool}{size off:Nat}{cs:List SV}{x:SV}(h:qAD ag size off cs=some x):rB ag size off (SV.vals ve lb cs)=some (x.val ve lb):=by
 cases ag with
 |true=>
  simp only[qAD,cond_true,vU]at h;split at h;case isFalse=>cases h
  rename_i y;cases h;simp only[rB,cond_true,SV.vals_map];rw[wZ (by simp;omega)];simp[SV.val,SV.vals_map,List.map_drop,List.map_take]
 |false=>simp only[qAD,cond_false]at h;simp only[rB,cond_false,SV.vals_map,List.getElem?_map,h,Option.map_some]
theorem qGo{n m:Nat}{ag:Bool}{size off:Nat}{cs:List SV}{x:SV}(h:qAD ag size off cs=some x)(y:SV.bds n m cs):x.bd n m:=by
 rw[SV.bds_iff]at y;cases ag with
 |true=>
  simp only[qAD,cond_true,vU]at h;split at h
  ·cases h;show SV.bds n m _;rw[SV.bds_iff];grind
  cases h
 |false=>simp only[qAD,cond_false]at h;grind
theorem cE{y:zG}{d:D}{v:Value}{n:Nat}(h:qEH g y d v)(x:dS d=some n):∃k,v=.int k (.ofNat n):=by
 unfold dS at x;split at x
 ·rename_i k m;cases x;exact⟨k,(h.dr rfl).leaf_inv.1⟩
 cases x
theorem qBo{p:zG}(u:zG.le g p){d i:D}{v j:Value}(h:qEH g p d v)(z:qEH g p i j){e:D}(he:bM d i=some e):∃b o l c k n cs rV el rt own,v=.slice (some ⟨b,o,none⟩) l c/\j=.int k (.ofNat n)/\n<l/\p b=some ⟨.cells cs el,rt,own⟩/\(∃es,d=.sl el e.cells.length es/\es.length=l)/\take? (cs.drop (o+n*e.cells.length)) e.cells.length=some rV/\DRs g e.cells rV/\rV.all qH=true:=by
 unfold bM at he;split at he
 ·rename_i n t;obtain⟨k,w⟩:=cE z t;cases d with
  |sl el sz es=>
   simp only[D.es]at he;obtain⟨b,o,l,c,rt,cs,vs,own,q⟩:=h.sl u;have y:=q.s e (List.mem_of_getElem? he);have x:n<es.length:=(gI he).1;have r:n*sz+sz<=l*sz:=qWA (by rw[←q.n];exact x);refine⟨b,o,l,c,k,n,cs,(vs.drop (n*sz)).take sz,el,rt,own,q.v,w,by rw[←q.n];exact x,q.b,⟨es,by rw[y],q.n⟩,?_,?_,lV q.o _ _⟩
   ·rw[y,←List.drop_drop];exact qDN q.t r
   have:=(q.r.drop (n*sz)).take sz;rw[qSs q.s he]at this;exact this
  |_=>simp[D.es]at he
 cases he
theorem qBb(h:SR E n0 H0 g0 S ρ ve lb g fr H){t:TypeId}{a:SV}(hb:a.bd S.n S.blks.length)(j:wp E HS Q (qD9 E t a S κ) ρ):lZ E HS Q n0 H0 g0 S ρ ve lb g fr H κ λy S' _ z _=>y.bd S'.n S'.blks.length/\rC E H t (a.val ve lb)=some (y.val z lb):=by
 unfold qD9 at j;obtain⟨a',S,ρ,w,g1,e0,h,j,hb,hv⟩:=qHf h hb j;rw[←hv];suffices hs:lZ E HS Q n0 H0 g0 S ρ w lb g1 fr H κ λy S' _ z _=>y.bd S'.n S'.blks.length/\rC E H t (a'.val w lb)=some (y.val z lb) by obtain⟨y,S',ρ',z,g',e,r⟩:=hs;exact⟨y,S',ρ',z,g',e0.trans e,r⟩
 split at j
 ·cases j
 rename_i B R;simp only at j;split at j
 ·rename_i b off;split at j
  ·rename_i cs N;obtain⟨q1,el,rt,cs',P,q3,Z⟩:=h.blks b _ N;simp only[jT]at Z;subst Z;split at j
   ·rename_i x hx;exact⟨x,S,ρ,w,g1,.refl,h,j,qGo hx q1,bG R P (qGn hx)⟩
   cases j
  ·rename_i x n N;obtain⟨q1,el,rt,cs',P,q3,Z,ds,O,q6⟩:=h.blks b _ N;subst Z;cases C:(Nat.beq off 0&&Nat.beq B.size n&&B.agg)with
   |true=>
    rw[C]at j;simp only[zR]at C;obtain⟨hr,j⟩:=jC j;obtain⟨vs,hv,F,ho⟩:=wU (qBV h.toSM hr O) O;refine⟨x,S,ρ,w,g1,.refl,h,j,q1,bG R P ?_⟩;have J:=vP C.1.1;have p:=vP C.1.2;rw[J,p,C.2,hv];have hl:vs.length=n:=by rw[F.length,q6]
    show rB true n 0 vs=_;simp only[rB,cond_true,List.drop_zero];rw[wZ (by omega),List.take_of_length_le (by omega)];rfl
   |false=>
    rw[C]at j;simp only[cond_false]at j;obtain⟨d,J,p,V⟩:=vG j;obtain⟨vs,hv,F,ho⟩:=wU (qBV h.toSM (J _ (List.mem_singleton.2 rfl)) O) O;simp only[SV.ds,qCM,O,D.cells]at p;obtain⟨v,u,L,K,_⟩:=sQ F ho p;refine⟨_,_,_,_,_,wQ h.len,h.new (k:=.pure) (o:=!B.agg) (by simp) (d:=d) (v:=v) ⟨λe=>K (by simpa using e),L⟩,V,?_,?_⟩
    ·show S.n<(S.new .pure _).n;rw[xW];exact Nat.lt_succ_self _
    rw[hv]at P;simp only[SV.val,jA];exact bG R P u
  cases j
 ·rename_i s i sz off;obtain⟨d,J,p,V⟩:=vG j;have hr1:=zH h.toSM (J s (by simp));have hr2:=zH h.toSM (J i (by simp));simp only[SV.ds,tM]at p;split at p;case h_2=>cases p
  rename_i e he;obtain⟨b,o',l,c,k,n,cs,rV,el,rt,own,w1,w2,w3,w4,⟨wes,wd,_⟩,w5,X,w7⟩:=qBo h.mem hr1 hr2 he;cases C:(Nat.beq (s.d (getD ρ)).szD sz&&Nat.ble (off+(bif B.agg then B.size else 1)) sz)with
  |false=>rw[C]at p;cases p
  | true=>
   rw[C]at p;simp only[zR]at C;have G:=vP C.1;rw[wd]at G;simp only[D.szD]at G;have I:=oK C.2;simp only[cond_true]at p;have W:∀v,rB B.agg B.size off rV=some v->DR g1 d v->(B.agg=false->d.one=true)->lZ E HS Q n0 H0 g0 S ρ w lb g1 fr H κ λy S' _ z _=>y.bd S'.n S'.blks.length/\rC E H t ((SV.ptr s i sz off).val w lb)=some (y.val z lb):=by
    intro v u L K;refine⟨_,_,_,_,_,wQ h.len,h.new (k:=.pure) (o:=!B.agg) (by simp) (d:=d) (v:=v) ⟨λe=>K (by simpa using e),L⟩,V,?_,?_⟩
    ·show S.n<(S.new .pure _).n;rw[xW];exact Nat.lt_succ_self _
    simp only[SV.val,jA,w1,w2,qBY];refine bG R w4 ?_;obtain⟨u1,u2⟩:=kG w5;rw[G]at u1 u2;cases U:B.agg with
    |true=>
     simp only[U,rB,cond_true,Option.map_eq_some_iff]at u I ⊢;obtain⟨l',u,rfl⟩:=u;refine⟨l',?_,rfl⟩;obtain⟨u3,u4⟩:=kG u;rw[u1]at u3 u4;rw[←List.drop_drop,wZ (by simp at u2 u4 ⊢;omega),u3]
     congr 1
     rw[List.drop_take,List.take_take,Nat.min_eq_left (by omega)]
    |false=>
     simp only[U,rB,cond_false]at u I ⊢;rw[u1,List.getElem?_take]at u;split at u
     ·rw[List.getElem?_drop]at u;exact u
     cases u
   cases A:(B.agg&&Nat.beq off 0&&Nat.beq B.size sz)with
   |true=>
    rw[A]at p;simp only[zR,cond_true]at A p;obtain⟨rfl,q,_⟩:=aD p;obtain⟨ecs,rfl,hecs⟩:=q rfl;simp only[D.cells]at w5 X G;refine W (.agg ⟨rV⟩) ?_ (.agg X w7) (λe=>by rw[A.1.1]at e;cases e);have hel:rV.length=sz:=by rw[X.length,G]
    simp only[rB,A.1.1,cond_true,vP A.1.2,vP A.2,List.drop_zero];rw[wZ (by omega),List.take_of_length_le (by omega)];rfl
   |false=>rw[A]at p;simp only[cond_false]at p;obtain⟨v,u,L,K,_⟩:=sQ X w7 p;exact W v u L K
 ·rename_i i off;obtain⟨d,J,p,V⟩:=vG j;have hp:wH S (.pp i off)=true:=J _ (List.mem_singleton.2 rfl);have M:=jX h.toSM hp;obtain⟨hp1,cs,o',hp2⟩:=qIk h.toSM (i:=i) hp;simp only[SV.ds,SV.d,hp2,zCz,qHb]at p M;generalize hvv:(SV.pp i off).val w lb=vv at M;cases M with
  |ptr hbk F ho=>
   rename_i b rt vs el own;obtain⟨v,u,L,K,_⟩:=sQ F ho p;refine⟨_,_,_,_,_,wQ h.len,h.new (k:=.pure) (o:=!B.agg) (by simp) (d:=d) (v:=v) ⟨λe=>K (by simpa using e),L⟩,V,?_,?_⟩
   ·show S.n<(S.new .pure _).n;rw[xW];exact Nat.lt_succ_self _
   simp only[SV.val,jA]at hvv ⊢;exact bG R (h.mem _ _ hbk) u
 cases j
end
section
variable{E:Env}{n0:Lim}{H0:AH}{g0:zG}{S:St}{ρ:List D}{ve:Nat->Value}{lb:Nat->Nat}{g:zG}{fr:Fr}{H:AH}{HS:FuncId->List D->D->Prop}{Q:Res1->Prop}{o:Oper}{κ:K1}{wm:Bool}
theorem oV{k:VK}{b:Bool}{m:Nat}:SV.bd (S.new k b).n m (.v S.n):=by show S.n<(S.new k b).n;rw[xW];exact Nat.lt_succ_self _
theorem qFu(h:SM n0 S ρ ve lb g H){d:D}:getD (ρ++[d]) S.n=d:=by have:S.n=ρ.length:=h.len.symm;rw[this,tC]
theorem qKM(h:SR E n0 H0 g0 S ρ ve lb g fr H){i:Nat}{size:Nat}{κ:K1}(b:wp E HS Q (j7 (.chk true size) [.v i] .pure false S κ) ρ):∃cs,getD ρ i=.agg cs/\cs.length=size/\DR g (getD ρ i) (ve i)/\SR E n0 H0 g0 (S.new .pure false) (ρ++[getD ρ i]) (mN ve S.n (ve i)) lb g fr H/\wp E HS Q (κ (.v S.n) (S.new .pure false)) (ρ++[getD ρ i]):=by obtain⟨d,q,y,p⟩:=vG b;have c:=zH h.toSM (q _ (List.mem_singleton.2 rfl));simp only[SV.ds,SV.d,iZ]at y;obtain⟨rfl,l,_⟩:=aD y;obtain⟨cs,hd,j⟩:=l rfl;have x:DR g (getD ρ i) (ve i):=c.dr (by simp only[SV.d];rw[hd];rfl);exact⟨cs,hd,j,x,h.new (k:=.pure) (o:=false) (by simp) (d:=getD ρ i) (v:=ve i) ⟨(λe=>by cases e),x⟩,p⟩
theorem qBD{t:TypeId}{ti:TI}(ht:E.types.get t=some ti){b i:Nat}{cs r:List Value}{el:TypeId}{rt:Nat}{v:Value}(x:H.blocks.get b=some ⟨.cells cs el,rt,true⟩)(h:v.cells.toList.length=ti.size)(hs:xA cs i v.cells.toList=some r):kQ E H t (.pointer (some ⟨b,i,none⟩)) v=some (H.write b ⟨.cells cs el,rt,true⟩ (.cells r el)):=by simp only[kQ,ht,qZ];rw[if_pos h];simp only[AH.stores,x,hs,Option.map_some]
theorem qOx(h:SR E n0 H0 g0 S ρ ve lb g fr H){t:TypeId}{x1 x2:Operand}{a x:SV}(ho:o.op=.store t x1 x2)(h1:ev E fr x1=some (a.val ve lb))(h2:ev E fr x2=some (x.val ve lb))(hb:a.bd S.n S.blks.length)(hx:x.bd S.n S.blks.length)(p:wp E HS Q (qH7 E t a x S κ) ρ):jZ true E HS Q n0 H0 g0 fr H o κ:=by
 unfold qH7 at p;split at p
 ·cases p
 rename_i B ht;split at p;case h_2=>cases p
 rename_i b off
 have J:∀{S':St} {ρ':List D} {q:Nat->Value} {g':zG} {blk w:Blk} {cs r:List Value} {el:TypeId} {rt:Nat},SR E n0 H0 g0 S' ρ' q lb g' fr H->S'.blks[b]? = some (some w)->H.blocks.get (lb b)=some ⟨.cells cs el,rt,true⟩->
   dC (x.val ve lb)->(x.val ve lb).cells.toList.length=B.size->xA cs off (x.val ve lb).cells.toList=some r->blk.isL=false->blk.bd S'.n S'.blks.length->jT (getD ρ') q lb r blk->
   wp E HS Q (κ (.tup []) (S'.setBlk b blk)) ρ'->jZ true E HS Q n0 H0 g0 fr H o κ:=by
  intro S' ρ' q g' blk w cs r el rt I k Z hnt hlen mJ hnl hbd hok p
  refine⟨.tup [],_,_,_,_,_,_,I.store k Z hbd hok hnl,trivial,p,.of_skip (vE _) ?_,λe=>by cases e⟩
  unfold v9
  rw[ho]
  simp only[h1,h2]
  have W:=qBD (t:=t) ht Z hlen mJ
  simp only[SV.val]at W ⊢
  split
  ·rename_i c _ z
   simp only[oI]at z
   exact absurd z (hnt _)
  ·rename_i a' v' hn N e2
   simp only[oI]at N e2
   subst N e2
   rw[W]
   rfl
  rename_i hn
  exact absurd rfl (hn _ _ rfl)
 have C:∀{w:Blk} {cs:List Value} {el:TypeId} {rt:Nat},S.blks[b]? = some (some w)->H.blocks.get (lb b)=some ⟨.cells cs el,rt,true⟩->cs.length=B.size->off=0->
   wp E HS Q (qES B b x S κ) ρ->jZ true E HS Q n0 H0 g0 fr H o κ:=by
  intro w cs el rt k Z A X G
  subst X
  have dec:wp E HS Q (pY x B.agg B.size S λl S=>κ (.tup []) (S.setBlk b (.cells l))) ρ->jZ true E HS Q n0 H0 g0 fr H o κ:=by
   intro p
   obtain⟨l,S',ρ',q,g',e,I,j,R,F,P,M⟩:=nA h hx p
   have hlen:(x.val ve lb).cells.toList.length=B.size:=by rw[←F,SV.vals_map,List.length_map,P]
   exact J (S':=S') (blk:=.cells l) I (by rw[e.blks];exact k) Z M hlen (dJ (by rw[A,hlen])) rfl R F.symm j
  unfold qES at G
  split at G
  ·rename_i i
   obtain⟨cs',hd,hl,hdr,I,j⟩:=qKM h G
   obtain⟨vs,hv,K,ho'⟩:=wU hdr hd
   have hlen:((SV.v i).val ve lb).cells.toList.length=B.size:=by
    simp only[SV.val,hv]
    show vs.length=_
    rw[K.length,hl]
   refine J (S':=S.new .pure false) (blk:=.whole (.v S.n) B.size) I k Z (bE hdr hd) hlen (dJ (by rw[A,hlen])) rfl (oV (m:=S.blks.length)) ⟨?_,cs',?_,hl⟩ j
   ·simp only[SV.val,jA]
   show getD _ S.n=_
   rw[qFu h.toSM,hd]
  exact dec G
 split at p
 ·rename_i cs k;obtain⟨q1,el,rt,cs',V,q3,U⟩:=h.blks b _ k;simp only[jT]at U;subst U;cases z:(B.agg&&Nat.beq off 0&&Nat.beq cs.length B.size)with
  |true=>rw[z]at p;simp only[zR]at z;simp only[cond_true]at p;exact C k V (by rw[SV.vals_map,List.length_map];exact vP z.2) (vP z.1.2) p
  |false=>
   rw[z]at p;simp only[cond_false]at p;obtain⟨l,S',ρ',q,g',e,I,j,R,F,P,M⟩:=nA h hx p;simp only at j;split at j
   ·rename_i L mJ;have u:=nG (ve:=q) (lb:=lb) mJ;have A:SV.vals q lb cs=SV.vals ve lb cs:=SV.vals_congr e.ve (λ_ _=>rfl) q1;rw[A,F]at u;exact J (S':=S') (blk:=.cells L) I (by rw[e.blks];exact k) V M (by rw[←F,SV.vals_map,List.length_map,P]) u rfl (nH mJ (e.bds q1) R) rfl j
   cases j
 ·rename_i y n k;obtain⟨q1,el,rt,cs',V,q3,U,ds,q5,q6⟩:=h.blks b _ k;cases z:(B.agg&&Nat.beq off 0&&Nat.beq n B.size&&wG S y)with
  |true=>rw[z]at p;simp only[zR]at z;simp only[cond_true]at p;obtain⟨vs,hv,K,_⟩:=wU (qBV h.toSM z.2 q5) q5;refine C k V ?_ (vP z.1.1.2) p;rw[U,hv,←vP z.1.2,←q6];exact K.length
  |false=>
   rw[z]at p;simp only[cond_false]at p;obtain⟨cl,S1,ρ1,O,g1,N,h1',hw1,s1,s2,s3,s4⟩:=nA h q1 p;obtain⟨l,S',ρ',q,g',e,I,j,R,F,P,M⟩:=nA h1' (N.bd hx) hw1;have hxv:x.val O lb=x.val ve lb:=N.val hx;rw[hxv]at F M;simp only at j;split at j
   ·rename_i L mJ;have u:=nG (ve:=q) (lb:=lb) mJ;have A:SV.vals q lb cl=SV.vals O lb cl:=SV.vals_congr e.ve (λ_ _=>rfl) s1;rw[A,s2,F,←U]at u;exact J (S':=S') (blk:=.cells L) I (by rw[e.blks,N.blks];exact k) V M (by rw[←F,SV.vals_map,List.length_map,P]) u rfl (nH mJ (e.bds s1) R) rfl j
   cases j
 cases p
end
end Go.Am
