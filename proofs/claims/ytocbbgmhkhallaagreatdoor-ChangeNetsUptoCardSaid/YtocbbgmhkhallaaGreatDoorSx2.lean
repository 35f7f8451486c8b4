/- Symbolic runs: states and what they say. Conditions: none. -/
import Derived.Test.YtocbbgmhkhallaaGreatDoorSx1
set_option linter.unusedVariables false
set_option linter.unusedSimpArgs false
namespace Go.Am
open Go
abbrev aw:=@List.mem_singleton
abbrev dv:=@Nat.le_min
abbrev dy:=@List.mem_map
abbrev ep:=@Bool.true_and
abbrev ga:=@List.map_append
abbrev jr:=@List.drop_zero
abbrev jx:=@Nat.le_add_right
theorem T.get_map{α h:Type}(f:α->h):∀(t:T α) (n:Nat),(t.map f).get n=(t.get n).map f
 |.leaf,_=>rfl
 |.node v l r,n=>by simp only[T.map,T.ld,T.get_map f l,T.get_map f r];grind
variable{g:zR}
theorem qFR:∀(n:Nat) (v:LQ),zW n v=true->DR g (qAi n v) v:=by
 intro n;induction n with
 | zero=>
  intro v h;cases v<;>first|(exact .leaf rfl)|(simp[zW]at h;done)|skip
  ·rename_i a;exact .leaf (by simpa[zW,rU]using h)
  ·rename_i a l c;cases a with
   |none=>simp[zW]at h;rw[h.1,h.2];exact .nil
   |some a=>simp[zW]at h
  exact .leaf (by simpa[zW,rU]using h)
 | succ n ih=>
  have all:∀l:LA,(∀v∈l,zW n v=true)->DRs g (l.map (qAi n)) l:=by
   intro l;induction l with
   |nil=>intro _;exact .nil
   |cons x l e=>intro h;exact .cons (ih x (h x (by simp))) (e λv hv=>h v (by simp[hv]))
  intro v h;cases v<;>first|(exact .leaf rfl)|(simp[zW]at h;done)|skip
  ·rename_i a;exact .leaf (by simpa[zW,rU]using h)
  ·rename_i a l c;cases a with
   |none=>simp[zW]at h;rw[h.1,h.2];exact .nil
   |some a=>simp[zW]at h
  ·exact .leaf (by simpa[zW,rU]using h)
  ·exact .iface (ih _ (by simpa[zW]using h))
  ·rename_i cs;simp only[zW,al,aE]at h;exact .agg (all cs.toList λv hv=>(h v hv).2) (by rw[al];exact λv hv=>(h v hv).1)
  rename_i cs;simp only[zW,al]at h;exact .gd (all cs.toList λv hv=>h v hv)
mutual
def SV.bd(n m:Nat):SV->Prop
 |.v i=>i<n
 |.c _=>True
 |.loc b _=>b<m
 |.ptr s i _ _=>s.bd n m/\i.bd n m
 |.pp i _=>i<n
 |.agg cs=>SV.kx n m cs
 |.gd cs=>SV.kx n m cs
 |.fn _ a b=>SV.kx n m a/\SV.kx n m b
 |.ll _ x=>x.bd n m
 |.lk b=>b<m
def SV.kx(n m:Nat):LS->Prop
 | []=>True
 |x::xs=>x.bd n m/\SV.kx n m xs
end
mutual
theorem SV.h9{n m j m':Nat}(e:n<=j)(c:m<=m'):∀{x:SV},x.bd n m->x.bd j m'
 |.v i,h=>bp h e
 |.c _,_=>trivial
 |.loc b _,h=>bp h c
 |.ptr s i _ _,h=>⟨SV.h9 e c h.1,SV.h9 e c h.2⟩
 |.pp i _,h=>bp h e
 |.agg cs,h=>SV.ku e c (xs:=cs) h
 |.gd cs,h=>SV.ku e c (xs:=cs) h
 |.fn _ a b,h=>⟨SV.ku e c h.1,SV.ku e c h.2⟩
 |.ll _ x,h=>SV.h9 e c (x:=x) h
 |.lk b,h=>bp h c
theorem SV.ku{n m c m':Nat}(j:n<=c)(e:m<=m'):∀{xs:LS},SV.kx n m xs->SV.kx c m' xs
 | [],_=>trivial
 |_::_,h=>⟨SV.h9 j e h.1,SV.ku j e h.2⟩
end
mutual
theorem SV.val_congr{ve ve':LH}{lb lb':LI}{n m:Nat}(e:∀i,i<n->ve' i=ve i)(c:∀b,b<m->lb' b=lb b):∀{x:SV},x.bd n m->x.val ve' lb'=x.val ve lb
 |.v i,h=>e i h
 |.c _,_=>rfl
 |.loc b _,h=>by simp only[SV.val,c b h]
 |.ptr s i _ _,h=>by simp only[SV.val,SV.val_congr e c h.1,SV.val_congr e c h.2]
 |.pp i _,h=>by simp only[SV.val,e i h]
 |.agg cs,h=>by simp only[SV.val,SV.di e c (xs:=cs) h]
 |.gd cs,h=>by simp only[SV.val,SV.di e c (xs:=cs) h]
 |.fn _ a b,h=>by simp only[SV.val,SV.di e c h.1,SV.di e c h.2]
 |.ll _ x,h=>by simp only[SV.val,SV.val_congr e c (x:=x) h]
 |.lk b,h=>by simp only[SV.val,c b h]
theorem SV.di{ve ve':LH}{lb lb':LI}{n m:Nat}(e:∀i,i<n->ve' i=ve i)(c:∀b,b<m->lb' b=lb b):∀{xs:LS},SV.kx n m xs->SV.a8 ve' lb' xs=SV.a8 ve lb xs
 | [],_=>rfl
 |_::_,h=>by simp only[SV.a8,SV.val_congr e c h.1,SV.di e c h.2]
end
mutual
theorem SV.nf{ρ ρ':Nat->D}{n m:Nat}(c:∀i,i<n->ρ' i=ρ i):∀{x:SV},x.bd n m->x.d ρ'=x.d ρ
 |.v i,h=>c i h
 |.c _,_=>rfl
 |.loc b _,h=>rfl
 |.ptr s i _ _,h=>rfl
 |.pp i _,h=>by simp only[SV.d,c i h]
 |.agg cs,h=>by simp only[SV.d,SV.lz c (xs:=cs) h]
 |.gd cs,h=>by simp only[SV.d,SV.lz c (xs:=cs) h]
 |.fn _ a b,h=>by simp only[SV.d,SV.lz c h.1,SV.lz c h.2]
 |.ll _ x,h=>by simp only[SV.d,SV.nf c (x:=x) h]
 |.lk _,_=>rfl
theorem SV.lz{ρ ρ':Nat->D}{n m:Nat}(c:∀i,i<n->ρ' i=ρ i):∀{xs:LS},SV.kx n m xs->SV.ds ρ' xs=SV.ds ρ xs
 | [],_=>rfl
 |_::_,h=>by simp only[SV.ds,SV.nf c h.1,SV.lz c h.2]
end
theorem SV.cb(ve:LH)(lb:LI):∀xs:LS,SV.a8 ve lb xs=xs.map (SV.val ve lb)
 | []=>rfl
 |x::xs=>by simp[SV.a8,SV.cb ve lb xs]
theorem SV.lq(ρ:Nat->D):∀xs:LS,SV.ds ρ xs=xs.map (SV.d ρ)
 | []=>rfl
 |x::xs=>by simp[SV.ds,SV.lq ρ xs]
theorem SV.hE{n m:Nat}:∀{xs:LS},SV.kx n m xs↔∀x∈xs,x.bd n m
 | []=>by simp[SV.kx]
 |x::xs=>by simp[SV.kx,SV.hE (xs:=xs)]
structure Lim where
 n:Nat
 K:Nat->Prop
 F:LC:=[]
 /-- the frames that wait, and the loop eI a function that is under way -/
 da:List Fr:=[]
 rd:Bool:=false
 lr:Fr:=⟨0,false,.leaf⟩
 ph:List Tmp:=[]
 pn:Code:=.skip
 pk:Code:=.skip
def Lim.own(L:Lim)(b rt:Nat):Prop:=L.n<=rt/\¬L.K b
def Lim.base(L:Lim)(n:Nat):Prop:=L.n<=n/\∀b,L.K b->b<n
def Lim.of(n:Nat):Lim:={n:=n,K:=(·< n)}
variable{m:Nat}
theorem Lim.base.mono{L:Lim}{n:Nat}(h:L.base n)(c:n<=m):L.base m:=⟨lT h.1 c,λb e=>bp (h.2 b e) c⟩
theorem Lim.base.new{L:Lim}{n:Nat}(h:L.base n):L.own n n:=⟨h.1,λc=>Nat.lt_irrefl _ (h.2 n c)⟩
theorem Lim.ra(n:Nat):(Lim.of n).base n:=⟨vP _,λ_ h=>h⟩
def jW(v:LQ):Option Nat:=match v with
 |.slice (some ⟨b,_,_⟩) _ c=>if zX<=c then some b else none
 |.map (some b)=>some b
 |_=>none
structure OwnL (g:zR) (bs:zR) (n0:Lim) (d:D) (v:LQ) (B l:Nat) (cs vs:LA) (el rt sz:Nat) (es:LR):Prop where
 v:v=.slice (some ⟨B,0,none⟩) l zX
 d:d=.sl el sz es
 b:bs B=some ⟨.cells cs el,rt,true⟩
 rt:n0.own B rt
 t:take? cs (l*sz)=some vs
 r:DRs g (es.flatMap D.cells) vs
 n:es.length=l
 s:∀e∈es,e.cells.length=sz
 x:l<zX
 o:vs.all qU=true
structure OwnM (g:zR) (bs:zR) (n0:Lim) (d:D) (v:LQ) (B:Nat) (es:List MapEntry) (clock rt:Nat) (ks:LA) (ds:LR):Prop where
 v:v=.map (some B)
 d:d=.mp ks ds
 b:bs B=some ⟨.map es clock,rt,true⟩
 rt:n0.own B rt
 k:es.map (·.key)=ks
 r:DRs g ds (es.map (·.val))
variable{bs:zR}{ks:LA}{v:LQ}
theorem OwnM.own{n0:Lim}{d:D}{B:Nat}{es:List MapEntry}{c rt:Nat}{ds:LR}(h:OwnM g bs n0 d v B es c rt ks ds):jW v=some B:=by rw[h.v];rfl
theorem OwnM.mono{g g' bs bs':zR}{n0:Lim}{d:D}{v:LQ}{B:Nat}{es:List MapEntry}{c rt:Nat}{ks:LA}{ds:LR}(h:OwnM g bs n0 d v B es c rt ks ds)(e:zR.le g g')(j:∀B,jW v=some B->bs' B=bs B):OwnM g' bs' n0 d v B es c rt ks ds:=
 {h with b:=by rw[j B h.own];exact h.b,r:=h.r.mono e}
def qGC(g:zR)(d:D)(v:LQ):Prop:=(v=.slice none 0 0/\d=.nil)∨(DR g d v/\∃a,v=.slice (some a) 0 0)
theorem qGC.dr{d:D}(h:qGC g d v):DR g d v:=by
 rcases h with⟨e,c⟩|⟨h,_⟩
 ·rw[e,c];exact .nil
 exact h
theorem qGC.own{d:D}(h:qGC g d v):jW v=none:=by
 rcases h with⟨c,_⟩|⟨_,a,h⟩
 ·rw[c];rfl
 rw[h];simp[jW,zX]
theorem qGC.mono{g g':zR}(c:zR.le g g'){d:D}{v:LQ}(h:qGC g d v):qGC g' d v:=by
 rcases h with h|⟨h,a⟩
 ·exact .inl h
 exact .inr ⟨h.mono c,a⟩
theorem qGC.sl{g:zR}{d:D}{v:LQ}(h:qGC g d v):d=.nil∨∃el sz,d=.sl el sz []:=by
 rcases h with⟨_,e⟩|⟨h,a,rfl⟩
 ·exact .inl e
 cases h with
 |leaf j=>simp[rU]at j
 |sl q p hv c=>exact .inr ⟨_,_,by rw[cy.1 c]⟩
theorem qGC.one{d:D}(h:qGC g d v):d.one=true:=by rcases h.sl with rfl|⟨el,sz,rfl⟩<;>rfl
def bM(g:zR)(bs:zR)(n0:Lim)(d:D)(v:LQ):Prop:=
 qGC g d v∨(∃B l cs vs el rt sz es,OwnL g bs n0 d v B l cs vs el rt sz es)∨∃B es h rt ks ds,OwnM g bs n0 d v B es h rt ks ds
def qBj(g:zR)(bs:zR)(n0:Lim)(s:VSt)(d:D)(v:LQ):Prop:=(s.one=true->d.one=true)/\match s.k with
 |.pure=>DR g d v
 |.full=>qGC g d v
 |.fresh=>bM g bs n0 d v
 |.dead=>True
 |.ptr=>DR g d v/\∃cs o,d=.ptr cs o
def j5(ρ:Nat->D)(ve:LH)(lb:LI)(cs:LA):Blk->Prop
 |.cells xs=>cs=SV.a8 ve lb xs
 |.whole x n=>cs=(x.val ve lb).cells.toList/\∃ds,x.d ρ=.agg ds/\ds.length=n
 |.loop _ _=>False
 |.b5 _ xs=>cs=SV.a8 ve lb xs
def qLE:Nat->LoopState
 |0=>.ready
 |1=>.busy
 |_=>.done
def qDT:Nat->Option Code
 |0=>none
 |1=>some .ret
 |n+2=>some (.exit n)
def nL(n0:Lim)(ρ:Nat->D)(ve:LH)(lb:LI)(bs:zR)(l:Nat):Blk->Prop
 |.loop st pd=>∃rt,bs l=some ⟨.loop (qLE st) (qDT pd) ⟨n0.lr.sz,true,n0.lr.t⟩ n0.ph n0.pn n0.pk,rt,true⟩/\n0.own l rt
 |.b5 0 xs=>∃rt st n,bs l=some ⟨.lx st n,rt,true⟩/\n0.own l rt/\j5 ρ ve lb [.string st,goInt n] (.b5 0 xs)
 |.b5 (t+1) xs=>∃rt p cs,bs l=some ⟨.cells (p::cs) t,rt,true⟩/\n0.own l rt/\(p=.pointer none∨p=.pointer (some ⟨l,0,none⟩))/\j5 ρ ve lb cs (.b5 (t+1) xs)
 |x=>∃el rt cs,bs l=some ⟨.cells cs el,rt,true⟩/\n0.own l rt/\j5 ρ ve lb cs x
def Blk.bd(n m:Nat):Blk->Prop
 |.cells xs=>SV.kx n m xs
 |.whole x _=>x.bd n m
 |.loop _ _=>True
 |.b5 _ xs=>SV.kx n m xs
def WF(H:AH):Prop:=∀b k,H.blocks.get b=some k->k.root<=b/\b<H.next
def St.live(S:St)(b:Nat):Prop:=∃x,S.ae[b]? = some (some x)
structure SM (n0:Lim) (S:St) (ρ:LR) (ve:LH) (lb:LI) (g:zR) (H:AH):Prop where
 len:ρ.length=S.db.length
 wf:WF H
 mem:zR.le g H.blocks.get
 base:n0.base H.next
 fix:n0.F.length<=S.ae.length/\∀k a,n0.F[k]? = some a->lb k=a
 vars:∀i s,S.db[i]? = some s->qBj g H.blocks.get n0 s (getD ρ i) (ve i)
 ae:∀b x,S.ae[b]? = some (some x)->x.bd S.n S.ae.length/\nL n0 (getD ρ) ve lb H.blocks.get (lb b) x
 ei:∀b,S.live b->g (lb b)=none
 cn:∀i B,S.ca i=true->jW (ve i)=some B->g B=none
 km:∀a b,S.live a->S.live b->lb a=lb b->a=b
 h7:∀i j B,S.ca i=true->S.ca j=true->jW (ve i)=some B->jW (ve j)=some B->i=j
 hU:∀b i,S.live b->S.ca i=true->jW (ve i)≠some (lb b)
def dP(da:List Fr)(kh:List (List (Nat×SV)))(n m:Nat)(ve:LH)(lb:LI):Prop:=
 ∀(j:Nat) (l:List (Nat×SV)),kh[j]? = some l->∀(t:Nat) (x:SV),(t,x)∈l->x.bd n m/\∃f:Fr,da[j]? = some f/\f.t.get t=some (x.val ve lb)
variable{da:List Fr}{lb':LI}{ve ve':LH}
theorem dP.congr{kh:List (List (Nat×SV))}{n e m':Nat}{lb:LI}(z:n<=e)(w:m<=m')(B:∀i,i<n->ve' i=ve i)(A:∀b,b<m->lb' b=lb b)(h:dP da kh n m ve lb):dP da kh e m' ve' lb':=by intro j l u t x r;obtain⟨c,f,q,p⟩:=h j l u t x r;exact⟨SV.h9 z w c,f,q,by rw[SV.val_congr B A c];exact p⟩
theorem dP.nil{n:Nat}{lb:LI}:dP da [] n m ve lb:=by intro j l h;simp at h
def qJV(E:Env)(g:zR):Prop:=∀p∈E.laid,g p.1=some p.2
variable{E:Env}{g':zR}
theorem qJV.mono(h:qJV E g)(e:zR.le g g'):qJV E g':=λp c=>e _ _ (h p c)
structure SR (E:Env) (n0:Lim) (H0:AH) (g0:zR) (S:St) (ρ:LR) (ve:LH) (lb:LI) (g:zR) (fr:Fr) (H:AH):Prop extends SM n0 S ρ ve lb g H where
 sz:fr.sz=S.sz
 rd:fr.rd=n0.rd
 af:∀t x,S.af.get t=some x->x.bd S.n S.ae.length/\fr.t.get t=some (x.val ve lb)
 kh:dP n0.da S.kh S.n S.ae.length ve lb
 hN:∀b,n0.K b->H.blocks.get b=H0.blocks.get b
 gk:∀b,n0.K b->g b=g0 b
 low:Nat.min H0.low n0.n<=H.low
 tab:qJV E g
variable{i l off:Nat}{x:SV}
section
variable{E:Env}{n0:Lim}{H0:AH}{S:St}{ρ:LR}{ve:LH}{lb:LI}{g g':zR}{fr:Fr}{H:AH}
theorem bM.mono{bs bs':zR}(e:zR.le g g'){d:D}{v:LQ}(j:∀B,jW v=some B->bs' B=bs B)(h:bM g bs n0 d v):bM g' bs' n0 d v:=by
 rcases h with h|⟨B,l,cs,vs,el,rt,sz,es,h⟩|⟨B,es,c,rt,ks,ds,h⟩
 ·exact .inl (h.mono e)
 ·refine .inr (.inl ⟨B,l,cs,vs,el,rt,sz,es,{h with b:=?_,r:=h.r.mono e}⟩);rw[j B (by rw[h.v];simp[jW])];exact h.b
 exact .inr (.inr ⟨B,es,c,rt,ks,ds,h.mono e j⟩)
theorem qBj.mono{bs bs':zR}(e:zR.le g g'){s:VSt}{d:D}{v:LQ}(j:s.k=.fresh->∀B,jW v=some B->bs' B=bs B)(h:qBj g bs n0 s d v):qBj g' bs' n0 s d v:=by
 obtain⟨k,o⟩:=s;refine⟨h.1,?_⟩;have c:=h.2;cases k<;>simp only at c ⊢
 ·exact c.mono e
 ·exact c.mono e
 ·exact c.mono e (j rfl)
 exact⟨c.1.mono e,c.2⟩
def Blk.od:Blk->Bool
 |.loop _ _=>true
 |.b5 _ _=>true
 |_=>false
theorem nL.cells{ρ:Nat->D}{bs:zR}{l:Nat}{x:Blk}(c:x.od=false)(h:nL n0 ρ ve lb bs l x):∃el rt cs,bs l=some ⟨.cells cs el,rt,true⟩/\n0.own l rt/\j5 ρ ve lb cs x:=by
 cases x with
 |loop st pd=>cases c
 |b5 t xs=>cases c
 |cells cs=>exact h
 |whole y n=>exact h
theorem nL.ml{ρ:Nat->D}{x:Blk}(c:x.od=false)(h:∃el rt cs,bs l=some ⟨.cells cs el,rt,true⟩/\n0.own l rt/\j5 ρ ve lb cs x):nL n0 ρ ve lb bs l x:=by
 cases x with
 |loop st pd=>cases c
 |b5 t xs=>cases c
 |cells cs=>exact h
 |whole y n=>exact h
theorem nL.here{ρ:Nat->D}{x:Blk}(h:nL n0 ρ ve lb bs l x):∃k,bs l=some k/\n0.own l k.root:=by
 cases x with
 |loop st pd=>obtain⟨rt,e,c⟩:=h;exact⟨_,e,c⟩
 |b5 t xs=>cases t with
  |zero=>obtain⟨rt,p,cs,e,c,_⟩:=h;exact⟨_,e,c⟩
  |succ t=>obtain⟨rt,p,cs,e,c,_⟩:=h;exact⟨_,e,c⟩
 |cells cs=>obtain⟨el,rt,cs,e,c,_⟩:=h;exact⟨_,e,c⟩
 |whole y n=>obtain⟨el,rt,cs,e,c,_⟩:=h;exact⟨_,e,c⟩
theorem nL.congr{ρ ρ':Nat->D}{bs':zR}{r:Nat}{x:Blk}(h:nL n0 ρ ve lb bs l x)(e:bs' r=bs l)(u:r=l)(q:∀cs,j5 ρ ve lb cs x->j5 ρ' ve' lb' cs x):nL n0 ρ' ve' lb' bs' r x:=by
 subst u;cases x with
 |loop st pd=>obtain⟨rt,j,c⟩:=h;exact⟨rt,by rw[e];exact j,c⟩
 |b5 t xs=>cases t with
  |zero=>obtain⟨rt,p,cs,j,c,h3⟩:=h;exact⟨rt,p,cs,by rw[e];exact j,c,q _ h3⟩
  |succ t=>obtain⟨rt,p,cs,j,c,w,h3⟩:=h;exact⟨rt,p,cs,by rw[e];exact j,c,w,q _ h3⟩
 |cells cs=>obtain⟨el,rt,cs,j,c,h3⟩:=h;exact⟨el,rt,cs,by rw[e];exact j,c,q _ h3⟩
 |whole y n=>obtain⟨el,rt,cs,j,c,h3⟩:=h;exact⟨el,rt,cs,by rw[e];exact j,c,q _ h3⟩
theorem zT:S.ca i=true↔∃o,S.db[i]? = some ⟨.fresh,o⟩:=by unfold St.ca;grind
theorem qRd(h:S.lh i=true):∃s,S.db[i]? = some s/\(s.k=.pure∨s.k=.full∨s.k=.ptr):=by unfold St.lh at h;grind
theorem qIV(h:SM n0 S ρ ve lb g H)(c:S.pa i=true):DR g (getD ρ i) (ve i)/\∃cs o,getD ρ i=.ptr cs o:=by
 unfold St.pa at c;split at c
 ·rename_i o e;exact(h.vars i _ e).2
 cases c
theorem qFE(h:SM n0 S ρ ve lb g H)(c:S.lh i=true):DR g (getD ρ i) (ve i):=by
 obtain⟨s,j,e⟩:=qRd c;have:=(h.vars i s j).2;obtain⟨k,o⟩:=s;rcases e with rfl|rfl|rfl
 ·exact this
 ·exact this.dr
 exact this.1
theorem qI0(h:SM n0 S ρ ve lb g H)(c:S.ov i=true):(getD ρ i).one=true:=by
 unfold St.ov at c;split at c
 ·rename_i o e;exact(h.vars i _ e).1 c
 cases c
def qE8(g:zR)(bs:zR)(d:D)(v:LQ):Prop:=DR g d v∨(∃n0 B l cs vs el rt sz es,OwnL g bs n0 d v B l cs vs el rt sz es)∨∃n0 B es h rt ks ds,OwnM g bs n0 d v B es h rt ks ds
theorem qWj{p:D}(h:DR g p v)(c:∃cs o,p=.ptr cs o):DR g (zAI p off) (qRh v off):=by
 obtain⟨cs,o,rfl⟩:=c;cases h with
 |ptr j hv e=>exact .ptr j hv e
theorem qFN(h:SM n0 S ρ ve lb g H):∀{x:SV},eJ S x=true->DR g (x.d (getD ρ)) (x.val ve lb)->qU (x.val ve lb)=true
 |.v i,c,hd=>by rw[hd.one];exact qI0 h c
 |.c x,c,_=>c
 |.loc _ _,_,_=>rfl
 |.ptr s i sz off,_,_=>by simp only[SV.val,qCk];split<;>rfl
 |.pp i off,_,_=>by simp only[SV.val,qRh];split<;>rfl
 |.agg _,c,_=>by cases c
 |.gd _,c,_=>by cases c
 |.fn _ _ _,_,_=>rfl
 |.ll _ _,_,_=>rfl
 |.lk _,_,_=>rfl
mutual
theorem j6(h:SM n0 S ρ ve lb g H):∀{x:SV},wT S x=true->DR g (x.d (getD ρ)) (x.val ve lb)
 |.v i,c=>qFE h c
 |.c x,c=>qFR 6 x c
 |.loc _ _,c=>by cases c
 |.ptr _ _ _ _,c=>by cases c
 |.pp i off,c=>by obtain⟨q,p⟩:=qIV h c;exact qWj q p
 |.agg cs,c=>by
  simp only[wT,aE]at c;have:=cA h c.1;refine .agg this ?_;rw[al];intro v hv;rw[SV.cb]at hv;obtain⟨x,e,rfl⟩:=dy.1 hv;have j:eJ S x=true:=by grind
  exact qFN h j (qKo h c.1 e)
 |.gd cs,c=>.gd (cA h (xs:=cs) c)
 |.fn f a b,c=>by simp only[wT,aE]at c;exact .kr c.1.1 (cA h c.1.2) (cA h c.2)
 |.ll t x,c=>.iface (j6 h (x:=x) c)
theorem cA(h:SM n0 S ρ ve lb g H):∀{xs:LS},cT S xs=true->DRs g (SV.ds (getD ρ) xs) (SV.a8 ve lb xs)
 | [],_=>.nil
 |x::xs,c=>by simp only[cT,aE]at c;exact .cons (j6 h c.1) (cA h c.2)
theorem qKo(h:SM n0 S ρ ve lb g H):∀{xs:LS},cT S xs=true->∀{x:SV},x∈xs->DR g (x.d (getD ρ)) (x.val ve lb)
 |y::xs,c,x,j=>by
  simp only[cT,aE]at c;by_cases e:x=y
  ·rw[e];exact j6 h c.1
  exact qKo h c.2 (by simpa[e]using j)
end
theorem zQ(h:SM n0 S ρ ve lb g H)(e:yB S x=true):qE8 g H.blocks.get (x.d (getD ρ)) (x.val ve lb):=by
 have c:wT S x=true->qE8 g H.blocks.get (x.d (getD ρ)) (x.val ve lb):=λe=>.inl (j6 h e);cases x with
 | v i=>
  simp only[yB,St.pt]at e;split at e
  ·cases e
  ·rename_i s r p;obtain⟨k,o⟩:=s;have hv:=(h.vars i _ p).2;cases k with
   |pure=>exact .inl hv
   |full=>exact .inl hv.dr
   |ptr=>exact .inl hv.1
   |dead=>exact absurd rfl (r o)
   |fresh=>
    rcases hv with q|⟨B,l,cs,vs,el,rt,sz,es,q⟩|⟨B,es,j,rt,ks,ds,q⟩
    ·exact .inl q.dr
    ·exact .inr (.inl ⟨n0,B,l,cs,vs,el,rt,sz,es,q⟩)
    exact .inr (.inr ⟨n0,B,es,j,rt,ks,ds,q⟩)
  cases e
 |_=>exact c e
structure SliceR (g:zR) (bs:zR) (el:LN) (sz:Nat) (es:LR) (v:LQ) (b o l c rt:Nat) (cs vs:LA) (own:Bool):Prop where
 v:v=.slice (some ⟨b,o,none⟩) l c
 b:bs b=some ⟨.cells cs el,rt,own⟩
 t:take? (cs.drop o) (l*sz)=some vs
 r:DRs g (es.flatMap D.cells) vs
 n:es.length=l
 s:∀e∈es,e.cells.length=sz
 c:l<=c
 x:l<zX
 o:vs.all qU=true
theorem qE8.sl{bs:zR}(hm:zR.le g bs){el:LN}{sz:Nat}{es:LR}{v:LQ}(h:qE8 g bs (.sl el sz es) v):∃b o l c rt cs vs own,SliceR g bs el sz es v b o l c rt cs vs own:=by
 rcases h with h|⟨n0,B,l,cs,vs,vC,rt,sz,es',h⟩|⟨n0,B,es,e,rt,ks,ds,h⟩
 ·cases h with
  |sl w p hv r hs u j q=>exact⟨_,_,_,_,_,_,_,_,rfl,hm _ _ w,p,hv,r,hs,u,j,q⟩
 ·have hd:=h.d;cases hd;exact⟨B,0,l,zX,rt,cs,vs,true,h.v,h.b,by simpa using h.t,h.r,h.n,h.s,gx h.x,h.x,h.o⟩
 have hd:=h.d;cases hd
def D.qz:D->Bool
 |.sl _ _ _=>true
 |.mp _ _=>true
 |_=>false
theorem qE8.dr{d:D}(h:qE8 g bs d v)(c:d.qz=false):DR g d v:=by
 rcases h with h|⟨n0,B,l,cs,vs,vC,rt,sz,es',h⟩|⟨n0,B,es,e,rt,ks,ds,h⟩
 ·exact h
 ·rw[h.d]at c;cases c
 rw[h.d]at c;cases c
theorem qE8.keys(hm:zR.le g bs){ds:LR}(h:qE8 g bs (.mp ks ds) v):∃r es c rt own,v=.map (some r)/\bs r=some ⟨.map es c,rt,own⟩/\es.map (·.key)=ks/\DRs g ds (es.map (·.val)):=by
 rcases h with h|⟨n0,B,l,cs,vs,vC,rt,sz,es',h⟩|⟨n0,B,es,c,rt,e,q,h⟩
 ·cases h with
  |mp p j hv=>exact⟨_,_,_,_,_,rfl,hm _ _ p,j,hv⟩
 ·have hd:=h.d;cases hd
 have hd:=h.d;cases hd;exact⟨B,es,c,rt,true,h.v,h.b,h.k,h.r⟩
end
def cJ(ve:LH)(n:Nat)(v:LQ):LH:=λi=>if i=n then v else ve i
theorem uY{n:Nat}(h:i<n):cJ ve n v i=ve i:=bf (by omega)
theorem jR{n:Nat}:cJ ve n v n=v:=bo rfl
theorem qKQ{ρ:LR}{d:D}(h:i < ρ.length):getD (ρ++[d]) i=getD ρ i:=by simp[getD,bz h]
theorem uA{ρ:LR}{d:D}:getD (ρ++[d]) ρ.length=d:=by simp[getD]
variable{S':St}{args:LS}{cs:LA}{k:VK}{o:Bool}{s:VSt}{y:SV}{ρ':LR}
section
variable{E:Env}{n0:Lim}{H0:AH}{g0:zR}{S:St}{ρ:LR}{ve:LH}{lb:LI}{g:zR}{fr:Fr}{H:AH}
theorem j5.congr{ρ ρ':Nat->D}{ve:LH}{lb:LI}{n:Nat}(j:∀i,i<n->ve' i=ve i)(e:∀b,b<m->lb' b=lb b)(h3:∀i,i<n->ρ' i=ρ i){x:Blk}(c:x.bd n m)(h:j5 ρ ve lb cs x):j5 ρ' ve' lb' cs x:=by
 cases x with
 |cells xs=>simp only[j5]at h ⊢;rw[h,SV.di j e c]
 |whole x p=>simp only[j5]at h ⊢;rw[SV.val_congr j e c,SV.nf h3 c];exact h
 |loop _ _=>exact h
 |b5 _ xs=>simp only[j5]at h ⊢;rw[h,SV.di j e c]
theorem Blk.h9{n m c m':Nat}(j:n<=c)(e:m<=m'){x:Blk}(h:x.bd n m):x.bd c m':=by
 cases x with
 |cells xs=>exact SV.ku j e h
 |whole x c=>exact SV.h9 j e h
 |loop _ _=>trivial
 |b5 _ xs=>exact SV.ku j e h
theorem yC:(S.new k o).n=S.n+1:=by simp[St.new,St.n]
theorem qCv(h:(S.new k o).db[i]? = some s):(i<S.n/\S.db[i]? = some s)∨(i=S.n/\s=⟨k,o⟩):=by
 simp only[St.new]at h;rcases ju i S.db.length with c|c|c
 ·rw[bz c]at h;exact .inl ⟨c,h⟩
 ·subst c;simp at h;exact .inr ⟨rfl,h.symm⟩
 grind
theorem gZ(j:k≠.fresh)(h:(S.new k o).ca i=true):S.ca i=true/\i<S.n:=by
 obtain⟨q,p⟩:=zT.1 h;rcases qCv p with⟨e,c⟩|⟨e,c⟩
 ·exact⟨zT.2 ⟨_,c⟩,e⟩
 cases c;exact absurd rfl j
theorem qCQ(h:S.ca i=true):i<S.n:=by obtain⟨o,h⟩:=zT.1 h;exact(gI h).1
theorem SM.new(h:SM n0 S ρ ve lb g H){k:VK}{o:Bool}{d:D}{v:LQ}(r:k≠.fresh)(hv:qBj g H.blocks.get n0 ⟨k,o⟩ d v):SM n0 (S.new k o) (ρ++[d]) (cJ ve S.n v) lb g H:=by
 have I:ρ.length=S.n:=h.len;have q:∀i,i<S.n->cJ ve S.n v i=ve i:=λi p=>uY p;have A:∀i,i<S.n->getD (ρ++[d]) i=getD ρ i:=λi p=>qKQ (by omega);refine {len:=by simp[St.new,h.len],wf:=h.wf,mem:=h.mem,base:=h.base,fix:=h.fix,vars:=?_,ae:=?_,ei:=h.ei,cn:=?_,km:=h.km,h7:=?_,hU:=?_}
 ·intro i s G;rcases qCv G with⟨c,e⟩|⟨c,e⟩
  ·rw[q i c,A i c];exact h.vars i s e
  subst c e;rw[jR,←I,uA];exact hv
 ·intro b x u;obtain⟨w,F⟩:=h.ae b x u;exact⟨Blk.h9 (by rw[yC];omega) (vP _) w,F.congr rfl rfl λ_ C=>C.congr q (λ_ _=>rfl) A w⟩
 ·intro i B K z;obtain⟨c,e⟩:=gZ r K;rw[q i e]at z;exact h.cn i B c z
 ·intro i j B p J c e;obtain⟨a1,a2⟩:=gZ r p;obtain⟨M,L⟩:=gZ r J;rw[q _ a2]at c;rw[q _ L]at e;exact h.h7 i j B a1 M c e
 intro b i u p;obtain⟨a1,a2⟩:=gZ r p;rw[q _ a2];exact h.hU b i u a1
structure ExtS (S:St) (ρ:LR) (ve:LH) (g:zR) (S':St) (ρ':LR) (ve':LH) (g':zR):Prop where
 n:S.n<=S'.n
 af:S'.af=S.af
 ae:S'.ae=S.ae
 sz:S'.sz=S.sz
 kh:S'.kh=S.kh
 ve:∀i,i<S.n->ve' i=ve i
 ρ:∀i,i<S.n->getD ρ' i=getD ρ i
 g:zR.le g g'
theorem ExtS.refl:ExtS S ρ ve g S ρ ve g:=⟨vP _,rfl,rfl,rfl,rfl,λ_ _=>rfl,λ_ _=>rfl,zR.le_refl _⟩
theorem ExtS.trans{r q:St}{h ρ2:LR}{c ve2:LH}{p j:zR}(a:ExtS S ρ ve g r h c p)(b:ExtS r h c p q ρ2 ve2 j):ExtS S ρ ve g q ρ2 ve2 j:=
 ⟨lT a.n b.n,b.af.trans a.af,b.ae.trans a.ae,b.sz.trans a.sz,b.kh.trans a.kh,λi e=>(b.ve i (bp e a.n)).trans (a.ve i e),λi e=>(b.ρ i (bp e a.n)).trans (a.ρ i e),zR.le_trans a.g b.g⟩
theorem ExtS.val(e:ExtS S ρ ve g S' ρ' ve' g')(h:x.bd S.n m):x.val ve' lb=x.val ve lb:=
 SV.val_congr e.ve (λ_ _=>rfl) h
theorem ExtS.d(e:ExtS S ρ ve g S' ρ' ve' g')(h:x.bd S.n m):x.d (getD ρ')=x.d (getD ρ):=
 SV.nf e.ρ h
theorem ExtS.bd(e:ExtS S ρ ve g S' ρ' ve' g')(h:x.bd S.n S.ae.length):x.bd S'.n S'.ae.length:=by rw[e.ae];exact SV.h9 e.n (vP _) h
theorem ExtS.kx(e:ExtS S ρ ve g S' ρ' ve' g'){x:LS}(h:SV.kx S.n S.ae.length x):SV.kx S'.n S'.ae.length x:=by rw[e.ae];exact SV.ku e.n (vP _) h
theorem SR.ext(h:SR E n0 H0 g0 S ρ ve lb g fr H)(m:SM n0 S' ρ' ve' lb g' H)(e:ExtS S ρ ve g S' ρ' ve' g')(q:∀b,n0.K b->g' b=g b):SR E n0 H0 g0 S' ρ' ve' lb g' fr H:=
  { m with
    sz:=by rw[e.sz];exact h.sz
    rd:=h.rd
    af:=λt x c=>by rw[e.af]at c;obtain⟨p,r⟩:=h.af t x c;exact⟨e.bd p,by rw[e.val p];exact r⟩
    kh:=by rw[e.kh,e.ae];exact h.kh.congr e.n (vP _) e.ve (λ_ _=>rfl)
    hN:=h.hN
    low:=h.low
    tab:=h.tab.mono e.g
    gk:=λb j=>(q b j).trans (h.gk b j)}
theorem yE(h:ρ.length=S.n){d:D}:ExtS S ρ ve g (S.new k o) (ρ++[d]) (cJ ve S.n v) g:=
 ⟨by rw[yC];omega,rfl,rfl,rfl,rfl,λi c=>uY c,λi c=>qKQ (by omega),zR.le_refl _⟩
theorem SR.new(h:SR E n0 H0 g0 S ρ ve lb g fr H){k:VK}{o:Bool}{d:D}{v:LQ}(c:k≠.fresh)(hv:qBj g H.blocks.get n0 ⟨k,o⟩ d v):
  SR E n0 H0 g0 (S.new k o) (ρ++[d]) (cJ ve S.n v) lb g fr H:=
 h.ext (h.toSM.new c hv) (yE h.len) (λ_ _=>rfl)
theorem qEL{j:Nat}(h:(S.freeze i).db[j]? = some s):∃s0,S.db[j]? = some s0/\s=if i=j then uC s0 else s0:=by simp only[St.freeze,List.getElem?_modify]at h;grind
theorem qHA:(S.freeze i).n=S.n:=by simp[St.freeze,St.n]
theorem qCR:(uC s).k≠.fresh:=by
 unfold uC;split
 ·simp
 rename_i h;intro e;obtain⟨k,o⟩:=s;simp only at e;subst e;exact h _ rfl
theorem nP{j:Nat}(h:(S.freeze i).ca j=true):S.ca j=true/\i≠j:=by
 obtain⟨o,h⟩:=zT.1 h;obtain⟨s0,p,e⟩:=qEL h;split at e
 ·exact absurd (by rw[←e]) (qCR (s:=s0))
 rename_i c;subst e;exact⟨zT.2 ⟨_,p⟩,c⟩
theorem qMl(h:SR E n0 H0 g0 S ρ ve lb g fr H)(i:Nat):∃g',ExtS S ρ ve g (S.freeze i) ρ ve g'/\SR E n0 H0 g0 (S.freeze i) ρ ve lb g' fr H:=by
 have key:∀g',zR.le g g'->zR.le g' H.blocks.get->(∀b,n0.K b->g' b=g b)->(∀o,S.db[i]? = some ⟨.fresh,o⟩->DR g' (getD ρ i) (ve i))->(∀B,g' B≠g B->S.ca i=true/\jW (ve i)=some B)->
   ExtS S ρ ve g (S.freeze i) ρ ve g'/\SR E n0 H0 g0 (S.freeze i) ρ ve lb g' fr H:=by
  intro g' P U V W A
  have e:ExtS S ρ ve g (S.freeze i) ρ ve g':=⟨by rw[qHA];exact vP _,rfl,rfl,rfl,rfl,λ_ _=>rfl,λ_ _=>rfl,P⟩
  refine⟨e,h.ext ?_ e V⟩
  refine {len:=by simp[St.freeze,h.len],wf:=h.wf,mem:=U,base:=h.base,fix:=h.fix,vars:=?_,ae:=?_,ei:=?_,cn:=?_,km:=h.km,h7:=?_,hU:=?_}
  ·intro j s R
   obtain⟨s0,u,r⟩:=qEL R
   have hv:=(h.vars j s0 u).mono P (bs':=H.blocks.get) (λ_ _ _=>rfl)
   split at r
   ·rename_i L
    subst L
    obtain⟨k,o⟩:=s0
    cases k<;>(subst r;first|exact hv|skip)
    exact⟨hv.1,W o u⟩
   subst r;exact hv
  ·intro b x c
   obtain⟨I,G⟩:=h.ae b x c
   exact⟨by rw[qHA];exact I,G⟩
  ·intro b c
   have J:=h.ei b c
   cases N:g' (lb b)with
   |none=>rfl
   |some k=>
    obtain⟨u,r⟩:=A (lb b) (by rw[N,J];simp)
    exact absurd r (h.hU b i c u)
  ·intro j B K z
   obtain⟨u,r⟩:=nP K
   have J:=h.cn j B u z
   cases N:g' B with
   |none=>rfl
   |some k=>
    obtain⟨I,G⟩:=A B (by rw[N,J];simp)
    exact absurd (h.h7 i j B I u G z) r
  ·intro a b B X c u r
   exact h.h7 a b B (nP X).1 (nP c).1 u r
  intro b j c K
  exact h.hU b j c (nP K).1
 cases F:S.ca i with
 |false=>exact⟨g,key g (zR.le_refl _) h.mem (λ_ _=>rfl) (λo z=>by rw[zT.2 ⟨o,z⟩]at F;cases F) (λB A=>absurd rfl A)⟩
 | true=>
  obtain⟨o,z⟩:=zT.1 F
  have add:∀B:Nat,jW (ve i)=some B->(∃rt,n0.own B rt)->(∀g',zR.le g g'->g' B=H.blocks.get B->DR g' (getD ρ i) (ve i))->
    ∃g',ExtS S ρ ve g (S.freeze i) ρ ve g'/\SR E n0 H0 g0 (S.freeze i) ρ ve lb g' fr H:=by
   intro B C w M
   have p:zR.le g (λb=>if b=B then H.blocks.get b else g b):=by
    intro b k c
    simp only
    split
    ·exact h.mem b k c
    exact c
   refine⟨λb=>if b=B then H.blocks.get b else g b,key _ p ?_ ?_ ?_ ?_⟩
   ·intro b k c
    simp only at c
    split at c
    ·exact c
    exact h.mem b k c
   ·intro b c
    rw[bf]
    intro e
    subst e
    obtain⟨rt,w⟩:=w
    exact w.2 c
   ·intro _ _
    exact M _ p (by simp only[dn])
   intro b c
   split at c
   ·rename_i e;rw[e];exact⟨F,C⟩
   exact absurd rfl c
  rcases(h.vars i _ z).2 with q|⟨B,l,cs,vs,el,rt,sz,es,q⟩|⟨B,es,O,rt,ks,ds,q⟩
  ·exact⟨g,key g (zR.le_refl _) h.mem (λ_ _=>rfl) (λ_ _=>q.dr) (λB A=>absurd rfl A)⟩
  ·refine add B (by rw[q.v];simp[jW]) ⟨_,q.rt⟩ λg' p e=>?_;rw[q.v,q.d];exact .sl (g:=g') (sz:=sz) (cs:=cs) (by rw[e];exact q.b) (by simpa using q.t) (q.r.mono p) q.n q.s (gx q.x) q.x q.o
  refine add B q.own ⟨_,q.rt⟩ λg' p e=>?_;rw[q.v,q.d];exact .mp (g:=g') (by rw[e];exact q.b) q.k (q.r.mono p)
mutual
theorem mR:∀(x:SV) {S:St} {g:zR},SR E n0 H0 g0 S ρ ve lb g fr H->∃g',ExtS S ρ ve g (rL S x) ρ ve g'/\SR E n0 H0 g0 (rL S x) ρ ve lb g' fr H
 |.v i,_,_,h=>qMl h i
 |.c _,_,g,h=>⟨g,.refl,h⟩
 |.loc _ _,_,g,h=>⟨g,.refl,h⟩
 |.ptr _ _ _ _,_,g,h=>⟨g,.refl,h⟩
 |.pp _ _,_,g,h=>⟨g,.refl,h⟩
 |.agg cs,_,_,h=>xT cs h
 |.gd cs,_,_,h=>xT cs h
 |.fn _ a b,_,_,h=>by obtain⟨r,q,e⟩:=xT a h;obtain⟨j,p,c⟩:=xT b e;exact⟨j,q.trans p,c⟩
 |.ll _ x,_,_,h=>mR x h
 |.lk _,_,g,h=>⟨g,.refl,h⟩
theorem xT:∀(xs:LS) {S:St} {g:zR},SR E n0 H0 g0 S ρ ve lb g fr H->∃g',ExtS S ρ ve g (jC S xs) ρ ve g'/\SR E n0 H0 g0 (jC S xs) ρ ve lb g' fr H
 | [],_,g,h=>⟨g,.refl,h⟩
 |x::xs,_,_,h=>by obtain⟨r,q,e⟩:=mR x h;obtain⟨j,p,c⟩:=xT xs e;exact⟨j,q.trans p,c⟩
end
theorem mN(h:SR E n0 H0 g0 S ρ ve lb g fr H){b:Bool}(r:S.lh i=true)(hd:getD ρ i=.leaf (.bool b)):SR E n0 H0 g0 (S.known i b) ρ ve lb g fr H:=by
 have hv:ve i=.bool b:=by have:=qFE h.toSM r;rw[hd]at this;exact this.de.1
 refine {h with af:=?_};intro t x q;simp only[St.known,T.get_map,aa]at q;obtain⟨y,u,rfl⟩:=q;obtain⟨p,c⟩:=h.af t y u;cases y with
 |v j=>
  simp only[SV.known,zI];split
  ·rename_i e;subst e;exact⟨trivial,by rw[c];simp only[SV.val,hv]⟩
  exact⟨p,c⟩
 |_=>exact⟨p,c⟩
theorem qAf(h:SR E n0 H0 g0 S ρ ve lb g fr H){dst:Option Tmp}(r:y.bd S.n S.ae.length)(j:S.put dst y=some S'):∃p,yI fr dst (y.val ve lb)=some p/\SR E n0 H0 g0 S' ρ ve lb g p H:=by
 cases dst with
 |none=>cases j;exact⟨fr,rfl,h⟩
 |some d=>
  simp only[St.put,jD]at j;split at j;case isFalse=>cases j
  rename_i q;cases j;refine⟨⟨fr.sz,fr.rd,fr.t.put d (some (y.val ve lb))⟩,?_,?_⟩
  ·simp only[yI,jD,h.sz];rw[bo q]
  refine {h with af:=?_};intro t x c;simp only at c ⊢;rw[T.ch]at c ⊢;by_cases e:t=d
  ·rw[bo e]at c ⊢;cases c;exact⟨r,rfl⟩
  rw[bf e]at c ⊢;exact h.af t x c
variable{HS:LO->LR->La}{Q:Res1->Prop}
theorem vL{o:TOp}{one:Bool}{κ:K1}(h:wp E HS Q (xD o args k one S κ) ρ):∃d,(∀x∈args,yB S x=true)/\o.eval E (SV.ds (getD ρ) args)=some d/\wp E HS Q (κ (.v S.n) (S.new k one)) (ρ++[d]):=by
 unfold xD at h;cases hr:args.all (yB S)with
 |false=>rw[hr]at h;cases h
 |true=>
  rw[hr]at h;simp only[ai,wp]at h;split at h
  ·rename_i d hd;rw[al]at hr;exact⟨d,hr,hd,h⟩
  cases h
end
def nF(ag:Bool)(size off:Nat)(vs:LA):LG:=
 bif ag then(take? (vs.drop off) size).map λl=>.agg ⟨l⟩else vs[off]?
theorem qIi{α:Type}{a b:Bool}{x:α}{r:α}(h:(bif a&&b then some x else none)=some r):a=true/\b=true/\x=r:=by grind
variable{vs:LA}
theorem bJ{p:LQ->Bool}(h:vs.all p=true)(o n:Nat):((vs.drop o).take n).all p=true:=by grind
variable{ag:Bool}{size:Nat}
section
variable{g:zR}
theorem tK{ds:LR}{d:D}(h:DRs g ds vs)(r:vs.all qU=true)(c:nI ag size off ds=some d):∃v,nF ag size off vs=some v/\DR g d v/\(ag=false->d.one=true)/\(ag=true->∃cs,d=.agg cs/\cs.length=size):=by
 cases ag with
 |true=>
  simp only[nI,ai,jD]at c;split at c;case isFalse=>cases c
  rename_i u;cases c;have w:=h.length;refine⟨.agg ⟨(vs.drop off).take size⟩,?_,.agg ((h.drop off).take size) (bJ r _ _),(λe=>by cases e),λ_=>⟨_,rfl,?_⟩⟩
  ·simp only[nF,ai];rw[kH (by simp;omega)];rfl
  simp;omega
 | false=>
  simp only[nI,bc]at c;split at c
  ·rename_i d' hd;cases j:d'.one with
   |false=>rw[j]at c;cases c
   |true=>rw[j]at c;cases c;obtain⟨v,q,p⟩:=h.get _ _ hd;exact⟨v,q,p,λ_=>j,λe=>by cases e⟩
  cases c
theorem sI{d d':D}(h:cI ag size d=some d'):d'=d/\(ag=true->∃cs,d=.agg cs/\cs.length=size)/\(ag=false->d.one=true/\size=1):=by
 cases ag with
 |true=>
  simp only[cI,ai]at h;split at h
  ·rename_i cs;simp only[zI]at h;grind
  cases h
 |false=>simp only[cI,bc]at h;obtain⟨e,c,h3⟩:=qIi h;simp_all
theorem cells_one{d:D}(h:DR g d v)(c:d.one=true):v.cells.toList=[v]:=by have:=h.one;rw[c]at this;cases v<;>first|rfl|(simp[qU]at this)
theorem yK{d:D}{cs:LR}(h:DR g d v)(hd:d=.agg cs):∃vs,v=.agg ⟨vs⟩/\DRs g cs vs/\vs.all qU=true:=by
 subst hd;cases h with
 |agg h o=>exact⟨_,rfl,h,o⟩
def dQ(v:LQ):Prop:=∀c,v≠.tuple c
theorem qAk{d:D}(h:DR g d v)(j:d.one=true):dQ v:=by
 intro c e;subst e;cases h with
 |gd h=>cases j
 |leaf h=>simp[rU]at h
theorem cD{d:D}{cs:LR}(h:DR g d v)(hd:d=.agg cs):dQ v:=by obtain⟨vs,rfl,_⟩:=yK h hd;intro c e;cases e
end
section
variable{E:Env}{n0:Lim}{H0:AH}{g0:zR}{S:St}{ρ:LR}{ve:LH}{lb:LI}{g:zR}{fr:Fr}{H:AH}{HS:LO->LR->La}{Q:Res1->Prop}
def bK(E:Env)(HS:LO->LR->La)(Q:Res1->Prop)(n0:Lim)(H0:AH)(g0:zR)(S:St)(ρ:LR)(ve:LH)(lb:LI)(g:zR)(fr:Fr)(H:AH){α:Type}(κ:α->St->Tree)(P:α->St->LR->(LH)->zR->Prop):Prop:=
 ∃y S' ρ' ve' g',ExtS S ρ ve g S' ρ' ve' g'/\SR E n0 H0 g0 S' ρ' ve' lb g' fr H/\wp E HS Q (κ y S') ρ'/\P y S' ρ' ve' g'
theorem qCi(h:SM n0 S ρ ve lb g H)(c:yB S x=true){cs:LR}(hd:x.d (getD ρ)=.agg cs):DR g (x.d (getD ρ)) (x.val ve lb):=
 (zQ h c).dr (by rw[hd];rfl)
theorem qRy(c:x.bd S.n m)(h:eJ S x=true):eJ (S.new k o) x=true:=by
 cases x with
 |v i=>have e:i<S.db.length:=c;simp only[eJ,St.ov,St.new]at h ⊢;grind
 |_=>exact h
theorem qOV:(S.new k true).ov S.n=true:=by simp[St.ov,St.new,St.n]
theorem qSc{cs:LR}(U:vs.all qU=true):∀(n k:Nat) (acc:LS) (S:St) (ρ:LR) (ve:LH) (g:zR) (κ:LS->St->Tree),getD ρ i=.agg cs->ve i=.agg ⟨vs⟩->i<S.n->DRs g cs vs->k+n=cs.length->SV.kx S.n S.ae.length acc->SV.a8 ve lb acc=vs.take k->acc.all (eJ S)=true->SR E n0 H0 g0 S ρ ve lb g fr H->wp E HS Q (qKT i n k acc S κ) ρ->bK E HS Q n0 H0 g0 S ρ ve lb g fr H κ λl S' _ ve' _=>SV.kx S'.n S'.ae.length l/\SV.a8 ve' lb l=vs/\l.all (eJ S')=true:=by
 intro n;induction n with
 |zero=>intro k acc S ρ ve g κ hd hv F w C r j c h A;refine⟨acc,S,ρ,ve,g,.refl,h,A,r,?_,c⟩;have W:=w.length;have B:k=cs.length:=C;rw[j,B,←W];exact List.take_length
 | succ n ih=>
  intro k acc S ρ ve g κ hd hv F w C r j c h A;have z:wp E HS Q (xD (.mq false 1 k) [.v i] .pure true S λy S=>qKT i n (k+1) (acc++[y]) S κ) ρ:=A;obtain⟨d,_,J,X⟩:=vL z;simp only[SV.ds,SV.d,hd,qC7,D.cells]at J;obtain⟨v,I,R,P,_⟩:=tK w U J;have h3:=h.new (k:=.pure) (o:=true) (by simp) (d:=d) (v:=v) ⟨λ_=>P rfl,R⟩;have e:ExtS S ρ ve g (S.new .pure true) (ρ++[d]) (cJ ve S.n v) g:=yE h.len;have V:i<(S.new .pure true).n:=by rw[yC];omega
  have G:SV.kx (S.new .pure true).n (S.new .pure true).ae.length (acc++[SV.v S.n]):=by
   rw[SV.hE]at r ⊢;intro x p;rcases bh.1 p with p|p
   ·exact SV.h9 (by rw[yC];omega) (vP _) (r x p)
   simp only[aw]at p;subst p;show S.n<(S.new .pure true).n;rw[yC];omega
  have u:SV.a8 (cJ ve S.n v) lb (acc++[SV.v S.n])=vs.take (k+1):=by rw[SV.cb,ga,←SV.cb,SV.di e.ve (λ_ _=>rfl) r,j];simp only[nF,bc]at I;obtain⟨L,K⟩:=gI I;rw[List.take_succ_eq_append_getElem L,K];simp[SV.val,jR]
  have q:(acc++[SV.v S.n]).all (eJ (S.new .pure true))=true:=by rw[fh,aE];refine⟨?_,by simp[eJ,qOV]⟩;rw[al]at c ⊢;rw[SV.hE]at r;intro x p;exact qRy (r x p) (c x p)
  obtain⟨y,S',ρ',ve',g',e',O,N,M⟩:=ih (k+1) (acc++[SV.v S.n]) (S.new .pure true) (ρ++[d]) (cJ ve S.n v) g κ (by rw[e.ρ i F];exact hd) (by rw[e.ve i F];exact hv) V w (by rw[←C];exact Nat.add_right_comm k 1 n) G u q h3 X;exact⟨y,S',ρ',ve',g',e.trans e',O,N,M⟩
theorem qAL{o:TOp}{one:Bool}{κ:K1}(h:SR E n0 H0 g0 S ρ ve lb g fr H)(c:wp E HS Q (qIh o args k one S κ) ρ):∃g' d,ExtS S ρ ve g (jC S args) ρ ve g'/\SR E n0 H0 g0 (jC S args) ρ ve lb g' fr H/\(∀x∈args,wT (jC S args) x=true)/\o.eval E (SV.ds (getD ρ) args)=some d/\wp E HS Q (κ (.v (jC S args).n) ((jC S args).new k one)) (ρ++[d]):=by
 obtain⟨g',e,j⟩:=xT args h;unfold qIh at c;cases hr:args.all (wT (jC S args))with
 |false=>simp only[hr]at c;cases c
 |true=>
  simp only[hr,ai,wp]at c;split at c
  ·rename_i d hd;rw[al]at hr;exact⟨g',d,e,j,hr,hd,c⟩
  cases c
theorem qCh{d:D}(h:qE8 g bs d v)(p:d.one=true):v.cells.toList=[v]/\dQ v:=by
 rcases h with h|⟨_,B,l,cs,vs,el,rt,sz,es,q⟩|⟨_,B,es,j,rt,ks,ds,q⟩
 ·exact⟨cells_one h p,qAk h p⟩
 ·rw[q.v];exact⟨rfl,λc e=>by cases e⟩
 rw[q.v];exact⟨rfl,λc e=>by cases e⟩
def qOu:SV->Bool
 |.loc _ _=>true
 |.ptr _ _ _ _=>true
 |.pp _ _=>true
 |.fn _ _ _=>true
 |.ll _ _=>true
 |_=>false
theorem qLx(h:qOu x=true):(x.val ve lb).cells.toList=[x.val ve lb]/\dQ (x.val ve lb):=by
 cases x<;>first|(cases h;done)|skip
 ·exact⟨rfl,λc e=>by cases e⟩
 ·simp only[SV.val,qCk];split<;>exact⟨rfl,λc e=>by cases e⟩
 ·simp only[SV.val,qRh];split<;>exact⟨rfl,λc e=>by cases e⟩
 ·exact⟨rfl,λc e=>by cases e⟩
 exact⟨rfl,λc e=>by cases e⟩
theorem qH1{l:LS}(h:sH ag size v=some l):l=v.cells.toList.map .c/\v.cells.toList.length=size/\dQ v/\zP v=true:=by
 simp only[sH]at h;cases j:zP v with
 |false=>simp[j]at h
 |true=>simp only[j,ep]at h;obtain⟨q,h3,p⟩:=qIi h;refine⟨p.symm,vW q,?_,rfl⟩;intro c e;subst e;cases h3
theorem qFf(l:LA):SV.a8 ve lb (l.map .c)=l:=by
 rw[SV.cb,List.map_map];have:(SV.val ve lb∘SV.c)=id:=by funext x;rfl
 rw[this,List.map_id]
theorem qLn{n:Nat}(l:LA):SV.kx n m (l.map .c):=by rw[SV.hE];intro x h;obtain⟨v,_,rfl⟩:=dy.1 h;trivial
theorem nY(h:SR E n0 H0 g0 S ρ ve lb g fr H){κ:LS->St->Tree}(A:x.bd S.n S.ae.length)(j:wp E HS Q (nC x ag size S κ) ρ):bK E HS Q n0 H0 g0 S ρ ve lb g fr H κ λl S' _ ve' _=>SV.kx S'.n S'.ae.length l/\SV.a8 ve' lb l=(x.val ve lb).cells.toList/\l.length=size/\dQ (x.val ve lb):=by
 have p:qOu x=true->wp E HS Q (bif !ag&&Nat.beq size 1 then κ [x] S else .fail) ρ->
   bK E HS Q n0 H0 g0 S ρ ve lb g fr H κ λl S' _ ve' _=>SV.kx S'.n S'.ae.length l/\SV.a8 ve' lb l=(x.val ve lb).cells.toList/\l.length=size/\dQ (x.val ve lb):=by
  intro R j
  cases q:(!ag&&Nat.beq size 1)with
  |false=>rw[q]at j;cases j
  |true=>
   rw[q]at j
   simp only[aE]at q
   obtain⟨G,F⟩:=qLx (ve:=ve) (lb:=lb) R
   exact⟨[x],S,ρ,ve,g,.refl,h,j,⟨A,trivial⟩,by rw[G];rfl,(vW q.2).symm,F⟩
 cases x with
 |loc b o=>exact p rfl j
 |ptr a b c d=>exact p rfl j
 |pp i o=>exact p rfl j
 |fn f a b=>exact p rfl j
 |ll t x=>exact p rfl j
 |gd cs=>cases j
 |lk b=>cases j
 |agg cs=>
  simp only[nC]at j;cases q:(ag&&Nat.beq cs.length size&&cs.all (eJ S))with
  |false=>rw[q]at j;cases j
  |true=>rw[q]at j;simp only[aE]at q;exact⟨cs,S,ρ,ve,g,.refl,h,j,A,rfl,vW q.1.2,λc e=>by cases e⟩
 |c v=>
  simp only[nC]at j;split at j
  ·rename_i l C;obtain⟨rfl,u,h3,_⟩:=qH1 C;exact⟨_,S,ρ,ve,g,.refl,h,j,qLn _,qFf _,by rw[bk];exact u,h3⟩
  cases j
 | v i=>
  have W:i<S.n:=A;simp only[nC]at j;cases ag with
  | true=>
   simp only[ai]at j;obtain⟨d,K,u,h3⟩:=vL j;have I:=zQ h.toSM (K _ (aw.2 rfl));simp only[SV.ds,SV.d,sA]at u;obtain⟨rfl,J,_⟩:=sI u;obtain⟨cs,hd,C⟩:=J rfl;have r:DR g (getD ρ i) (ve i):=I.dr (by simp only[SV.d];rw[hd];rfl);obtain⟨vs,hv,w,z⟩:=yK r hd;have h5:=h.new (k:=.pure) (o:=false) (by simp) (d:=getD ρ i) (v:=ve i) ⟨(λe=>by cases e),r⟩;have e:ExtS S ρ ve g (S.new .pure false) (ρ++[getD ρ i]) (cJ ve S.n (ve i)) g:=yE h.len;have U:getD (ρ++[getD ρ i]) S.n=getD ρ i:=by have:S.n=ρ.length:=h.len.symm;rw[this,uA]
   obtain⟨y,S',ρ',ve',g',e',P,O,N,M,V⟩:=qSc (i:=S.n) (cs:=cs) (vs:=vs) z size 0 [] (S.new .pure false) (ρ++[getD ρ i]) (cJ ve S.n (ve i)) g κ (by rw[U,hd]) (by rw[jR,hv]) (by rw[yC];exact bw _) w (by rw[C];exact fc _) trivial (by simp[SV.a8]) rfl h5 h3;refine⟨y,S',ρ',ve',g',e.trans e',P,O,N,?_,?_,?_⟩
   ·rw[M];simp only[SV.val,hv];rfl
   ·have:(SV.a8 ve' lb y).length=vs.length:=by rw[M]
    rw[SV.cb,bk,w.length,C]at this;exact this
   simp only[SV.val];exact cD r hd
  | false=>
   simp only[bc,zI]at j;split at j;case isFalse=>cases j
   rename_i hs;cases q:S.ov i&&S.pt i with
   |true=>rw[q]at j;simp only[aE]at q;have I:=zQ h.toSM (x:=.v i) q.2;obtain⟨G,F⟩:=qCh I (qI0 h.toSM q.1);exact⟨[.v i],S,ρ,ve,g,.refl,h,j,⟨A,trivial⟩,by rw[G];rfl,hs.symm,F⟩
   |false=>
    rw[q]at j;simp only[bc]at j;obtain⟨g',d,e,L,K,u,h3⟩:=qAL h j;have B:=j6 L.toSM (K _ (aw.2 rfl));simp only[SV.ds,SV.d,sA]at u;obtain⟨rfl,_,J⟩:=sI u;obtain⟨z,_⟩:=J rfl;simp only[SV.d,SV.val]at B;have h5:=L.new (k:=.pure) (o:=true) (by simp) (d:=getD ρ i) (v:=ve i) ⟨λ_=>z,B⟩;have e5:ExtS (jC S [.v i]) ρ ve g' ((jC S [.v i]).new .pure true) (ρ++[getD ρ i]) (cJ ve (jC S [.v i]).n (ve i)) g':=yE L.len;refine⟨_,_,_,_,_,e.trans e5,h5,h3,⟨?_,trivial⟩,?_,hs.symm,?_⟩
    ·show _<((jC S [.v i]).new .pure true).n;rw[yC];exact bw _
    ·simp only[SV.a8,SV.val,jR];exact(cells_one B z).symm
    exact qAk B z
end
def lC(E:Env)(fr:Fr)(o:Oper)(H:AH)(v:LQ)(H':AH):Prop:=
 H.next<=H'.next/\∃l,pJ E H.next l/\(∀a∈l,a.H'.next<=H'.next)/\∀ih,qJY l ih->jA E ih fr o H=some (v,H')
theorem lC.kl{fr:Fr}{o:Oper}{H H':AH}(c:H.next<=H'.next)(h:jH E fr o H=some (.val v,H')):lC E fr o H v H':=
 ⟨c,[],trivial,λ_ h=>(by cases h),λih _=>by simp only[jA,h]⟩
theorem lC.oj{fr:Fr}{o:Oper}{H H':AH}(c:H.next<=H'.next)(h:jH E fr o H=some (.skip,H')):lC E fr o H (.tuple #[]) H':=
 ⟨c,[],trivial,λ_ h=>(by cases h),λih _=>by simp only[jA,h]⟩
variable{b:Nat}{el:LN}
section
variable{E:Env}{n0:Lim}{H0:AH}{g0:zR}{S:St}{ρ:LR}{ve:LH}{lb:LI}{g:zR}{fr:Fr}{H:AH}{HS:LO->LR->La}{Q:Res1->Prop}
def j7(wm:Bool)(E:Env)(HS:LO->LR->La)(Q:Res1->Prop)(n0:Lim)(H0:AH)(g0:zR)(fr:Fr)(H:AH)(o:Oper)(κ:K1):Prop:=
 ∃y S' ρ' ve' lb' g' H',SR E n0 H0 g0 S' ρ' ve' lb' g' fr H'/\y.bd S'.n S'.ae.length/\wp E HS Q (κ y S') ρ'/\lC E fr o H (y.val ve' lb') H'/\(wm=false->Nat.min H.low H.next<=H'.low)
theorem j7.same{wm:Bool}{o:Oper}{κ:K1}(h:SR E n0 H0 g0 S' ρ' ve' lb g' fr H)(e:y.bd S'.n S'.ae.length)(c:wp E HS Q (κ y S') ρ')(j:jH E fr o H=some (.val (y.val ve' lb),H)):
  j7 wm E HS Q n0 H0 g0 fr H o κ:=
 ⟨y,S',ρ',ve',lb,g',H,h,e,c,.kl (vP _) j,λ_=>dw _ _⟩
theorem zZ(h:SR E n0 H0 g0 S ρ ve lb g fr H){x:LM}(c:nA S x=some y):y.bd S.n S.ae.length/\ev E fr x=some (y.val ve lb):=by
 cases x with
 |tmp t=>exact h.af t y c
 |const v=>
  simp only[nA]at c;cases e:zP v with
  |false=>simp[e]at c
  |true=>simp only[e,ai,oI]at c;subst c;exact⟨trivial,by simp only[ev,e,ai,SV.val]⟩
 |global g=>cases c
 |func f=>simp only[nA,oI]at c;subst c;exact⟨⟨trivial,trivial⟩,rfl⟩
theorem lZ(h:SR E n0 H0 g0 S ρ ve lb g fr H):∀{xs:List LM} {ys:LS},dS S xs=some ys->SV.kx S.n S.ae.length ys/\rS E fr xs=some (SV.a8 ve lb ys)
 | [],ys,c=>by simp only[dS,oI]at c;subst c;exact⟨trivial,rfl⟩
 |x::xs,ys,c=>by
  simp only[dS]at c;split at c
  ·rename_i a l u r;cases c;obtain⟨q,p⟩:=zZ (E:=E) h u;obtain⟨j,e⟩:=lZ h r;exact⟨⟨q,j⟩,by simp only[rS,p,e,aj,SV.a8]⟩
  cases c
theorem pP(h:SM n0 S ρ ve lb g H){B:Nat}(j:S.ca i=true)(c:jW (ve i)=some B):B<H.next/\H.blocks.get B≠none:=by
 obtain⟨o,hs⟩:=zT.1 j;rcases(h.vars i _ hs).2 with q|⟨B',l,cs,vs,el,rt,sz,es,q⟩|⟨B',es,e,rt,ks,ds,q⟩
 ·rw[q.own]at c;cases c
 rotate_left
 ·rw[q.own]at c;cases c;exact⟨(h.wf _ _ q.b).2,by rw[q.b];simp⟩
 rw[q.v]at c;simp only[jW,vP,dn,oI]at c;subst c;exact⟨(h.wf _ _ q.b).2,by rw[q.b];simp⟩
theorem wL(h:SM n0 S ρ ve lb g H)(p:S.live b):lb b<H.next/\¬n0.K (lb b):=by obtain⟨x,j⟩:=p;obtain⟨k,e,c⟩:=(h.ae b x j).2.here;have:=h.wf _ _ e;exact⟨this.2,c.2⟩
theorem qR8(h:SM n0 S ρ ve lb g H){k:ABlk}(c:g b=some k):b<H.next:=(h.wf _ _ (h.mem b k c)).2
theorem SR.heap(h:SR E n0 H0 g0 S ρ ve lb g fr H){H':AH}(c:∀b,b<H.next->H'.blocks.get b=H.blocks.get b)(j:WF H')(w:H.next<=H'.next)(z:Nat.min H0.low n0.n<=H'.low):SR E n0 H0 g0 S ρ ve lb g fr H':=by
 refine {len:=h.len,wf:=j,mem:=?_,base:=h.base.mono w,fix:=h.fix,vars:=?_,ae:=?_,ei:=h.ei,cn:=h.cn,km:=h.km,h7:=h.h7,hU:=h.hU,sz:=h.sz,rd:=h.rd,af:=h.af,kh:=h.kh,hN:=?_,low:=z,gk:=h.gk,tab:=h.tab}
 ·intro b k e;rw[c b (qR8 h.toSM e)];exact h.mem b k e
 ·intro i s hs;refine(h.vars i s hs).mono (zR.le_refl _) λp B A=>c B ?_;obtain⟨k,o⟩:=s;simp only at p;subst p;exact(pP h.toSM (zT.2 ⟨o,hs⟩) A).1
 ·intro b x e;obtain⟨u,r⟩:=h.ae b x e;exact⟨u,r.congr (c _ (wL h.toSM ⟨x,e⟩).1) rfl λ_ q=>q⟩
 intro b e;rw[c b (h.base.2 b e)];exact h.hN b e
theorem WF.new(h:WF H)(o:AObj):WF (H.new o):=by
 intro b k c;rw[AH.get_new]at c;split at c
 ·rename_i e;cases c;subst e;exact⟨vP _,bw _⟩
 exact⟨(h b k c).1,dp (h b k c).2⟩
theorem lQ{o:AObj}:∀b,b<H.next->(H.new o).blocks.get b=H.blocks.get b:=λb h=>by
 rw[AH.get_new,bf (by omega)]
def qDN(lb:LI)(m x:Nat):LI:=λb=>if b=m then x else lb b
theorem qBD(h:S.live b):b<S.ae.length:=by obtain⟨x,c⟩:=h;grind
theorem SR.po(h:SR E n0 H0 g0 S ρ ve lb g fr H){o:AObj}{x:Blk}(I:x.bd S.n S.ae.length)(u:∀bs:zR,bs H.next=some ⟨o,H.next,true⟩->n0.own H.next H.next->nL n0 (getD ρ) ve lb bs H.next x):SR E n0 H0 g0 {S with ae:=S.ae++[some x]} ρ ve (qDN lb S.ae.length H.next) g fr (H.new o):=by
 have A:=h.heap (H':=H.new o) lQ (h.wf.new _) (cx _) h.low;have j:∀b,b<S.ae.length->qDN lb S.ae.length H.next b=lb b:=λb u=>bf (by omega);have p:H.blocks.get H.next=none:=by
  cases G:H.blocks.get H.next with
  |none=>rfl
  |some k=>exact absurd (h.wf _ _ G).2 (Nat.lt_irrefl _)
 have r:∀b,St.live {S with ae:=S.ae++[some x]} b->(b<S.ae.length/\S.live b)∨b=S.ae.length:=by
  intro b ⟨y,e⟩;simp only at e;rcases ju b S.ae.length with q|q|q
  ·rw[bz q]at e;exact .inl ⟨q,y,e⟩
  all_goals grind
 have c:qDN lb S.ae.length H.next S.ae.length=H.next:=bo rfl;refine {len:=h.len,wf:=A.wf,mem:=A.mem,base:=A.base,fix:=⟨by simp only[bx];exact lT h.fix.1 (jx _ _),λk a J=>by rw[j k (bp (gI J).1 h.fix.1)];exact h.fix.2 k a J⟩,vars:=A.vars,ae:=?_,ei:=?_,cn:=h.cn,km:=?_,h7:=h.h7,hU:=?_,sz:=h.sz,rd:=h.rd,af:=?_,kh:=h.kh.congr (vP _) (by simp) (λ_ _=>rfl) j,hN:=A.hN,low:=h.low,gk:=h.gk,tab:=h.tab}
 ·intro b y e;simp only at e;rcases ir b S.ae.length with q|q
  ·rw[bz q]at e;obtain⟨B,F⟩:=A.ae b y e;exact⟨Blk.h9 (vP _) (by simp) B,F.congr (by rw[j b q]) (j b q) λ_ C=>C.congr (λ_ _=>rfl) j (λ_ _=>rfl) B⟩
  rw[bu q]at e;have:b=S.ae.length:=by have:=(gI e).1;simp at this;omega
  subst this;simp at e;subst e;have M:=u (H.new o).blocks.get (by rw[AH.get_new,bo rfl]) h.base.new;exact⟨Blk.h9 (vP _) (by simp) I,M.congr (by rw[c]) c λ_ C=>C.congr (λ_ _=>rfl) j (λ_ _=>rfl) I⟩
 ·intro b u;rcases r b u with⟨z,w⟩|rfl
  ·rw[j b z];exact h.ei b w
  rw[c];cases G:g H.next with
  |none=>rfl
  |some k=>rw[h.mem _ _ G]at p;cases p
 ·intro a b O u he;rcases r a O with⟨z,w⟩|rfl<;>rcases r b u with⟨h3,L⟩|rfl
  ·rw[j a z,j b h3]at he;exact h.km a b w L he
  ·rw[j a z,c]at he;have:=(wL h.toSM w).1;omega
  ·rw[j b h3,c]at he;have:=(wL h.toSM L).1;omega
  rfl
 ·intro b i u K;rcases r b u with⟨z,w⟩|rfl
  ·rw[j b z];exact h.hU b i w K
  rw[c];intro N;have:=(pP h.toSM K N).1;omega
 intro t y e;obtain⟨B,F⟩:=h.af t y e;exact⟨SV.h9 (vP _) (by simp) B,by rw[F,SV.val_congr (λ_ _=>rfl) j B]⟩
theorem SR.alloc(h:SR E n0 H0 g0 S ρ ve lb g fr H){x:Blk}(q:x.bd S.n S.ae.length)(e:j5 (getD ρ) ve lb cs x)(c:x.od=false:=by rfl):
  SR E n0 H0 g0 {S with ae:=S.ae++[some x]} ρ ve (qDN lb S.ae.length H.next) g fr (H.new (.cells cs el)):=by
 refine h.po q λbs p j=>?_
 cases x with
 |cells xs=>exact⟨el,_,cs,p,j,e⟩
 |whole y n=>exact⟨el,_,cs,p,j,e⟩
 |loop _ _=>exact e.elim
 |b5 _ _=>cases c
theorem WF.write(h:WF H){k:ABlk}(p:H.blocks.get b=some k)(o:AObj):WF (H.write b k o):=by
 intro c k' j;rw[AH.ey]at j;split at j
 ·rename_i e;cases j;subst e;exact h c k p
 exact h c k' j
theorem SR.oi(h:SR E n0 H0 g0 S ρ ve lb g fr H){x0 x:Blk}{F o:AObj}{rt:Nat}(z:S.ae[b]? = some (some x0))(L:H.blocks.get (lb b)=some ⟨F,rt,true⟩)(N:x.bd S.n S.ae.length)(O:∀bs:zR,bs (lb b)=some ⟨o,rt,true⟩->n0.own (lb b) rt->nL n0 (getD ρ) ve lb bs (lb b) x):SR E n0 H0 g0 (S.kj b x) ρ ve lb g fr (H.write (lb b) ⟨F,rt,true⟩ o):=by
 have j:S.live b:=⟨x0,z⟩;have K:b<S.ae.length:=qBD j;obtain⟨U,J,I⟩:=(h.ae b x0 z).2.here;rw[L]at J;cases J;have u:∀c,(S.kj b x).live c->S.live c:=by
  intro c ⟨y,r⟩;simp only[St.kj,ia]at r;split at r
  ·rename_i e;subst e;exact j
  ·exact⟨y,r⟩
 have p:∀c,c≠lb b->(H.write (lb b) ⟨F,rt,true⟩ o).blocks.get c=H.blocks.get c:=λc q=>by rw[AH.ey,bf q]
 refine { len:=h.len,wf:=h.wf.write L _,mem:=?_,base:=h.base,fix:=⟨by simp only[St.kj,ef];exact h.fix.1,h.fix.2⟩,vars:=?_,ae:=?_,ei:=λc q=>h.ei c (u c q),cn:=h.cn,km:=λa c P q=>h.km a c (u a P) (u c q),h7:=h.h7,
          hU:=λc i q=>h.hU c i (u c q),sz:=h.sz,rd:=h.rd,af:=?_,kh:=h.kh.congr (vP _) (by simp[St.kj]) (λ_ _=>rfl) (λ_ _=>rfl),hN:=?_,low:=?_,gk:=h.gk,tab:=h.tab}
 ·intro c k q;rw[p c (λe=>by rw[e,h.ei b j]at q;cases q)];exact h.mem c k q
 ·intro i s hs;refine(h.vars i s hs).mono (zR.le_refl _) λw B R=>p B ?_;obtain⟨k,o⟩:=s;simp only at w;subst w;intro e;subst e;exact h.hU b i j (zT.2 ⟨o,hs⟩) R
 ·intro c y r;simp only[St.kj,ia]at r;split at r
  ·rename_i e;subst e;cases r;exact⟨by simpa[St.kj,St.n]using N,O _ (by rw[AH.ey,bo rfl]) I⟩
  ·rename_i G;obtain⟨C,A⟩:=h.ae c y r;exact⟨by simpa[St.kj,St.n]using C,A.congr (p _ (λe=>G (h.km c b ⟨y,r⟩ j e).symm)) rfl λ_ M=>M⟩
 ·intro t y r;obtain⟨C,A⟩:=h.af t y r;exact⟨by simpa[St.kj,St.n]using C,A⟩
 ·intro c q;rw[p c (λe=>(wL h.toSM j).2 (e▸q))];exact h.hN c q
 ·show _<=Nat.min H.low rt;exact dv.2 ⟨h.low,lT (bq _ _) I.1⟩
theorem SR.store(h:SR E n0 H0 g0 S ρ ve lb g fr H){x0 x:Blk}{cs':LA}{rt:Nat}(e:S.ae[b]? = some (some x0))(u:H.blocks.get (lb b)=some ⟨.cells cs el,rt,true⟩)(r:x.bd S.n S.ae.length)(j:j5 (getD ρ) ve lb cs' x)(c:x.od=false:=by rfl):
  SR E n0 H0 g0 (S.kj b x) ρ ve lb g fr (H.write (lb b) ⟨.cells cs el,rt,true⟩ (.cells cs' el)):=by
 refine h.oi e u r λbs q p=>?_
 cases x with
 |cells xs=>exact⟨el,_,cs',q,p,j⟩
 |whole y n=>exact⟨el,_,cs',q,p,j⟩
 |loop _ _=>exact j.elim
 |b5 _ _=>cases c
end
theorem eC:∀{cs vs:LA},cs.length=vs.length->xG cs 0 vs=some vs
 | [],[],_=>rfl
 | [],_::_,h=>by simp at h
 |_::_,[],h=>by simp at h
 |c::cs,v::vs,h=>by simp only[xG];rw[eC (by simpa using h)];rfl
theorem mH{ve:LH}{lb:LI}:∀{cs:LS} {i:Nat} {l r:LS},yP cs i l=some r->xG (SV.a8 ve lb cs) i (SV.a8 ve lb l)=some (SV.a8 ve lb r)
 |_,0,[],_,h=>by simp only[yP,oI]at h;rw[h];simp[SV.a8,xG]
 | [],0,_::_,_,h=>by cases h
 |c::cs,0,v::vs,r,h=>by simp only[yP,aa]at h;obtain⟨j,e,rfl⟩:=h;simp only[SV.a8,xG,mH e,aj]
 | [],_+1,_,_,h=>by simp[yP]at h
 |c::cs,i+1,l,r,h=>by simp only[yP,aa]at h;obtain⟨j,e,rfl⟩:=h;simp only[SV.a8,xG,mH e,aj]
theorem mI{n m:Nat}:∀{cs:LS} {i:Nat} {l r:LS},yP cs i l=some r->SV.kx n m cs->SV.kx n m l->SV.kx n m r
 |_,0,[],_,h,e,_=>by simp only[yP,oI]at h;rw[←h];exact e
 | [],0,_::_,_,h,_,_=>by cases h
 |c::cs,0,v::vs,r,h,e,j=>by simp only[yP,aa]at h;obtain⟨p,h3,rfl⟩:=h;exact⟨j.1,mI h3 e.2 j.2⟩
 | [],_+1,_,_,h,_,_=>by simp[yP]at h
 |c::cs,i+1,l,r,h,e,j=>by simp only[yP,aa]at h;obtain⟨p,h3,rfl⟩:=h;exact⟨e.1,mI h3 e.2 j⟩
variable{t:LN}
section
variable{E:Env}{n0:Lim}{H0:AH}{g0:zR}{S:St}{ρ:LR}{ve:LH}{lb:LI}{g:zR}{fr:Fr}{H:AH}{HS:LO->LR->La}{Q:Res1->Prop}{o:Oper}{κ:K1}{wm:Bool}
theorem qKt(h:SR E n0 H0 g0 S ρ ve lb g fr H){x:LM}(c:o.op=.move x∨o.op=.assign x)(e:wp E HS Q (match nA S x with|some y=>κ y S|none=>.fail) ρ):j7 wm E HS Q n0 H0 g0 fr H o κ:=by
 split at e
 ·rename_i y q;obtain⟨p,j⟩:=zZ (E:=E) h q;refine .same h p e ?_;rcases c with c|c<;>(unfold jH;rw[c];simp only[j,one,aj])
 cases e
theorem qBF{a b:Tree}(h:wp E HS Q (.ite (.v i) a b) ρ):∃t,getD ρ i=.leaf (.bool t)/\wp E HS Q (if t then a else b) ρ:=by simp only[wp,SV.d]at h;grind
theorem uQ(h:SM n0 S ρ ve lb g H)(c:S.lh i=true){t:Bool}(hd:getD ρ i=.leaf (.bool t)):ve i=.bool t:=by have:=qFE h c;rw[hd]at this;exact this.de.1
theorem qRn(h:SR E n0 H0 g0 S ρ ve lb g fr H){c a b:LM}(r:o.op=.pick c a b)(e:wp E HS Q (jM E o S κ) ρ):j7 wm E HS Q n0 H0 g0 fr H o κ:=by
 unfold jM at e;rw[r]at e;simp only at e;have j:∀{S:St} {t:Bool} {x:LM},SR E n0 H0 g0 S ρ ve lb g fr H->ev E fr c=some (.bool t)->(t=true/\x=a∨t=false/\x=b)->wp E HS Q (match nA S x with|some y=>κ y S|none=>.fail) ρ->j7 wm E HS Q n0 H0 g0 fr H o κ:=by
  intro S t x h p A e;split at e
  ·rename_i y z;obtain⟨w,u⟩:=zZ (E:=E) h z;refine .same h w e ?_;unfold jH;rw[r];rcases A with⟨rfl,rfl⟩|⟨rfl,rfl⟩<;>simp only[p,u,one,aj]
  cases e
 split at e
 ·rename_i p;exact j h (zZ (E:=E) h p).2 (.inl ⟨rfl,rfl⟩) e
 ·rename_i p;exact j h (zZ (E:=E) h p).2 (.inr ⟨rfl,rfl⟩) e
 ·rename_i i p;cases q:S.lh i with
  |false=>rw[q]at e;cases e
  |true=>
   rw[q]at e;simp only[ai]at e;obtain⟨t,hd,e⟩:=qBF e;have hv:=(zZ (E:=E) h p).2;simp only[SV.val,uQ h.toSM q hd]at hv;cases t with
   |true=>exact j (mN h q hd) hv (.inl ⟨rfl,rfl⟩) e
   |false=>exact j (mN h q hd) hv (.inr ⟨rfl,rfl⟩) e
 cases e
theorem jQ{b:Bool}{a:Tree}(h:wp E HS Q (bif b then a else .fail) ρ):b=true/\wp E HS Q a ρ:=by
 cases b with
 |true=>exact⟨rfl,h⟩
 |false=>cases h
theorem rG{x:AObj}:Nat.min H.low H.next<=(H.new x).low:=dw _ _
theorem qI8(x:Option Blk):SV.bd (St.n {S with ae:=S.ae++[x]}) (S.ae++[x]).length (.loc S.ae.length 0):=by show S.ae.length<(S.ae++[x]).length;simp
theorem qOI(h:SR E n0 H0 g0 S ρ ve lb g fr H)(e:o.op=.alloc t)(c:wp E HS Q (jM E o S κ) ρ):j7 wm E HS Q n0 H0 g0 fr H o κ:=by
 unfold jM at c;rw[e]at c;simp only at c;split at c
 ·rename_i ds sz p z ag j;obtain⟨_,c⟩:=jQ c;refine⟨_,_,_,_,_,_,_,h.alloc (el:=t) (cs:=z) (x:=.cells (z.map .c)) (qLn _) (qFf z).symm,qI8 _,c,.kl (cx _) ?_,λ_=>rG⟩;unfold jH;rw[e];simp only[j,SV.val,qDN,dn]
 cases c
theorem qWs(h:SR E n0 H0 g0 S ρ ve lb g fr H){x:LM}(I:o.op=.box t x)(j:wp E HS Q (jM E o S κ) ρ):j7 wm E HS Q n0 H0 g0 fr H o κ:=by
 unfold jM at j;rw[I]at j;simp only at j;split at j;case h_2=>cases j
 rename_i y u N Z;obtain⟨U,he⟩:=zZ (E:=E) h N
 have q:∀{S':St} {ρ':LR} {ve':LH} {g':zR} {b:Blk},SR E n0 H0 g0 S' ρ' ve' lb g' fr H->b.od=false->b.bd S'.n S'.ae.length->j5 (getD ρ') ve' lb (y.val ve lb).cells.toList b->dQ (y.val ve lb)->
   wp E HS Q (κ (.loc S'.ae.length 0) {S' with ae:=S'.ae++[some b]}) ρ'->j7 wm E HS Q n0 H0 g0 fr H o κ:=by
  intro S' ρ' ve' g' b F B C z A j
  refine⟨_,_,_,_,_,_,_,F.alloc (el:=t) C z B,qI8 _,j,.kl (cx _) ?_,λ_=>rG⟩
  unfold jH
  rw[I]
  simp only[he]
  split
  ·rename_i c p
   simp only[oI]at p
   exact absurd p (A _)
  ·rename_i v hn p
   simp only[oI]at p
   subst p
   simp only[SV.val,qDN,dn]
  rename_i p;cases p
 have G:wp E HS Q (nC y u.agg u.size S λl S=>κ (.loc S.ae.length 0) {S with ae:=S.ae++[some (.cells l)]}) ρ->j7 wm E HS Q n0 H0 g0 fr H o κ:=by intro j;obtain⟨l,S',ρ',ve',g',e,F,w,M,L,_,K⟩:=nY h U j;exact q F (b:=.cells l) rfl M L.symm K w
 split at j
 ·rename_i i V;obtain⟨d,X,J,h3⟩:=vL j;have O:=zQ h.toSM (X _ (aw.2 rfl));simp only[SV.ds,SV.d,sA]at J;obtain⟨rfl,W,_⟩:=sI J;obtain⟨cs,hd,P⟩:=W rfl;have r:DR g (getD ρ i) (ve i):=O.dr (by simp only[SV.d];rw[hd];rfl);have h5:=h.new (k:=.pure) (o:=false) (by simp) (d:=getD ρ i) (v:=ve i) ⟨(λe=>by cases e),r⟩;have R:getD (ρ++[getD ρ i]) S.n=getD ρ i:=by have:S.n=ρ.length:=h.len.symm;rw[this,uA]
  refine q h5 (b:=.whole (.v S.n) u.size) rfl ?_ ?_ (cD r hd) h3
  ·show S.n<(S.new .pure false).n;rw[yC];exact bw _
  refine⟨?_,cs,?_,P⟩
  ·simp only[SV.val,jR]
  show getD (ρ++[getD ρ i]) S.n=_;rw[R,hd]
 exact G j
theorem qHW(h:SR E n0 H0 g0 S ρ ve lb g fr H){a:SV}{κ:K1}(u:a.bd S.n S.ae.length)(p:wp E HS Q (qGk a S κ) ρ):bK E HS Q n0 H0 g0 S ρ ve lb g fr H κ λy S' _ ve' _=>y.bd S'.n S'.ae.length/\y.val ve' lb=a.val ve lb:=by
 cases a with
 | v i=>
  simp only[qGk]at p;obtain⟨d,w,j,h3⟩:=vL p;have r:=zQ h.toSM (w _ (aw.2 rfl));simp only[SV.ds,SV.d,iD]at j;split at j
  ·rename_i cs off hd;simp only[oI]at j;subst j;rw[hd]at h3;have c:DR g (getD ρ i) (ve i):=r.dr (by simp only[SV.d];rw[hd];rfl);rw[hd]at c;have h5:=h.new (k:=.ptr) (o:=true) (by simp) (d:=.ptr cs off) (v:=ve i) ⟨λ_=>rfl,c,cs,off,rfl⟩;have e:ExtS S ρ ve g (S.new .ptr true) (ρ++[.ptr cs off]) (cJ ve S.n (ve i)) g:=yE h.len;have q:wp E HS Q (κ (SV.pp S.n 0) (S.new VK.ptr true)) (ρ++[.ptr cs off]):=h3;refine⟨_,_,_,_,_,e,h5,q,?_,?_⟩
   ·show S.n<(S.new .ptr true).n;rw[yC];exact bw _
   simp only[SV.val,jR];generalize ve i=z at c;cases c with
   |ptr=>rfl
  cases j
 |_=>exact⟨_,S,ρ,ve,g,.refl,h,p,u,rfl⟩
theorem qMa{rt:Nat}{own:Bool}(h:H.blocks.get b=some ⟨.cells cs el,rt,own⟩)(hv:cs[i]? = some v):H.lj b i 1=some [v]:=by simp only[AH.lj,h];obtain⟨c,rfl⟩:=gI hv;rw[kH (by simp;omega),ew c,ji,List.take_zero]
theorem cF{c:TI}(p:E.types.get t=some c){rt:Nat}{own:Bool}(j:H.blocks.get b=some ⟨.cells cs el,rt,own⟩)(e:nF c.agg c.size i cs=some v):gM E H t (.pointer (some ⟨b,i,none⟩))=some v:=by
 simp only[gM,p];cases h:c.agg with
 |true=>simp only[h,nF,ai]at e ⊢;simp only[AH.lj,j];exact e
 |false=>simp only[h,nF,bc]at e ⊢;simp only[qMa j e]
theorem qG6{cs:LS}(h:qAY ag size off cs=some x):nF ag size off (SV.a8 ve lb cs)=some (x.val ve lb):=by
 cases ag with
 |true=>
  simp only[qAY,ai,jD]at h;split at h;case isFalse=>cases h
  rename_i c;cases h;simp only[nF,ai,SV.cb];rw[kH (by simp;omega)];simp[SV.val,SV.cb,List.map_drop,List.map_take]
 |false=>simp only[qAY,bc]at h;simp only[nF,bc,SV.cb,cw,h,aj]
theorem qG7{n:Nat}{cs:LS}(h:qAY ag size off cs=some x)(c:SV.kx n m cs):x.bd n m:=by
 rw[SV.hE]at c;cases ag with
 |true=>
  simp only[qAY,ai,jD]at h;split at h
  ·cases h;show SV.kx n m _;rw[SV.hE];grind
  cases h
 |false=>simp only[qAY,bc]at h;grind
theorem cV{d:D}{n:Nat}(h:qE8 g bs d v)(c:natD d=some n):∃k,v=.int k (.ofNat n):=by
 unfold natD at c;split at c
 ·rename_i k m;cases c;exact⟨k,(h.dr rfl).de.1⟩
 cases c
theorem qBK(z:zR.le g bs){d i:D}{j:LQ}(h:qE8 g bs d v)(B:qE8 g bs i j){e:D}(he:rT d i=some e):∃b o l c k n cs rS el rt own,v=.slice (some ⟨b,o,none⟩) l c/\j=.int k (.ofNat n)/\n<l/\bs b=some ⟨.cells cs el,rt,own⟩/\(∃es,d=.sl el e.cells.length es/\es.length=l)/\take? (cs.drop (o+n*e.cells.length)) e.cells.length=some rS/\DRs g e.cells rS/\rS.all qU=true:=by
 unfold rT at he;split at he
 ·rename_i n w;obtain⟨k,A⟩:=cV B w;cases d with
  |sl el sz es=>
   simp only[D.es]at he;obtain⟨b,o,l,c,rt,cs,vs,own,q⟩:=h.sl z;have r:=q.s e (be he);have p:n<es.length:=(gI he).1;have u:n*sz+sz<=l*sz:=qWC (by rw[←q.n];exact p);refine⟨b,o,l,c,k,n,cs,(vs.drop (n*sz)).take sz,el,rt,own,q.v,A,by rw[←q.n];exact p,q.b,⟨es,by rw[r],q.n⟩,?_,?_,bJ q.o _ _⟩
   ·rw[r,←gj];exact qEh q.t u
   have:=(q.r.drop (n*sz)).take sz;rw[qSg q.s he]at this;exact this
  |_=>simp[D.es]at he
 cases he
theorem qBB(h:SR E n0 H0 g0 S ρ ve lb g fr H){a:SV}(hb:a.bd S.n S.ae.length)(j:wp E HS Q (qEA E t a S κ) ρ):bK E HS Q n0 H0 g0 S ρ ve lb g fr H κ λy S' _ ve' _=>y.bd S'.n S'.ae.length/\gM E H t (a.val ve lb)=some (y.val ve' lb):=by
 unfold qEA at j;obtain⟨a',S,ρ,w,U,e0,h,j,hb,hv⟩:=qHW h hb j;rw[←hv];suffices hs:bK E HS Q n0 H0 g0 S ρ w lb U fr H κ λy S' _ ve' _=>y.bd S'.n S'.ae.length/\gM E H t (a'.val w lb)=some (y.val ve' lb) by obtain⟨y,S',ρ',ve',g',e,r⟩:=hs;exact⟨y,S',ρ',ve',g',e0.trans e,r⟩
 split at j
 ·cases j
 rename_i A P;simp only at j;split at j
 ·rename_i b off;split at j
  ·rename_i cs M;obtain⟨q1,el,rt,cs',O,q3,X⟩:=h.ae b _ M;simp only[j5]at X;subst X;split at j
   ·rename_i x hx;exact⟨x,S,ρ,w,U,.refl,h,j,qG7 hx q1,cF P O (qG6 hx)⟩
   cases j
  ·rename_i x n M;obtain⟨q1,el,rt,cs',O,q3,X,ds,N,q6⟩:=h.ae b _ M;subst X;cases B:(Nat.beq off 0&&Nat.beq A.size n&&A.agg)with
   |true=>
    rw[B]at j;simp only[aE]at B;obtain⟨hr,j⟩:=jQ j;obtain⟨vs,hv,C,Z⟩:=yK (qCi h.toSM hr N) N;refine⟨x,S,ρ,w,U,.refl,h,j,q1,cF P O ?_⟩;have I:=vW B.1.1;have p:=vW B.1.2;rw[I,p,B.2,hv];have hl:vs.length=n:=by rw[C.length,q6]
    show nF true n 0 vs=_;simp only[nF,ai,jr];rw[kH (by omega),dc (by omega)];rfl
   |false=>
    rw[B]at j;simp only[bc]at j;obtain⟨d,I,p,h3⟩:=vL j;obtain⟨vs,hv,C,Z⟩:=yK (qCi h.toSM (I _ (aw.2 rfl)) N) N;simp only[SV.ds,qC7,N,D.cells]at p;obtain⟨v,u,K,J,_⟩:=tK C Z p;refine⟨_,_,_,_,_,yE h.len,h.new (k:=.pure) (o:=!A.agg) (by simp) (d:=d) (v:=v) ⟨λe=>J (by simpa using e),K⟩,h3,?_,?_⟩
    ·show S.n<(S.new .pure _).n;rw[yC];exact bw _
    rw[hv]at O;simp only[SV.val,jR];exact cF P O u
  cases j
 ·rename_i s i sz off;obtain⟨d,I,p,h3⟩:=vL j;have hr1:=zQ h.toSM (I s (by simp));have hr2:=zQ h.toSM (I i (by simp));simp only[SV.ds,dA]at p;split at p;case h_2=>cases p
  rename_i e he;obtain⟨b,o',l,c,k,n,cs,rS,el,rt,own,w1,w2,w3,w4,⟨wes,wd,_⟩,w5,W,w7⟩:=qBK h.mem hr1 hr2 he;cases B:(Nat.beq (s.d (getD ρ)).rp sz&&Nat.ble (off+(bif A.agg then A.size else 1)) sz)with
  |false=>rw[B]at p;cases p
  | true=>
   rw[B]at p;simp only[aE]at B;have F:=vW B.1;rw[wd]at F;simp only[D.rp]at F;have G:=oA B.2;simp only[ai]at p;have V:∀v,nF A.agg A.size off rS=some v->DR U d v->(A.agg=false->d.one=true)->bK E HS Q n0 H0 g0 S ρ w lb U fr H κ λy S' _ ve' _=>y.bd S'.n S'.ae.length/\gM E H t ((SV.ptr s i sz off).val w lb)=some (y.val ve' lb):=by
    intro v u K J;refine⟨_,_,_,_,_,yE h.len,h.new (k:=.pure) (o:=!A.agg) (by simp) (d:=d) (v:=v) ⟨λe=>J (by simpa using e),K⟩,h3,?_,?_⟩
    ·show S.n<(S.new .pure _).n;rw[yC];exact bw _
    simp only[SV.val,jR,w1,w2,qCk];refine cF P w4 ?_;obtain⟨u1,u2⟩:=pN w5;rw[F]at u1 u2;cases R:A.agg with
    |true=>
     simp only[R,nF,ai,aa]at u G ⊢;obtain⟨l',u,rfl⟩:=u;refine⟨l',?_,rfl⟩;obtain⟨u3,u4⟩:=pN u;rw[u1]at u3 u4;rw[←gj,kH (by simp at u2 u4 ⊢;omega),u3]
     congr 1
     rw[List.drop_take,List.take_take,Nat.min_eq_left (by omega)]
    |false=>
     simp only[R,nF,bc]at u G ⊢;rw[u1,List.getElem?_take]at u;split at u
     ·rw[fw]at u;exact u
     cases u
   cases z:(A.agg&&Nat.beq off 0&&Nat.beq A.size sz)with
   |true=>
    rw[z]at p;simp only[aE,ai]at z p;obtain⟨rfl,q,_⟩:=sI p;obtain⟨ecs,rfl,hecs⟩:=q rfl;simp only[D.cells]at w5 W F;refine V (.agg ⟨rS⟩) ?_ (.agg W w7) (λe=>by rw[z.1.1]at e;cases e);have hel:rS.length=sz:=by rw[W.length,F]
    simp only[nF,z.1.1,ai,vW z.1.2,vW z.2,jr];rw[kH (by omega),dc (by omega)];rfl
   |false=>rw[z]at p;simp only[bc]at p;obtain⟨v,u,K,J,_⟩:=tK W w7 p;exact V v u K J
 ·rename_i i off;obtain⟨d,I,p,h3⟩:=vL j;have hp:wT S (.pp i off)=true:=I _ (aw.2 rfl);have L:=j6 h.toSM hp;obtain⟨hp1,cs,o',hp2⟩:=qIV h.toSM (i:=i) hp;simp only[SV.ds,SV.d,hp2,zAI,qHR]at p L;generalize hvv:(SV.pp i off).val w lb=vv at L;cases L with
  |ptr hbk C Z=>
   rename_i b rt vs el own;obtain⟨v,u,K,J,_⟩:=tK C Z p;refine⟨_,_,_,_,_,yE h.len,h.new (k:=.pure) (o:=!A.agg) (by simp) (d:=d) (v:=v) ⟨λe=>J (by simpa using e),K⟩,h3,?_,?_⟩
   ·show S.n<(S.new .pure _).n;rw[yC];exact bw _
   simp only[SV.val,jR]at hvv ⊢;exact cF P (h.mem _ _ hbk) u
 cases j
end
section
variable{E:Env}{n0:Lim}{H0:AH}{g0:zR}{S:St}{ρ:LR}{ve:LH}{lb:LI}{g:zR}{fr:Fr}{H:AH}{HS:LO->LR->La}{Q:Res1->Prop}{o:Oper}{κ:K1}{wm:Bool}
theorem pQ{b:Bool}:SV.bd (S.new k b).n m (.v S.n):=by show S.n<(S.new k b).n;rw[yC];exact bw _
theorem qF3(h:SM n0 S ρ ve lb g H){d:D}:getD (ρ++[d]) S.n=d:=by have:S.n=ρ.length:=h.len.symm;rw[this,uA]
theorem qLj(h:SR E n0 H0 g0 S ρ ve lb g fr H){κ:K1}(p:wp E HS Q (xD (.mz true size) [.v i] .pure false S κ) ρ):∃cs,getD ρ i=.agg cs/\cs.length=size/\DR g (getD ρ i) (ve i)/\SR E n0 H0 g0 (S.new .pure false) (ρ++[getD ρ i]) (cJ ve S.n (ve i)) lb g fr H/\wp E HS Q (κ (.v S.n) (S.new .pure false)) (ρ++[getD ρ i]):=by obtain⟨d,w,j,h3⟩:=vL p;have q:=zQ h.toSM (w _ (aw.2 rfl));simp only[SV.ds,SV.d,sA]at j;obtain⟨rfl,u,_⟩:=sI j;obtain⟨cs,hd,r⟩:=u rfl;have c:DR g (getD ρ i) (ve i):=q.dr (by simp only[SV.d];rw[hd];rfl);exact⟨cs,hd,r,c,h.new (k:=.pure) (o:=false) (by simp) (d:=getD ρ i) (v:=ve i) ⟨(λe=>by cases e),c⟩,h3⟩
theorem qB1{h:TI}(c:E.types.get t=some h){r:LA}{rt:Nat}(j:H.blocks.get b=some ⟨.cells cs el,rt,true⟩)(e:v.cells.toList.length=h.size)(hs:xG cs i v.cells.toList=some r):kN E H t (.pointer (some ⟨b,i,none⟩)) v=some (H.write b ⟨.cells cs el,rt,true⟩ (.cells r el)):=by simp only[kN,c,zI];rw[bo e];simp only[AH.kR,j,hs,aj]
theorem qOA(h:SR E n0 H0 g0 S ρ ve lb g fr H){x1 x2:LM}{a:SV}(ho:o.op=.store t x1 x2)(h1:ev E fr x1=some (a.val ve lb))(h2:ev E fr x2=some (x.val ve lb))(hb:a.bd S.n S.ae.length)(hx:x.bd S.n S.ae.length)(q:wp E HS Q (qIH E t a x S κ) ρ):j7 true E HS Q n0 H0 g0 fr H o κ:=by
 unfold qIH at q;split at q
 ·cases q
 rename_i B ht;split at q;case h_2=>cases q
 rename_i b off
 have J:∀{S':St} {ρ':LR} {ve':LH} {g':zR} {hS w:Blk} {cs r:LA} {el:LN} {rt:Nat},SR E n0 H0 g0 S' ρ' ve' lb g' fr H->S'.ae[b]? = some (some w)->H.blocks.get (lb b)=some ⟨.cells cs el,rt,true⟩->
   dQ (x.val ve lb)->(x.val ve lb).cells.toList.length=B.size->xG cs off (x.val ve lb).cells.toList=some r->hS.od=false->hS.bd S'.n S'.ae.length->j5 (getD ρ') ve' lb r hS->
   wp E HS Q (κ (.gd []) (S'.kj b hS)) ρ'->j7 true E HS Q n0 H0 g0 fr H o κ:=by
  intro S' ρ' ve' g' hS w cs r el rt I p Z hnt hlen bO hnl hbd hok q
  refine⟨.gd [],_,_,_,_,_,_,I.store p Z hbd hok hnl,trivial,q,.oj (vP _) ?_,λe=>by cases e⟩
  unfold jH
  rw[ho]
  simp only[h1,h2]
  have W:=qB1 (t:=t) ht Z hlen bO
  simp only[SV.val]at W ⊢
  split
  ·rename_i c _ z
   simp only[oI]at z
   exact absurd z (hnt _)
  ·rename_i a' v' hn N e2
   simp only[oI]at N e2
   subst N e2
   rw[W]
   rfl
  rename_i hn
  exact absurd rfl (hn _ _ rfl)
 have C:∀{w:Blk} {cs:LA} {el:LN} {rt:Nat},S.ae[b]? = some (some w)->H.blocks.get (lb b)=some ⟨.cells cs el,rt,true⟩->cs.length=B.size->off=0->
   wp E HS Q (qFr B b x S κ) ρ->j7 true E HS Q n0 H0 g0 fr H o κ:=by
  intro w cs el rt p Z A X G
  subst X
  have dec:wp E HS Q (nC x B.agg B.size S λl S=>κ (.gd []) (S.kj b (.cells l))) ρ->j7 true E HS Q n0 H0 g0 fr H o κ:=by
   intro q
   obtain⟨l,S',ρ',ve',g',e,I,j,R,F,P,M⟩:=nY h hx q
   have hlen:(x.val ve lb).cells.toList.length=B.size:=by rw[←F,SV.cb,bk,P]
   exact J (S':=S') (hS:=.cells l) I (by rw[e.ae];exact p) Z M hlen (eC (by rw[A,hlen])) rfl R F.symm j
  unfold qFr at G
  split at G
  ·rename_i i
   obtain⟨cs',hd,hl,hdr,I,j⟩:=qLj h G
   obtain⟨vs,hv,K,ho'⟩:=yK hdr hd
   have hlen:((SV.v i).val ve lb).cells.toList.length=B.size:=by
    simp only[SV.val,hv]
    show vs.length=_
    rw[K.length,hl]
   refine J (S':=S.new .pure false) (hS:=.whole (.v S.n) B.size) I p Z (cD hdr hd) hlen (eC (by rw[A,hlen])) rfl (pQ (m:=S.ae.length)) ⟨?_,cs',?_,hl⟩ j
   ·simp only[SV.val,jR]
   show getD _ S.n=_
   rw[qF3 h.toSM,hd]
  exact dec G
 split at q
 ·rename_i cs p;obtain⟨q1,el,rt,cs',V,q3,U⟩:=h.ae b _ p;simp only[j5]at U;subst U;cases z:(B.agg&&Nat.beq off 0&&Nat.beq cs.length B.size)with
  |true=>rw[z]at q;simp only[aE]at z;simp only[ai]at q;exact C p V (by rw[SV.cb,bk];exact vW z.2) (vW z.1.2) q
  |false=>
   rw[z]at q;simp only[bc]at q;obtain⟨l,S',ρ',ve',g',e,I,j,R,F,P,M⟩:=nY h hx q;simp only at j;split at j
   ·rename_i L bO;have u:=mH (ve:=ve') (lb:=lb) bO;have A:SV.a8 ve' lb cs=SV.a8 ve lb cs:=SV.di e.ve (λ_ _=>rfl) q1;rw[A,F]at u;exact J (S':=S') (hS:=.cells L) I (by rw[e.ae];exact p) V M (by rw[←F,SV.cb,bk,P]) u rfl (mI bO (e.kx q1) R) rfl j
   cases j
 ·rename_i y n p;obtain⟨q1,el,rt,cs',V,q3,U,ds,q5,q6⟩:=h.ae b _ p;cases z:(B.agg&&Nat.beq off 0&&Nat.beq n B.size&&yB S y)with
  |true=>rw[z]at q;simp only[aE]at z;simp only[ai]at q;obtain⟨vs,hv,K,_⟩:=yK (qCi h.toSM z.2 q5) q5;refine C p V ?_ (vW z.1.1.2) q;rw[U,hv,←vW z.1.2,←q6];exact K.length
  |false=>
   rw[z]at q;simp only[bc]at q;obtain⟨cl,S1,ρ1,O,g1,N,h1',hw1,s1,s2,s3,s4⟩:=nY h q1 q;obtain⟨l,S',ρ',ve',g',e,I,j,R,F,P,M⟩:=nY h1' (N.bd hx) hw1;have hxv:x.val O lb=x.val ve lb:=N.val hx;rw[hxv]at F M;simp only at j;split at j
   ·rename_i L bO;have u:=mH (ve:=ve') (lb:=lb) bO;have A:SV.a8 ve' lb cl=SV.a8 O lb cl:=SV.di e.ve (λ_ _=>rfl) s1;rw[A,s2,F,←U]at u;exact J (S':=S') (hS:=.cells L) I (by rw[e.ae,N.ae];exact p) V M (by rw[←F,SV.cb,bk,P]) u rfl (mI bO (e.kx s1) R) rfl j
   cases j
 cases q
end
end Go.Am
