/- What commands do, said without a bound on steps. Conditions: none. -/
import Derived.Test.YtocbbgmhkhallaaGreatDoorAm7
set_option linter.unusedVariables false
set_option linter.unusedSimpArgs false
namespace Go.Am
open Go
abbrev aq:=@List.mem_cons_self
abbrev dc:=@List.take_of_length_le
abbrev ew:=@List.drop_eq_getElem_cons
abbrev fp:=@List.flatMap_cons
abbrev gh:=@List.getElem_mem
abbrev gx:=@Nat.le_of_lt
abbrev gz:=@Bool.or_true
abbrev ji:=@List.take_succ_cons
abbrev jy:=@List.take_append
def vK(E:Env)(c:Code)(fr:Fr)(H:AH)(e:AExit)(fr':Fr)(H':AH):Prop:=H.next<=H'.next/\gK E c fr H e fr' H'
variable{args:LA}{b c:Code}{f:LO}{i:Nat}
section
variable{E:Env}{H H1 H':AH}{fr fr1 fr':Fr}{e e':AExit}
theorem qDj{c1 O:Code}(L:vK E c1 fr H .normal fr1 H1)(K:vK E O fr1 H1 e fr' H')(q:vJ c=true->vJ c1=true/\vJ O=true)(x:Item)(hs:∀(b:Frame) (tmps:LD) (ds:List Deferred) (k:List Item) (cs:List Frame) (w:LP),Steps E.prog (lone (Fm b tmps ds (lay c k)) cs w) (lone (Fm b tmps ds (.code c1::x::k)) cs w))(G:∀(b:Frame) (tmps:LD) (ds:List Deferred) (k:List Item) (cs:List Frame) (w:LP),Steps E.prog (lone (Fm b tmps ds (x::k)) cs w) (lone (Fm b tmps ds (lay O k)) cs w)):vK E c fr H e fr' H':=by refine⟨lT L.1 K.1,?_⟩;intro I σ w tmps n0 U hr hf y u b ds k cs S p J;obtain⟨X,W⟩:=q I;have R:H.next<=H1.next:=L.1;have Q:H1.next<=H'.next:=K.1;have j:yU σ H.next H1.next:=λc Z q2=>y c Z (by omega);obtain⟨C,P,h,A,s1,f1,o,d1,e1⟩:=L.2.lay X tmps n0 U hr hf j u b ds (x::k) cs S p J;obtain⟨B,V,l,N,s2,f2,F,d2,e2⟩:=K.2 W C P h n0 U s1.hr f1 (y.split s1.ext s1.next) (lT u s1.size) b A k cs S (by rw[o];exact p) d1;have M:Steps E.prog _ _:=e1;exact⟨B,V,l,N,s1.trans s2,f2,F.trans o,d2,.head ((hs b tmps ds k cs w).trans (M.trans (G b h A k cs P))) e2⟩
theorem mW{c1:Code}(G:vK E c1 fr H e fr' H')(y:vJ c=true->vJ c1=true)(xs:List Item)(J:∀(tmps:LD),(∀σ:vO,sO σ fr tmps->∀(b:Frame) (ds:List Deferred) (k:List Item) (cs:List Frame) (w:LP),HR E σ H w->Steps E.prog (lone (Fm b tmps ds (lay c k)) cs w) (lone (Fm b tmps ds (.code c1::xs++k)) cs w)))(o:∀(m:Machine) (b:Frame) (tmps:LD) (ds:List Deferred) (k:List Item) (cs:List Frame) (w:LP),Reach E.prog e m b tmps ds (xs++k) cs w->Reach E.prog e' m b tmps ds k cs w):vK E c fr H e' fr' H':=by refine⟨G.1,?_⟩;intro q σ w tmps n0 N C F x u b ds k cs K p A;obtain⟨j,I,h,B,s1,f1,l,M,L⟩:=G.2.lay (y q) tmps n0 N C F x u b ds (xs++k) cs K p A;exact⟨j,I,h,B,s1,f1,l,M,o _ _ _ _ _ _ _ (.head (J tmps σ F b ds k cs w C) L)⟩
theorem vK.skip:vK E .skip fr H .normal fr H:=⟨vP _,oF λ_ _ _ _ _ _=>.one qKR⟩
theorem vK.label{l:Nat}:vK E (.label l) fr H .normal fr H:=⟨vP _,oF λ_ _ _ _ _ _=>.one qHC⟩
theorem vK.ret:vK E .ret fr H .ret fr H:=⟨vP _,oF λ_ _ _ k _ _=>⟨k,gq _ _⟩⟩
theorem vK.exit{id:Nat}:vK E (.exit id) fr H (.exit id) fr H:=
 ⟨vP _,oF λ_ _ _ k _ _=>⟨λ_ x=>.one (qKS x),λh=>⟨k,h,gq _ _⟩⟩⟩
theorem vK.seq{a:Code}(y:vK E a fr H .normal fr1 H1)(x:vK E b fr1 H1 e fr' H'):vK E (.seq a b) fr H e fr' H':=
 qDj y x (λh=>by simpa[vJ]using h) (.code b) (λ_ _ _ _ _ _=>.one qAy) (λ_ _ _ _ _ _=>qAs _ _ _ _ _ _ _ _)
theorem vK.qj{a:Code}(y:vK E a fr H e fr' H')(x:e≠.normal):vK E (.seq a b) fr H e fr' H':=
 mW y (λh=>by simp[vJ]at h;exact h.1) [.code b] (λ_ _ _ _ _ _ _ _ _=>.one qAy) (λ_ _ _ _ _ _ _ g=>g.weaken (λ_=>rfl) x)
theorem vK.rk(he:EOk E){c:LM}{a:Code}(y:ev E fr c=some (.bool true))(j:vK E a fr H e fr' H'):vK E (.cond c a b) fr H e fr' H':=
 mW j (λh=>by simp[vJ]at h;exact h.1) [] (λtmps _ x _ _ _ _ _ h=>.one (qBI (t:=true) (uR (rA (a:=⟨tmps,[]⟩) he h x y)))) (λ_ _ _ _ _ _ _ g=>g)
theorem vK.rl(he:EOk E){c:LM}{a:Code}(y:ev E fr c=some (.bool false))(j:vK E b fr H e fr' H'):vK E (.cond c a b) fr H e fr' H':=
 mW j (λh=>by simp[vJ]at h;exact h.2) [] (λtmps _ x _ _ _ _ _ h=>.one (qBI (t:=false) (uR (rA (a:=⟨tmps,[]⟩) he h x y)))) (λ_ _ _ _ _ _ _ g=>g)
theorem vK.qc{id:Nat}(x:vK E b fr H (.exit id) fr' H'):vK E (.block id b) fr H .normal fr' H':=
 mW x (λh=>h) [.inBlock id] (λ_ _ _ _ _ _ _ _ _=>.one eU) (λ_ _ _ _ k _ _ g=>g.1 k (by simp[exitTo]))
theorem vK.block{id:Nat}{b:Code}(o:vK E b fr H e fr' H')(j:e≠.exit id):vK E (.block id b) fr H e fr' H':=by
 refine mW o (λy=>y) [.inBlock id] (λ_ _ _ _ _ _ _ _ _=>.one eU) (λm b tmps ds k cs w g=>?_);cases e with
 |normal=>have g':Steps E.prog _ _:=g;exact g'.trans (.one qCX)
 |exit h=>
  refine g.pq (λx p=>?_) (by simp);cases p;have:(id==h)=false:=by simpa using λl=>j (by rw[l])
  simp[exitTo,this]
 |ret=>exact g
theorem vK.loop{b:Code}(x:vK E b fr H .normal fr1 H1)(h:vK E (.loop b) fr1 H1 e fr' H'):vK E (.loop b) fr H e fr' H':=
 qDj x h (λhr=>⟨hr,hr⟩) (.inLoop b) (λ_ _ _ _ _ _=>gq _ _) (λ_ _ _ _ _ _=>.one qEO)
theorem vK.pw(y:vK E b fr H e fr' H')(x:e≠.normal):vK E (.loop b) fr H e fr' H':=
 mW y (λh=>h) [.inLoop b] (λ_ _ _ _ _ _ _ _ _=>gq _ _) (λ_ _ _ _ _ _ _ g=>g.weaken (λ_=>rfl) x)
theorem vK.scope(y:vK E b fr H e fr' H'):vK E (.scope b) fr H e fr' H':=by
 refine mW y (λx=>x) [.inScope b] (λ_ _ _ _ _ _ _ _ _=>.one qHB) (λm j tmps ds k cs w g=>?_);by_cases h:e=.normal
 ·subst h;have g':Steps E.prog _ _:=g;exact g'.trans (.one qCW)
 exact g.weaken (λ_=>rfl) h
structure jX where
 f:LO
 args:LA
 H:AH
 v:LQ
 H':AH
 sc:Bool:=false
def jX.cmd(a:jX):Cmd:=match a.sc with
 |false=>.call a.f a.args
 |true=>.round a.f a.args
def jX.ok(E:Env)(a:jX):Prop:=a.H.next<a.H'.next/\match a.sc with
 |false=>xK E a.f a.args a.H a.v a.H'
 |true=>yF E a.f a.args a.H a.v a.H'
def pJ(E:Env):Nat->List jX->Prop
 |_,[]=>True
 |n,a::l=>a.ok E/\n<=a.H.next/\pJ E a.H'.next l
theorem pJ.mono:∀{n m:Nat} {l:List jX},m<=n->pJ E n l->pJ E m l
 |_,_,[],_,_=>trivial
 |_,_,_::_,h,⟨y,x,h3⟩=>⟨y,lT h x,h3⟩
theorem pJ.later:∀{n:Nat} {l:List jX},pJ E n l->∀a∈l,n<=a.H.next/\a.ok E
 |_,[],_,_,h=>by cases h
 |n,b::l,⟨y,x,h3⟩,a,h=>by
  rcases bl.1 h with rfl|h
  ·exact⟨x,y⟩
  have:=pJ.later h3 a h;exact⟨lT x (lT (gx y.1) this.1),this.2⟩
open Classical in
noncomputable def qPl:List jX->Cmd->AH->xM
 | [],_,_=>none
 |a::l,cmd,H=>if cmd=a.cmd/\H=a.H then some (.val a.v,a.H')else qPl l cmd H
theorem qCF:∀{n:Nat} {l:List jX},pJ E n l->∀a∈l,qPl l a.cmd a.H=some (.val a.v,a.H')
 |_,[],_,_,h=>by cases h
 |n,b::l,⟨x,j,h3⟩,a,h=>by
  rcases bl.1 h with rfl|h
  ·simp[qPl]
  have:=pJ.later h3 a h;have y:b.H.next<b.H'.next:=x.1;rw[qPl,bf,qCF h3 a h];rintro⟨_,e⟩;grind
theorem fW:∀{l:List jX} {cmd:Cmd} {H:AH} {r:Out×AH},qPl l cmd H=some r->∃a∈l,cmd=a.cmd/\H=a.H/\r=(.val a.v,a.H')
 | [],_,_,_,h=>by cases h
 |a::l,cmd,H,r,h=>by
  rw[qPl]at h;split at h
  ·grind
  obtain⟨b,y,x⟩:=fW h;grind
theorem jX.qu{a:jX}(h:.call f args=a.cmd):a.sc=false/\f=a.f/\args=a.args:=by unfold jX.cmd at h;grind
theorem jX.qb{a:jX}(h:.round f args=a.cmd):a.sc=true/\f=a.f/\args=a.args:=by unfold jX.cmd at h;grind
theorem jX.pe{a:jX}{fr:Fr}(h:.code c fr=a.cmd):False:=by unfold jX.cmd at h;split at h<;>cases h
theorem qPk{n:Nat}{l:List jX}(h:pJ E n l):IhOK E (qPl l) where
 up cmd H p H' x:=by
  obtain⟨a,j,_,rfl,k⟩:=fW x
  cases k
  exact gx (h.later a j).2.1
 call f args H v H' x:=by
  obtain⟨a,j,y,rfl,k⟩:=fW x
  obtain⟨o,rfl,rfl⟩:=jX.qu y
  cases k
  have:=(h.later a j).2.2
  rw[o]at this
  exact this
 round l args H v H' x:=by
  obtain⟨a,j,y,rfl,k⟩:=fW x
  obtain⟨o,rfl,rfl⟩:=jX.qb y
  cases k
  have:=(h.later a j).2.2
  rw[o]at this
  exact this
 code c fr H e fr' H' x:=by
  obtain⟨a,j,y,_⟩:=fW x
  exact(jX.pe y).elim
 mr c fr H v H' x:=by
  obtain⟨a,j,y,_⟩:=fW x
  exact(jX.pe y).elim
def qJY(l:List jX)(ih:Cmd->AH->xM):Prop:=∀a∈l,ih a.cmd a.H=some (.val a.v,a.H')
def qIn(all:LB)(i:Nat)(ts:List (Nat×Nat)):Prop:=∀p∈ts,i<=p.1/\∀k,k<p.1->rO (kS all) p.1 k=true
theorem qIn.rh{all:LB}{i:Nat}:∀{ts:List (Nat×Nat)},qIn all (i+1) ts->qV all i ts=[]
 | [],_=>rfl
 |p::ts,h=>by have x:=(h p aq).2 i (h p aq).1;obtain⟨j,b⟩:=p;have x:rO (kS all) j i=true:=x;rw[qV,x,gz,ai];exact qIn.rh λq y=>h q (mC _ y)
theorem qIn.less{all:LB}{ts:List (Nat×Nat)}(h:qIn all (i+1) ts):qIn all i ts:=λp x=>⟨Nat.le_of_succ_le (h p x).1,(h p x).2⟩
theorem qEk{E:Env}{ih:Cmd->AH->xM}{all:LF}{ts:List (Nat×Nat)}:∀(h:LB) (i:Nat) (fr:Fr) (H:AH),zY E ih all false ts h i fr H=zY E ih all false [] h i fr H
 | [],_,_,_=>rfl
 |o::h,i,fr,H=>by simp only[zY,bc,qEk h]
def kG(E:Env)(all:LF)(draw:Bool)(h:LB)(i:Nat)(fr:Fr)(H:AH)(fr':Fr)(H':AH):Prop:=
 H.next<=H'.next/\∃l,pJ E H.next l/\(∀a∈l,a.H'.next<=H'.next)/\∃ts,qIn all.toList i ts/\∀ih,qJY l ih->zY E ih all draw ts h i fr H=some (fr',H')
theorem vK.region(he:EOk E){id:Nat}{ops:LF}{draw:Bool}(h:kG E ops draw ops.toList 0 fr H fr' H'):vK E (.region id ops draw) fr H .normal fr' H':=by obtain⟨I,l,C,_,ts,_,h3⟩:=h;refine⟨I,?_⟩;have x:=h3 (qPl l) (λa L=>qCF C a L);have p:=qPk C;intro u σ w tmps n0 O B K j G b ds k cs J q A;obtain⟨o,w',y,F,N,M⟩:=cP he p.call p.round p.up (id:=id) (λhd=>by simpa[vJ,hd]using u) b ds k cs J q x B K j;exact⟨o,w',y,ds,F,N,pO x,A.step B F,M⟩
open Classical in
theorem vK.call(he:EOk E){f:LO}{args:LA}{fn:Func}{c:Code}{v:LQ}(q:E.funcs.get f=some fn)(w:fn.body=some c)(h:vK E c ⟨Nat.max fn.ntmps args.length,false,T.ofList .leaf 0 args⟩ H e fr' H')(u:e=.normal∨e=.ret)(l:(match vV E fr' H' fn.results.toList with|some [v]=>some v|some vs=>some (.tuple ⟨vs⟩)|none=>none)=some v):xK E f args H v H':=by
 let x:Fr:=⟨Nat.max fn.ntmps args.length,false,T.ofList .leaf 0 args⟩;let ih:Cmd->AH->xM:=λcmd H2=>if cmd=.code c x/\H2=H then some (.ex e fr',H')else none;have y:∀{cmd:Cmd} {H2:AH} {r:Out×AH},ih cmd H2=some r->cmd=.code c x/\H2=H/\r=(.ex e fr',H'):=by grind
 have p:IhOK E ih:=by
  refine {up:=?_,call:=?_,round:=?_,code:=?_,mr:=?_}
  ·intro cmd H2 o G k;obtain⟨_,A,h3⟩:=y k;cases h3;rw[A];exact h.1
  ·grind
  ·grind
  ·intro K F H2 J C G k;obtain⟨B,rfl,h3⟩:=y k;cases B;cases h3;exact h.2
  grind
 have j:body E ih (.call f args) H=some (.val v,H'):=by
  have I:ih (.code c x) H=some (.ex e fr',H'):=by simp[ih]
  simp only[body,q,w];grind
 exact(qLm he p).call _ _ _ _ _ j
end
inductive SV where
 |v (i:Nat)
 |c (x:LQ)
 |loc (b off:Nat)
 |ptr (s i:SV) (sz off:Nat)
 |pp (i off:Nat)
 |agg (cs:List SV)
 |gd (cs:List SV)
 |fn (f:Fn) (first cap:List SV)
 |ll (t:LN) (x:SV)
 |lk (b:Nat)
abbrev LS:=List SV
instance:Inhabited SV:=⟨.v 0⟩
inductive VK where
 |pure
 |full
 |fresh
 |dead
 |ptr
structure VSt where
 k:VK
 one:Bool
inductive Blk where
 |cells (cs:LS)
 |whole (x:SV) (n:Nat)
 |loop (st pd:Nat)
 |b5 (t:LN) (cs:LS)
structure Pat where
 db:List VSt
 af:List (Nat×SV)
 ae:List (Option Blk)
 kh:List (List (Nat×SV)):=[]
structure Mode where
 ly:Pat
 n:Nat
 out:Pat
inductive D where
 |leaf (v:LQ)
 |agg (cs:List D)
 |nil
 |sl (el:LN) (sz:Nat) (es:List D)
 |gd (cs:List D)
 |ptr (cs:List D) (off:Nat)
 |kr (fn:Fn) (first cap:List D)
 |iface (t:LN) (d:D)
 |mode (m:Mode)
 |mp (ks:LA) (ds:List D)
abbrev La:=D->Prop
abbrev LX:=Option D
abbrev LR:=List D
instance:Inhabited D:=⟨.nil⟩
def D.cells:D->LR
 |.agg cs=>cs
 |d=>[d]
def D.one:D->Bool
 |.agg _|.gd _=>false
 |_=>true
def D.es:D->LR
 |.sl _ _ es=>es
 |_=>[]
def D.rp:D->Nat
 |.sl _ sz _=>sz
 |_=>0
def rU:LQ->Bool
 |.bool _|.int _ _|.float _ _|.complex _ _ _|.string _=>true
 |.pointer a=>a.isNone
 |.map r=>r.isNone
 |.nilFunc|.nilIface=>true
 |_=>false
abbrev zR:=Nat->Option ABlk
mutual
inductive DR (g:zR):D->LQ->Prop
 |leaf {v:LQ} (h:rU v=true):DR g (.leaf v) v
 |agg {cs:LR} {vs:LA} (h:DRs g cs vs) (o:vs.all qU=true):DR g (.agg cs) (.agg ⟨vs⟩)
 |gd {cs:LR} {vs:LA} (h:DRs g cs vs):DR g (.gd cs) (.tuple ⟨vs⟩)
 |nil:DR g .nil (.slice none 0 0)
 | sl {el:LN} {es:LR} {b o l c sz rt:Nat} {cs vs:LA} {own:Bool} (hb:g b=some ⟨.cells cs el,rt,own⟩) (ht:take? (cs.drop o) (l*sz)=some vs)
   (hv:DRs g (es.flatMap D.cells) vs) (hl:es.length=l) (hs:∀e∈es,e.cells.length=sz) (hc:l<=c) (hx:l<zX) (ho:vs.all qU=true):DR g (.sl el sz es) (.slice (some ⟨b,o,none⟩) l c)
 |ptr {cs:LR} {off b rt:Nat} {vs:LA} {el:LN} {own:Bool} (hb:g b=some ⟨.cells vs el,rt,own⟩) (hv:DRs g cs vs) (ho:vs.all qU=true):DR g (.ptr cs off) (.pointer (some ⟨b,off,none⟩))
 |kr {fn:Fn} {first cap:LR} {f c:LA} (hp:rM fn=true) (hf:DRs g first f) (hc:DRs g cap c):DR g (.kr fn first cap) (.func fn ⟨f⟩ ⟨c⟩)
 |iface {t:LN} {d:D} {v:LQ} (h:DR g d v):DR g (.iface t d) (.iface t v)
 |mp {ks:LA} {ds:LR} {r rt clock:Nat} {es:List MapEntry} {own:Bool} (hb:g r=some ⟨.map es clock,rt,own⟩) (hk:es.map (·.key)=ks) (hv:DRs g ds (es.map (·.val))):DR g (.mp ks ds) (.map (some r))
inductive DRs (g:zR):LR->LA->Prop
 |nil:DRs g [] []
 |cons {d:D} {v:LQ} {ds:LR} {vs:LA} (h:DR g d v) (hs:DRs g ds vs):DRs g (d::ds) (v::vs)
end
def zR.le(g g':zR):Prop:=∀b k,g b=some k->g' b=some k
theorem zR.le_refl(g:zR):zR.le g g:=λ_ _ h=>h
theorem zR.le_trans{g g' x:zR}(h:zR.le g g')(y:zR.le g' x):zR.le g x:=λb k e=>y b k (h b k e)
mutual
theorem DR.mono{g g':zR}(x:zR.le g g'):∀{d:D} {v:LQ},DR g d v->DR g' d v
 |_,_,.leaf h=>.leaf h
 |_,_,.agg h o=>.agg (DRs.mono x h) o
 |_,_,.gd h=>.gd (DRs.mono x h)
 |_,_,.nil=>.nil
 |_,_,.sl y p hv w q k l j=>.sl (x _ _ y) p (DRs.mono x hv) w q k l j
 |_,_,.ptr y hv j=>.ptr (x _ _ y) (DRs.mono x hv) j
 |_,_,.kr u B k=>.kr u (DRs.mono x B) (DRs.mono x k)
 |_,_,.iface h=>.iface (DR.mono x h)
 |_,_,.mp y A hv=>.mp (x _ _ y) A (DRs.mono x hv)
theorem DRs.mono{g g':zR}(x:zR.le g g'):∀{ds:LR} {vs:LA},DRs g ds vs->DRs g' ds vs
 |_,_,.nil=>.nil
 |_,_,.cons h y=>.cons (DR.mono x h) (DRs.mono x y)
end
variable{v:LQ}{vs:LA}
section
variable{g g':zR}
theorem DR.one{d:D}(h:DR g d v):qU v=d.one:=by
 cases h<;>try rfl
 rename_i h;cases v<;>first|rfl|(simp[rU]at h)
theorem DRs.length:∀{ds:LR} {vs:LA},DRs g ds vs->vs.length=ds.length
 |_,_,.nil=>rfl
 |_,_,.cons _ h=>by simp[DRs.length h]
theorem DRs.append:∀{a b:LR} {x y:LA},DRs g a x->DRs g b y->DRs g (a++b) (x++y)
 |_,_,_,_,.nil,h=>h
 |_,_,_,_,.cons h j,k=>.cons h (DRs.append j k)
theorem DRs.get:∀{ds:LR} {vs:LA},DRs g ds vs->∀(i:Nat) (d:D),ds[i]? = some d->∃v,vs[i]? = some v/\DR g d v
 |_,_,.nil,i,d,h=>by simp at h
 |_,_,.cons h x,0,d,e=>by simp at e;subst e;exact⟨_,rfl,h⟩
 |_,_,.cons h x,i+1,d,e=>by simp at e;simpa using DRs.get x i d e
theorem DRs.split:∀{a b:LR} {vs:LA},DRs g (a++b) vs->∃x y,vs=x++y/\DRs g a x/\DRs g b y
 | [],b,vs,h=>⟨[],vs,rfl,.nil,h⟩
 |d::a,b,_,.cons h j=>by obtain⟨x,y,rfl,l,k⟩:=DRs.split (a:=a) j;exact⟨_::x,y,rfl,.cons h l,k⟩
theorem DRs.drop:∀(n:Nat) {ds:LR} {vs:LA},DRs g ds vs->DRs g (ds.drop n) (vs.drop n)
 |0,_,_,h=>h
 |_+1,_,_,.nil=>.nil
 |n+1,_,_,.cons _ x=>DRs.drop n x
theorem DRs.take:∀(n:Nat) {ds:LR} {vs:LA},DRs g ds vs->DRs g (ds.take n) (vs.take n)
 |0,_,_,_=>.nil
 |_+1,_,_,.nil=>.nil
 |n+1,_,_,.cons h x=>.cons h (DRs.take n x)
theorem DRs.mf{ds:LR}(h:DRs g ds vs):vs.all qU=ds.all D.one:=by
 induction ds generalizing vs with
 |nil=>cases h;rfl
 |cons d ds ih=>cases h with
  |cons h x=>simp[DR.one h,ih x]
theorem DR.cells{d:D}(h:DR g d v):DRs g d.cells v.cells.toList:=by
 cases h with
 |agg h o=>exact h
 |leaf h=>cases v<;>first|exact .cons (.leaf h) .nil|(simp[rU]at h)
 |gd h=>exact .cons (.gd h) .nil
 |nil=>exact .cons .nil .nil
 |sl x l hv u p j k y=>exact .cons (.sl x l hv u p j k y) .nil
 |ptr x hv y=>exact .cons (.ptr x hv y) .nil
 |kr q A j=>exact .cons (.kr q A j) .nil
 |iface h=>exact .cons (.iface h) .nil
 |mp x w hv=>exact .cons (.mp x w hv) .nil
theorem DR.de{x:LQ}(h:DR g (.leaf x) v):v=x/\rU x=true:=by cases h;exact⟨rfl,by assumption⟩
theorem pN:∀{l:LA} {n:Nat} {r:LA},take? l n=some r->r=l.take n/\n<=l.length
 |_,0,r,h=>by simp only[take?,oI]at h;subst h;simp
 | [],n+1,r,h=>by simp[take?]at h
 |x::l,n+1,r,h=>by simp only[take?,aa]at h;obtain⟨j,y,rfl⟩:=h;obtain⟨rfl,k⟩:=pN y;grind
theorem kH:∀{l:LA} {n:Nat},n<=l.length->take? l n=some (l.take n)
 |_,0,_=>by simp[take?]
 | [],n+1,h=>by simp at h
 |x::l,n+1,h=>by simp only[take?];rw[kH (show n<=l.length by simpa using h)];simp
theorem lY:∀{es:LR} {sz:Nat},(∀e∈es,e.cells.length=sz)->(es.flatMap D.cells).length=es.length*sz
 | [],sz,_=>by simp
 |e::es,sz,h=>by have:=lY (es:=es) λx y=>h x (mC _ y);grind
theorem pW:∀{es:LR} {sz:Nat},(∀e∈es,e.cells.length=sz)->∀i,(es.flatMap D.cells).drop (i*sz)=(es.drop i).flatMap D.cells
 |_,_,_,0=>by simp
 | [],_,_,i+1=>by simp
 |e::es,sz,h,i+1=>by have:=pW (es:=es) (λx y=>h x (mC _ y)) i;simp only[fp,List.drop_succ_cons];rw[←this];have he:=h e aq;rw[show(i+1)*sz=e.cells.length+i*sz by rw[fm,he];omega,←gj];simp
theorem nW:∀{es:LR} {sz:Nat},(∀e∈es,e.cells.length=sz)->∀i,(es.flatMap D.cells).take (i*sz)=(es.take i).flatMap D.cells
 |_,_,_,0=>by simp
 | [],_,_,i+1=>by simp
 |e::es,sz,h,i+1=>by have:=nW (es:=es) (λx y=>h x (mC _ y)) i;simp only[fp,ji];rw[←this];have he:=h e aq;rw[show(i+1)*sz=e.cells.length+i*sz by rw[fm,he];omega,jy];simp[dc]
theorem qSg{es:LR}{sz:Nat}(h:∀e∈es,e.cells.length=sz){e:D}(y:es[i]? = some e):((es.flatMap D.cells).drop (i*sz)).take sz=e.cells:=by obtain⟨x,rfl⟩:=gI y;rw[pW h,ew x,fp,jy];have:=h _ (gh x);rw[this];grind
theorem qEh{l:LA}{n:Nat}(h:take? l n=some vs){k:Nat}(x:i+k<=n):take? (l.drop i) k=some ((vs.drop i).take k):=by
 obtain⟨rfl,y⟩:=pN h;rw[kH (by simp;omega)]
 congr 1
 rw[List.drop_take,List.take_take,Nat.min_eq_left (by omega)]
def Whole(ag:Bool)(size:Nat)(d:D):Prop:=if ag then∃cs,d=.agg cs/\cs.length=size else d.one=true/\size=1
theorem qWC{a b c:Nat}(h:a<b):a*c+c<=b*c:=by have:(a+1)*c<=b*c:=eu c h;rw[fm]at this;omega
end
def T.map{α h:Type}(f:α->h):T α->T h
 |.leaf=>.leaf
 |.node v l r=>.node (match v with|some x=>some (f x)|none=>none) (l.map f) (r.map f)
def qAi:Nat->LQ->D
 |0,v=>match v with
  |.slice none _ _=>.nil
  |v=>.leaf v
 |n+1,v=>match v with
  |.slice none _ _=>.nil
  |.agg cs=>.agg (cs.toList.map (qAi n))
  |.tuple cs=>.gd (cs.toList.map (qAi n))
  |.iface t v=>.iface t (qAi n v)
  |v=>.leaf v
abbrev qIu:Value->D:=qAi 6
def qCk(s i:LQ)(sz off:Nat):LQ:=match s,i with
 |.slice (some ⟨b,o,none⟩) _ _,.int _ (.ofNat n)=>.pointer (some ⟨b,o+n*sz+off,none⟩)
 |_,_=>.pointer (some ⟨0,off,none⟩)
def qRh(p:LQ)(off:Nat):LQ:=match p with
 |.pointer (some ⟨b,o,none⟩)=>.pointer (some ⟨b,o+off,none⟩)
 |_=>.pointer (some ⟨0,off,none⟩)
def zAI(p:D)(off:Nat):D:=match p with
 |.ptr cs o=>.ptr cs (o+off)
 |d=>d
mutual
def SV.val(ve:LH)(lb:LI):SV->LQ
 |.v i=>ve i
 |.c x=>x
 |.loc b off=>.pointer (some ⟨lb b,off,none⟩)
 |.ptr s i sz off=>qCk (s.val ve lb) (i.val ve lb) sz off
 |.pp i off=>qRh (ve i) off
 |.agg cs=>.agg ⟨SV.a8 ve lb cs⟩
 |.gd cs=>.tuple ⟨SV.a8 ve lb cs⟩
 |.fn f a b=>.func f ⟨SV.a8 ve lb a⟩ ⟨SV.a8 ve lb b⟩
 |.ll t x=>.iface t (x.val ve lb)
 |.lk b=>.func (.yield (lb b)) #[] #[]
def SV.a8(ve:LH)(lb:LI):LS->LA
 | []=>[]
 |x::xs=>x.val ve lb::SV.a8 ve lb xs
end
mutual
def SV.d(ρ:Nat->D):SV->D
 |.v i=>ρ i
 |.c x=>qIu x
 |.loc _ _=>.nil
 |.ptr _ _ _ _=>.nil
 |.pp i off=>zAI (ρ i) off
 |.agg cs=>.agg (SV.ds ρ cs)
 |.gd cs=>.gd (SV.ds ρ cs)
 |.fn f a b=>.kr f (SV.ds ρ a) (SV.ds ρ b)
 |.ll t x=>.iface t (x.d ρ)
 |.lk _=>.nil
def SV.ds(ρ:Nat->D):LS->LR
 | []=>[]
 |x::xs=>x.d ρ::SV.ds ρ xs
end
inductive TOp where
 |bin (op:BinOp) (t:LN) (x y:LM)
 |isNil (neg:Bool)
 |un (op:UnOp) (t:LN)
 |conv (s d:LN)
 |mz (ag:Bool) (size:Nat)
 |mq (ag:Bool) (size off:Nat)
 |inr
 |elem (sz:Nat) (ag:Bool) (size off:Nat)
 |len (str:Bool)
 |lu (el sz:Nat) (lo hi:Bool)
 |sub (lo hi:Bool)
 |qf
 |ext (i:Nat)
 |app (el sz bytes:Nat)
 |apps (el bytes:Nat)
 |bld (el:Nat)
 |lit (el sz:Nat)
 |k8 (ag:Bool) (size:Nat)
 |box
 |ny
 |nn
 |nh
 |mk (el sz bytes:Nat) (ag:Bool) (z:LA)
 |set (sz:Nat) (ag:Bool) (size off:Nat)
 |ns
 |qg (el sz:Nat)
 |sb (el:Nat)
 |mm (mx:Bool)
 |su (F:LR->LX)
 |pg
 |nw (t:LN) (ok:Bool)
 |ow (t:LN)
 |qm (t:LN)
 |ox
 |ru
 |rz
 |rv
 |ot (el sz:Nat)
 |pz (el sz:Nat) (ag:Bool) (z:LA)
mutual
def D.mg:D->LG
 |.leaf v=>some v
 |.agg cs=>(D.oh cs).map λl=>.agg ⟨l⟩
 |.nil=>some (.slice none 0 0)
 |_=>none
def D.oh:LR->Option (LA)
 | []=>some []
 |d::ds=>match d.mg,D.oh ds with
  |some v,some vs=>some (v::vs)
  |_,_=>none
end
def nI(ag:Bool)(size off:Nat)(cs:LR):LX:=
 bif ag then(bif Nat.ble (off+size) cs.length then some (.agg ((cs.drop off).take size))else none)
 else match cs[off]? with
  |some d=>bif d.one then some d else none
  |none=>none
def cI(ag:Bool)(size:Nat)(d:D):LX:=
 bif ag then(match d with|.agg cs=>bif Nat.beq cs.length size then some d else none|_=>none)
 else bif d.one&&Nat.beq size 1 then some d else none
def natD:D->Option Nat
 |.leaf (.int _ (.ofNat n))=>some n
 |_=>none
def rT(d i:D):LX:=match natD i with
 |some n=>d.es[n]?
 |none=>none
def dL(v:LG):LX:=match v with
 |some v=>bif rU v then some (.leaf v)else none
 |none=>none
def qLd(E:Env)(s d:LN)(v:LQ):LG:=match v with
 |.string b=>match E.types.get s,E.types.get d with
  |some {desc:=.string,..},some {desc:=.slice _,..}=>none
  |_,_=>flat? (zB E.prog (Go.convert s d (.string b)))
 |.pointer _=>none
 |v=>bif zP v then flat? (zB E.prog (Go.convert s d v))else none
def vT(b:Bool)(d:Nat):LR->Option (Nat×LR)
 |l=>bif b then(match l with
  |x::r=>(natD x).map λn=>(n,r)
  | []=>none)else some (d,l)
def yO:D->Option Nat
 |.leaf (.string s)=>some s.size
 |.sl _ _ es=>some es.length
 |.nil=>some 0
 |_=>none
def zD(ag:Bool)(z:LA):D:=bif ag then .agg (z.map qIu)else match z with
 |v::_=>qIu v
 | []=>.nil
def iM(cs:LR)(off:Nat)(xs:LR):LR:=cs.take off++(xs++cs.drop (off+xs.length))
def aG(e:D)(off:Nat)(xs:LR):D:=match e with
 |.agg cs=>.agg (iM cs off xs)
 |_=>match xs with
  | [x]=>x
  |_=>e
def nD:LR->Option (List UInt8)
 | []=>some []
 |.leaf (.int .u8 b)::r=>(nD r).map (UInt8.ofNat b.toNat :: ·)
 |_=>none
def qU7(mx:Bool):LQ->LQ->LG
 |.int k x,.int _ y=>some (.int k (bif mx then(if x<y then y else x)else(if y<x then y else x)))
 |_,_=>none
def zBS(el:Nat):D->Bool
 |.nil=>true
 |.sl vC h es=>Nat.beq vC el&&Nat.beq h 1&&Nat.ble 1 es.length
 |_=>false
def qGx:TypeDesc->Bool
 |.int _|.string|.bool=>true
 |_=>false
def qBo(kd:TypeDesc)(k:LQ):LA->Nat->Option (Option Nat)
 | [],_=>some none
 |x::r,i=>match Instr.sameNow kd k x with
  |some true=>some (some i)
  |some false=>qBo kd k r (i+1)
  |none=>none
def qI6(E:Env)(t:LN):Option (TypeDesc×Bool×LA):=match E.types.get t with
 |some {desc:=.map h x,..}=>match zB E.prog (underlying h),E.types.get x with
  |some kd,some {zero:=some z,agg:=ag,..}=>bif qGx kd then some (kd,ag,z)else none
  |_,_=>none
 |_=>none
def keysD:D->Option (LA×LR)
 |.mp h ds=>some (h,ds)
 |.leaf (.map none)=>some ([],[])
 |_=>none
def qA3(E:Env)(t:LN)(ok:Bool)(m k:D):LX:=match qI6 E t,keysD m,k with
 | some (kd,ag,z),some (x,ds),.leaf h=>match qBo kd h x 0 with
  |some (some i)=>(ds[i]?).map λd=>bif ok then .gd [d,.leaf (.bool true)]else d
  |some none=>match rD ag z with
   |some v=>bif zP v then some (bif ok then .gd [qIu v,.leaf (.bool false)]else qIu v)else none
   |none=>none
  |none=>none
 |_,_,_=>none
def qA2(E:Env)(t:LN)(m k x:D):LX:=match qI6 E t,m,k with
 |some (kd,_,_),.mp y ds,.leaf h=>match qBo kd h y 0 with
  |some (some i)=>some (.mp (y.set i h) (ds.set i x))
  |some none=>some (.mp (y++[h]) (ds++[x]))
  |none=>none
 |_,_,_=>none
def qKy(E:Env)(t:LN)(m k:D):LX:=match qI6 E t,m,k with
 |some (kd,_,_),.mp h ds,.leaf x=>match qBo kd x h 0 with
  |some (some i)=>some (.mp (h.eraseIdx i) (ds.eraseIdx i))
  |some none=>some (.mp h ds)
  |none=>none
 |_,_,_=>none
def qM2(F:LJ->LH):D->D->LX
 |.leaf (.string s),.leaf (.int .i64 (.ofNat n))=>some (.leaf (F s n))
 |_,_=>none
def dD(es:LR)(n:Nat):LR:=es.take (n+1)++(es.drop n).take (es.length-(n+1))
def TOp.eval(E:Env):TOp->LR->LX
 |.mm mx,[.leaf u,.leaf v]=>dL (qU7 mx u v)
 |.bin B t x y,[a,b]=>match a.mg,b.mg with
  |some u,some v=>dL (pA E B t x y u v)
  |_,_=>none
 |.isNil q,[d]=>match d with
  |.nil=>some (.leaf (.bool !q))
  |.sl _ _ _=>some (.leaf (.bool q))
  |_=>none
 |.un B _,[.leaf v]=>bif zP v then dL (flat? (zB E.prog (Op.unary B v)))else none
 |.conv s d,[.leaf v]=>dL (qLd E s d v)
 |.mz ag size,[d]=>cI ag size d
 |.mq ag size off,[d]=>nI ag size off d.cells
 |.inr,[d,i]=>(rT d i).map λ_=>.leaf (.bool true)
 |.elem sz ag size off,[d,i]=>match rT d i with
  |some e=>bif Nat.beq d.rp sz&&Nat.ble (off+(bif ag then size else 1)) sz then(bif ag&&Nat.beq off 0&&Nat.beq size sz then cI true size e else nI ag size off e.cells)else none
  |none=>none
 |.len A,[d]=>match A,d with
  |true,.leaf (.string s)=>some (.leaf (goInt s.size))
  |false,.sl _ _ es=>some (.leaf (goInt es.length))
  |false,.nil=>some (.leaf (goInt 0))
  |_,_=>none
 | .lu el sz lo w,d::r=>match d with
  | .sl vC o es=>match vT lo 0 r with
   |some (l,r)=>match vT w es.length r with
    |some (h,[])=>bif Nat.beq vC el&&Nat.beq o sz&&Nat.ble l h&&Nat.ble h es.length then some (.sl el sz ((es.drop l).take (h-l)))else none
    |_=>none
   |none=>none
  | .nil=>match vT lo 0 r with
   |some (0,r)=>match vT w 0 r with
    |some (0,[])=>some .nil
    |_=>none
   |_=>none
  |_=>none
 | .sub lo w,.leaf (.string s)::r=>match vT lo 0 r with
  |some (l,r)=>match vT w s.size r with
   |some (h,[])=>bif Nat.ble l h&&Nat.ble h s.size then some (.leaf (.string (s.extract l h)))else none
   |_=>none
  |none=>none
 |.qf,[.leaf (.string s),i]=>match natD i with
  |some n=>(s.data.toList[n]?).map λb=>.leaf (.int .u8 b.toNat)
  |none=>none
 |.ext i,[.gd ds]=>ds[i]?
 | .app el sz bytes,[a,b]=>match yO a,b with
  |some n,.nil=>bif Nat.ble (Nat.mul (Nat.add (Nat.mul 4 n) 4000) (Nat.succ bytes)) 100000000000 then some a else none
  |some n,.sl _ o es=>
   bif Nat.ble (Nat.mul (Nat.add (Nat.mul 4 (Nat.add n es.length)) 4000) (Nat.succ bytes)) 100000000000&&Nat.beq o sz&&(match a with|.sl vC o _=>Nat.beq vC el&&Nat.beq o sz|.nil=>true|_=>false)then(bif Nat.beq es.length 0 then some a else some (.sl el sz (a.es++es)))else none
  |_,_=>none
 |.lit el sz,ds=>bif ds.all (λe=>Nat.beq e.cells.length sz)&&Nat.ble (Nat.mul ds.length (Nat.succ sz)) 1000000 then some (.sl el sz ds)else none
 |.k8 ag size,[.ptr cs off]=>nI ag size off cs
 |.box,ds=>some (.ptr ds 0)
 |.ny,[.agg cs]=>some (.ptr cs 0)
 |.nn,[d]=>match d with
  |.kr (.func _) _ _=>some d
  |.ptr _ _=>some d
  |.iface _ _=>some d
  |_=>none
 |.nh,[d]=>match d with
  |.ptr _ _=>some d
  |_=>none
 |.mk el sz bytes ag z,[d]=>match natD d with
  |some n=>bif Nat.beq z.length sz&&z.all (λv=>zP v&&qU v)&&(ag||Nat.beq sz 1)&&Nat.ble (Nat.mul n (Nat.succ (Nat.add bytes sz))) 1000000000 then some (.sl el sz (List.replicate n (zD ag z)))else none
  |none=>none
 |.mk el sz bytes ag z,[C,d]=>match natD C,natD d with
  |some 0,some n=>bif Nat.beq z.length sz&&z.all (λv=>zP v&&qU v)&&(ag||Nat.beq sz 1)&&Nat.ble (Nat.mul n (Nat.succ (Nat.add bytes sz))) 1000000000 then some (.sl el sz [])else none
  |_,_=>none
 | .set sz ag size off,[d,i,x]=>match d,natD i,cI ag size x with
  |.sl el o es,some n,some _=>match es[n]? with
   |some e=>bif Nat.beq o sz&&Nat.ble (off+size) sz then some (.sl el sz (es.set n (aG e off x.cells)))else none
   |none=>none
  |_,_,_=>none
 |.ns,[d]=>match d with
  |.sl _ sz es=>bif Nat.beq sz 1 then(nD es).map λl=>.leaf (.string ⟨⟨l⟩⟩)else none
  |_=>none
 |.qg el sz,[d]=>match d with
  |.nil=>some .nil
  |.sl vC o _=>bif Nat.beq vC el&&Nat.beq o sz then some (.sl el sz [])else none
  |_=>none
 | .apps el bytes,[a,b]=>match b with
  |.leaf (.string s)=>
   bif Nat.ble (Nat.mul (Nat.add (Nat.mul 4 (Nat.add a.es.length s.data.toList.length)) 4000) (Nat.succ bytes)) 100000000000&&zBS el a then(bif Nat.beq s.data.toList.length 0 then some a else some (.sl el 1 (a.es++s.data.toList.map λb=>.leaf (.int .u8 b.toNat))))else none
  |_=>none
 |.bld el,[a]=>match a with
  |.nil=>some (.leaf (.string .empty))
  |.sl vC sz es=>bif Nat.beq vC el&&Nat.beq sz 1&&Nat.ble 1 es.length&&Nat.ble es.length 1000000000 then(nD es).map λl=>.leaf (.string ⟨⟨l⟩⟩)else none
  |_=>none
 |.su F,ds=>F ds
 |.pg,[]=>some (.mp [] [])
 |.nw t ok,[m,k]=>qA3 E t ok m k
 |.ow t,[m,k,x]=>qA2 E t m k x
 |.qm t,[m,k]=>qKy E t m k
 |.ox,[m]=>(keysD m).map λp=>.leaf (goInt p.1.length)
 |.ru,[s,p]=>qM2 (λs n=>.bool (Nat.ble (n+1) s.size)) s p
 |.rz,[s,p]=>qM2 (λs n=>.int .i32 (Utf8.decode s n).1) s p
 |.rv,[s,p]=>qM2 (λs n=>goInt ((n+(Utf8.decode s n).2:Nat):Int)) s p
 |.pz el sz ag z,[d,j]=>match d,j with
  |.sl vC o es,.leaf (.int .i64 (.ofNat n))=>bif Nat.beq vC el&&Nat.beq o sz&&(Nat.ble n es.length&&Nat.ble 1 es.length)&&(Nat.beq z.length sz&&z.all (λv=>zP v&&qU v)&&(ag||Nat.beq sz 1))then some (.sl el sz (es.take n++List.replicate (es.length-n) (zD ag z)))else none
  |_,_=>none
 |.ot el sz,[d,j]=>match d,j with
  |.sl vC o es,.leaf (.int .i64 (.ofNat n))=>bif Nat.beq vC el&&Nat.beq o sz&&Nat.ble (n+1) es.length then some (.sl el sz (dD es n))else none
  |_,_=>none
 |.sb el,[d]=>match d with
  |.leaf (.string s)=>bif Nat.ble s.data.toList.length 1000000000 then some (.sl el 1 (s.data.toList.map λb=>.leaf (.int .u8 b.toNat)))else none
  |_=>none
 |_,_=>none
variable{ag:Bool}{cs r:LR}{el off size:Nat}{s:LJ}{t:LN}{z:LA}
section
variable{E:Env}
theorem bH{op:BinOp}{x y:LM}{a b:D}:TOp.eval E (.bin op t x y) [a,b]=(match a.mg,b.mg with
  |some u,some v=>dL (pA E op t x y u v)
  |_,_=>none):=rfl
theorem qGd{ok:Bool}{m k:D}:TOp.eval E (.nw t ok) [m,k]=qA3 E t ok m k:=rfl
theorem qGb{m k x:D}:TOp.eval E (.ow t) [m,k,x]=qA2 E t m k x:=rfl
theorem qK2{m k:D}:TOp.eval E (.qm t) [m,k]=qKy E t m k:=rfl
theorem qK0{m:D}:TOp.eval E .ox [m]=(keysD m).map λp=>.leaf (goInt p.1.length):=rfl
theorem qXC{s p:D}:TOp.eval E .ru [s,p]=qM2 (λs n=>.bool (Nat.ble (n+1) s.size)) s p:=rfl
theorem qXE{s p:D}:TOp.eval E .rz [s,p]=qM2 (λs n=>.int .i32 (Utf8.decode s n).1) s p:=rfl
theorem qXD{s p:D}:TOp.eval E .rv [s,p]=qM2 (λs n=>goInt ((n+(Utf8.decode s n).2:Nat):Int)) s p:=rfl
theorem qKZ:TOp.eval E .pg []=some (.mp [] []):=rfl
theorem e7{neg:Bool}{d:D}:TOp.eval E (.isNil neg) [d]=(match d with
  |.nil=>some (.leaf (.bool !neg))
  |.sl _ _ _=>some (.leaf (.bool neg))
  |_=>none):=rfl
theorem zBu{op:UnOp}:TOp.eval E (.un op t) [.leaf v]=(bif zP v then dL (flat? (zB E.prog (Op.unary op v)))else none):=rfl
theorem qPN{mx:Bool}{u:LQ}:TOp.eval E (.mm mx) [.leaf u,.leaf v]=dL (qU7 mx u v):=rfl
theorem qSw{s d:LN}:TOp.eval E (.conv s d) [.leaf v]=dL (qLd E s d v):=rfl
theorem sA{d:D}:TOp.eval E (.mz ag size) [d]=cI ag size d:=rfl
theorem qC7{d:D}:TOp.eval E (.mq ag size off) [d]=nI ag size off d.cells:=rfl
theorem qC6{d i:D}:TOp.eval E .inr [d,i]=(rT d i).map λ_=>.leaf (.bool true):=rfl
theorem dA{sz:Nat}{d i:D}:TOp.eval E (.elem sz ag size off) [d,i]=(match rT d i with
  |some e=>bif Nat.beq d.rp sz&&Nat.ble (off+(bif ag then size else 1)) sz then(bif ag&&Nat.beq off 0&&Nat.beq size sz then cI true size e else nI ag size off e.cells)else none
  |none=>none):=rfl
theorem qC5{str:Bool}{d:D}:TOp.eval E (.len str) [d]=(match str,d with
  |true,.leaf (.string s)=>some (.leaf (goInt s.size))
  |false,.sl _ _ es=>some (.leaf (goInt es.length))
  |false,.nil=>some (.leaf (goInt 0))
  |_,_=>none):=rfl
theorem pZ{sz:Nat}{lo y:Bool}{d:D}:TOp.eval E (.lu el sz lo y) (d::r)=(match d with
  | .sl vC x es=>match vT lo 0 r with
   |some (l,r)=>match vT y es.length r with
    |some (h,[])=>bif Nat.beq vC el&&Nat.beq x sz&&Nat.ble l h&&Nat.ble h es.length then some (.sl el sz ((es.drop l).take (h-l)))else none
    |_=>none
   |none=>none
  | .nil=>match vT lo 0 r with
   |some (0,r)=>match vT y 0 r with
    |some (0,[])=>some .nil
    |_=>none
   |_=>none
  |_=>none):=rfl
theorem qC3{lo x:Bool}:TOp.eval E (.sub lo x) (.leaf (.string s)::r)=(match vT lo 0 r with
  |some (l,r)=>match vT x s.size r with
   |some (h,[])=>bif Nat.ble l h&&Nat.ble h s.size then some (.leaf (.string (s.extract l h)))else none
   |_=>none
  |none=>none):=rfl
theorem qJA{i:D}:TOp.eval E .qf [.leaf (.string s),i]=(match natD i with
  |some n=>(s.data.toList[n]?).map λb=>.leaf (.int .u8 b.toNat)
  |none=>none):=rfl
theorem qJz{ds:LR}:TOp.eval E (.ext i) [.gd ds]=ds[i]? :=rfl
theorem eZ{sz:Nat}{ds:LR}:TOp.eval E (.lit el sz) ds=(bif ds.all (λe=>Nat.beq e.cells.length sz)&&Nat.ble (Nat.mul ds.length (Nat.succ sz)) 1000000 then some (.sl el sz ds)else none):=by
 cases ds with
 |nil=>rfl
 |cons a l=>cases l with
  |nil=>cases a<;>rfl
  |cons b l=>cases l<;>rfl
theorem bI{sz bytes:Nat}{a b:D}:TOp.eval E (.app el sz bytes) [a,b]=(match yO a,b with
  |some n,.nil=>bif Nat.ble (Nat.mul (Nat.add (Nat.mul 4 n) 4000) (Nat.succ bytes)) 100000000000 then some a else none
  |some n,.sl _ h es=>
   bif Nat.ble (Nat.mul (Nat.add (Nat.mul 4 (Nat.add n es.length)) 4000) (Nat.succ bytes)) 100000000000&&Nat.beq h sz&&(match a with|.sl vC h _=>Nat.beq vC el&&Nat.beq h sz|.nil=>true|_=>false)then(bif Nat.beq es.length 0 then some a else some (.sl el sz (a.es++es)))else none
  |_,_=>none):=rfl
theorem qHR:TOp.eval E (.k8 ag size) [.ptr cs off]=nI ag size off cs:=rfl
theorem qGf{ds:LR}:TOp.eval E .box ds=some (.ptr ds 0):=by
 cases ds with
 |nil=>rfl
 |cons a l=>cases l with
  |nil=>cases a<;>rfl
  |cons b l=>cases l<;>rfl
theorem iE:TOp.eval E .ny [.agg cs]=some (.ptr cs 0):=rfl
theorem qVh{d:D}:TOp.eval E .nn [d]=(match d with
  |.kr (.func _) _ _=>some d
  |.ptr _ _=>some d
  |.iface _ _=>some d
  |_=>none):=rfl
theorem qK1{sz bytes:Nat}{d:D}:TOp.eval E (.mk el sz bytes ag z) [d]=(match natD d with
  |some n=>bif Nat.beq z.length sz&&z.all (λv=>zP v&&qU v)&&(ag||Nat.beq sz 1)&&Nat.ble (Nat.mul n (Nat.succ (Nat.add bytes sz))) 1000000000 then some (.sl el sz (List.replicate n (zD ag z)))else none
  |none=>none):=rfl
theorem qGc{sz bytes:Nat}{h d:D}:TOp.eval E (.mk el sz bytes ag z) [h,d]=(match natD h,natD d with
  |some 0,some n=>bif Nat.beq z.length sz&&z.all (λv=>zP v&&qU v)&&(ag||Nat.beq sz 1)&&Nat.ble (Nat.mul n (Nat.succ (Nat.add bytes sz))) 1000000000 then some (.sl el sz [])else none
  |_,_=>none):=rfl
theorem aZ{sz:Nat}{d i x:D}:TOp.eval E (.set sz ag size off) [d,i,x]=(match d,natD i,cI ag size x with
  |.sl el h es,some n,some _=>match es[n]? with
   |some e=>bif Nat.beq h sz&&Nat.ble (off+size) sz then some (.sl el sz (es.set n (aG e off x.cells)))else none
   |none=>none
  |_,_,_=>none):=rfl
theorem qPP{sz:Nat}{d j:D}:TOp.eval E (.pz el sz ag z) [d,j]=(match d,j with
  |.sl vC h es,.leaf (.int .i64 (.ofNat n))=>bif Nat.beq vC el&&Nat.beq h sz&&(Nat.ble n es.length&&Nat.ble 1 es.length)&&(Nat.beq z.length sz&&z.all (λv=>zP v&&qU v)&&(ag||Nat.beq sz 1))then some (.sl el sz (es.take n++List.replicate (es.length-n) (zD ag z)))else none
  |_,_=>none):=by
 unfold TOp.eval;rfl
theorem qPO{sz:Nat}{d j:D}:TOp.eval E (.ot el sz) [d,j]=(match d,j with
  |.sl vC h es,.leaf (.int .i64 (.ofNat n))=>bif Nat.beq vC el&&Nat.beq h sz&&Nat.ble (n+1) es.length then some (.sl el sz (dD es n))else none
  |_,_=>none):=rfl
theorem qPM{d:D}:TOp.eval E .ns [d]=(match d with
  |.sl _ sz es=>bif Nat.beq sz 1 then(nD es).map λl=>.leaf (.string ⟨⟨l⟩⟩)else none
  |_=>none):=rfl
theorem qKY{sz:Nat}{d:D}:TOp.eval E (.qg el sz) [d]=(match d with
  |.nil=>some .nil
  |.sl vC h _=>bif Nat.beq vC el&&Nat.beq h sz then some (.sl el sz [])else none
  |_=>none):=rfl
theorem qPQ{d:D}:TOp.eval E (.sb el) [d]=(match d with
  |.leaf (.string s)=>bif Nat.ble s.data.toList.length 1000000000 then some (.sl el 1 (s.data.toList.map λb=>.leaf (.int .u8 b.toNat)))else none
  |_=>none):=rfl
theorem iD{d:D}:TOp.eval E .nh [d]=(match d with
  |.ptr _ _=>some d
  |_=>none):=rfl
end
structure St where
 db:List VSt
 af:T SV
 ae:List (Option Blk)
 sz:Nat
 kh:List (List (Nat×SV)):=[]
def St.n(S:St):Nat:=S.db.length
def St.lh(S:St)(i:Nat):Bool:=match S.db[i]? with
 |some ⟨.pure,_⟩=>true
 |some ⟨.full,_⟩=>true
 |some ⟨.ptr,_⟩=>true
 |_=>false
def St.pa(S:St)(i:Nat):Bool:=match S.db[i]? with
 |some ⟨.ptr,_⟩=>true
 |_=>false
def St.pt(S:St)(i:Nat):Bool:=match S.db[i]? with
 |some ⟨.dead,_⟩=>false
 |some _=>true
 |none=>false
def St.ca(S:St)(i:Nat):Bool:=match S.db[i]? with
 |some ⟨.fresh,_⟩=>true
 |_=>false
def St.ov(S:St)(i:Nat):Bool:=match S.db[i]? with
 |some ⟨_,o⟩=>o
 |none=>false
def eJ(S:St):SV->Bool
 |.v i=>S.ov i
 |.c x=>qU x
 |.agg _|.gd _=>false
 |_=>true
mutual
def wT(S:St):SV->Bool
 |.v i=>S.lh i
 |.c x=>zP x
 |.loc _ _=>false
 |.ptr _ _ _ _=>false
 |.pp i _=>S.pa i
 |.agg cs=>cT S cs&&cs.all (eJ S)
 |.gd cs=>cT S cs
 |.fn f a b=>rM f&&cT S a&&cT S b
 |.ll _ x=>wT S x
 |.lk _=>false
def cT(S:St):LS->Bool
 | []=>true
 |x::xs=>wT S x&&cT S xs
end
def yB(S:St):SV->Bool
 |.v i=>S.pt i
 |x=>wT S x
def uC:VSt->VSt
 |⟨.fresh,o⟩=>⟨.pure,o⟩
 |s=>s
def St.freeze(S:St)(i:Nat):St:={S with db:=S.db.modify i uC}
def St.kill(S:St)(i:Nat):St:={S with db:=S.db.modify i λs=>⟨.dead,s.one⟩}
mutual
def rL(S:St):SV->St
 |.v i=>S.freeze i
 |.agg cs=>jC S cs
 |.gd cs=>jC S cs
 |.fn _ a b=>jC (jC S a) b
 |.ll _ x=>rL S x
 |_=>S
def jC(S:St):LS->St
 | []=>S
 |x::xs=>jC (rL S x) xs
end
def St.put(S:St)(h:Option Tmp)(x:SV):Option St:=match h with
 |some d=>bif Nat.ble (d+1) S.sz then some {S with af:=S.af.put d (some x)}else none
 |none=>some S
def St.new(S:St)(k:VK)(one:Bool):St:={S with db:=S.db++[⟨k,one⟩]}
def SV.known(i:Nat)(b:Bool):SV->SV
 |.v j=>bif Nat.beq j i then .c (.bool b)else .v j
 |x=>x
def St.known(S:St)(i:Nat)(b:Bool):St:={S with af:=S.af.map (SV.known i b)}
inductive Tgt where
 |fn (f:LO)
 |val (x:SV)
 |rb (x:SV) (name:String)
inductive Tree where
 |fail
 |stop (k:Nat) (S:St)
 |ret (xs:LS)
 |jump (k:Nat) (args:LS)
 |bind (o:TOp) (args:LS) (rest:Tree)
 |call (tg:Tgt) (args:LS) (flat:Nat) (rest:Tree)
 |l4 (f:LO) (m:Mode) (args:LS) (rest:Tree)
 |ite (c:SV) (a b:Tree)
abbrev LW:=List (Nat×Tree)
abbrev LV:=Nat->Tree
abbrev K1:=SV->St->Tree
def nA(S:St):LM->Option SV
 |.tmp t=>S.af.get t
 |.const v=>bif zP v then some (.c v)else none
 |.global _=>none
 |.func f=>some (.fn (.func f) [] [])
def dS(S:St):List LM->Option (LS)
 | []=>some []
 |x::xs=>match nA S x,dS S xs with
  |some a,some l=>some (a::l)
  |_,_=>none
def xD(o:TOp)(args:LS)(k:VK)(one:Bool)(S:St)(κ:K1):Tree:=
 bif args.all (yB S)then .bind o args (κ (.v S.n) (S.new k one))else .fail
def qIh(o:TOp)(args:LS)(k:VK)(one:Bool)(S:St)(κ:K1):Tree:=
 let S:=jC S args
 bif args.all (wT S)then .bind o args (κ (.v S.n) (S.new k one))else .fail
def qKT(i:Nat):Nat->Nat->LS->St->(LS->St->Tree)->Tree
 |0,_,acc,S,κ=>κ acc S
 |n+1,k,acc,S,κ=>xD (.mq false 1 k) [.v i] .pure true S λy S=>qKT i n (k+1) (acc++[y]) S κ
def sH(ag:Bool)(size:Nat)(x:LQ):Option (LS):=
 let l:=x.cells.toList
 bif zP x&&Nat.beq l.length size&&(match x with|.agg _=>ag|.tuple _=>false|_=>!ag)then some (l.map .c)else none
def nC(x:SV)(ag:Bool)(size:Nat)(S:St)(κ:LS->St->Tree):Tree:=match x with
 |.agg cs=>bif ag&&Nat.beq cs.length size&&cs.all (eJ S)then κ cs S else .fail
 |.c v=>match sH ag size v with
  |some l=>κ l S
  |none=>.fail
 | .v i=>bif ag then xD (.mz true size) [.v i] .pure false S λy S=>match y with
    |.v j=>qKT j size 0 [] S κ
    |_=>.fail
   else bif Nat.beq size 1 then(bif S.ov i&&S.pt i then κ [.v i] S else qIh (.mz false 1) [.v i] .pure true S λy S=>κ [y] S)else .fail
 |.gd _=>.fail
 |.lk _=>.fail
 |x=>bif !ag&&Nat.beq size 1 then κ [x] S else .fail
def yP:LS->Nat->LS->Option (LS)
 |cs,0,[]=>some cs
 | [],0,_::_=>none
 |_::cs,0,v::vs=>(yP cs 0 vs).map (v :: ·)
 | [],_+1,_=>none
 |c::cs,i+1,vs=>(yP cs i vs).map (c :: ·)
def qAY(ag:Bool)(size off:Nat)(cs:LS):Option SV:=
 bif ag then(bif Nat.ble (off+size) cs.length then some (.agg ((cs.drop off).take size))else none)
 else cs[off]?
def qDu(E:Env)(S:St)(h:Nat->Option (Nat×Nat×Bool))(cs:LS):List (Nat×LM)->(LS->St->Tree)->Tree
 | [],κ=>κ cs S
 | (i,x)::r,κ=>match h i,nA S x with
  |some (off,size,ag),some y=>nC y ag size S λl S=>match yP cs off l with
   |some cs'=>qDu E S h cs' r κ
   |none=>.fail
  |_,_=>.fail
def qAG(size:Nat)(ag:Bool)(acc:LS)(S:St):List (Nat×LM)->(LS->St->Tree)->Tree
 | [],κ=>κ acc S
 |(i,x)::r,κ=>match nA S x with
  |some y=>bif Nat.beq i acc.length then(bif yB S y then .bind (.mz ag size) [y] (qAG size ag (acc++[y]) (S.new .dead false) r κ)else bif yB (rL S y) y then .bind (.mz ag size) [y] (qAG size ag (acc++[y]) ((rL S y).new .dead false) r κ)else .fail)else .fail
  |none=>.fail
def qQk(E:Env)(t:LN):Bool:=match E.types.get t with
 |some {desc:=.bool,..}|some {desc:=.int _,..}|some {desc:=.string,..}=>true
 |_=>false
def qPy(E:Env)(f:LO):Nat:=match E.prog.funcs[f]? with
 |some fn=>match fn.resultTypes.toList with
  | [t]=>bif qQk E t then 1 else 0
  |ts=>bif ts.all (qQk E)then 2 else 0
 |none=>0
def qH9(E:Env)(x:Tgt)(args:LS)(h:Nat)(S:St)(κ:K1):Tree:=
 match h with
 |0=>
  let S:=jC S args
  bif args.all (wT S)then .call x args 0 (κ (.v S.n) (S.new .pure false))else .fail
 |y=>
  bif args.all (wT (jC S args))then .call x args y (κ (.v S.n) (S.new .pure (Nat.beq y 1)))else .fail
def St.boxed(S:St)(b:Nat):St:={S.new .ptr true with ae:=S.ae.set b none,af:=S.af.map λx=>match x with|.loc h off=>bif Nat.beq h b then .pp S.n off else .loc h off|x=>x}
def qIe:LS->LS->St->(LS->St->Tree)->Tree
 | [],acc,S,κ=>κ acc S
 | .loc b 0::r,acc,S,κ=>match S.ae[b]? with
  |some (some (.cells cs))=>
   let S:=jC S cs
   bif cs.all (wT S)&&cs.all (eJ S)then .bind .box cs (qIe r (acc++[.pp S.n 0]) (S.boxed b) κ)else .fail
  |some (some (.whole x _))=>bif wT S x then .bind .ny [x] (qIe r (acc++[.pp S.n 0]) (S.boxed b) κ)else .fail
  |_=>.fail
 |x::r,acc,S,κ=>qIe r (acc++[x]) S κ
def Pat.st(p:Pat)(sz:Nat):St:={db:=p.db,af:=p.af.foldl (λt (k,x)=>t.put k (some x)) .leaf,ae:=p.ae,sz:=sz,kh:=p.kh}
def qKg:LQ->LQ->Bool
 |.bool a,.bool b=>a==b
 |.int k m,.int k' n=>decide (k=k')&&decide (m=n)
 |.string a,.string b=>decide (a=b)
 |.slice none 0 0,.slice none 0 0=>true
 |.pointer none,.pointer none=>true
 |.nilFunc,.nilFunc=>true
 |.nilIface,.nilIface=>true
 |_,_=>false
def qKW(i:Nat):List (Nat×SV)->Option Nat
 | []=>none
 |(t,.v j)::r=>bif Nat.beq i j then some t else qKW i r
 |_::r=>qKW i r
def cellsOf:Option Blk->LS
 |some (.cells cs)=>cs
 |some (.whole x _)=>[x]
 |some (.loop _ _)=>[]
 |some (.b5 _ cs)=>cs
 |none=>[]
def zBr(i:Nat):SV->SV->Option SV
 |.pp j _,.pp k _=>bif Nat.beq i j then some (.v k)else none
 |.fn _ _ (.pp j _::_),.fn _ _ (.pp k _::_)=>bif Nat.beq i j then some (.v k)else none
 |_,_=>none
def qJo(i:Nat)(t:T SV):List (Nat×SV)->Option SV
 | []=>none
 | (u,x)::r=>match t.get u with
  |some y=>match zBr i x y with
   |some z=>some z
   |none=>qJo i t r
  |none=>qJo i t r
def qBg(i:Nat):List (Option Blk)->List (Option Blk)->Option SV
 |some (.cells cs)::r,some (.cells cs')::h=>match (cs.zip cs').find? (λp=>match p.1 with|.v j=>Nat.beq i j|_=>false)with
  |some p=>some p.2
  |none=>qBg i r h
 |some (.b5 _ cs)::r,some (.b5 _ cs')::h=>match (cs.zip cs').find? (λp=>match p.1 with|.v j=>Nat.beq i j|_=>false)with
  |some p=>some p.2
  |none=>qBg i r h
 |some (.whole x _)::r,some (.whole y _)::h=>match x with
  |.v j=>bif Nat.beq i j then some y else qBg i r h
  |_=>qBg i r h
 |some (.whole x n)::r,some (.cells cs)::h=>match x with
  |.v j=>bif Nat.beq i j&&Nat.beq n cs.length then some (.agg cs)else qBg i r h
  |_=>qBg i r h
 |_::r,_::h=>qBg i r h
 |_,_=>none
def qPt(t:Nat):List (Nat×SV)->Option SV
 | []=>none
 |(u,x)::r=>bif Nat.beq u t then some x else qPt t r
def qVg(i:Nat):List (List (Nat×SV))->List (List (Nat×SV))->Option SV
 |l::r,x::h=>match qKW i l with
  |some t=>qPt t x
  |none=>qVg i r h
 |_,_=>none
def zBV(p:Pat)(S:St)(i:Nat):Option SV:=match qKW i p.af with
 |some t=>S.af.get t
 | none=>match qBg i p.ae S.ae with
  |some x=>some x
  |none=>match qVg i p.kh S.kh with
   |some x=>some x
   |none=>qJo i S.af p.af
def qQm(p:Pat)(S:St):Nat->Nat->Option (LS)
 |0,_=>some []
 |n+1,i=>match zBV p S i,qQm p S n (i+1)with
  |some x,some l=>some (x::l)
  |_,_=>none
mutual
def fits(az:LS):SV->SV->Bool
 |.v i,y=>match az[i]? with
  |some x=>qAU x y
  |none=>false
 |.c x,.c y=>qKg x y
 |.loc b o,.loc h l=>Nat.beq b h&&Nat.beq o l
 |.pp i o,.pp j l=>Nat.beq o l&&(match az[i]? with|some (.v k)=>Nat.beq k j|_=>false)
 |.agg cs,.agg cs'=>uE az cs cs'
 |.gd cs,.gd cs'=>uE az cs cs'
 |.fn (.func f) a b,.fn (.func q) u h=>Nat.beq f q&&uE az a u&&uE az b h
 |.ll t x,.ll p y=>Nat.beq t p&&fits az x y
 |.lk b,.lk h=>Nat.beq b h
 |_,_=>false
def uE(az:LS):LS->LS->Bool
 | [],[]=>true
 |x::xs,y::ys=>fits az x y&&uE az xs ys
 |_,_=>false
def qAU:SV->SV->Bool
 |.v i,.v j=>Nat.beq i j
 |.c x,.c y=>qKg x y
 |.loc b o,.loc k h=>Nat.beq b k&&Nat.beq o h
 |.pp i o,.pp j h=>Nat.beq i j&&Nat.beq o h
 |.agg cs,.agg cs'=>aH cs cs'
 |.gd cs,.gd cs'=>aH cs cs'
 |.fn (.func f) a b,.fn (.func p) q k=>Nat.beq f p&&aH a q&&aH b k
 |.ll t x,.ll l y=>Nat.beq t l&&qAU x y
 |_,_=>false
def aH:LS->LS->Bool
 | [],[]=>true
 |x::xs,y::ys=>qAU x y&&aH xs ys
 |_,_=>false
end
def qAA(az:LS):Option Blk->Option Blk->Bool
 |none,_=>true
 |some (.cells cs),some (.cells cs')=>uE az cs cs'
 |some (.whole x n),some (.whole y m)=>Nat.beq n m&&fits az x y
 |some (.whole x n),some (.cells cs)=>Nat.beq n cs.length&&fits az x (.agg cs)
 |some (.loop st pd),some (.loop h j)=>Nat.beq st h&&Nat.beq pd j
 |some (.b5 t cs),some (.b5 k cs')=>Nat.beq t k&&uE az cs cs'
 |_,_=>false
def uF(az:LS):List (Option Blk)->List (Option Blk)->Bool
 | [],_=>true
 |b::h,c::cs=>qAA az b c&&uF az h cs
 |_::_,[]=>false
def oS:List VSt->LS->LS
 |⟨.pure,_⟩::r,x::xs=>x::oS r xs
 |⟨.full,_⟩::r,x::xs=>x::oS r xs
 |⟨.ptr,_⟩::r,x::xs=>x::oS r xs
 |_::r,_::xs=>oS r xs
 |_,_=>[]
def St.rj(S:St)(i:Nat):Bool:=match S.db[i]? with
 |some ⟨.full,_⟩=>true
 |_=>false
def qAx(S:St):SV->Bool
 |.c (.slice none 0 0)=>true
 |.v i=>S.ca i||S.rj i
 |_=>false
def qVk(db:List VSt)(az:LS)(i j:Nat):Bool:=match db[i]?,db[j]?,az[i]?,az[j]? with
 |some ⟨.fresh,_⟩,some ⟨.fresh,_⟩,some (.v a),some (.v b)=>Nat.beq i j|| !(Nat.beq a b)
 |_,_,_,_=>true
def qEW(h:List VSt)(az:LS):Bool:=(List.range h.length).all λi=>(List.range h.length).all λj=>qVk h az i j
mutual
def qM5(n m:Nat):SV->Bool
 |.v i=>Nat.blt i n
 |.c _=>true
 |.loc b _=>Nat.blt b m
 |.ptr s i _ _=>qM5 n m s&&qM5 n m i
 |.pp i _=>Nat.blt i n
 |.agg cs=>qGw n m cs
 |.gd cs=>qGw n m cs
 |.fn _ a b=>qGw n m a&&qGw n m b
 |.ll _ x=>qM5 n m x
 |.lk b=>Nat.blt b m
def qGw(n m:Nat):LS->Bool
 | []=>true
 |x::xs=>qM5 n m x&&qGw n m xs
end
def qVq(n m:Nat):Option Blk->Bool
 |none=>true
 |some (.cells cs)=>qGw n m cs
 |some (.whole x _)=>qM5 n m x
 |some (.loop _ _)=>true
 |some (.b5 _ cs)=>qGw n m cs
def aF(S:St):List VSt->LS->Bool
 | [],[]=>true
 | ⟨k,o⟩::r,x::xs=>(match k with
   |.pure=>wT S x
   |.full=>(match x with|.v i=>(match S.db[i]? with|some ⟨.full,_⟩=>true|_=>false)|_=>false)
   |.ptr=>(match x with|.v i=>S.pa i|_=>false)
   |.fresh=>qAx S x
   |.dead=>!o)&&(!o||eJ S x)&&aF S r xs
 |_,_=>false
def qCZ(n m:Nat)(az:LS):List (List (Nat×SV))->List (List (Nat×SV))->Bool
 | [],[]=>true
 |l::r,j::h=>l.all (λ(t,x)=>qM5 n m x&&match qPt t j with|some y=>fits az x y|none=>false)&&qCZ n m az r h
 |_,_=>false
def dN(sz:Nat)(p:Pat)(az:LS)(S:St):Bool:=
 Nat.beq S.sz sz&&p.af.all (λ(t,x)=>qM5 p.db.length p.ae.length x&&(match S.af.get t with|some y=>fits az x y|none=>false))&&p.ae.all (qVq p.db.length p.ae.length)&&uF az p.ae S.ae&&aF S p.db az&&qEW p.db az&&qCZ p.db.length p.ae.length az p.kh S.kh
def qKK(h:LS->Tree)(sz:Nat)(p:Pat)(S:St):Tree:=match qQm p S p.db.length 0 with
 |none=>.fail
 |some az=>
  let S:=jC S (oS p.db az)
  bif dN sz p az S then h az else .fail
def wN(sz:Nat)(p:Pat)(k:Nat)(S:St):Tree:=qKK (.jump k) sz p S
mutual
def qPq:SV->Bool
 |.loc _ _=>true
 |.ptr _ _ _ _=>true
 |.agg cs=>lX cs
 |.gd cs=>lX cs
 |.fn _ a b=>lX a||lX b
 |.ll _ x=>qPq x
 |.lk _=>true
 |_=>false
def lX:LS->Bool
 | []=>false
 |x::xs=>qPq x||lX xs
end
mutual
def qO3:SV->LC
 |.loc b _=>[b]
 |.agg cs=>nO cs
 |.gd cs=>nO cs
 |.fn _ a b=>nO a++nO b
 |.ll _ x=>qO3 x
 |_=>[]
def nO:LS->LC
 | []=>[]
 |x::xs=>qO3 x++nO xs
end
def qS6(l:LC)(n:Nat):LC:=bif l.any (Nat.beq n)then l else l++[n]
def qYl:Option Blk->LS
 |some (.cells cs)=>cs
 |some (.whole x _)=>[x]
 |some (.loop _ _)=>[]
 |some (.b5 _ cs)=>cs
 |none=>[]
def qGs(S:St):Nat->LC->LC
 |0,l=>l
 |n+1,l=>qGs S n (l.foldl (λl b=>(nO (qYl (S.ae[b]?.getD none))).foldl qS6 l) l)
def qR4(b:Nat):LC->Nat->Option Nat
 | [],_=>none
 |c::r,i=>bif Nat.beq c b then some i else qR4 b r (i+1)
mutual
def SV.nv(bm:LC):SV->Option SV
 |.v i=>some (.v i)
 |.c x=>some (.c x)
 |.loc b o=>match qR4 b bm 0 with
  |some k=>some (.loc k o)
  |none=>none
 |.ptr _ _ _ _=>none
 |.pp i o=>some (.pp i o)
 |.agg cs=>match SV.na bm cs with
  |some l=>some (.agg l)
  |none=>none
 |.gd cs=>match SV.na bm cs with
  |some l=>some (.gd l)
  |none=>none
 |.fn f a b=>match SV.na bm a,SV.na bm b with
  |some a,some b=>some (.fn f a b)
  |_,_=>none
 |.ll t x=>match SV.nv bm x with
  |some x=>some (.ll t x)
  |none=>none
 |.lk _=>none
def SV.na(bm:LC):LS->Option (LS)
 | []=>some []
 |x::xs=>match SV.nv bm x,SV.na bm xs with
  |some y,some l=>some (y::l)
  |_,_=>none
end
def Blk.nv(bm:LC):Blk->Option Blk
 |.loop _ _=>none
 |.b5 _ _=>none
 |.cells cs=>match SV.na bm cs with
  |some l=>some (.cells l)
  |none=>none
 |.whole x n=>match SV.nv bm x with
  |some y=>some (.whole y n)
  |none=>none
def fA(S:St)(bm:LC):LC->Option (List (Option Blk))
 | []=>some []
 | b::r=>match S.ae[b]?,fA S bm r with
  |some (some x),some l=>match x.nv bm with
   |some y=>some (some y::l)
   |none=>none
  |_,_=>none
def St.pc(S:St)(l:LS)(h:List (Option Blk)):St:={db:=S.db,af:=T.ofList .leaf 0 l,ae:=h,sz:=l.length}
mutual
def SV.mj(n:Nat)(bm:LC):SV->SV
 |.v i=>.v (Nat.add n i)
 |.c x=>.c x
 |.loc k o=>.loc (bm.getD k 0) o
 |.ptr s i sz off=>.ptr (SV.mj n bm s) (SV.mj n bm i) sz off
 |.pp i o=>.pp (Nat.add n i) o
 |.agg cs=>.agg (SV.mh n bm cs)
 |.gd cs=>.gd (SV.mh n bm cs)
 |.fn f a b=>.fn f (SV.mh n bm a) (SV.mh n bm b)
 |.ll t x=>.ll t (SV.mj n bm x)
 |.lk b=>.lk (bm.getD b 0)
def SV.mh(n:Nat)(bm:LC):LS->LS
 | []=>[]
 |x::xs=>SV.mj n bm x::SV.mh n bm xs
end
def Blk.mj(n:Nat)(bm:LC):Blk->Blk
 |.loop a b=>.loop a b
 |.b5 t cs=>.b5 t (SV.mh n bm cs)
 |.cells cs=>.cells (SV.mh n bm cs)
 |.whole x k=>.whole (SV.mj n bm x) k
def tA(n:Nat)(bm:LC):LC->List (Option Blk)->List (Option Blk)->List (Option Blk)
 |b::h,x::xs,l=>tA n bm h xs (l.set b (x.map (Blk.mj n bm)))
 |b::h,[],l=>tA n bm h [] (l.set b none)
 | [],_,l=>l
def cH(l:List VSt):SV->List VSt
 |.v i=>l.modify i λs=>match s with|⟨.fresh,o⟩=>⟨.dead,o⟩|s=>s
 |_=>l
def St.after(S:St)(m:Mode)(bm:LC)(az:LS):St:=
 {db:=az.foldl cH S.db++m.out.db,af:=S.af,ae:=tA S.n bm bm m.out.ae S.ae,sz:=S.sz,kh:=S.kh}
def qKk(m:Mode)(n:Nat)(bm:LC):SV:=match m.out.af with
 | [(_,x)]=>SV.mj n bm x
 |l=>.gd (SV.mh n bm (l.map Prod.snd))
structure Hint where
 name:String
 fresh:LC
 spec:LC
 res:Bool
 /-- the places of the calls it is meant for; none: all -/
 only:List String:=[]
def zBi:List Hint:=[
 ⟨"slices.Clone[[]uint8,uint8]", [], [], true, []⟩,
 ⟨"slices.Clone[[]byte,byte]", [], [], true, []⟩,
 ⟨"slices.Clone[[]langdoc/api.Analysis,langdoc/api.Analysis]", [], [], true, []⟩,
 ⟨"slices.DeleteFunc[[]langdoc/api.Analysis,langdoc/api.Analysis]", [0], [], false, []⟩,
 ⟨"slices.AppendSeq[[]int,int]", [0], [1], true, []⟩,
 ⟨"slices.Clone[[]langdoc/api.Rewrite,langdoc/api.Rewrite]", [], [], true, []⟩,
 ⟨"slices.Insert[[]langdoc/api.Rewrite,langdoc/api.Rewrite]", [0, 2], [], true, []⟩,
 ⟨"slices.Delete[[]langdoc/api.Rewrite,langdoc/api.Rewrite]", [0], [], true, []⟩,
 ⟨"langdoc/wire.varint", [0], [], true, []⟩,
 ⟨"langdoc/langdocref04.PutInt", [], [], true, ["ref.go:22"]⟩,
 ⟨"langdoc/wire.put[uint8]", [0], [2], true, []⟩,
 ⟨"langdoc/wire.put[byte]", [0], [2], true, []⟩,
 ⟨"langdoc/wire.put[int]", [0], [2], true, []⟩,
 ⟨"langdoc/wire.PutText$1", [0], [], true, []⟩,
 ⟨"langdoc/change.changed", [], [1], false, []⟩]
def qF2(E:Env)(f:LO):Option Hint:=match E.prog.funcs[f]? with
 |some fn=>zBi.find? λh=>h.name==fn.name
 |none=>none
def zBa: List String := ["langdoc/relate.Reach$1", "langdoc/analyze.All$1", "langdoc/analyze.All$2", "langdoc/analyze.Uses$1", "langdoc/analyze.Bases$1"]
def qVa(E:Env):Fn->Bool
 |.func g=>match E.prog.funcs[g]? with
  |some fn=>zBa.any (·== fn.name)
  |none=>false
 |_=>false
def qYU(E:Env)(o:Oper)(f:LO)(l:LS):Bool:=lX l||(match qF2 E f with|some h=>h.only.isEmpty||h.only.any (λp=>p==o.pos)|none=>false)
def zAX(n:Nat)(l:LC):Bool:=l.any (Nat.beq n)
mutual
def qSQ(S:St):SV->LS->List VSt->SV×LS×List VSt
 |.loc k o,az,db=>(.loc k o,az,db)
 | .fn f a b,az,db=>bif lX a||lX b then
   (match qH8 S a az db with
   |(a,az,db)=>match qH8 S b az db with
    |(b,az,db)=>(.fn f a b,az,db))
  else(.v az.length,az++[.fn f a b],db++[⟨.pure,false⟩])
 |x,az,db=>(.v az.length,az++[x],db++[⟨.pure,false⟩])
def qH8(S:St):LS->LS->List VSt->LS×LS×List VSt
 | [],az,db=>([],az,db)
 | x::xs,az,db=>match qSQ S x az db with
  |(x,az,db)=>match qH8 S xs az db with
   |(xs,az,db)=>(x::xs,az,db)
end
def qVo(S:St)(fr sp:LC):Nat->LS->LS->List VSt->LS×LS×List VSt
 |_,[],az,db=>([],az,db)
 | n,x::xs,az,db=>match (bif zAX n fr&&qAx S x then(.v az.length,az++[x],db++[⟨.fresh,true⟩])else
   bif zAX n sp then(match x with
    | .fn f a b=>(match qH8 S a az db with
     |(a,az,db)=>match qH8 S b az db with
      |(b,az,db)=>(.fn f a b,az,db))
    |x=>qSQ S x az db)
   else qSQ S x az db:SV×LS×List VSt)with
  |(x,az,db)=>match qVo S fr sp (n+1) xs az db with
   |(xs,az,db)=>(x::xs,az,db)
def qVm(S:St):LS->LS->List VSt->LS×LS×List VSt
 | [],az,db=>([],az,db)
 | x::xs,az,db=>match (bif qAx S x then(.v az.length,az++[x],db++[⟨.fresh,true⟩])else match qSQ S x az db with
   |(.v n,y,h)=>(.v n,y,bif eJ S x then h.dropLast++[⟨.pure,true⟩]else h)
   |r=>r:SV×LS×List VSt)with
  |(x,az,db)=>match qVm S xs az db with
   |(xs,az,db)=>(x::xs,az,db)
def qVn(S:St):List (Option Blk)->LS->List VSt->List (Option Blk)×LS×List VSt
 | [],az,db=>([],az,db)
 | b::h,az,db=>match (match b with
   |some (.cells cs)=>(match qVm S cs az db with|(cs,az,db)=>(some (.cells cs),az,db))
   |some (.whole x n)=>(some (.whole (.v az.length) n),az++[x],db++[⟨.pure,false⟩])
   |some (.loop a b)=>(some (.loop a b),az,db)
   |some (.b5 t cs)=>(some (.b5 t cs),az,db)
   |none=>(none,az,db):Option Blk×LS×List VSt)with
  |(b,az,db)=>match qVn S h az db with
   |(h,az,db)=>(b::h,az,db)
def qU0(h:List VSt):LS->List VSt->LS×List VSt
 | [],o=>([],o)
 | x::xs,o=>match (match x with
   |.v i=>(.v o.length,o++[h.getD i ⟨.pure,false⟩])
   |x=>(x,o):SV×List VSt)with
  |(x,o)=>match qU0 h xs o with
   |(xs,o)=>(x::xs,o)
def qU1(h:List VSt):List (Option Blk)->List VSt->List (Option Blk)×List VSt
 | [],o=>([],o)
 | b::x,o=>match (match b with
   |some (.cells cs)=>(match qU0 h cs o with|(cs,o)=>(some (.cells cs),o))
   |some (.whole _ n)=>(some (.whole (.v o.length) n),o++[⟨.pure,false⟩])
   |some (.loop a b)=>(some (.loop a b),o)
   |some (.b5 t cs)=>(some (.b5 t cs),o)
   |none=>(none,o):Option Blk×List VSt)with
  |(b,o)=>match qU1 h x o with
   |(x,o)=>(b::x,o)
def zBf(l:LS):List (Nat×SV):=(List.range l.length).zip l
def qJf(S:St)(h:Option Hint)(x:Nat)(l:LS)(o:List (Option Blk)):Mode×LS:=
 match qVo S (match h with|some h=>h.fresh|none=>[]) (match h with|some h=>h.spec|none=>[]) 0 l [] []with
 | (k,az,db)=>match qVn S o az db with
  |(bs',az,db)=>
   let r:=(List.range x).map SV.v
   match qU1 db bs' (r.map λ_=>match h with|some h=>bif h.res then⟨.fresh,true⟩else⟨.pure,false⟩|none=>⟨.pure,false⟩)with
   |(j,y)=>(⟨⟨db,zBf k,bs',[]⟩,l.length,⟨y,zBf r,j,[]⟩⟩,az)
def eL:LC->Bool
 | []=>true
 |b::r=>!(r.any (Nat.beq b))&&eL r
def fT:Option Blk->Bool
 |some (.loop _ _)=>false
 |some (.b5 _ _)=>false
 |_=>true
def qJL(E:Env)(f:LO)(l:LS)(S:St)(κ:K1):Tree:=
 let bm:=qGs S 3 ((nO l).foldl qS6 [])
 match E.prog.funcs[f]?,SV.na bm l,fA S bm bm with
 | some fn,some h,some y=>
  match qJf (S.pc h y) (qF2 E f) fn.resultTypes.size h y with
  |(m,az)=>
   let j:=jC S (oS m.ly.db az)
   bif eL bm&&dN h.length m.ly az (j.pc h y)&&Nat.beq m.n h.length&&m.out.af.all (λ(_,x)=>qM5 m.out.db.length bm.length x)&&m.out.ae.all (qVq m.out.db.length bm.length)&&Nat.ble m.out.ae.length bm.length&&m.out.ae.all fT then .l4 f m az (κ (qKk m j.n bm) (j.after m bm az))else .fail
 |_,_,_=>.fail
def qGk(a:SV)(S:St)(κ:K1):Tree:=match a with
 |.v i=>xD .nh [.v i] .ptr true S λy S=>match y with
  |.v j=>κ (.pp j 0) S
  |_=>.fail
 |a=>κ a S
def qEA(E:Env)(t:LN)(a:SV)(S:St)(κ:K1):Tree:=qGk a S λa S=>match E.types.get t with
 |none=>.fail
 | some h=>match a with
  | .loc b off=>match S.ae[b]? with
   |some (some (.cells cs))=>match qAY h.agg h.size off cs with
    |some x=>κ x S
    |none=>.fail
   |some (some (.whole x n))=>bif Nat.beq off 0&&Nat.beq h.size n&&h.agg then(bif yB S x then κ x S else .fail)else xD (.mq h.agg h.size off) [x] .pure (!h.agg) S κ
   |_=>.fail
  |.ptr s i sz off=>xD (.elem sz h.agg h.size off) [s,i] .pure (!h.agg) S κ
  |.pp i off=>xD (.k8 h.agg h.size) [.pp i off] .pure (!h.agg) S κ
  |_=>.fail
def St.kj(S:St)(b:Nat)(x:Blk):St:={S with ae:=S.ae.set b (some x)}
def qFr(h:TI)(b:Nat)(x:SV)(S:St)(κ:K1):Tree:=match x with
 |.v i=>xD (.mz true h.size) [.v i] .pure false S λy S=>κ (.gd []) (S.kj b (.whole y h.size))
 |x=>nC x h.agg h.size S λl S=>κ (.gd []) (S.kj b (.cells l))
def qIH(E:Env)(t:LN)(a x:SV)(S:St)(κ:K1):Tree:=match E.types.get t with
 |none=>.fail
 | some h=>match a with
  | .loc b off=>match S.ae[b]? with
   | some (some (.cells cs))=>
    bif h.agg&&Nat.beq off 0&&Nat.beq cs.length h.size then qFr h b x S κ
    else nC x h.agg h.size S λl S=>match yP cs off l with
     |some cs'=>κ (.gd []) (S.kj b (.cells cs'))
     |none=>.fail
   | some (some (.whole y n))=>
    bif h.agg&&Nat.beq off 0&&Nat.beq n h.size&&yB S y then qFr h b x S κ
    else nC y true n S λcs S=>nC x h.agg h.size S λl S=>match yP cs off l with
     |some cs'=>κ (.gd []) (S.kj b (.cells cs'))
     |none=>.fail
   |_=>.fail
  |_=>.fail
mutual
def SV.lg(i n:Nat):SV->SV
 |.v j=>bif Nat.beq j i then .v n else .v j
 |.c x=>.c x
 |.loc b o=>.loc b o
 |.ptr s k sz off=>.ptr (SV.lg i n s) (SV.lg i n k) sz off
 |.pp j o=>.pp j o
 |.agg cs=>.agg (SV.lp i n cs)
 |.gd cs=>.gd (SV.lp i n cs)
 |.fn f a b=>.fn f (SV.lp i n a) (SV.lp i n b)
 |.ll t x=>.ll t (SV.lg i n x)
 |.lk b=>.lk b
def SV.lp(i n:Nat):LS->LS
 | []=>[]
 |x::xs=>SV.lg i n x::SV.lp i n xs
end
def Blk.lg(i n:Nat):Blk->Blk
 |.cells cs=>.cells (SV.lp i n cs)
 |.whole x k=>.whole x k
 |.loop a b=>.loop a b
 |.b5 t cs=>.b5 t (SV.lp i n cs)
def St.mapped(S:St)(i:Nat):St:={(S.kill i).new .fresh true with af:=S.af.map (SV.lg i S.n),ae:=S.ae.map (λb=>b.map (Blk.lg i S.n)),kh:=S.kh.map (λl=>l.map (λ(t,x)=>(t,SV.lg i S.n x)))}
def zAY(t:LN)(i:Nat)(k x:SV)(S:St)(κ:K1):Tree:=
 let S:=rL S x
 bif wT S x&&yB S k&&S.ca i then .bind (.ow t) [.v i,k,x] (κ (.gd []) (S.mapped i))else .fail
def qX0(t:LN)(i:Nat)(k:SV)(S:St)(κ:K1):Tree:=.fail
def qV4(E:Env)(t:LN)(i:Nat)(j:SV)(sz off:Nat)(x:SV)(S:St)(κ:K1):Tree:=match E.types.get t with
 |none=>.fail
 |some h=>
  let S:=rL S x
  bif wT S x&&yB S j&&S.ca i then .bind (.set sz h.agg h.size off) [.v i,j,x] (κ (.gd []) (S.mapped i))else .fail
def qFv:LM->LM->Bool
 |.tmp a,.tmp b=>Nat.beq a b
 |.const (.int k a),.const (.int k' b)=>decide (k=k')&&decide (a=b)
 |_,_=>false
def yD(E:Env)(t:LN):Option LN:=match E.types.get t with
 |some {desc:=.slice e,..}=>some e
 |_=>none
def uP(E:Env)(s d:LN):Bool:=match yD E s with
 |some el=>match E.types.get el,E.types.get d with
  |some {desc:=.int .u8,..},some {desc:=.string,..}=>true
  |_,_=>false
 |none=>false
def iH(E:Env)(s d:LN):Option LN:=match E.types.get s,yD E d with
 |some {desc:=.string,..},some el=>match E.types.get el with
  |some {desc:=.int .u8,size:=sz,..}=>bif Nat.beq sz 1 then some el else none
  |_=>none
 |_,_=>none
def sQ:Option LM->Bool
 |some (.const (.int _ (.ofNat 0)))=>true
 |_=>false
def qCu(E:Env)(j:BinOp)(t:LN)(x y:LM)(h:Bool):Bool:=
 (yD E t).isSome&&(match pA E j t x y (.slice none 0 0) (.slice none 0 0)with|some (.bool b)=>b == !h|_=>false)&&(match j with|.eql=>!h|.neq=>h|_=>false)
def qVc:BinOp->Bool
 |.neq=>true
 |_=>false
def qFY:SV->Bool
 |.c (.slice none 0 0)=>true
 |_=>false
def qYt(E:Env)(ts:List LN)(s x:SV)(S:St)(κ:K1):Tree:=match ts with
 | t::xt::_=>match yD E t,E.types.get xt with
  | some el,some y=>match E.types.get el,y.desc with
   | some e,.slice _=>match e.zero with
    | some _=>
     let h:=λ(S':St)=>bif yB S x&&Nat.ble 1 e.size then Tree.bind (.app el e.size e.bytes) [s,x] (κ (.v S.n) (S'.new .fresh true))else .fail
     match s with
     |.c (.slice none 0 0)=>h S
     | .v i=>match S.db[i]? with
      |some ⟨.full,_⟩=>h S
      |some ⟨.fresh,_⟩=>(match x with
       |.v j=>bif Nat.beq i j then .fail else h (S.kill i)
       |_=>h (S.kill i))
      |_=>.fail
     |_=>.fail
    |none=>.fail
   |_,_=>.fail
  |_,_=>.fail
 |_=>.fail
def iB(E:Env)(t:LN)(f:Nat):Option (Nat×TI):=match E.types.get t with
 | some {desc:=.struct fs,..}=>match fs[f]? with
  |some h=>match E.types.get h.type with
   |some x=>some (h.offset,x)
   |none=>none
  |none=>none
 |_=>none
def qId(E:Env)(b:Builtin)(ts:List LN)(args:LS)(S:St)(κ:K1):Tree:=match b with
 | .len=>match ts,args with
  |t::_,[x]=>match E.types.get t with
   |some {desc:=.string,..}=>xD (.len true) [x] .pure true S κ
   |some {desc:=.slice _,..}=>xD (.len false) [x] .pure true S κ
   |some {desc:=.map _ _,..}=>xD .ox [x] .pure true S κ
   |_=>.fail
  |_,_=>.fail
 |.delete=>match ts,args with
  |t::_,[.v i,k]=>qX0 t i k S κ
  |_,_=>.fail
 |.append=>match args with
  | [s,x]=>qYt E ts s x S κ
  |_=>.fail
 |.min=>match args with
  | [x,y]=>xD (.mm false) [x,y] .pure true S κ
  |_=>.fail
 |.max=>match args with
  | [x,y]=>xD (.mm true) [x,y] .pure true S κ
  |_=>.fail
 |_=>.fail
def qP8:SV->Option Bool
 |.c (.bool b)=>some b
 |_=>none
def jM(E:Env)(o:Oper)(S:St)(κ:K1):Tree:=match o.op with
 |.move x|.assign x=>match nA S x with
  |some y=>κ y S
  |none=>.fail
 |.pick c a b=>match nA S c with
  |some (.c (.bool true))=>match nA S a with|some y=>κ y S|none=>.fail
  |some (.c (.bool false))=>match nA S b with|some y=>κ y S|none=>.fail
  |some (.v i)=>bif S.lh i then .ite (.v i) (match nA (S.known i true) a with|some y=>κ y (S.known i true)|none=>.fail) (match nA (S.known i false) b with|some y=>κ y (S.known i false)|none=>.fail)else .fail
  |_=>.fail
 |.alloc t=>match E.types.get t with
  |some {zero:=some z,..}=>bif z.all (λv=>zP v&&qU v)then κ (.loc S.ae.length 0) {S with ae:=S.ae++[some (.cells (z.map .c))]}else .fail
  |_=>.fail
 | .box t x=>match nA S x,E.types.get t with
  |some y,some q=>match y,q.agg with
   |.v i,true=>xD (.mz true q.size) [.v i] .pure false S λy S=>κ (.loc S.ae.length 0) {S with ae:=S.ae++[some (.whole y q.size)]}
   |y,ag=>nC y ag q.size S λl S=>κ (.loc S.ae.length 0) {S with ae:=S.ae++[some (.cells l)]}
  |_,_=>.fail
 |.build t A=>match E.types.get t with
  |some {desc:=.struct fs,zero:=some z,agg:=true,..}=>bif z.all (λv=>zP v&&qU v)then qDu E S (λi=>match fs[i]? with|some f=>(E.types.get f.type).map λt=>(f.offset,t.size,t.agg)|none=>none) (z.map .c) A.toList λcs S=>κ (.agg cs) S else .fail
  |some {desc:=.array _ u,zero:=some z,agg:=true,..}=>bif (E.types.get u).isSome&&z.all (λv=>zP v&&qU v)then qDu E S (λi=>(E.types.get u).map λe=>(Nat.mul i e.size,e.size,e.agg)) (z.map .c) A.toList λcs S=>κ (.agg cs) S else .fail
  |_=>.fail
 | .buildSlice t n A=>match yD E t with
  | some el=>match E.types.get el with
   |some e=>match e.zero with
    |some z=>bif Nat.beq z.length e.size&&Nat.beq n A.toList.length then qAG e.size e.agg [] S A.toList λl S=>qIh (.lit el e.size) l (bif Nat.beq n 0 then .full else .fresh) true S κ else .fail
    |none=>.fail
   |none=>.fail
  |none=>.fail
 |.load t a=>match nA S a with
  |some a=>qEA E t a S κ
  |none=>.fail
 |.store t a x=>match nA S a,nA S x with
  |some (.ptr (.v i) j sz off),some x=>qV4 E t i j sz off x S κ
  |some a,some x=>qIH E t a x S κ
  |_,_=>.fail
 | .makeSlice t l c=>match yD E t,nA S l with
  | some el,some x=>match E.types.get el with
   | some e=>match e.zero with
    |some z=>bif qFv l c&&yB S x then .bind (.mk el e.size e.bytes e.agg z) [x] (κ (.v S.n) (S.new .fresh true))else match nA S c with
     |some y=>bif yB S x&&yB S y then .bind (.mk el e.size e.bytes e.agg z) [x,y] (κ (.v S.n) (S.new .fresh true))else .fail
     |none=>.fail
    |none=>.fail
   |none=>.fail
  |_,_=>.fail
 |.makeMap _ none=>.bind .pg [] (κ (.v S.n) (S.new .fresh true))
 |.range t x=>match nA S x,E.types.get t with
  |some y,some {desc:=.string,..}=>xD (.len true) [y] .pure true S λ_ S=>κ (.loc S.ae.length 0) {S with ae:=S.ae++[some (.b5 0 [y,.c (.int .i64 0)])]}
  |_,_=>.fail
 | .next F true=>match nA S F with
  |some (.loc b 0)=>match S.ae[b]? with
   |some (some (.b5 0 [y,p]))=>xD .ru [y,p] .pure true S λc S=>.ite c (xD .rz [y,p] .pure true S λG S=>xD .rv [y,p] .pure true S λnx S=>κ (.gd [.c (.bool true),p,G]) (S.kj b (.b5 0 [y,nx]))) (κ (.gd [.c (.bool false)]) S)
   |_=>.fail
  |_=>.fail
 |.lookup t x k ok=>match nA S x,nA S k with
  |some y,some z=>xD (.nw t ok) [y,z] .pure false S κ
  |_,_=>.fail
 |.mapUpdate t m k x=>match nA S m,nA S k,nA S x with
  |some (.v i),some z,some y=>zAY t i z y S κ
  |_,_,_=>.fail
 |.nilCheck x=>match nA S x with
  |some (.loc b o)=>κ (.loc b o) S
  |some (.fn (.func f) a b)=>κ (.fn (.func f) a b) S
  |some (.ll t x)=>κ (.ll t x) S
  |some (.v i)=>xD .nn [.v i] .pure true S κ
  |_=>.fail
 | .binOp w t x y _=>match nA S x,nA S y with
  |some a,some b=>
   bif qFY b&&(qCu E w t x y true||qCu E w t x y false)then xD (.isNil (qVc w)) [a] .pure true S κ
   else bif wT S a&&wT S b then .bind (.bin w t x y) [a,b] (κ (.v S.n) (S.new .pure true))else .fail
  |_,_=>.fail
 | .unOp w t x=>match nA S x with
  |some y=>match w,qP8 y with
   |.not,some b=>κ (.c (.bool !b)) S
   |_,_=>xD (.un w t) [y] .pure true S κ
  |none=>.fail
 | .convert s d x=>match nA S x with
  |some y=>match iH E s d with
   |some el=>bif yB S y then .bind (.sb el) [y] (κ (.v S.n) (S.new .fresh true))else .fail
   |none=>bif uP E s d then xD .ns [y] .pure true S κ else xD (.conv s d) [y] .pure true S κ
  |none=>.fail
 |.makeInterface t x=>match E.types.get t,nA S x with
  |some {desc:=.interface _,..},_=>.fail
  |some _,some y=>κ (.ll t y) S
  |_,_=>.fail
 |.makeFunc fn first cap=>match dS S first.toList,dS S cap.toList with
  |some a,some b=>bif rM fn then(bif qVa E fn then κ (.fn fn a b) S else qIe b [] S λb S=>κ (.fn fn a b) S)else .fail
  |_,_=>.fail
 | .slice t x lo C mx=>bif (lo.isNone||sQ lo)&&sQ C&&sQ mx then .fail else match nA S x,dS S lo.toList,dS S C.toList,mx with
  | some y,some l,some h,none=>match E.types.get t with
   |some {desc:=.slice el,..}=>match E.types.get el with
    |some e=>qIh (.lu el e.size lo.isSome C.isSome) (y::(l++h)) .pure true S κ
    |none=>.fail
   |some {desc:=.string,..}=>xD (.sub lo.isSome C.isSome) (y::(l++h)) .pure true S κ
   |_=>.fail
  |_,_,_,_=>.fail
 | .fieldAddr s x f=>match nA S x,iB E s f with
  |some y,some (off,q)=>bif Nat.beq q.size 0 then .fail else qGk y S λy S=>match y with
   |.loc b o=>κ (.loc b (Nat.add o off)) S
   |.ptr s i sz o=>κ (.ptr s i sz (Nat.add o off)) S
   |.pp i o=>κ (.pp i (Nat.add o off)) S
   |_=>.fail
  |_,_=>.fail
 | .field t x f=>match nA S x,iB E t f with
  |some (.agg cs),some (off,q)=>match qAY q.agg q.size off cs with
   |some y=>κ y S
   |none=>.fail
  |some (.v i),some (off,q)=>xD (.mz true (match E.types.get t with|some q=>q.size|none=>0)) [.v i] .pure false S λy S=>xD (.mq q.agg q.size off) [y] .pure (!q.agg) S κ
  |_,_=>.fail
 | .indexAddr t x i=>match nA S x,nA S i,yD E t with
  |some y,some j,some el=>match E.types.get el with
   |some e=>bif yB S y&&yB S j then xD .inr [y,j] .pure true S λ_ S=>κ (.ptr y j e.size 0) S else .fail
   |none=>.fail
  |_,_,_=>.fail
 |.index t x i=>match nA S x,nA S i,E.types.get t with
  |some y,some j,some {desc:=.string,..}=>xD .qf [y,j] .pure true S κ
  |_,_,_=>.fail
 | .extract x i=>match nA S x with
  |some (.gd cs)=>match cs[i]? with
   |some y=>κ y S
   |none=>.fail
  |some (.v j)=>xD (.ext i) [.v j] .pure false S κ
  |_=>.fail
 | .call c=>match dS S c.args.toList with
  |none=>.fail
  | some args=>match c.callee with
   |.builtin b=>qId E b c.argTypes.toList args S κ
   |.invoke r B=>match nA S r with
    |some y=>qH9 E (.rb y B) (y::args) 0 S κ
    |none=>.fail
   |.value f=>match nA S f with
    |some (.fn (.func g) first cap)=>bif qYU E o g (first++args++cap)then qJL E g (first++args++cap) S κ else qH9 E (.fn g) (first++args++cap) (qPy E g) S κ
    |some (.v i)=>qH9 E (.val (.v i)) (.v i::args) (match E.types.get o.type with|some {desc:=.bool,..}=>1|some {desc:=.int _,..}=>1|some {desc:=.string,..}=>1|_=>0) S κ
    |_=>.fail
 |_=>.fail
def oJ(o:Oper):Bool:=match o.op with
 |.store _ _ _=>true
 |_=>false
def qQo(S:St):LS->Bool
 | [.v i,_]=>S.ca i
 |_=>false
def qWy(s:VSt):Bool:=match s.k with
 |.fresh=>false
 |_=>true
def qFD(E:Env)(f:LO)(l:LS)(S:St):Bool:=
 let bm:=qGs S 3 ((nO l).foldl qS6 [])
 bm.isEmpty&&match E.prog.funcs[f]?,SV.na bm l,fA S bm bm with
 |some fn,some h,some x=>match qJf (S.pc h x) (qF2 E f) fn.resultTypes.size h x with
  |(m,_)=>m.ly.db.all qWy&&m.ly.ae.isEmpty
 |_,_,_=>true
def xY(E:Env)(S:St)(o:Oper):Bool:=oJ o||match o.op with
 |.mapUpdate _ _ _ _=>true
 |.next _ _=>true
 | .call c=>match c.callee,dS S c.args.toList with
  |.builtin .append,some args=>qQo S args
  |.builtin .delete,_=>true
  |.value f,some args=>match nA S f with
   |some (.fn (.func g) first cap)=>qYU E o g (first++args++cap)&& !qFD E g (first++args++cap) S
   |_=>false
  |_,_=>false
 |_=>false
def qCN(all:LF)(o:Oper)(S:St)(h x:St->Tree):Tree:=match o.guard with
 |none=>h S
 | some (j,want)=>match all.toList[j]? with
  |some {dst:=some d,..}=>match S.af.get d with
   |some (.c (.bool b))=>bif b==want then h S else x S
   |some (.gd [])=>x S
   |some (.v i)=>bif S.lh i then .ite (.v i) (bif want then h (S.known i true)else x (S.known i true)) (bif want then x (S.known i false)else h (S.known i false))else .fail
   |_=>.fail
  |_=>.fail
def qG3:Op->Bool
 |.move _|.assign _|.pick _ _ _|.nilCheck _|.binOp _ _ _ _ _|.unOp _ _ _|.fieldAddr _ _ _|.indexAddr _ _ _|.extract _ _|.build _ _=>true
 |_=>false
def qOY(o:Oper):Bool:=qG3 o.op||match o.op with
 |.slice _ _ _ _ _=>true
 |.load _ _=>true
 |_=>false
def fH(all:LB)(h:Nat):LB->Nat->Bool
 | [],_=>true
 |_::x,i=>rO (kS all) h i&&fH all h x (i+1)
def tW(all:LB)(x:Nat):LB->Nat->Bool
 | [],_=>true
 |o::h,i=>(qOY o&&o.guard.isNone&&tW all x h (i+1))||fH all x (o::h) i
def qCB(all:LB)(i:Nat)(o:Oper)(h:LB):Bool:=(match o.op with
 |.call c=>(match c.callee,c.args.toList with
  |.builtin .append,[.tmp _,_]=>true
  |_,_=>false)
 |_=>false)&&(List.range i).all (λk=>rO (kS all) i k)&&tW all i h (i+1)
def qDU(E:Env)(all:LF)(draw:Bool):LB->Nat->St->(St->Tree)->Tree
 | [],_,S,κ=>κ S
 | o::h,i,S,κ=>
  qCN all o S
   (λS=>bif draw&&xY E S o&& !(kD all.toList i)&& !(qCB all.toList i o h)then .fail else
    jM E o S λy S=>match S.put o.dst y with
     |some S=>qDU E all draw h (i+1) S κ
     |none=>.fail)
   (λS=>match S.put o.dst (.gd [])with
    |some S=>qDU E all draw h (i+1) S κ
    |none=>.fail)
def qBn(S:St):LB->Nat->List (Nat×Nat)
 | [],_=>[]
 | o::h,i=>match o.op with
  |.store _ (.tmp a) _=>match S.af.get a with
   |some (.loc b _)=>(i,b)::qBn S h (i+1)
   |_=>qBn S h (i+1)
  |_=>qBn S h (i+1)
def aC(S:St)(o:Oper)(h:LB)(x:LC):Bool:=match o.op with
 |.load _ (.tmp a)=>(o::h).all (lP a)&&match S.af.get a with
  |some (.loc b _)=>x.all (λc=>!(Nat.beq c b))&&(S.ae[b]?.getD none).isSome
  |some (.ptr (.v k) _ _ _)=>S.lh k
  |_=>false
 | .alloc _=>match o.dst with
  |some d=>h.all (lP d)&&match S.af.get d with
   |some (.loc b _)=>x.all (λc=>!(Nat.beq c b))&&(S.ae[b]?.getD none).isSome
   |_=>false
  |none=>false
 |.store _ (.tmp a) _=>x.isEmpty&&(o::h).all (lP a)&&match S.af.get a with
  |some (.loc b _)=>(S.ae[b]?.getD none).isSome
  |_=>false
 | .buildSlice _ n _=>Nat.ble 1 n&&match o.dst with
  |some d=>h.all (lP d)&&match S.af.get d with
   |some (.v k)=>S.ca k||S.lh k
   |_=>false
  |none=>false
 |op=>qG3 op
def lF(S:St)(all:LB):LB->Nat->Bool
 | [],_=>true
 |o::h,i=>aC S o h (qV all i (qBn S all 0))&&lF S all h (i+1)
def tJ(S:St):LB->List (SV×SV)
 | []=>[]
 | o::h=>match o.op with
  |.load _ (.tmp a)=>match S.af.get a with
   |some (.ptr (.v k) i _ _)=>(.v k,i)::tJ S h
   |_=>tJ S h
  |_=>tJ S h
def eN(S:St):LB->List (SV×SV)
 | []=>[]
 | o::h=>match o.op with
  | .buildSlice _ _ _=>match o.dst with
   |some d=>match S.af.get d with
    |some (.v k)=>bif S.lh k then(.v k,.c (.int .i64 0))::eN S h else eN S h
    |_=>eN S h
   |none=>eN S h
  |_=>eN S h
def qG4(S:St)(h:LB):List (SV×SV):=tJ S h++eN S h
def qH5:List (SV×SV)->St->(St->Tree)->Tree
 | [],S,κ=>κ S
 |(s,i)::r,S,κ=>bif wT S s&&wT S i then .bind .inr [s,i] (qH5 r (S.new .pure true) κ)else .fail
def zA1(ops:LB):Bool:=ops.zipIdx.any λ(o,i)=>oJ o&& !(kD ops i)
def nl:Code->Nat
 |.seq a b=>nl a+nl b
 |.cond _ a b=>nl a+nl b
 |.block _ b=>nl b
 |.loop b=>nl b+1
 |.scope b=>nl b
 |_=>0
def qKm(o:Oper):Option (LN×Tmp×Tmp):=match o.op,o.dst,o.guard with
 |.load t (.tmp p),some d,none=>some (t,p,d)
 |_,_,_=>none
def qEm(o:Oper):Option (Tmp×Tmp):=match o.op,o.dst,o.guard with
 |.move (.tmp s),some d,none=>some (s,d)
 |_,_,_=>none
def qOj(o:Oper):Option (Tmp×Tmp):=match o.op,o.dst,o.guard with
 |.binOp .add _ (.tmp a) (.const (.int .i64 (.ofNat 1))) _,some d,none=>some (a,d)
 |_,_,_=>none
def qG2(o:Oper):Option (LN×Tmp×Tmp×Tmp):=match o.op,o.dst,o.guard with
 |.slice t (.tmp x) (some (.tmp l)) none none,some d,none=>some (t,x,l,d)
 |_,_,_=>none
def qOi(o:Oper):Option (LN×Tmp×Tmp×Tmp):=match o.op,o.dst,o.guard with
 |.call c,some d,none=>match c.callee,c.args.toList,c.argTypes.toList with
  |.builtin .copy,[.tmp a,.tmp b],t::_=>some (t,a,b,d)
  |_,_,_=>none
 |_,_,_=>none
structure CpP where
 k:Nat
 j:SV
 el:Nat
 sz:Nat
 ds:List Tmp
def zBN(h k j y x p0 p4 s1 o K F x3 G q C x6 A p w J B I u:Nat)(l:LC)(n:Nat):Bool:=
 (Nat.beq k h&&(Nat.beq j h&&(Nat.beq y h&&Nat.beq x h)))&&((Nat.beq p4 p0&&Nat.beq o s1)&&((Nat.beq K F&&(Nat.beq x3 G&&Nat.beq q C))&&((Nat.beq x6 A&&Nat.beq p w)&&((Nat.beq J B&&Nat.beq I u)&&(eL l&&l.all λd=>Nat.ble (d+1) n)))))
def qJF(E:Env)(t:LN):Bool:=match E.types.get t with
 |some h=>!h.agg&&Nat.beq h.size 1
 |none=>false
def qX3(E:Env)(S:St):LB->Option CpP
 | [J,I,G,F,C,B,A,w]=>match qKm J,qEm I,qOj G,qG2 F with
  | some (h,p0,u),some (s1,q),some (W,p),some (O,x3,R,o)=>match qKm C,qEm B,qG2 A,qOi w with
   | some (N,p4,l),some (P,y),some (M,x6,Q,x),some (L,V,U,K)=>
    bif zBN h O N M L p0 p4 s1 P W q x3 u R p x6 l Q y V o U x [p0,s1,u,q,p,o,l,y,x,K] S.sz&&(kD [J,I,G,F,C,B,A,w] 7&&qJF E h)then
     match S.af.get p0,S.af.get s1,yD E h with
     |some (.loc b 0),some j,some el=>match S.ae[b]?,E.types.get el with
      |some (some (.cells [.v k])),some e=>bif S.ca k&&yB S j then some ⟨k,j,el,e.size,[u,q,p,o,l,y,x,K]⟩else none
      |_,_=>none
     |_,_,_=>none
    else none
   |_,_,_,_=>none
  |_,_,_,_=>none
 |_=>none
def qIT(o:Oper):Option (LN×Tmp):=match o.op,o.dst,o.guard with
 |.call c,none,none=>match c.callee,c.args.toList,c.argTypes.toList with
  |.builtin .clear,[.tmp a],t::_=>some (t,a)
  |_,_,_=>none
 |_,_,_=>none
structure ClP where
 k:Nat
 j:SV
 el:Nat
 sz:Nat
 ag:Bool
 z:LA
 ds:List Tmp
def qYb(E:Env)(S:St):LB->Option ClP
 | [w,u,q,p]=>match qEm w,qEm u,qG2 q,qIT p with
  | some (s0,y),some (s1,x),some (l,x2,A,h),some (o,a3)=>
   bif (Nat.beq x2 y&&(Nat.beq A x&&(Nat.beq a3 h&&Nat.beq o l)))&&(eL [s0,s1,y,x,h]&&[s0,s1,y,x,h].all λd=>Nat.ble (d+1) S.sz)then
    match S.af.get s0,S.af.get s1,yD E l with
    | some (.v k),some j,some el=>match E.types.get el with
     |some e=>match e.zero with
      |some z=>bif S.ca k&&yB S j then some ⟨k,j,el,e.size,e.agg,z,[y,x,h]⟩else none
      |none=>none
     |none=>none
    |_,_,_=>none
   else none
  |_,_,_,_=>none
 |_=>none
def sE(t:T SV):List Tmp->T SV
 | []=>t
 |d::ds=>(sE t ds).put d none
def St.ot(S:St)(p:CpP):St:={S with af:=sE S.af p.ds}
def St.pz(S:St)(p:ClP):St:={S with af:=sE S.af p.ds}
abbrev KC:=AExit->St->Tree
def qLG(k:St->Tree)(κ:KC):KC:=λe S=>match e with
 |.normal=>k S
 |e=>κ e S
def dE(id:Nat)(κ:KC):KC:=λe S=>match e with
 |.exit h=>bif Nat.beq h id then κ .normal S else κ (.exit h) S
 |e=>κ e S
def sx(E:Env)(J:Nat->St->Tree):Nat->Code->St->KC->Tree
 |at_,.seq a b,S,κ=>sx E J at_ a S (qLG (λS=>sx E J (at_+nl a) b S κ) κ)
 |at_,.cond c a b,S,κ=>match nA S c with
  |some (.c (.bool true))=>sx E J at_ a S κ
  |some (.c (.bool false))=>sx E J (at_+nl a) b S κ
  |some (.v i)=>bif S.lh i then .ite (.v i) (sx E J at_ a (S.known i true) κ) (sx E J (at_+nl a) b (S.known i false) κ)else .fail
  |_=>.fail
 |at_,.block id b,S,κ=>sx E J at_ b S (dE id κ)
 |at_,.loop _,S,_=>J at_ S
 |at_,.scope b,S,κ=>sx E J at_ b S κ
 |_,.region _ ops draw,S,κ=>match (bif draw&&Nat.beq ops.toList.length 8 then qX3 E S ops.toList else none)with
  |some p=>.bind (.ot p.el p.sz) [.v p.k,p.j] (κ .normal ((S.ot p).mapped p.k))
  |none=>match (bif !draw&&Nat.beq ops.toList.length 4 then qYb E S ops.toList else none)with
  |some p=>.bind (.pz p.el p.sz p.ag p.z) [.v p.k,p.j] (κ .normal ((S.pz p).mapped p.k))
  |none=>bif draw&&zA1 ops.toList then qDU E ops false ops.toList 0 S (λS=>bif lF S ops.toList ops.toList 0 then qH5 (qG4 S ops.toList) S (κ .normal)else .fail)else qDU E ops draw ops.toList 0 S (κ .normal)
 |_,.skip,S,κ=>κ .normal S
 |_,.label _,S,κ=>κ .normal S
 |_,.ret,S,κ=>κ .ret S
 |_,.exit id,S,κ=>κ (.exit id) S
 |_,_,_,_=>.fail
def qFy(E:Env)(S:St)(acc:LS):List ResultVar->Tree
 | []=>
  let S:=jC S acc
  bif acc.all (wT S)then .ret acc else .fail
 |.tmp t::r=>match S.af.get t with
  |some x=>qFy E S (acc++[x]) r
  |none=>.fail
 |.cell a t::r=>match S.af.get a with
  |some p=>qEA E t p S λx S=>qFy E S (acc++[x]) r
  |none=>.fail
def qFA(E:Env)(m:Mode)(S:St)(acc:LS):List ResultVar->Tree
 | []=>qKK .ret acc.length m.out {S with af:=T.ofList .leaf 0 acc,sz:=acc.length}
 |.tmp t::r=>match S.af.get t with
  |some x=>qFA E m S (acc++[x]) r
  |none=>.fail
 |.cell a t::r=>match S.af.get a with
  |some p=>qEA E t p S λx S=>qFA E m S (acc++[x]) r
  |none=>.fail
def qHT(E:Env)(m:Mode)(h:List ResultVar):KC:=λe S=>match e with
 |.normal=>qFA E m S [] h
 |.ret=>qFA E m S [] h
 |.exit _=>.fail
def qGV(E:Env)(J:Nat->St->Tree)(fn:Func)(m:Mode):Tree:=match fn.body with
 |some c=>sx E J 1 c (m.ly.st (Nat.max fn.ntmps m.n)) (qHT E m fn.results.toList)
 |none=>.fail
def qAF(E:Env)(h:List ResultVar):KC:=λe S=>match e with
 |.normal=>qFy E S [] h
 |.ret=>qFy E S [] h
 |.exit _=>.fail
def oM(n sz:Nat):St:={db:=List.replicate n ⟨.pure,false⟩,af:=T.ofList .leaf 0 ((List.range n).map .v),ae:=[],sz:=sz}
def qGU(E:Env)(J:Nat->St->Tree)(fn:Func)(n:Nat):Tree:=match fn.body with
 |some c=>sx E J 1 c (oM n (Nat.max fn.ntmps n)) (qAF E fn.results.toList)
 |none=>.fail
def iV(J:Nat->St->Tree)(h:Nat)(κ:KC):KC:=λe S=>match e with
 |.normal=>J h S
 |e=>κ e S
def xH(E:Env)(P:Nat->St)(J:Nat->St->Tree):Nat->Code->KC->LW
 |at_,.seq a b,κ=>xH E P J at_ a (qLG (λS=>sx E J (at_+nl a) b S κ) κ)++xH E P J (at_+nl a) b κ
 |at_,.cond _ a b,κ=>xH E P J at_ a κ++xH E P J (at_+nl a) b κ
 |at_,.block id b,κ=>xH E P J at_ b (dE id κ)
 |at_,.loop b,κ=>(at_,sx E J (at_+1) b (P at_) (iV J at_ κ))::xH E P J (at_+1) b (iV J at_ κ)
 |at_,.scope b,κ=>xH E P J at_ b κ
 |_,_,_=>[]
inductive Res1 where
 |ret (d:D)
 |jump (k:Nat) (ds:LR)
def kC:LR->D
 | [d]=>d
 |l=>.gd l
def iK:LR->Bool
 | []=>true
 |.leaf _::r=>iK r
 |_::_=>false
def uD:Nat->D->Bool
 |0,_=>true
 |1,.leaf _=>true
 |1,_=>false
 |_,.gd l=>iK l
 |_,_=>false
def dU:Nat:=1000000000000
def aB(E:Env)(y:Tgt)(ds:LR):Option (LO×LR):=match y with
 |.fn f=>some (f,ds)
 |.val _=>match ds with
  |.kr (.func g) first cap::r=>some (g,first++r++cap)
  |_=>none
 | .rb _ h=>match ds with
  | .iface t d::r=>match E.prog.info? t,E.types.get t with
   |some i,some x=>match i.methods.find? (·.name==h)with
    |some {path:=p,func:=some (f,ptr),..}=>bif Nat.beq p.toList.length 0&&qBz x.desc ptr then some (f,d::r)else none
    |_=>none
   |_,_=>none
  |_=>none
def getD(ρ:LR)(i:Nat):D:=ρ.getD i .nil
def wp(E:Env)(h:LO->LR->La)(Q:Res1->Prop):Tree->LR->Prop
 |.fail,_=>False
 |.stop _ _,_=>False
 |.ret xs,ρ=>Q (.ret (kC (SV.ds (getD ρ) xs)))
 |.jump k xs,ρ=>Q (.jump k (SV.ds (getD ρ) xs))
 |.bind o xs r,ρ=>match o.eval E (SV.ds (getD ρ) xs)with
  |some d=>wp E h Q r (ρ++[d])
  |none=>False
 |.call x xs y r,ρ=>match aB E x (SV.ds (getD ρ) xs)with
  |some (f,ds)=>∃d,h f ds d/\uD y d=true/\wp E h Q r (ρ++[d])
  |none=>False
 |.l4 f m xs r,ρ=>∃ds,h (Nat.add dU f) (.mode m::SV.ds (getD ρ) xs) (kC ds)/\ds.length=m.out.db.length/\wp E h Q r (ρ++ds)
 |.ite c a b,ρ=>match c.d (getD ρ)with
  |.leaf (.bool true)=>wp E h Q a ρ
  |.leaf (.bool false)=>wp E h Q b ρ
  |_=>False
def qPs(E:Env)(x:LO->LR->La)(h:LV):Nat->Nat->LR->La
 |0,_,_,_=>False
 |n+1,k,ρ,d=>wp E x (λr=>match r with|.ret d'=>d'=d|.jump k' ds=>qPs E x h n k' ds d) (h k) ρ
def qP(E:Env)(x:LO->LR->La)(h:LV)(k:Nat)(ρ:LR)(d:D):Prop:=∃n,qPs E x h n k ρ d
end Go.Am
