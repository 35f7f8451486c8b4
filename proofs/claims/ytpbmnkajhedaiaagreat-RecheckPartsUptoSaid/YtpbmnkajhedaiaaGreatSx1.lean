/- What commands do, said without a bound on steps. Conditions: none. -/
import Derived.Test.YtpbmnkajhedaiaaGreatAm7
set_option linter.all false
namespace Go.Am
open Go
def vC(E:Env)(c:Code)(fr:Fr)(H:AH)(e:AExit)(fr':Fr)(H':AH):Prop:=H.next<=H'.next/\pD E c fr H e fr' H'
section
variable{E:Env}{H H1 H':AH}{fr fr1 fr':Fr}{e e':AExit}
theorem qCY{c1 K:Code}(G:vC E c1 fr H .normal fr1 H1)(F:vC E K fr1 H1 e fr' H'){c:Code}(p:vB c=true->vB c1=true/\vB K=true)(x:Item)(V:∀(b:Frame) (tmps:Array Value) (ds:List Deferred) (k:List Item) (cs:List Frame) (w:World),Steps E.prog (lone (Fm b tmps ds (lay c k)) cs w) (lone (Fm b tmps ds (.code c1::x::k)) cs w))(A:∀(b:Frame) (tmps:Array Value) (ds:List Deferred) (k:List Item) (cs:List Frame) (w:World),Steps E.prog (lone (Fm b tmps ds (x::k)) cs w) (lone (Fm b tmps ds (lay K k)) cs w)):vC E c fr H e fr' H':=by refine⟨lT G.1 F.1,?_⟩;intro B σ w tmps n0 P W X y q b ds k cs O o C;obtain⟨S,R⟩:=p B;have N:H.next<=H1.next:=G.1;have M:H1.next<=H'.next:=F.1;have i:wV σ H.next H1.next:=λc U q2=>y c U (by omega);obtain⟨u,L,h,r,s1,f1,l,d1,e1⟩:=G.2.lay S tmps n0 P W X i q b ds (x::k) cs O o C;obtain⟨t,Q,j,J,s2,f2,z,d2,Z⟩:=F.2 R u L h n0 P s1.hr f1 (y.split s1.ext s1.next) (lT q s1.size) b r k cs O (by rw[l];exact o) d1;have I:Steps E.prog _ _:=e1;exact⟨t,Q,j,J,s1.trans s2,f2,z.trans l,d2,.head ((V b tmps ds k cs w).trans (I.trans (A b h r k cs L))) Z⟩
theorem mB{c1:Code}(A:vC E c1 fr H e fr' H'){c:Code}(y:vB c=true->vB c1=true)(xs:List Item)(C:∀(tmps:Array Value),(∀σ:vH,aH σ fr tmps->∀(b:Frame) (ds:List Deferred) (k:List Item) (cs:List Frame) (w:World),HR E σ H w->Steps E.prog (lone (Fm b tmps ds (lay c k)) cs w) (lone (Fm b tmps ds (.code c1::xs++k)) cs w)))(l:∀(m:Machine) (b:Frame) (tmps:Array Value) (ds:List Deferred) (k:List Item) (cs:List Frame) (w:World),Reach E.prog e m b tmps ds (xs++k) cs w->Reach E.prog e' m b tmps ds k cs w):vC E c fr H e' fr' H':=by refine⟨A.1,?_⟩;intro p σ w tmps n0 J u z x q b ds k cs F o r;obtain⟨i,B,h,t,s1,f1,j,I,G⟩:=A.2.lay (y p) tmps n0 J u z x q b ds (xs++k) cs F o r;exact⟨i,B,h,t,s1,f1,j,I,l _ _ _ _ _ _ _ (.head (C tmps σ z b ds k cs w u) G)⟩
theorem vC.skip:vC E .skip fr H .normal fr H:=⟨vE _,gT λ_ _ _ _ _ _=>.one qKg⟩
theorem vC.label{l:Nat}:vC E (.label l) fr H .normal fr H:=⟨vE _,gT λ_ _ _ _ _ _=>.one qGZ⟩
theorem vC.ret:vC E .ret fr H .ret fr H:=⟨vE _,gT λ_ _ _ k _ _=>⟨k,Steps.refl _ _⟩⟩
theorem vC.exit{id:Nat}:vC E (.exit id) fr H (.exit id) fr H:=
 ⟨vE _,gT λ_ _ _ k _ _=>⟨λ_ h=>.one (qKh h),λhn=>⟨k,hn,Steps.refl _ _⟩⟩⟩
theorem vC.seq{a b:Code}(y:vC E a fr H .normal fr1 H1)(x:vC E b fr1 H1 e fr' H'):vC E (.seq a b) fr H e fr' H':=
 qCY y x (λh=>by simpa[vB]using h) (.code b) (λ_ _ _ _ _ _=>.one qAc) (λ_ _ _ _ _ _=>uV _ _ _ _ _ _ _ _)
theorem vC.seqOut{a b:Code}(y:vC E a fr H e fr' H')(x:e≠.normal):vC E (.seq a b) fr H e fr' H':=
 mB y (λh=>by simp[vB]at h;exact h.1) [.code b] (λ_ _ _ _ _ _ _ _ _=>.one qAc) (λ_ _ _ _ _ _ _ g=>g.weaken (λ_=>rfl) x)
theorem vC.condT(he:EOk E){c:Operand}{a b:Code}(y:ev E fr c=some (.bool true))(i:vC E a fr H e fr' H'):vC E (.cond c a b) fr H e fr' H':=
 mB i (λh=>by simp[vB]at h;exact h.1) [] (λtmps _ x _ _ _ _ _ h=>.one (qBk (t:=true) (tW (pA (a:=⟨tmps,[]⟩) he h x y)))) (λ_ _ _ _ _ _ _ g=>g)
theorem vC.condF(he:EOk E){c:Operand}{a b:Code}(y:ev E fr c=some (.bool false))(i:vC E b fr H e fr' H'):vC E (.cond c a b) fr H e fr' H':=
 mB i (λh=>by simp[vB]at h;exact h.2) [] (λtmps _ x _ _ _ _ _ h=>.one (qBk (t:=false) (tW (pA (a:=⟨tmps,[]⟩) he h x y)))) (λ_ _ _ _ _ _ _ g=>g)
theorem vC.blockExit{id:Nat}{b:Code}(x:vC E b fr H (.exit id) fr' H'):vC E (.block id b) fr H .normal fr' H':=
 mB x (λh=>h) [.inBlock id] (λ_ _ _ _ _ _ _ _ _=>.one d9) (λ_ _ _ _ k _ _ g=>g.1 k (by simp[exitTo]))
theorem vC.block{id:Nat}{b:Code}(j:vC E b fr H e fr' H')(c:e≠.exit id):vC E (.block id b) fr H e fr' H':=by
 refine mB j (λy=>y) [.inBlock id] (λ_ _ _ _ _ _ _ _ _=>.one d9) (λm b tmps ds k cs w g=>?_);cases e with
 |normal=>have g':Steps E.prog _ _:=g;exact g'.trans (.one qCE)
 |exit h=>
  refine g.weaken2 (λx l=>?_) (by simp);cases l;have:(id==h)=false:=by simpa using λi=>c (by rw[i])
  simp[exitTo,this]
 |ret=>exact g
theorem vC.loop{b:Code}(x:vC E b fr H .normal fr1 H1)(h:vC E (.loop b) fr1 H1 e fr' H'):vC E (.loop b) fr H e fr' H':=
 qCY x h (λhr=>⟨hr,hr⟩) (.inLoop b) (λ_ _ _ _ _ _=>Steps.refl _ _) (λ_ _ _ _ _ _=>.one qEn)
theorem vC.loopOut{b:Code}(y:vC E b fr H e fr' H')(x:e≠.normal):vC E (.loop b) fr H e fr' H':=
 mB y (λh=>h) [.inLoop b] (λ_ _ _ _ _ _ _ _ _=>Steps.refl _ _) (λ_ _ _ _ _ _ _ g=>g.weaken (λ_=>rfl) x)
theorem vC.scope{b:Code}(y:vC E b fr H e fr' H'):vC E (.scope b) fr H e fr' H':=by
 refine mB y (λx=>x) [.inScope b] (λ_ _ _ _ _ _ _ _ _=>.one qGY) (λm c tmps ds k cs w g=>?_);by_cases h:e=.normal
 ·subst h;have g':Steps E.prog _ _:=g;exact g'.trans (.one qCD)
 exact g.weaken (λ_=>rfl) h
structure jL where
 f:FuncId
 args:List Value
 H:AH
 v:Value
 H':AH
 rnd:Bool:=false
def jL.cmd(a:jL):Cmd:=match a.rnd with
 |false=>.call a.f a.args
 |true=>.round a.f a.args
def jL.ok(E:Env)(a:jL):Prop:=a.H.next<a.H'.next/\match a.rnd with
 |false=>jV E a.f a.args a.H a.v a.H'
 |true=>wR E a.f a.args a.H a.v a.H'
def gD(E:Env):Nat->List jL->Prop
 |_,[]=>True
 |n,a::l=>a.ok E/\n<=a.H.next/\gD E a.H'.next l
theorem gD.mono:∀{n m:Nat} {l:List jL},m<=n->gD E n l->gD E m l
 |_,_,[],_,_=>trivial
 |_,_,_::_,h,⟨b,y,x⟩=>⟨b,lT h y,x⟩
theorem gD.later:∀{n:Nat} {l:List jL},gD E n l->∀a∈l,n<=a.H.next/\a.ok E
 |_,[],_,_,h=>by cases h
 |n,b::l,⟨y,x,c⟩,a,h=>by
  rcases List.mem_cons.1 h with rfl|h
  ·exact⟨x,y⟩
  have:=gD.later c a h;exact⟨lT x (lT (Nat.le_of_lt y.1) this.1),this.2⟩
open Classical in
noncomputable def qPg:List jL->Cmd->AH->gV
 | [],_,_=>none
 |a::l,cmd,H=>if cmd=a.cmd/\H=a.H then some (.val a.v,a.H')else qPg l cmd H
theorem qCo:∀{n:Nat} {l:List jL},gD E n l->∀a∈l,qPg l a.cmd a.H=some (.val a.v,a.H')
 |_,[],_,_,h=>by cases h
 |n,b::l,⟨y,i,x⟩,a,h=>by
  rcases List.mem_cons.1 h with rfl|h
  ·simp[qPg]
  have:=gD.later x a h;have c:b.H.next<b.H'.next:=y.1;rw[qPg,if_neg,qCo x a h];rintro⟨_,e⟩;grind
theorem fJ:∀{l:List jL} {cmd:Cmd} {H:AH} {r:Out×AH},qPg l cmd H=some r->∃a∈l,cmd=a.cmd/\H=a.H/\r=(.val a.v,a.H')
 | [],_,_,_,h=>by cases h
 |a::l,cmd,H,r,h=>by
  rw[qPg]at h;split at h
  ·grind
  obtain⟨b,y,x⟩:=fJ h;grind
theorem jL.cmd_call{a:jL}{f:FuncId}{args:List Value}(h:.call f args=a.cmd):a.rnd=false/\f=a.f/\args=a.args:=by unfold jL.cmd at h;grind
theorem jL.cmd_round{a:jL}{f:FuncId}{args:List Value}(h:.round f args=a.cmd):a.rnd=true/\f=a.f/\args=a.args:=by unfold jL.cmd at h;grind
theorem jL.cmd_code{a:jL}{c:Code}{fr:Fr}(h:.code c fr=a.cmd):False:=by unfold jL.cmd at h;split at h<;>cases h
theorem qPf{n:Nat}{l:List jL}(h:gD E n l):IhOK E (qPg l) where
 up cmd H o H' x:=by
  obtain⟨a,b,_,rfl,i⟩:=fJ x
  cases i
  exact Nat.le_of_lt (h.later a b).2.1
 call f j H v H' x:=by
  obtain⟨a,b,y,rfl,i⟩:=fJ x
  obtain⟨k,rfl,rfl⟩:=jL.cmd_call y
  cases i
  have:=(h.later a b).2.2
  rw[k]at this
  exact this
 round l j H v H' x:=by
  obtain⟨a,b,y,rfl,i⟩:=fJ x
  obtain⟨k,rfl,rfl⟩:=jL.cmd_round y
  cases i
  have:=(h.later a b).2.2
  rw[k]at this
  exact this
 code c fr H e fr' H' x:=by
  obtain⟨a,b,y,_⟩:=fJ x
  exact(jL.cmd_code y).elim
 codev c fr H v H' x:=by
  obtain⟨a,b,y,_⟩:=fJ x
  exact(jL.cmd_code y).elim
def qJr(l:List jL)(h:Cmd->AH->gV):Prop:=∀a∈l,h a.cmd a.H=some (.val a.v,a.H')
def qHE(all:List Oper)(i:Nat)(ts:List (Nat×Nat)):Prop:=∀p∈ts,i<=p.1/\∀k,k<p.1->pL (yX all) p.1 k=true
theorem qHE.hid{all:List Oper}{i:Nat}:∀{ts:List (Nat×Nat)},qHE all (i+1) ts->qJ all i ts=[]
 | [],_=>rfl
 |p::ts,h=>by have x:=(h p List.mem_cons_self).2 i (h p List.mem_cons_self).1;obtain⟨j,b⟩:=p;have x:pL (yX all) j i=true:=x;rw[qJ,x,Bool.or_true,cond_true];exact qHE.hid λq y=>h q (mC _ y)
theorem qHE.less{all:List Oper}{i:Nat}{ts:List (Nat×Nat)}(h:qHE all (i+1) ts):qHE all i ts:=λp x=>⟨Nat.le_of_succ_le (h p x).1,(h p x).2⟩
theorem qDQ{E:Env}{h:Cmd->AH->gV}{all:Array Oper}{ts:List (Nat×Nat)}:∀(os:List Oper) (i:Nat) (fr:Fr) (H:AH),vF E h all false ts os i fr H=vF E h all false [] os i fr H
 | [],_,_,_=>rfl
 |o::os,i,fr,H=>by simp only[vF,cond_false,qDQ os]
def yP(E:Env)(all:Array Oper)(draw:Bool)(os:List Oper)(i:Nat)(fr:Fr)(H:AH)(fr':Fr)(H':AH):Prop:=
 H.next<=H'.next/\∃l,gD E H.next l/\(∀a∈l,a.H'.next<=H'.next)/\∃ts,qHE all.toList i ts/\∀h,qJr l h->vF E h all draw ts os i fr H=some (fr',H')
theorem vC.region(he:EOk E){id:Nat}{ops:Array Oper}{draw:Bool}(h:yP E ops draw ops.toList 0 fr H fr' H'):vC E (.region id ops draw) fr H .normal fr' H':=by obtain⟨z,l,t,_,ts,_,F⟩:=h;refine⟨z,?_⟩;have x:=F (qPg l) (λa C=>qCo t a C);have j:=qPf t;intro p σ w tmps n0 G r B c u b ds k cs A o q;obtain⟨i,w',y,g1,g2,g3⟩:=bZ he j.call j.round j.up (id:=id) (λhd=>by simpa[vB,hd]using p) b ds k cs A o x r B c;exact⟨i,w',y,ds,g1,g2,oU x,q.step r g1,g3⟩
open Classical in
theorem vC.call(he:EOk E){f:FuncId}{args:List Value}{fn:Func}{c:Code}{v:Value}(q:E.funcs.get f=some fn)(u:fn.body=some c)(h:vC E c ⟨Nat.max fn.ntmps args.length,false,T.ofList .leaf 0 args⟩ H e fr' H')(t:e=.normal∨e=.ret)(l:(match v8 E fr' H' fn.results.toList with|some [v]=>some v|some vs=>some (.tuple ⟨vs⟩)|none=>none)=some v):jV E f args H v H':=by
 let x:Fr:=⟨Nat.max fn.ntmps args.length,false,T.ofList .leaf 0 args⟩;let b:Cmd->AH->gV:=λcmd H2=>if cmd=.code c x/\H2=H then some (.ex e fr',H')else none;have y:∀{cmd:Cmd} {H2:AH} {r:Out×AH},b cmd H2=some r->cmd=.code c x/\H2=H/\r=(.ex e fr',H'):=by grind
 have p:IhOK E b:=by
  refine {up:=?_,call:=?_,round:=?_,code:=?_,codev:=?_}
  ·intro cmd H2 o C j;obtain⟨_,w,k⟩:=y j;cases k;rw[w];exact h.1
  ·grind
  ·grind
  ·intro I B H2 G A C j;obtain⟨z,rfl,k⟩:=y j;cases z;cases k;exact h.2
  grind
 have i:body E b (.call f args) H=some (.val v,H'):=by
  have F:b (.code c x) H=some (.ex e fr',H'):=by simp[b]
  simp only[body,q,u];grind
 exact(qKP he p).call _ _ _ _ _ i
end
inductive SV where
 |v (i:Nat)
 |c (x:Value)
 |loc (b off:Nat)
 |ptr (s i:SV) (sz off:Nat)
 |pp (i off:Nat)
 |agg (cs:List SV)
 |tup (cs:List SV)
 |fn (f:Fn) (first cap:List SV)
 |ifc (t:TypeId) (x:SV)
 |yld (b:Nat)
instance:Inhabited SV:=⟨.v 0⟩
inductive VK where
 |pure
 |full
 |fresh
 |dead
 |ptr
structure VSt where
 k:VK
 one:Bool
inductive Blk where
 |cells (cs:List SV)
 |whole (x:SV) (n:Nat)
 |loop (st pd:Nat)
 |tcells (t:TypeId) (cs:List SV)
structure Pat where
 sts:List VSt
 slots:List (Nat×SV)
 blks:List (Option Blk)
 sav:List (List (Nat×SV)):=[]
structure Mode where
 inp:Pat
 n:Nat
 out:Pat
inductive D where
 |leaf (v:Value)
 |agg (cs:List D)
 |nil
 |sl (el:TypeId) (sz:Nat) (es:List D)
 |tup (cs:List D)
 |ptr (cs:List D) (off:Nat)
 |clo (fn:Fn) (first cap:List D)
 |iface (t:TypeId) (d:D)
 |mode (m:Mode)
 |mp (ks:List Value) (ds:List D)
instance:Inhabited D:=⟨.nil⟩
def D.cells:D->List D
 |.agg cs=>cs
 |d=>[d]
def D.one:D->Bool
 |.agg _|.tup _=>false
 |_=>true
def D.es:D->List D
 |.sl _ _ es=>es
 |_=>[]
def D.szD:D->Nat
 |.sl _ sz _=>sz
 |_=>0
def wM:Value->Bool
 |.bool _|.int _ _|.float _ _|.complex _ _ _|.string _=>true
 |.pointer a=>a.isNone
 |.map r=>r.isNone
 |.nilFunc|.nilIface=>true
 |_=>false
abbrev zG:=Nat->Option ABlk
mutual
inductive DR (g:zG):D->Value->Prop
 |leaf {v:Value} (h:wM v=true):DR g (.leaf v) v
 |agg {cs:List D} {vs:List Value} (h:DRs g cs vs) (o:vs.all qH=true):DR g (.agg cs) (.agg ⟨vs⟩)
 |tup {cs:List D} {vs:List Value} (h:DRs g cs vs):DR g (.tup cs) (.tuple ⟨vs⟩)
 |nil:DR g .nil (.slice none 0 0)
 | sl {el:TypeId} {es:List D} {b o l c sz rt:Nat} {cs vs:List Value} {own:Bool} (hb:g b=some ⟨.cells cs el,rt,own⟩) (ht:take? (cs.drop o) (l*sz)=some vs)
   (hv:DRs g (es.flatMap D.cells) vs) (hl:es.length=l) (hs:∀e∈es,e.cells.length=sz) (hc:l<=c) (hx:l<zI) (ho:vs.all qH=true):DR g (.sl el sz es) (.slice (some ⟨b,o,none⟩) l c)
 |ptr {cs:List D} {off b rt:Nat} {vs:List Value} {el:TypeId} {own:Bool} (hb:g b=some ⟨.cells vs el,rt,own⟩) (hv:DRs g cs vs) (ho:vs.all qH=true):DR g (.ptr cs off) (.pointer (some ⟨b,off,none⟩))
 |clo {fn:Fn} {first cap:List D} {f c:List Value} (hp:rK fn=true) (hf:DRs g first f) (hc:DRs g cap c):DR g (.clo fn first cap) (.func fn ⟨f⟩ ⟨c⟩)
 |iface {t:TypeId} {d:D} {v:Value} (h:DR g d v):DR g (.iface t d) (.iface t v)
 |mp {ks:List Value} {ds:List D} {r rt clock:Nat} {es:List MapEntry} {own:Bool} (hb:g r=some ⟨.map es clock,rt,own⟩) (hk:es.map (·.key)=ks) (hv:DRs g ds (es.map (·.val))):DR g (.mp ks ds) (.map (some r))
inductive DRs (g:zG):List D->List Value->Prop
 |nil:DRs g [] []
 |cons {d:D} {v:Value} {ds:List D} {vs:List Value} (h:DR g d v) (hs:DRs g ds vs):DRs g (d::ds) (v::vs)
end
def zG.le(g g':zG):Prop:=∀b k,g b=some k->g' b=some k
theorem zG.le_refl(g:zG):zG.le g g:=λ_ _ h=>h
theorem zG.le_trans{g g' x:zG}(h:zG.le g g')(y:zG.le g' x):zG.le g x:=λb k e=>y b k (h b k e)
mutual
theorem DR.mono{g g':zG}(x:zG.le g g'):∀{d:D} {v:Value},DR g d v->DR g' d v
 |_,_,.leaf h=>.leaf h
 |_,_,.agg h o=>.agg (DRs.mono x h) o
 |_,_,.tup h=>.tup (DRs.mono x h)
 |_,_,.nil=>.nil
 |_,_,.sl y j hv p k c i b=>.sl (x _ _ y) j (DRs.mono x hv) p k c i b
 |_,_,.ptr y hv b=>.ptr (x _ _ y) (DRs.mono x hv) b
 |_,_,.clo l r c=>.clo l (DRs.mono x r) (DRs.mono x c)
 |_,_,.iface h=>.iface (DR.mono x h)
 |_,_,.mp y q hv=>.mp (x _ _ y) q (DRs.mono x hv)
theorem DRs.mono{g g':zG}(x:zG.le g g'):∀{ds:List D} {vs:List Value},DRs g ds vs->DRs g' ds vs
 |_,_,.nil=>.nil
 |_,_,.cons h y=>.cons (DR.mono x h) (DRs.mono x y)
end
section
variable{g g':zG}
theorem DR.one{d:D}{v:Value}(h:DR g d v):qH v=d.one:=by
 cases h<;>try rfl
 rename_i h;cases v<;>first|rfl|(simp[wM]at h)
theorem DRs.length:∀{ds:List D} {vs:List Value},DRs g ds vs->vs.length=ds.length
 |_,_,.nil=>rfl
 |_,_,.cons _ h=>by simp[DRs.length h]
theorem DRs.append:∀{a b:List D} {x y:List Value},DRs g a x->DRs g b y->DRs g (a++b) (x++y)
 |_,_,_,_,.nil,h=>h
 |_,_,_,_,.cons h c,i=>.cons h (DRs.append c i)
theorem DRs.get:∀{ds:List D} {vs:List Value},DRs g ds vs->∀(i:Nat) (d:D),ds[i]? = some d->∃v,vs[i]? = some v/\DR g d v
 |_,_,.nil,i,d,h=>by simp at h
 |_,_,.cons h x,0,d,e=>by simp at e;subst e;exact⟨_,rfl,h⟩
 |_,_,.cons h x,i+1,d,e=>by simp at e;simpa using DRs.get x i d e
theorem DRs.split:∀{a b:List D} {vs:List Value},DRs g (a++b) vs->∃x y,vs=x++y/\DRs g a x/\DRs g b y
 | [],b,vs,h=>⟨[],vs,rfl,.nil,h⟩
 |d::a,b,_,.cons h c=>by obtain⟨x,y,rfl,j,i⟩:=DRs.split (a:=a) c;exact⟨_::x,y,rfl,.cons h j,i⟩
theorem DRs.drop:∀(n:Nat) {ds:List D} {vs:List Value},DRs g ds vs->DRs g (ds.drop n) (vs.drop n)
 |0,_,_,h=>h
 |_+1,_,_,.nil=>.nil
 |n+1,_,_,.cons _ x=>DRs.drop n x
theorem DRs.take:∀(n:Nat) {ds:List D} {vs:List Value},DRs g ds vs->DRs g (ds.take n) (vs.take n)
 |0,_,_,_=>.nil
 |_+1,_,_,.nil=>.nil
 |n+1,_,_,.cons h x=>.cons h (DRs.take n x)
theorem DRs.all_one{ds:List D}{vs:List Value}(h:DRs g ds vs):vs.all qH=ds.all D.one:=by
 induction ds generalizing vs with
 |nil=>cases h;rfl
 |cons d ds x=>cases h with
  |cons h y=>simp[DR.one h,x y]
theorem DR.cells{d:D}{v:Value}(h:DR g d v):DRs g d.cells v.cells.toList:=by
 cases h with
 |agg h o=>exact h
 |leaf h=>cases v<;>first|exact .cons (.leaf h) .nil|(simp[wM]at h)
 |tup h=>exact .cons (.tup h) .nil
 |nil=>exact .cons .nil .nil
 |sl x i hv l j b c y=>exact .cons (.sl x i hv l j b c y) .nil
 |ptr x hv y=>exact .cons (.ptr x hv y) .nil
 |clo k q b=>exact .cons (.clo k q b) .nil
 |iface h=>exact .cons (.iface h) .nil
 |mp x p hv=>exact .cons (.mp x p hv) .nil
theorem DR.leaf_inv{x v:Value}(h:DR g (.leaf x) v):v=x/\wM x=true:=by cases h;exact⟨rfl,by assumption⟩
theorem kG:∀{l:List Value} {n:Nat} {r:List Value},take? l n=some r->r=l.take n/\n<=l.length
 |_,0,r,h=>by simp only[take?,oI]at h;subst h;simp
 | [],n+1,r,h=>by simp[take?]at h
 |x::l,n+1,r,h=>by simp only[take?,Option.map_eq_some_iff]at h;obtain⟨b,y,rfl⟩:=h;obtain⟨rfl,c⟩:=kG y;grind
theorem wZ:∀{l:List Value} {n:Nat},n<=l.length->take? l n=some (l.take n)
 |_,0,_=>by simp[take?]
 | [],n+1,h=>by simp at h
 |x::l,n+1,h=>by simp only[take?];rw[wZ (show n<=l.length by simpa using h)];simp
theorem lJ:∀{es:List D} {sz:Nat},(∀e∈es,e.cells.length=sz)->(es.flatMap D.cells).length=es.length*sz
 | [],sz,_=>by simp
 |e::es,sz,h=>by have:=lJ (es:=es) λx y=>h x (mC _ y);grind
theorem o9:∀{es:List D} {sz:Nat},(∀e∈es,e.cells.length=sz)->∀i,(es.flatMap D.cells).drop (i*sz)=(es.drop i).flatMap D.cells
 |_,_,_,0=>by simp
 | [],_,_,i+1=>by simp
 |e::es,sz,h,i+1=>by have:=o9 (es:=es) (λx y=>h x (mC _ y)) i;simp only[List.flatMap_cons,List.drop_succ_cons];rw[←this];have he:=h e List.mem_cons_self;rw[show(i+1)*sz=e.cells.length+i*sz by rw[Nat.add_mul,he];omega,←List.drop_drop];simp
theorem rT:∀{es:List D} {sz:Nat},(∀e∈es,e.cells.length=sz)->∀i,(es.flatMap D.cells).take (i*sz)=(es.take i).flatMap D.cells
 |_,_,_,0=>by simp
 | [],_,_,i+1=>by simp
 |e::es,sz,h,i+1=>by have:=rT (es:=es) (λx y=>h x (mC _ y)) i;simp only[List.flatMap_cons,List.take_succ_cons];rw[←this];have he:=h e List.mem_cons_self;rw[show(i+1)*sz=e.cells.length+i*sz by rw[Nat.add_mul,he];omega,List.take_append];simp[List.take_of_length_le]
theorem qSs{es:List D}{sz:Nat}(h:∀e∈es,e.cells.length=sz){i:Nat}{e:D}(y:es[i]? = some e):((es.flatMap D.cells).drop (i*sz)).take sz=e.cells:=by obtain⟨x,rfl⟩:=gI y;rw[o9 h,List.drop_eq_getElem_cons x,List.flatMap_cons,List.take_append];have:=h _ (List.getElem_mem x);rw[this];grind
theorem qDN{l:List Value}{n:Nat}{vs:List Value}(h:take? l n=some vs){i k:Nat}(x:i+k<=n):take? (l.drop i) k=some ((vs.drop i).take k):=by
 obtain⟨rfl,y⟩:=kG h;rw[wZ (by simp;omega)]
 congr 1
 rw[List.drop_take,List.take_take,Nat.min_eq_left (by omega)]
def Whole(ag:Bool)(size:Nat)(d:D):Prop:=if ag then∃cs,d=.agg cs/\cs.length=size else d.one=true/\size=1
theorem qWA{a b c:Nat}(h:a<b):a*c+c<=b*c:=by have:(a+1)*c<=b*c:=Nat.mul_le_mul_right c h;rw[Nat.add_mul]at this;omega
end
def T.map{α h:Type}(f:α->h):T α->T h
 |.leaf=>.leaf
 |.node v l r=>.node (match v with|some x=>some (f x)|none=>none) (l.map f) (r.map f)
def uM:Nat->Value->D
 |0,v=>match v with
  |.slice none _ _=>.nil
  |v=>.leaf v
 |n+1,v=>match v with
  |.slice none _ _=>.nil
  |.agg cs=>.agg (cs.toList.map (uM n))
  |.tuple cs=>.tup (cs.toList.map (uM n))
  |.iface t v=>.iface t (uM n v)
  |v=>.leaf v
abbrev qHM:Value->D:=uM 6
def qBY(s i:Value)(sz off:Nat):Value:=match s,i with
 |.slice (some ⟨b,o,none⟩) _ _,.int _ (.ofNat n)=>.pointer (some ⟨b,o+n*sz+off,none⟩)
 |_,_=>.pointer (some ⟨0,off,none⟩)
def qRy(p:Value)(off:Nat):Value:=match p with
 |.pointer (some ⟨b,o,none⟩)=>.pointer (some ⟨b,o+off,none⟩)
 |_=>.pointer (some ⟨0,off,none⟩)
def zCz(p:D)(off:Nat):D:=match p with
 |.ptr cs o=>.ptr cs (o+off)
 |d=>d
mutual
def SV.val(ve:Nat->Value)(lb:Nat->Nat):SV->Value
 |.v i=>ve i
 |.c x=>x
 |.loc b off=>.pointer (some ⟨lb b,off,none⟩)
 |.ptr s i sz off=>qBY (s.val ve lb) (i.val ve lb) sz off
 |.pp i off=>qRy (ve i) off
 |.agg cs=>.agg ⟨SV.vals ve lb cs⟩
 |.tup cs=>.tuple ⟨SV.vals ve lb cs⟩
 |.fn f a b=>.func f ⟨SV.vals ve lb a⟩ ⟨SV.vals ve lb b⟩
 |.ifc t x=>.iface t (x.val ve lb)
 |.yld b=>.func (.yield (lb b)) #[] #[]
def SV.vals(ve:Nat->Value)(lb:Nat->Nat):List SV->List Value
 | []=>[]
 |x::xs=>x.val ve lb::SV.vals ve lb xs
end
mutual
def SV.d(ρ:Nat->D):SV->D
 |.v i=>ρ i
 |.c x=>qHM x
 |.loc _ _=>.nil
 |.ptr _ _ _ _=>.nil
 |.pp i off=>zCz (ρ i) off
 |.agg cs=>.agg (SV.ds ρ cs)
 |.tup cs=>.tup (SV.ds ρ cs)
 |.fn f a b=>.clo f (SV.ds ρ a) (SV.ds ρ b)
 |.ifc t x=>.iface t (x.d ρ)
 |.yld _=>.nil
def SV.ds(ρ:Nat->D):List SV->List D
 | []=>[]
 |x::xs=>x.d ρ::SV.ds ρ xs
end
inductive TOp where
 |bin (op:BinOp) (t:TypeId) (x y:Operand)
 |isNil (neg:Bool)
 |un (op:UnOp) (t:TypeId)
 |conv (s d:TypeId)
 |chk (ag:Bool) (size:Nat)
 |fld (ag:Bool) (size off:Nat)
 |inr
 |elem (sz:Nat) (ag:Bool) (size off:Nat)
 |len (str:Bool)
 |slc (el sz:Nat) (lo hi:Bool)
 |sub (lo hi:Bool)
 |chr
 |ext (i:Nat)
 |app (el sz bytes:Nat)
 |apps (el bytes:Nat)
 |bld (el:Nat)
 |lit (el sz:Nat)
 |loadp (ag:Bool) (size:Nat)
 |box
 |boxw
 |nn
 |pchk
 |mk (el sz bytes:Nat) (ag:Bool) (z:List Value)
 |set (sz:Nat) (ag:Bool) (size off:Nat)
 |bstr
 |slc0 (el sz:Nat)
 |byt (el:Nat)
 |mm (mx:Bool)
 |lib (F:List D->Option D)
 |mnew
 |mget (t:TypeId) (ok:Bool)
 |mset (t:TypeId)
 |mdel (t:TypeId)
 |mlen
 |nok
 |nch
 |nnx
 |cpy (el sz:Nat)
 |clr (el sz:Nat) (ag:Bool) (z:List Value)
mutual
def D.toV:D->Option Value
 |.leaf v=>some v
 |.agg cs=>(D.toVs cs).map λl=>.agg ⟨l⟩
 |.nil=>some (.slice none 0 0)
 |_=>none
def D.toVs:List D->Option (List Value)
 | []=>some []
 |d::ds=>match d.toV,D.toVs ds with
  |some v,some vs=>some (v::vs)
  |_,_=>none
end
def mW(ag:Bool)(size off:Nat)(cs:List D):Option D:=
 bif ag then(bif Nat.ble (off+size) cs.length then some (.agg ((cs.drop off).take size))else none)
 else match cs[off]? with
  |some d=>bif d.one then some d else none
  |none=>none
def eG(ag:Bool)(size:Nat)(d:D):Option D:=
 bif ag then(match d with|.agg cs=>bif Nat.beq cs.length size then some d else none|_=>none)
 else bif d.one&&Nat.beq size 1 then some d else none
def dS:D->Option Nat
 |.leaf (.int _ (.ofNat n))=>some n
 |_=>none
def bM(d i:D):Option D:=match dS i with
 |some n=>d.es[n]?
 |none=>none
def lE(v:Option Value):Option D:=match v with
 |some v=>bif wM v then some (.leaf v)else none
 |none=>none
def qKG(E:Env)(s d:TypeId)(v:Value):Option Value:=match v with
 |.string b=>match E.types.get s,E.types.get d with
  |some {desc:=.string,..},some {desc:=.slice _,..}=>none
  |_,_=>flat? (qT E.prog (Go.convert s d (.string b)))
 |.pointer _=>none
 |v=>bif zK v then flat? (qT E.prog (Go.convert s d v))else none
def vQ(b:Bool)(d:Nat):List D->Option (Nat×List D)
 |l=>bif b then(match l with
  |x::r=>(dS x).map λn=>(n,r)
  | []=>none)else some (d,l)
def rH:D->Option Nat
 |.leaf (.string s)=>some s.size
 |.sl _ _ es=>some es.length
 |.nil=>some 0
 |_=>none
def zD(ag:Bool)(z:List Value):D:=bif ag then .agg (z.map qHM)else match z with
 |v::_=>qHM v
 | []=>.nil
def uH(cs:List D)(off:Nat)(xs:List D):List D:=cs.take off++(xs++cs.drop (off+xs.length))
def uI(e:D)(off:Nat)(xs:List D):D:=match e with
 |.agg cs=>.agg (uH cs off xs)
 |_=>match xs with
  | [x]=>x
  |_=>e
def cO:List D->Option (List UInt8)
 | []=>some []
 |.leaf (.int .u8 b)::r=>(cO r).map (UInt8.ofNat b.toNat :: ·)
 |_=>none
def qUX(mx:Bool):Value->Value->Option Value
 |.int k x,.int _ y=>some (.int k (bif mx then(if x<y then y else x)else(if y<x then y else x)))
 |_,_=>none
def zA7(el:Nat):D->Bool
 |.nil=>true
 |.sl vK h es=>Nat.beq vK el&&Nat.beq h 1&&Nat.ble 1 es.length
 |_=>false
def qFN:TypeDesc->Bool
 |.int _|.string|.bool=>true
 |_=>false
def dW(kd:TypeDesc)(k:Value):List Value->Nat->Option (Option Nat)
 | [],_=>some none
 |x::r,i=>match Instr.sameNow kd k x with
  |some true=>some (some i)
  |some false=>dW kd k r (i+1)
  |none=>none
def qGB(E:Env)(t:TypeId):Option (TypeDesc×Bool×List Value):=match E.types.get t with
 |some {desc:=.map h x,..}=>match qT E.prog (underlying h),E.types.get x with
  |some kd,some {zero:=some z,agg:=ag,..}=>bif qFN kd then some (kd,ag,z)else none
  |_,_=>none
 |_=>none
def qCj:D->Option (List Value×List D)
 |.mp h ds=>some (h,ds)
 |.leaf (.map none)=>some ([],[])
 |_=>none
def qD7(E:Env)(t:TypeId)(ok:Bool)(m k:D):Option D:=match qGB E t,qCj m,k with
 | some (kd,ag,z),some (x,ds),.leaf h=>match dW kd h x 0 with
  |some (some i)=>(ds[i]?).map λd=>bif ok then .tup [d,.leaf (.bool true)]else d
  |some none=>match rF ag z with
   |some v=>bif zK v then some (bif ok then .tup [qHM v,.leaf (.bool false)]else qHM v)else none
   |none=>none
  |none=>none
 |_,_,_=>none
def qD6(E:Env)(t:TypeId)(m k x:D):Option D:=match qGB E t,m,k with
 |some (kd,_,_),.mp y ds,.leaf h=>match dW kd h y 0 with
  |some (some i)=>some (.mp (y.set i h) (ds.set i x))
  |some none=>some (.mp (y++[h]) (ds++[x]))
  |none=>none
 |_,_,_=>none
def qJ1(E:Env)(t:TypeId)(m k:D):Option D:=match qGB E t,m,k with
 |some (kd,_,_),.mp h ds,.leaf x=>match dW kd x h 0 with
  |some (some i)=>some (.mp (h.eraseIdx i) (ds.eraseIdx i))
  |some none=>some (.mp h ds)
  |none=>none
 |_,_,_=>none
def qQO(F:ByteArray->Nat->Value):D->D->Option D
 |.leaf (.string s),.leaf (.int .i64 (.ofNat n))=>some (.leaf (F s n))
 |_,_=>none
def eF(es:List D)(n:Nat):List D:=es.take (n+1)++(es.drop n).take (es.length-(n+1))
def TOp.eval(E:Env):TOp->List D->Option D
 |.mm mx,[.leaf u,.leaf v]=>lE (qUX mx u v)
 |.bin A t x y,[a,b]=>match a.toV,b.toV with
  |some u,some v=>lE (oL E A t x y u v)
  |_,_=>none
 |.isNil o,[d]=>match d with
  |.nil=>some (.leaf (.bool !o))
  |.sl _ _ _=>some (.leaf (.bool o))
  |_=>none
 |.un A _,[.leaf v]=>bif zK v then lE (flat? (qT E.prog (Op.unary A v)))else none
 |.conv s d,[.leaf v]=>lE (qKG E s d v)
 |.chk ag size,[d]=>eG ag size d
 |.fld ag size off,[d]=>mW ag size off d.cells
 |.inr,[d,i]=>(bM d i).map λ_=>.leaf (.bool true)
 |.elem sz ag size off,[d,i]=>match bM d i with
  |some e=>bif Nat.beq d.szD sz&&Nat.ble (off+(bif ag then size else 1)) sz then(bif ag&&Nat.beq off 0&&Nat.beq size sz then eG true size e else mW ag size off e.cells)else none
  |none=>none
 |.len w,[d]=>match w,d with
  |true,.leaf (.string s)=>some (.leaf (goInt s.size))
  |false,.sl _ _ es=>some (.leaf (goInt es.length))
  |false,.nil=>some (.leaf (goInt 0))
  |_,_=>none
 | .slc el sz lo q,d::r=>match d with
  | .sl vK c es=>match vQ lo 0 r with
   |some (l,r)=>match vQ q es.length r with
    |some (h,[])=>bif Nat.beq vK el&&Nat.beq c sz&&Nat.ble l h&&Nat.ble h es.length then some (.sl el sz ((es.drop l).take (h-l)))else none
    |_=>none
   |none=>none
  | .nil=>match vQ lo 0 r with
   |some (0,r)=>match vQ q 0 r with
    |some (0,[])=>some .nil
    |_=>none
   |_=>none
  |_=>none
 | .sub lo q,.leaf (.string s)::r=>match vQ lo 0 r with
  |some (l,r)=>match vQ q s.size r with
   |some (h,[])=>bif Nat.ble l h&&Nat.ble h s.size then some (.leaf (.string (s.extract l h)))else none
   |_=>none
  |none=>none
 |.chr,[.leaf (.string s),i]=>match dS i with
  |some n=>(s.data.toList[n]?).map λb=>.leaf (.int .u8 b.toNat)
  |none=>none
 |.ext i,[.tup ds]=>ds[i]?
 | .app el sz bytes,[a,b]=>match rH a,b with
  |some n,.nil=>bif Nat.ble (Nat.mul (Nat.add (Nat.mul 4 n) 4000) (Nat.succ bytes)) 100000000000 then some a else none
  |some n,.sl _ c es=>
   bif Nat.ble (Nat.mul (Nat.add (Nat.mul 4 (Nat.add n es.length)) 4000) (Nat.succ bytes)) 100000000000&&Nat.beq c sz&&(match a with|.sl vK c _=>Nat.beq vK el&&Nat.beq c sz|.nil=>true|_=>false)then(bif Nat.beq es.length 0 then some a else some (.sl el sz (a.es++es)))else none
  |_,_=>none
 |.lit el sz,ds=>bif ds.all (λe=>Nat.beq e.cells.length sz)&&Nat.ble (Nat.mul ds.length (Nat.succ sz)) 1000000 then some (.sl el sz ds)else none
 |.loadp ag size,[.ptr cs off]=>mW ag size off cs
 |.box,ds=>some (.ptr ds 0)
 |.boxw,[.agg cs]=>some (.ptr cs 0)
 |.nn,[d]=>match d with
  |.clo (.func _) _ _=>some d
  |.ptr _ _=>some d
  |.iface _ _=>some d
  |_=>none
 |.pchk,[d]=>match d with
  |.ptr _ _=>some d
  |_=>none
 |.mk el sz bytes ag z,[d]=>match dS d with
  |some n=>bif Nat.beq z.length sz&&z.all (λv=>zK v&&qH v)&&(ag||Nat.beq sz 1)&&Nat.ble (Nat.mul n (Nat.succ (Nat.add bytes sz))) 1000000000 then some (.sl el sz (List.replicate n (zD ag z)))else none
  |none=>none
 |.mk el sz bytes ag z,[B,d]=>match dS B,dS d with
  |some 0,some n=>bif Nat.beq z.length sz&&z.all (λv=>zK v&&qH v)&&(ag||Nat.beq sz 1)&&Nat.ble (Nat.mul n (Nat.succ (Nat.add bytes sz))) 1000000000 then some (.sl el sz [])else none
  |_,_=>none
 | .set sz ag size off,[d,i,x]=>match d,dS i,eG ag size x with
  |.sl el c es,some n,some _=>match es[n]? with
   |some e=>bif Nat.beq c sz&&Nat.ble (off+size) sz then some (.sl el sz (es.set n (uI e off x.cells)))else none
   |none=>none
  |_,_,_=>none
 |.bstr,[d]=>match d with
  |.sl _ sz es=>bif Nat.beq sz 1 then(cO es).map λl=>.leaf (.string ⟨⟨l⟩⟩)else none
  |_=>none
 |.slc0 el sz,[d]=>match d with
  |.nil=>some .nil
  |.sl vK c _=>bif Nat.beq vK el&&Nat.beq c sz then some (.sl el sz [])else none
  |_=>none
 | .apps el bytes,[a,b]=>match b with
  |.leaf (.string s)=>
   bif Nat.ble (Nat.mul (Nat.add (Nat.mul 4 (Nat.add a.es.length s.data.toList.length)) 4000) (Nat.succ bytes)) 100000000000&&zA7 el a then(bif Nat.beq s.data.toList.length 0 then some a else some (.sl el 1 (a.es++s.data.toList.map λb=>.leaf (.int .u8 b.toNat))))else none
  |_=>none
 |.bld el,[a]=>match a with
  |.nil=>some (.leaf (.string .empty))
  |.sl vK sz es=>bif Nat.beq vK el&&Nat.beq sz 1&&Nat.ble 1 es.length&&Nat.ble es.length 1000000000 then(cO es).map λl=>.leaf (.string ⟨⟨l⟩⟩)else none
  |_=>none
 |.lib F,ds=>F ds
 |.mnew,[]=>some (.mp [] [])
 |.mget t ok,[m,k]=>qD7 E t ok m k
 |.mset t,[m,k,x]=>qD6 E t m k x
 |.mdel t,[m,k]=>qJ1 E t m k
 |.mlen,[m]=>(qCj m).map λp=>.leaf (goInt p.1.length)
 |.nok,[s,p]=>qQO (λs n=>.bool (Nat.ble (n+1) s.size)) s p
 |.nch,[s,p]=>qQO (λs n=>.int .i32 (Utf8.decode s n).1) s p
 |.nnx,[s,p]=>qQO (λs n=>goInt ((n+(Utf8.decode s n).2:Nat):Int)) s p
 |.clr el sz ag z,[d,j]=>match d,j with
  |.sl vK c es,.leaf (.int .i64 (.ofNat n))=>bif Nat.beq vK el&&Nat.beq c sz&&(Nat.ble n es.length&&Nat.ble 1 es.length)&&(Nat.beq z.length sz&&z.all (λv=>zK v&&qH v)&&(ag||Nat.beq sz 1))then some (.sl el sz (es.take n++List.replicate (es.length-n) (zD ag z)))else none
  |_,_=>none
 |.cpy el sz,[d,j]=>match d,j with
  |.sl vK c es,.leaf (.int .i64 (.ofNat n))=>bif Nat.beq vK el&&Nat.beq c sz&&Nat.ble (n+1) es.length then some (.sl el sz (eF es n))else none
  |_,_=>none
 |.byt el,[d]=>match d with
  |.leaf (.string s)=>bif Nat.ble s.data.toList.length 1000000000 then some (.sl el 1 (s.data.toList.map λb=>.leaf (.int .u8 b.toNat)))else none
  |_=>none
 |_,_=>none
section
variable{E:Env}
theorem mA{op:BinOp}{t:TypeId}{x y:Operand}{a b:D}:TOp.eval E (.bin op t x y) [a,b]=(match a.toV,b.toV with
  |some u,some v=>lE (oL E op t x y u v)
  |_,_=>none):=rfl
theorem qBn{t:TypeId}{ok:Bool}{m k:D}:TOp.eval E (.mget t ok) [m,k]=qD7 E t ok m k:=rfl
theorem qBm{t:TypeId}{m k x:D}:TOp.eval E (.mset t) [m,k,x]=qD6 E t m k x:=rfl
theorem qKs{t:TypeId}{m k:D}:TOp.eval E (.mdel t) [m,k]=qJ1 E t m k:=rfl
theorem qKr{m:D}:TOp.eval E .mlen [m]=(qCj m).map λp=>.leaf (goInt p.1.length):=rfl
theorem qXj{s p:D}:TOp.eval E .nok [s,p]=qQO (λs n=>.bool (Nat.ble (n+1) s.size)) s p:=rfl
theorem qXl{s p:D}:TOp.eval E .nch [s,p]=qQO (λs n=>.int .i32 (Utf8.decode s n).1) s p:=rfl
theorem qXk{s p:D}:TOp.eval E .nnx [s,p]=qQO (λs n=>goInt ((n+(Utf8.decode s n).2:Nat):Int)) s p:=rfl
theorem qFz:TOp.eval E .mnew []=some (.mp [] []):=rfl
theorem qIV{F:List D->Option D}{ds:List D}:TOp.eval E (.lib F) ds=F ds:=rfl
theorem eD{neg:Bool}{d:D}:TOp.eval E (.isNil neg) [d]=(match d with
  |.nil=>some (.leaf (.bool !neg))
  |.sl _ _ _=>some (.leaf (.bool neg))
  |_=>none):=rfl
theorem zAq{op:UnOp}{t:TypeId}{v:Value}:TOp.eval E (.un op t) [.leaf v]=(bif zK v then lE (flat? (qT E.prog (Op.unary op v)))else none):=rfl
theorem qPC{mx:Bool}{u v:Value}:TOp.eval E (.mm mx) [.leaf u,.leaf v]=lE (qUX mx u v):=rfl
theorem qSw{s d:TypeId}{v:Value}:TOp.eval E (.conv s d) [.leaf v]=lE (qKG E s d v):=rfl
theorem iZ{ag:Bool}{size:Nat}{d:D}:TOp.eval E (.chk ag size) [d]=eG ag size d:=rfl
theorem qCM{ag:Bool}{size off:Nat}{d:D}:TOp.eval E (.fld ag size off) [d]=mW ag size off d.cells:=rfl
theorem qIX{d i:D}:TOp.eval E .inr [d,i]=(bM d i).map λ_=>.leaf (.bool true):=rfl
theorem tM{sz:Nat}{ag:Bool}{size off:Nat}{d i:D}:TOp.eval E (.elem sz ag size off) [d,i]=(match bM d i with
  |some e=>bif Nat.beq d.szD sz&&Nat.ble (off+(bif ag then size else 1)) sz then(bif ag&&Nat.beq off 0&&Nat.beq size sz then eG true size e else mW ag size off e.cells)else none
  |none=>none):=rfl
theorem qIW{str:Bool}{d:D}:TOp.eval E (.len str) [d]=(match str,d with
  |true,.leaf (.string s)=>some (.leaf (goInt s.size))
  |false,.sl _ _ es=>some (.leaf (goInt es.length))
  |false,.nil=>some (.leaf (goInt 0))
  |_,_=>none):=rfl
theorem cK{el sz:Nat}{lo y:Bool}{d:D}{r:List D}:TOp.eval E (.slc el sz lo y) (d::r)=(match d with
  | .sl vK x es=>match vQ lo 0 r with
   |some (l,r)=>match vQ y es.length r with
    |some (h,[])=>bif Nat.beq vK el&&Nat.beq x sz&&Nat.ble l h&&Nat.ble h es.length then some (.sl el sz ((es.drop l).take (h-l)))else none
    |_=>none
   |none=>none
  | .nil=>match vQ lo 0 r with
   |some (0,r)=>match vQ y 0 r with
    |some (0,[])=>some .nil
    |_=>none
   |_=>none
  |_=>none):=rfl
theorem qIU{lo x:Bool}{s:ByteArray}{r:List D}:TOp.eval E (.sub lo x) (.leaf (.string s)::r)=(match vQ lo 0 r with
  |some (l,r)=>match vQ x s.size r with
   |some (h,[])=>bif Nat.ble l h&&Nat.ble h s.size then some (.leaf (.string (s.extract l h)))else none
   |_=>none
  |none=>none):=rfl
theorem qPI{s:ByteArray}{i:D}:TOp.eval E .chr [.leaf (.string s),i]=(match dS i with
  |some n=>(s.data.toList[n]?).map λb=>.leaf (.int .u8 b.toNat)
  |none=>none):=rfl
theorem qPF{i:Nat}{ds:List D}:TOp.eval E (.ext i) [.tup ds]=ds[i]? :=rfl
theorem qFA{el sz:Nat}{ds:List D}:TOp.eval E (.lit el sz) ds=(bif ds.all (λe=>Nat.beq e.cells.length sz)&&Nat.ble (Nat.mul ds.length (Nat.succ sz)) 1000000 then some (.sl el sz ds)else none):=by
 cases ds with
 |nil=>rfl
 |cons a l=>cases l with
  |nil=>cases a<;>rfl
  |cons b l=>cases l<;>rfl
theorem i9{el sz bytes:Nat}{a b:D}:TOp.eval E (.app el sz bytes) [a,b]=(match rH a,b with
  |some n,.nil=>bif Nat.ble (Nat.mul (Nat.add (Nat.mul 4 n) 4000) (Nat.succ bytes)) 100000000000 then some a else none
  |some n,.sl _ h es=>
   bif Nat.ble (Nat.mul (Nat.add (Nat.mul 4 (Nat.add n es.length)) 4000) (Nat.succ bytes)) 100000000000&&Nat.beq h sz&&(match a with|.sl vK h _=>Nat.beq vK el&&Nat.beq h sz|.nil=>true|_=>false)then(bif Nat.beq es.length 0 then some a else some (.sl el sz (a.es++es)))else none
  |_,_=>none):=rfl
theorem qHb{ag:Bool}{size off:Nat}{cs:List D}:TOp.eval E (.loadp ag size) [.ptr cs off]=mW ag size off cs:=rfl
theorem qPK{ds:List D}:TOp.eval E .box ds=some (.ptr ds 0):=by
 cases ds with
 |nil=>rfl
 |cons a l=>cases l with
  |nil=>cases a<;>rfl
  |cons b l=>cases l<;>rfl
theorem tN{cs:List D}:TOp.eval E .boxw [.agg cs]=some (.ptr cs 0):=rfl
theorem zAs{d:D}:TOp.eval E .nn [d]=(match d with
  |.clo (.func _) _ _=>some d
  |.ptr _ _=>some d
  |.iface _ _=>some d
  |_=>none):=rfl
theorem qPE{el sz bytes:Nat}{ag:Bool}{z:List Value}{d:D}:TOp.eval E (.mk el sz bytes ag z) [d]=(match dS d with
  |some n=>bif Nat.beq z.length sz&&z.all (λv=>zK v&&qH v)&&(ag||Nat.beq sz 1)&&Nat.ble (Nat.mul n (Nat.succ (Nat.add bytes sz))) 1000000000 then some (.sl el sz (List.replicate n (zD ag z)))else none
  |none=>none):=rfl
theorem qPD{el sz bytes:Nat}{ag:Bool}{z:List Value}{h d:D}:TOp.eval E (.mk el sz bytes ag z) [h,d]=(match dS h,dS d with
  |some 0,some n=>bif Nat.beq z.length sz&&z.all (λv=>zK v&&qH v)&&(ag||Nat.beq sz 1)&&Nat.ble (Nat.mul n (Nat.succ (Nat.add bytes sz))) 1000000000 then some (.sl el sz [])else none
  |_,_=>none):=rfl
theorem qCL{sz size off:Nat}{ag:Bool}{d i x:D}:TOp.eval E (.set sz ag size off) [d,i,x]=(match d,dS i,eG ag size x with
  |.sl el h es,some n,some _=>match es[n]? with
   |some e=>bif Nat.beq h sz&&Nat.ble (off+size) sz then some (.sl el sz (es.set n (uI e off x.cells)))else none
   |none=>none
  |_,_,_=>none):=rfl
theorem qPH{el sz:Nat}{ag:Bool}{z:List Value}{d j:D}:TOp.eval E (.clr el sz ag z) [d,j]=(match d,j with
  |.sl vK h es,.leaf (.int .i64 (.ofNat n))=>bif Nat.beq vK el&&Nat.beq h sz&&(Nat.ble n es.length&&Nat.ble 1 es.length)&&(Nat.beq z.length sz&&z.all (λv=>zK v&&qH v)&&(ag||Nat.beq sz 1))then some (.sl el sz (es.take n++List.replicate (es.length-n) (zD ag z)))else none
  |_,_=>none):=by
 unfold TOp.eval;rfl
theorem qPG{el sz:Nat}{d j:D}:TOp.eval E (.cpy el sz) [d,j]=(match d,j with
  |.sl vK h es,.leaf (.int .i64 (.ofNat n))=>bif Nat.beq vK el&&Nat.beq h sz&&Nat.ble (n+1) es.length then some (.sl el sz (eF es n))else none
  |_,_=>none):=rfl
theorem qPB{d:D}:TOp.eval E .bstr [d]=(match d with
  |.sl _ sz es=>bif Nat.beq sz 1 then(cO es).map λl=>.leaf (.string ⟨⟨l⟩⟩)else none
  |_=>none):=rfl
theorem qPJ{el:Nat}{d:D}:TOp.eval E (.byt el) [d]=(match d with
  |.leaf (.string s)=>bif Nat.ble s.data.toList.length 1000000000 then some (.sl el 1 (s.data.toList.map λb=>.leaf (.int .u8 b.toNat)))else none
  |_=>none):=rfl
theorem qBl{d:D}:TOp.eval E .pchk [d]=(match d with
  |.ptr _ _=>some d
  |_=>none):=rfl
end
structure St where
 sts:List VSt
 slots:T SV
 blks:List (Option Blk)
 sz:Nat
 sav:List (List (Nat×SV)):=[]
def St.n(S:St):Nat:=S.sts.length
def St.pureV(S:St)(i:Nat):Bool:=match S.sts[i]? with
 |some ⟨.pure,_⟩=>true
 |some ⟨.full,_⟩=>true
 |some ⟨.ptr,_⟩=>true
 |_=>false
def St.isPtr(S:St)(i:Nat):Bool:=match S.sts[i]? with
 |some ⟨.ptr,_⟩=>true
 |_=>false
def St.readV(S:St)(i:Nat):Bool:=match S.sts[i]? with
 |some ⟨.dead,_⟩=>false
 |some _=>true
 |none=>false
def St.freshV(S:St)(i:Nat):Bool:=match S.sts[i]? with
 |some ⟨.fresh,_⟩=>true
 |_=>false
def St.oneV(S:St)(i:Nat):Bool:=match S.sts[i]? with
 |some ⟨_,o⟩=>o
 |none=>false
def dP(S:St):SV->Bool
 |.v i=>S.oneV i
 |.c x=>qH x
 |.agg _|.tup _=>false
 |_=>true
mutual
def wH(S:St):SV->Bool
 |.v i=>S.pureV i
 |.c x=>zK x
 |.loc _ _=>false
 |.ptr _ _ _ _=>false
 |.pp i _=>S.isPtr i
 |.agg cs=>cB S cs&&cs.all (dP S)
 |.tup cs=>cB S cs
 |.fn f a b=>rK f&&cB S a&&cB S b
 |.ifc _ x=>wH S x
 |.yld _=>false
def cB(S:St):List SV->Bool
 | []=>true
 |x::xs=>wH S x&&cB S xs
end
def wG(S:St):SV->Bool
 |.v i=>S.readV i
 |x=>wH S x
def tG:VSt->VSt
 |⟨.fresh,o⟩=>⟨.pure,o⟩
 |s=>s
def St.freeze(S:St)(i:Nat):St:={S with sts:=S.sts.modify i tG}
def St.kill(S:St)(i:Nat):St:={S with sts:=S.sts.modify i λs=>⟨.dead,s.one⟩}
mutual
def pH(S:St):SV->St
 |.v i=>S.freeze i
 |.agg cs=>vR S cs
 |.tup cs=>vR S cs
 |.fn _ a b=>vR (vR S a) b
 |.ifc _ x=>pH S x
 |_=>S
def vR(S:St):List SV->St
 | []=>S
 |x::xs=>vR (pH S x) xs
end
def St.put(S:St)(h:Option Tmp)(x:SV):Option St:=match h with
 |some d=>bif Nat.ble (d+1) S.sz then some {S with slots:=S.slots.put d (some x)}else none
 |none=>some S
def St.new(S:St)(k:VK)(one:Bool):St:={S with sts:=S.sts++[⟨k,one⟩]}
def SV.known(i:Nat)(b:Bool):SV->SV
 |.v j=>bif Nat.beq j i then .c (.bool b)else .v j
 |x=>x
def St.known(S:St)(i:Nat)(b:Bool):St:={S with slots:=S.slots.map (SV.known i b)}
inductive Tgt where
 |fn (f:FuncId)
 |val (x:SV)
 |meth (x:SV) (name:String)
inductive Tree where
 |fail
 |stop (k:Nat) (S:St)
 |ret (xs:List SV)
 |jump (k:Nat) (args:List SV)
 |bind (o:TOp) (args:List SV) (rest:Tree)
 |call (tg:Tgt) (args:List SV) (flat:Nat) (rest:Tree)
 |callM (f:FuncId) (m:Mode) (args:List SV) (rest:Tree)
 |ite (c:SV) (a b:Tree)
abbrev K1:=SV->St->Tree
def pW(S:St):Operand->Option SV
 |.tmp t=>S.slots.get t
 |.const v=>bif zK v then some (.c v)else none
 |.global _=>none
 |.func f=>some (.fn (.func f) [] [])
def cL(S:St):List Operand->Option (List SV)
 | []=>some []
 |x::xs=>match pW S x,cL S xs with
  |some a,some l=>some (a::l)
  |_,_=>none
def j7(o:TOp)(h:List SV)(k:VK)(one:Bool)(S:St)(κ:K1):Tree:=
 bif h.all (wG S)then .bind o h (κ (.v S.n) (S.new k one))else .fail
def qHz(o:TOp)(h:List SV)(k:VK)(one:Bool)(S:St)(κ:K1):Tree:=
 let S:=vR S h
 bif h.all (wH S)then .bind o h (κ (.v S.n) (S.new k one))else .fail
def qKi(i:Nat):Nat->Nat->List SV->St->(List SV->St->Tree)->Tree
 |0,_,acc,S,κ=>κ acc S
 |n+1,k,acc,S,κ=>j7 (.fld false 1 k) [.v i] .pure true S λy S=>qKi i n (k+1) (acc++[y]) S κ
def aC(ag:Bool)(size:Nat)(x:Value):Option (List SV):=
 let l:=x.cells.toList
 bif zK x&&Nat.beq l.length size&&(match x with|.agg _=>ag|.tuple _=>false|_=>!ag)then some (l.map .c)else none
def pY(x:SV)(ag:Bool)(size:Nat)(S:St)(κ:List SV->St->Tree):Tree:=match x with
 |.agg cs=>bif ag&&Nat.beq cs.length size&&cs.all (dP S)then κ cs S else .fail
 |.c v=>match aC ag size v with
  |some l=>κ l S
  |none=>.fail
 | .v i=>bif ag then j7 (.chk true size) [.v i] .pure false S λy S=>match y with
    |.v j=>qKi j size 0 [] S κ
    |_=>.fail
   else bif Nat.beq size 1 then(bif S.oneV i&&S.readV i then κ [.v i] S else qHz (.chk false 1) [.v i] .pure true S λy S=>κ [y] S)else .fail
 |.tup _=>.fail
 |.yld _=>.fail
 |x=>bif !ag&&Nat.beq size 1 then κ [x] S else .fail
def yA:List SV->Nat->List SV->Option (List SV)
 |cs,0,[]=>some cs
 | [],0,_::_=>none
 |_::cs,0,v::vs=>(yA cs 0 vs).map (v :: ·)
 | [],_+1,_=>none
 |c::cs,i+1,vs=>(yA cs i vs).map (c :: ·)
def qAD(ag:Bool)(size off:Nat)(cs:List SV):Option SV:=
 bif ag then(bif Nat.ble (off+size) cs.length then some (.agg ((cs.drop off).take size))else none)
 else cs[off]?
def qC8(E:Env)(S:St)(h:Nat->Option (Nat×Nat×Bool))(cs:List SV):List (Nat×Operand)->(List SV->St->Tree)->Tree
 | [],κ=>κ cs S
 | (i,x)::r,κ=>match h i,pW S x with
  |some (off,size,ag),some y=>pY y ag size S λl S=>match yA cs off l with
   |some cs'=>qC8 E S h cs' r κ
   |none=>.fail
  |_,_=>.fail
def qAk(size:Nat)(ag:Bool)(acc:List SV)(S:St):List (Nat×Operand)->(List SV->St->Tree)->Tree
 | [],κ=>κ acc S
 |(i,x)::r,κ=>match pW S x with
  |some y=>bif Nat.beq i acc.length then(bif wG S y then .bind (.chk ag size) [y] (qAk size ag (acc++[y]) (S.new .dead false) r κ)else bif wG (pH S y) y then .bind (.chk ag size) [y] (qAk size ag (acc++[y]) ((pH S y).new .dead false) r κ)else .fail)else .fail
  |none=>.fail
def qQx(E:Env)(t:TypeId):Bool:=match E.types.get t with
 |some {desc:=.bool,..}|some {desc:=.int _,..}|some {desc:=.string,..}=>true
 |_=>false
def qPr(E:Env)(f:FuncId):Nat:=match E.prog.funcs[f]? with
 |some fn=>match fn.resultTypes.toList with
  | [t]=>bif qQx E t then 1 else 0
  |ts=>bif ts.all (qQx E)then 2 else 0
 |none=>0
def qHs(E:Env)(x:Tgt)(h:List SV)(flat:Nat)(S:St)(κ:K1):Tree:=
 match flat with
 |0=>
  let S:=vR S h
  bif h.all (wH S)then .call x h 0 (κ (.v S.n) (S.new .pure false))else .fail
 |y=>
  bif h.all (wH (vR S h))then .call x h y (κ (.v S.n) (S.new .pure (Nat.beq y 1)))else .fail
def St.boxed(S:St)(b:Nat):St:={S.new .ptr true with blks:=S.blks.set b none,slots:=S.slots.map λx=>match x with|.loc h off=>bif Nat.beq h b then .pp S.n off else .loc h off|x=>x}
def qHw:List SV->List SV->St->(List SV->St->Tree)->Tree
 | [],acc,S,κ=>κ acc S
 | .loc b 0::r,acc,S,κ=>match S.blks[b]? with
  |some (some (.cells cs))=>
   let S:=vR S cs
   bif cs.all (wH S)&&cs.all (dP S)then .bind .box cs (qHw r (acc++[.pp S.n 0]) (S.boxed b) κ)else .fail
  |some (some (.whole x _))=>bif wH S x then .bind .boxw [x] (qHw r (acc++[.pp S.n 0]) (S.boxed b) κ)else .fail
  |_=>.fail
 |x::r,acc,S,κ=>qHw r (acc++[x]) S κ
def Pat.st(p:Pat)(sz:Nat):St:={sts:=p.sts,slots:=p.slots.foldl (λt (k,x)=>t.put k (some x)) .leaf,blks:=p.blks,sz:=sz,sav:=p.sav}
def qJK:Value->Value->Bool
 |.bool a,.bool b=>a==b
 |.int k m,.int k' n=>decide (k=k')&&decide (m=n)
 |.string a,.string b=>decide (a=b)
 |.slice none 0 0,.slice none 0 0=>true
 |.pointer none,.pointer none=>true
 |.nilFunc,.nilFunc=>true
 |.nilIface,.nilIface=>true
 |_,_=>false
def qKm(i:Nat):List (Nat×SV)->Option Nat
 | []=>none
 |(t,.v j)::r=>bif Nat.beq i j then some t else qKm i r
 |_::r=>qKm i r
def cellsOf:Option Blk->List SV
 |some (.cells cs)=>cs
 |some (.whole x _)=>[x]
 |some (.loop _ _)=>[]
 |some (.tcells _ cs)=>cs
 |none=>[]
def zAn(i:Nat):SV->SV->Option SV
 |.pp j _,.pp k _=>bif Nat.beq i j then some (.v k)else none
 |.fn _ _ (.pp j _::_),.fn _ _ (.pp k _::_)=>bif Nat.beq i j then some (.v k)else none
 |_,_=>none
def qIN(i:Nat)(t:T SV):List (Nat×SV)->Option SV
 | []=>none
 | (u,x)::r=>match t.get u with
  |some y=>match zAn i x y with
   |some z=>some z
   |none=>qIN i t r
  |none=>qIN i t r
def qAP(i:Nat):List (Option Blk)->List (Option Blk)->Option SV
 |some (.cells cs)::r,some (.cells cs')::h=>match (cs.zip cs').find? (λp=>match p.1 with|.v j=>Nat.beq i j|_=>false)with
  |some p=>some p.2
  |none=>qAP i r h
 |some (.tcells _ cs)::r,some (.tcells _ cs')::h=>match (cs.zip cs').find? (λp=>match p.1 with|.v j=>Nat.beq i j|_=>false)with
  |some p=>some p.2
  |none=>qAP i r h
 |some (.whole x _)::r,some (.whole y _)::h=>match x with
  |.v j=>bif Nat.beq i j then some y else qAP i r h
  |_=>qAP i r h
 |some (.whole x n)::r,some (.cells cs)::h=>match x with
  |.v j=>bif Nat.beq i j&&Nat.beq n cs.length then some (.agg cs)else qAP i r h
  |_=>qAP i r h
 |_::r,_::h=>qAP i r h
 |_,_=>none
def qPm(t:Nat):List (Nat×SV)->Option SV
 | []=>none
 |(u,x)::r=>bif Nat.beq u t then some x else qPm t r
def qU3(i:Nat):List (List (Nat×SV))->List (List (Nat×SV))->Option SV
 |l::r,x::h=>match qKm i l with
  |some t=>qPm t x
  |none=>qU3 i r h
 |_,_=>none
def zA8(p:Pat)(S:St)(i:Nat):Option SV:=match qKm i p.slots with
 |some t=>S.slots.get t
 | none=>match qAP i p.blks S.blks with
  |some x=>some x
  |none=>match qU3 i p.sav S.sav with
   |some x=>some x
   |none=>qIN i S.slots p.slots
def qQy(p:Pat)(S:St):Nat->Nat->Option (List SV)
 |0,_=>some []
 |n+1,i=>match zA8 p S i,qQy p S n (i+1)with
  |some x,some l=>some (x::l)
  |_,_=>none
mutual
def fits(azq:List SV):SV->SV->Bool
 |.v i,y=>match azq[i]? with
  |some x=>qAz x y
  |none=>false
 |.c x,.c y=>qJK x y
 |.loc b o,.loc h c=>Nat.beq b h&&Nat.beq o c
 |.pp i o,.pp j c=>Nat.beq o c&&(match azq[i]? with|some (.v k)=>Nat.beq k j|_=>false)
 |.agg cs,.agg cs'=>tH azq cs cs'
 |.tup cs,.tup cs'=>tH azq cs cs'
 |.fn (.func f) a b,.fn (.func p) q h=>Nat.beq f p&&tH azq a q&&tH azq b h
 |.ifc t x,.ifc l y=>Nat.beq t l&&fits azq x y
 |.yld b,.yld h=>Nat.beq b h
 |_,_=>false
def tH(azq:List SV):List SV->List SV->Bool
 | [],[]=>true
 |x::xs,y::ys=>fits azq x y&&tH azq xs ys
 |_,_=>false
def qAz:SV->SV->Bool
 |.v i,.v j=>Nat.beq i j
 |.c x,.c y=>qJK x y
 |.loc b o,.loc c h=>Nat.beq b c&&Nat.beq o h
 |.pp i o,.pp j h=>Nat.beq i j&&Nat.beq o h
 |.agg cs,.agg cs'=>iL cs cs'
 |.tup cs,.tup cs'=>iL cs cs'
 |.fn (.func f) a b,.fn (.func l) p c=>Nat.beq f l&&iL a p&&iL b c
 |.ifc t x,.ifc k y=>Nat.beq t k&&qAz x y
 |_,_=>false
def iL:List SV->List SV->Bool
 | [],[]=>true
 |x::xs,y::ys=>qAz x y&&iL xs ys
 |_,_=>false
end
def qAe(azq:List SV):Option Blk->Option Blk->Bool
 |none,_=>true
 |some (.cells cs),some (.cells cs')=>tH azq cs cs'
 |some (.whole x n),some (.whole y m)=>Nat.beq n m&&fits azq x y
 |some (.whole x n),some (.cells cs)=>Nat.beq n cs.length&&fits azq x (.agg cs)
 |some (.loop st pd),some (.loop h b)=>Nat.beq st h&&Nat.beq pd b
 |some (.tcells t cs),some (.tcells c cs')=>Nat.beq t c&&tH azq cs cs'
 |_,_=>false
def tI(azq:List SV):List (Option Blk)->List (Option Blk)->Bool
 | [],_=>true
 |b::h,c::cs=>qAe azq b c&&tI azq h cs
 |_::_,[]=>false
def g9:List VSt->List SV->List SV
 |⟨.pure,_⟩::r,x::xs=>x::g9 r xs
 |⟨.full,_⟩::r,x::xs=>x::g9 r xs
 |⟨.ptr,_⟩::r,x::xs=>x::g9 r xs
 |_::r,_::xs=>g9 r xs
 |_,_=>[]
def St.fullV(S:St)(i:Nat):Bool:=match S.sts[i]? with
 |some ⟨.full,_⟩=>true
 |_=>false
def qAb(S:St):SV->Bool
 |.c (.slice none 0 0)=>true
 |.v i=>S.freshV i||S.fullV i
 |_=>false
def qU5(sts:List VSt)(azq:List SV)(i j:Nat):Bool:=match sts[i]?,sts[j]?,azq[i]?,azq[j]? with
 |some ⟨.fresh,_⟩,some ⟨.fresh,_⟩,some (.v a),some (.v b)=>Nat.beq i j|| !(Nat.beq a b)
 |_,_,_,_=>true
def qEw(h:List VSt)(azq:List SV):Bool:=(List.range h.length).all λi=>(List.range h.length).all λj=>qU5 h azq i j
mutual
def qMz(n m:Nat):SV->Bool
 |.v i=>Nat.blt i n
 |.c _=>true
 |.loc b _=>Nat.blt b m
 |.ptr s i _ _=>qMz n m s&&qMz n m i
 |.pp i _=>Nat.blt i n
 |.agg cs=>qFM n m cs
 |.tup cs=>qFM n m cs
 |.fn _ a b=>qFM n m a&&qFM n m b
 |.ifc _ x=>qMz n m x
 |.yld b=>Nat.blt b m
def qFM(n m:Nat):List SV->Bool
 | []=>true
 |x::xs=>qMz n m x&&qFM n m xs
end
def qU9(n m:Nat):Option Blk->Bool
 |none=>true
 |some (.cells cs)=>qFM n m cs
 |some (.whole x _)=>qMz n m x
 |some (.loop _ _)=>true
 |some (.tcells _ cs)=>qFM n m cs
def iJ(S:St):List VSt->List SV->Bool
 | [],[]=>true
 | ⟨k,o⟩::r,x::xs=>(match k with
   |.pure=>wH S x
   |.full=>(match x with|.v i=>(match S.sts[i]? with|some ⟨.full,_⟩=>true|_=>false)|_=>false)
   |.ptr=>(match x with|.v i=>S.isPtr i|_=>false)
   |.fresh=>qAb S x
   |.dead=>!o)&&(!o||dP S x)&&iJ S r xs
 |_,_=>false
def qCG(n m:Nat)(azq:List SV):List (List (Nat×SV))->List (List (Nat×SV))->Bool
 | [],[]=>true
 |l::r,b::h=>l.all (λ(t,x)=>qMz n m x&&match qPm t b with|some y=>fits azq x y|none=>false)&&qCG n m azq r h
 |_,_=>false
def cW(sz:Nat)(p:Pat)(azq:List SV)(S:St):Bool:=
 Nat.beq S.sz sz&&p.slots.all (λ(t,x)=>qMz p.sts.length p.blks.length x&&(match S.slots.get t with|some y=>fits azq x y|none=>false))&&p.blks.all (qU9 p.sts.length p.blks.length)&&tI azq p.blks S.blks&&iJ S p.sts azq&&qEw p.sts azq&&qCG p.sts.length p.blks.length azq p.sav S.sav
def qJ9(h:List SV->Tree)(sz:Nat)(p:Pat)(S:St):Tree:=match qQy p S p.sts.length 0 with
 |none=>.fail
 |some azq=>
  let S:=vR S (g9 p.sts azq)
  bif cW sz p azq S then h azq else .fail
def jI(sz:Nat)(p:Pat)(k:Nat)(S:St):Tree:=qJ9 (.jump k) sz p S
mutual
def qPk:SV->Bool
 |.loc _ _=>true
 |.ptr _ _ _ _=>true
 |.agg cs=>lI cs
 |.tup cs=>lI cs
 |.fn _ a b=>lI a||lI b
 |.ifc _ x=>qPk x
 |.yld _=>true
 |_=>false
def lI:List SV->Bool
 | []=>false
 |x::xs=>qPk x||lI xs
end
mutual
def qO0:SV->List Nat
 |.loc b _=>[b]
 |.agg cs=>lC cs
 |.tup cs=>lC cs
 |.fn _ a b=>lC a++lC b
 |.ifc _ x=>qO0 x
 |_=>[]
def lC:List SV->List Nat
 | []=>[]
 |x::xs=>qO0 x++lC xs
end
def qXZ(l:List Nat)(n:Nat):List Nat:=bif l.any (Nat.beq n)then l else l++[n]
def qXP:Option Blk->List SV
 |some (.cells cs)=>cs
 |some (.whole x _)=>[x]
 |some (.loop _ _)=>[]
 |some (.tcells _ cs)=>cs
 |none=>[]
def qI6(S:St):Nat->List Nat->List Nat
 |0,l=>l
 |n+1,l=>qI6 S n (l.foldl (λl b=>(lC (qXP (S.blks[b]?.getD none))).foldl qXZ l) l)
def qSg(b:Nat):List Nat->Nat->Option Nat
 | [],_=>none
 |c::r,i=>bif Nat.beq c b then some i else qSg b r (i+1)
mutual
def SV.toC(bm:List Nat):SV->Option SV
 |.v i=>some (.v i)
 |.c x=>some (.c x)
 |.loc b o=>match qSg b bm 0 with
  |some k=>some (.loc k o)
  |none=>none
 |.ptr _ _ _ _=>none
 |.pp i o=>some (.pp i o)
 |.agg cs=>match SV.toCs bm cs with
  |some l=>some (.agg l)
  |none=>none
 |.tup cs=>match SV.toCs bm cs with
  |some l=>some (.tup l)
  |none=>none
 |.fn f a b=>match SV.toCs bm a,SV.toCs bm b with
  |some a,some b=>some (.fn f a b)
  |_,_=>none
 |.ifc t x=>match SV.toC bm x with
  |some x=>some (.ifc t x)
  |none=>none
 |.yld _=>none
def SV.toCs(bm:List Nat):List SV->Option (List SV)
 | []=>some []
 |x::xs=>match SV.toC bm x,SV.toCs bm xs with
  |some y,some l=>some (y::l)
  |_,_=>none
end
def Blk.toC(bm:List Nat):Blk->Option Blk
 |.loop _ _=>none
 |.tcells _ _=>none
 |.cells cs=>match SV.toCs bm cs with
  |some l=>some (.cells l)
  |none=>none
 |.whole x n=>match SV.toC bm x with
  |some y=>some (.whole y n)
  |none=>none
def iD(S:St)(bm:List Nat):List Nat->Option (List (Option Blk))
 | []=>some []
 | b::r=>match S.blks[b]?,iD S bm r with
  |some (some x),some l=>match x.toC bm with
   |some y=>some (some y::l)
   |none=>none
  |_,_=>none
def St.forC(S:St)(l:List SV)(h:List (Option Blk)):St:={sts:=S.sts,slots:=T.ofList .leaf 0 l,blks:=h,sz:=l.length}
mutual
def SV.ofC(n:Nat)(bm:List Nat):SV->SV
 |.v i=>.v (Nat.add n i)
 |.c x=>.c x
 |.loc k o=>.loc (bm.getD k 0) o
 |.ptr s i sz off=>.ptr (SV.ofC n bm s) (SV.ofC n bm i) sz off
 |.pp i o=>.pp (Nat.add n i) o
 |.agg cs=>.agg (SV.ofCs n bm cs)
 |.tup cs=>.tup (SV.ofCs n bm cs)
 |.fn f a b=>.fn f (SV.ofCs n bm a) (SV.ofCs n bm b)
 |.ifc t x=>.ifc t (SV.ofC n bm x)
 |.yld b=>.yld (bm.getD b 0)
def SV.ofCs(n:Nat)(bm:List Nat):List SV->List SV
 | []=>[]
 |x::xs=>SV.ofC n bm x::SV.ofCs n bm xs
end
def Blk.ofC(n:Nat)(bm:List Nat):Blk->Blk
 |.loop a b=>.loop a b
 |.tcells t cs=>.tcells t (SV.ofCs n bm cs)
 |.cells cs=>.cells (SV.ofCs n bm cs)
 |.whole x k=>.whole (SV.ofC n bm x) k
def sF(n:Nat)(bm:List Nat):List Nat->List (Option Blk)->List (Option Blk)->List (Option Blk)
 |b::h,x::xs,l=>sF n bm h xs (l.set b (x.map (Blk.ofC n bm)))
 |b::h,[],l=>sF n bm h [] (l.set b none)
 | [],_,l=>l
def bI(l:List VSt):SV->List VSt
 |.v i=>l.modify i λs=>match s with|⟨.fresh,o⟩=>⟨.dead,o⟩|s=>s
 |_=>l
def St.after(S:St)(m:Mode)(bm:List Nat)(azq:List SV):St:=
 {sts:=azq.foldl bI S.sts++m.out.sts,slots:=S.slots,blks:=sF S.n bm bm m.out.blks S.blks,sz:=S.sz,sav:=S.sav}
def qJO(m:Mode)(n:Nat)(bm:List Nat):SV:=match m.out.slots with
 | [(_,x)]=>SV.ofC n bm x
 |l=>.tup (SV.ofCs n bm (l.map Prod.snd))
structure Hint where
 name:String
 fresh:List Nat
 spec:List Nat
 res:Bool
 /-- the places of the calls it is meant for; none: all -/
 only:List String:=[]
def zAf:List Hint:=[
 ⟨"slices.Clone[[]uint8,uint8]", [], [], true, []⟩,
 ⟨"slices.Clone[[]byte,byte]", [], [], true, []⟩,
 ⟨"slices.Clone[[]langdoc/api.Analysis,langdoc/api.Analysis]", [], [], true, []⟩,
 ⟨"slices.DeleteFunc[[]langdoc/api.Analysis,langdoc/api.Analysis]", [0], [], false, []⟩,
 ⟨"langdoc/wire.varint", [0], [], true, []⟩,
 ⟨"langdoc/langdocref04.PutInt", [], [], true, ["ref.go:22"]⟩,
 ⟨"langdoc/wire.put[uint8]", [0], [2], true, []⟩,
 ⟨"langdoc/wire.put[byte]", [0], [2], true, []⟩,
 ⟨"langdoc/wire.put[int]", [0], [2], true, []⟩,
 ⟨"langdoc/wire.PutText$1", [0], [], true, []⟩,
 ⟨"langdoc/change.changed", [], [1], false, []⟩]
def qIJ(E:Env)(f:FuncId):Option Hint:=match E.prog.funcs[f]? with
 |some fn=>zAf.find? λh=>h.name==fn.name
 |none=>none
def qZ2: List String := ["langdoc/relate.Reach$1", "langdoc/analyze.All$1", "langdoc/analyze.All$2", "langdoc/analyze.Uses$1", "langdoc/analyze.Bases$1"]
def qUZ(E:Env):Fn->Bool
 |.func g=>match E.prog.funcs[g]? with
  |some fn=>qZ2.any (·== fn.name)
  |none=>false
 |_=>false
def qYq(E:Env)(o:Oper)(f:FuncId)(l:List SV):Bool:=lI l||(match qIJ E f with|some h=>h.only.isEmpty||h.only.any (λp=>p==o.pos)|none=>false)
def qZV(n:Nat)(l:List Nat):Bool:=l.any (Nat.beq n)
mutual
def qSQ(S:St):SV->List SV->List VSt->SV×List SV×List VSt
 |.loc k o,azq,sts=>(.loc k o,azq,sts)
 | .fn f a b,azq,sts=>bif lI a||lI b then
   (match qHr S a azq sts with
   |(a,azq,sts)=>match qHr S b azq sts with
    |(b,azq,sts)=>(.fn f a b,azq,sts))
  else(.v azq.length,azq++[.fn f a b],sts++[⟨.pure,false⟩])
 |x,azq,sts=>(.v azq.length,azq++[x],sts++[⟨.pure,false⟩])
def qHr(S:St):List SV->List SV->List VSt->List SV×List SV×List VSt
 | [],azq,sts=>([],azq,sts)
 | x::xs,azq,sts=>match qSQ S x azq sts with
  |(x,azq,sts)=>match qHr S xs azq sts with
   |(xs,azq,sts)=>(x::xs,azq,sts)
end
def qU8(S:St)(fr sp:List Nat):Nat->List SV->List SV->List VSt->List SV×List SV×List VSt
 |_,[],azq,sts=>([],azq,sts)
 | n,x::xs,azq,sts=>match (bif qZV n fr&&qAb S x then(.v azq.length,azq++[x],sts++[⟨.fresh,true⟩])else
   bif qZV n sp then(match x with
    | .fn f a b=>(match qHr S a azq sts with
     |(a,azq,sts)=>match qHr S b azq sts with
      |(b,azq,sts)=>(.fn f a b,azq,sts))
    |x=>qSQ S x azq sts)
   else qSQ S x azq sts:SV×List SV×List VSt)with
  |(x,azq,sts)=>match qU8 S fr sp (n+1) xs azq sts with
   |(xs,azq,sts)=>(x::xs,azq,sts)
def qU6(S:St):List SV->List SV->List VSt->List SV×List SV×List VSt
 | [],azq,sts=>([],azq,sts)
 | x::xs,azq,sts=>match (bif qAb S x then(.v azq.length,azq++[x],sts++[⟨.fresh,true⟩])else match qSQ S x azq sts with
   |(.v n,y,h)=>(.v n,y,bif dP S x then h.dropLast++[⟨.pure,true⟩]else h)
   |r=>r:SV×List SV×List VSt)with
  |(x,azq,sts)=>match qU6 S xs azq sts with
   |(xs,azq,sts)=>(x::xs,azq,sts)
def qU7(S:St):List (Option Blk)->List SV->List VSt->List (Option Blk)×List SV×List VSt
 | [],azq,sts=>([],azq,sts)
 | b::h,azq,sts=>match (match b with
   |some (.cells cs)=>(match qU6 S cs azq sts with|(cs,azq,sts)=>(some (.cells cs),azq,sts))
   |some (.whole x n)=>(some (.whole (.v azq.length) n),azq++[x],sts++[⟨.pure,false⟩])
   |some (.loop a b)=>(some (.loop a b),azq,sts)
   |some (.tcells t cs)=>(some (.tcells t cs),azq,sts)
   |none=>(none,azq,sts):Option Blk×List SV×List VSt)with
  |(b,azq,sts)=>match qU7 S h azq sts with
   |(h,azq,sts)=>(b::h,azq,sts)
def qUL(h:List VSt):List SV->List VSt->List SV×List VSt
 | [],o=>([],o)
 | x::xs,o=>match (match x with
   |.v i=>(.v o.length,o++[h.getD i ⟨.pure,false⟩])
   |x=>(x,o):SV×List VSt)with
  |(x,o)=>match qUL h xs o with
   |(xs,o)=>(x::xs,o)
def qUM(h:List VSt):List (Option Blk)->List VSt->List (Option Blk)×List VSt
 | [],o=>([],o)
 | b::x,o=>match (match b with
   |some (.cells cs)=>(match qUL h cs o with|(cs,o)=>(some (.cells cs),o))
   |some (.whole _ n)=>(some (.whole (.v o.length) n),o++[⟨.pure,false⟩])
   |some (.loop a b)=>(some (.loop a b),o)
   |some (.tcells t cs)=>(some (.tcells t cs),o)
   |none=>(none,o):Option Blk×List VSt)with
  |(b,o)=>match qUM h x o with
   |(x,o)=>(b::x,o)
def qZ9(l:List SV):List (Nat×SV):=(List.range l.length).zip l
def qPe(S:St)(h:Option Hint)(x:Nat)(l:List SV)(i:List (Option Blk)):Mode×List SV:=
 match qU8 S (match h with|some h=>h.fresh|none=>[]) (match h with|some h=>h.spec|none=>[]) 0 l [] []with
 | (c,azq,sts)=>match qU7 S i azq sts with
  |(bs',azq,sts)=>
   let r:=(List.range x).map SV.v
   match qUM sts bs' (r.map λ_=>match h with|some h=>bif h.res then⟨.fresh,true⟩else⟨.pure,false⟩|none=>⟨.pure,false⟩)with
   |(b,y)=>(⟨⟨sts,qZ9 c,bs',[]⟩,l.length,⟨y,qZ9 r,b,[]⟩⟩,azq)
def dR:List Nat->Bool
 | []=>true
 |b::r=>!(r.any (Nat.beq b))&&dR r
def fG:Option Blk->Bool
 |some (.loop _ _)=>false
 |some (.tcells _ _)=>false
 |_=>true
def qJa(E:Env)(f:FuncId)(l:List SV)(S:St)(κ:K1):Tree:=
 let bm:=qI6 S 3 ((lC l).foldl qXZ [])
 match E.prog.funcs[f]?,SV.toCs bm l,iD S bm bm with
 | some fn,some h,some y=>
  match qPe (S.forC h y) (qIJ E f) fn.resultTypes.size h y with
  |(m,azq)=>
   let b:=vR S (g9 m.inp.sts azq)
   bif dR bm&&cW h.length m.inp azq (b.forC h y)&&Nat.beq m.n h.length&&m.out.slots.all (λ(_,x)=>qMz m.out.sts.length bm.length x)&&m.out.blks.all (qU9 m.out.sts.length bm.length)&&Nat.ble m.out.blks.length bm.length&&m.out.blks.all fG then .callM f m azq (κ (qJO m b.n bm) (b.after m bm azq))else .fail
 |_,_,_=>.fail
def qFE(a:SV)(S:St)(κ:K1):Tree:=match a with
 |.v i=>j7 .pchk [.v i] .ptr true S λy S=>match y with
  |.v j=>κ (.pp j 0) S
  |_=>.fail
 |a=>κ a S
def qD9(E:Env)(t:TypeId)(a:SV)(S:St)(κ:K1):Tree:=qFE a S λa S=>match E.types.get t with
 |none=>.fail
 | some h=>match a with
  | .loc b off=>match S.blks[b]? with
   |some (some (.cells cs))=>match qAD h.agg h.size off cs with
    |some x=>κ x S
    |none=>.fail
   |some (some (.whole x n))=>bif Nat.beq off 0&&Nat.beq h.size n&&h.agg then(bif wG S x then κ x S else .fail)else j7 (.fld h.agg h.size off) [x] .pure (!h.agg) S κ
   |_=>.fail
  |.ptr s i sz off=>j7 (.elem sz h.agg h.size off) [s,i] .pure (!h.agg) S κ
  |.pp i off=>j7 (.loadp h.agg h.size) [.pp i off] .pure (!h.agg) S κ
  |_=>.fail
def St.setBlk(S:St)(b:Nat)(x:Blk):St:={S with blks:=S.blks.set b (some x)}
def qES(h:TI)(b:Nat)(x:SV)(S:St)(κ:K1):Tree:=match x with
 |.v i=>j7 (.chk true h.size) [.v i] .pure false S λy S=>κ (.tup []) (S.setBlk b (.whole y h.size))
 |x=>pY x h.agg h.size S λl S=>κ (.tup []) (S.setBlk b (.cells l))
def qH7(E:Env)(t:TypeId)(a x:SV)(S:St)(κ:K1):Tree:=match E.types.get t with
 |none=>.fail
 | some h=>match a with
  | .loc b off=>match S.blks[b]? with
   | some (some (.cells cs))=>
    bif h.agg&&Nat.beq off 0&&Nat.beq cs.length h.size then qES h b x S κ
    else pY x h.agg h.size S λl S=>match yA cs off l with
     |some cs'=>κ (.tup []) (S.setBlk b (.cells cs'))
     |none=>.fail
   | some (some (.whole y n))=>
    bif h.agg&&Nat.beq off 0&&Nat.beq n h.size&&wG S y then qES h b x S κ
    else pY y true n S λcs S=>pY x h.agg h.size S λl S=>match yA cs off l with
     |some cs'=>κ (.tup []) (S.setBlk b (.cells cs'))
     |none=>.fail
   |_=>.fail
  |_=>.fail
def SV.ren(i n:Nat):SV->SV
 |.v j=>bif Nat.beq j i then .v n else .v j
 |.ptr (.v j) k sz off=>bif Nat.beq j i then .ptr (.v n) k sz off else .ptr (.v j) k sz off
 |x=>x
def St.setted(S:St)(i:Nat):St:={(S.kill i).new .fresh true with slots:=S.slots.map (SV.ren i S.n)}
mutual
def SV.renD(i n:Nat):SV->SV
 |.v j=>bif Nat.beq j i then .v n else .v j
 |.c x=>.c x
 |.loc b o=>.loc b o
 |.ptr s k sz off=>.ptr (SV.renD i n s) (SV.renD i n k) sz off
 |.pp j o=>.pp j o
 |.agg cs=>.agg (SV.renDs i n cs)
 |.tup cs=>.tup (SV.renDs i n cs)
 |.fn f a b=>.fn f (SV.renDs i n a) (SV.renDs i n b)
 |.ifc t x=>.ifc t (SV.renD i n x)
 |.yld b=>.yld b
def SV.renDs(i n:Nat):List SV->List SV
 | []=>[]
 |x::xs=>SV.renD i n x::SV.renDs i n xs
end
def Blk.renD(i n:Nat):Blk->Blk
 |.cells cs=>.cells (SV.renDs i n cs)
 |.whole x k=>.whole x k
 |.loop a b=>.loop a b
 |.tcells t cs=>.tcells t (SV.renDs i n cs)
def St.mapped(S:St)(i:Nat):St:={(S.kill i).new .fresh true with slots:=S.slots.map (SV.renD i S.n),blks:=S.blks.map (λb=>b.map (Blk.renD i S.n)),sav:=S.sav.map (λl=>l.map (λ(t,x)=>(t,SV.renD i S.n x)))}
def qA0(t:TypeId)(i:Nat)(k x:SV)(S:St)(κ:K1):Tree:=
 let S:=pH S x
 bif wH S x&&wG S k&&S.freshV i then .bind (.mset t) [.v i,k,x] (κ (.tup []) (S.mapped i))else .fail
def qXt(t:TypeId)(i:Nat)(k:SV)(S:St)(κ:K1):Tree:=.fail
def qVZ(E:Env)(t:TypeId)(i:Nat)(j:SV)(sz off:Nat)(x:SV)(S:St)(κ:K1):Tree:=match E.types.get t with
 |none=>.fail
 |some h=>
  let S:=pH S x
  bif wH S x&&wG S j&&S.freshV i then .bind (.set sz h.agg h.size off) [.v i,j,x] (κ (.tup []) (S.mapped i))else .fail
def qEX:Operand->Operand->Bool
 |.tmp a,.tmp b=>Nat.beq a b
 |.const (.int k a),.const (.int k' b)=>decide (k=k')&&decide (a=b)
 |_,_=>false
def wO(E:Env)(t:TypeId):Option TypeId:=match E.types.get t with
 |some {desc:=.slice e,..}=>some e
 |_=>none
def tU(E:Env)(s d:TypeId):Bool:=match wO E s with
 |some el=>match E.types.get el,E.types.get d with
  |some {desc:=.int .u8,..},some {desc:=.string,..}=>true
  |_,_=>false
 |none=>false
def fR(E:Env)(s d:TypeId):Option TypeId:=match E.types.get s,wO E d with
 |some {desc:=.string,..},some el=>match E.types.get el with
  |some {desc:=.int .u8,size:=sz,..}=>bif Nat.beq sz 1 then some el else none
  |_=>none
 |_,_=>none
def aJ:Option Operand->Bool
 |some (.const (.int _ (.ofNat 0)))=>true
 |_=>false
def qB7(E:Env)(c:BinOp)(t:TypeId)(x y:Operand)(h:Bool):Bool:=
 (wO E t).isSome&&(match oL E c t x y (.slice none 0 0) (.slice none 0 0)with|some (.bool b)=>b == !h|_=>false)&&(match c with|.eql=>!h|.neq=>h|_=>false)
def qU1:BinOp->Bool
 |.neq=>true
 |_=>false
def qFp:SV->Bool
 |.c (.slice none 0 0)=>true
 |_=>false
def qMq(E:Env)(ts:List TypeId)(s x:SV)(S:St)(κ:K1):Tree:=match ts with
 | t::xt::_=>match wO E t,E.types.get xt with
  | some el,some y=>match E.types.get el,y.desc with
   | some e,.slice _=>match e.zero with
    | some _=>
     let h:=λ(S':St)=>bif wG S x&&Nat.ble 1 e.size then Tree.bind (.app el e.size e.bytes) [s,x] (κ (.v S.n) (S'.new .fresh true))else .fail
     match s with
     |.c (.slice none 0 0)=>h S
     | .v i=>match S.sts[i]? with
      |some ⟨.full,_⟩=>h S
      |some ⟨.fresh,_⟩=>(match x with
       |.v j=>bif Nat.beq i j then .fail else h (S.kill i)
       |_=>h (S.kill i))
      |_=>.fail
     |_=>.fail
    |none=>.fail
   |_,_=>.fail
  |_,_=>.fail
 |_=>.fail
def fO(E:Env)(t:TypeId)(f:Nat):Option (Nat×TI):=match E.types.get t with
 | some {desc:=.struct fs,..}=>match fs[f]? with
  |some h=>match E.types.get h.type with
   |some ti=>some (h.offset,ti)
   |none=>none
  |none=>none
 |_=>none
def qHv(E:Env)(b:Builtin)(ts:List TypeId)(args:List SV)(S:St)(κ:K1):Tree:=match b with
 | .len=>match ts,args with
  |t::_,[x]=>match E.types.get t with
   |some {desc:=.string,..}=>j7 (.len true) [x] .pure true S κ
   |some {desc:=.slice _,..}=>j7 (.len false) [x] .pure true S κ
   |some {desc:=.map _ _,..}=>j7 .mlen [x] .pure true S κ
   |_=>.fail
  |_,_=>.fail
 |.delete=>match ts,args with
  |t::_,[.v i,k]=>qXt t i k S κ
  |_,_=>.fail
 |.append=>match args with
  | [s,x]=>qMq E ts s x S κ
  |_=>.fail
 |.min=>match args with
  | [x,y]=>j7 (.mm false) [x,y] .pure true S κ
  |_=>.fail
 |.max=>match args with
  | [x,y]=>j7 (.mm true) [x,y] .pure true S κ
  |_=>.fail
 |_=>.fail
def qQm:SV->Option Bool
 |.c (.bool b)=>some b
 |_=>none
def vZ(E:Env)(o:Oper)(S:St)(κ:K1):Tree:=match o.op with
 |.move x|.assign x=>match pW S x with
  |some y=>κ y S
  |none=>.fail
 |.pick c a b=>match pW S c with
  |some (.c (.bool true))=>match pW S a with|some y=>κ y S|none=>.fail
  |some (.c (.bool false))=>match pW S b with|some y=>κ y S|none=>.fail
  |some (.v i)=>bif S.pureV i then .ite (.v i) (match pW (S.known i true) a with|some y=>κ y (S.known i true)|none=>.fail) (match pW (S.known i false) b with|some y=>κ y (S.known i false)|none=>.fail)else .fail
  |_=>.fail
 |.alloc t=>match E.types.get t with
  |some {zero:=some z,..}=>bif z.all (λv=>zK v&&qH v)then κ (.loc S.blks.length 0) {S with blks:=S.blks++[some (.cells (z.map .c))]}else .fail
  |_=>.fail
 | .box t x=>match pW S x,E.types.get t with
  |some y,some ti=>match y,ti.agg with
   |.v i,true=>j7 (.chk true ti.size) [.v i] .pure false S λy S=>κ (.loc S.blks.length 0) {S with blks:=S.blks++[some (.whole y ti.size)]}
   |y,ag=>pY y ag ti.size S λl S=>κ (.loc S.blks.length 0) {S with blks:=S.blks++[some (.cells l)]}
  |_,_=>.fail
 |.build t A=>match E.types.get t with
  |some {desc:=.struct fs,zero:=some z,agg:=true,..}=>bif z.all (λv=>zK v&&qH v)then qC8 E S (λi=>match fs[i]? with|some f=>(E.types.get f.type).map λt=>(f.offset,t.size,t.agg)|none=>none) (z.map .c) A.toList λcs S=>κ (.agg cs) S else .fail
  |some {desc:=.array _ u,zero:=some z,agg:=true,..}=>bif (E.types.get u).isSome&&z.all (λv=>zK v&&qH v)then qC8 E S (λi=>(E.types.get u).map λe=>(Nat.mul i e.size,e.size,e.agg)) (z.map .c) A.toList λcs S=>κ (.agg cs) S else .fail
  |_=>.fail
 | .buildSlice t n A=>match wO E t with
  | some el=>match E.types.get el with
   |some e=>match e.zero with
    |some z=>bif Nat.beq z.length e.size&&Nat.beq n A.toList.length then qAk e.size e.agg [] S A.toList λl S=>qHz (.lit el e.size) l (bif Nat.beq n 0 then .full else .fresh) true S κ else .fail
    |none=>.fail
   |none=>.fail
  |none=>.fail
 |.load t a=>match pW S a with
  |some a=>qD9 E t a S κ
  |none=>.fail
 |.store t a x=>match pW S a,pW S x with
  |some (.ptr (.v i) j sz off),some x=>qVZ E t i j sz off x S κ
  |some a,some x=>qH7 E t a x S κ
  |_,_=>.fail
 | .makeSlice t l c=>match wO E t,pW S l with
  | some el,some x=>match E.types.get el with
   | some e=>match e.zero with
    |some z=>bif qEX l c&&wG S x then .bind (.mk el e.size e.bytes e.agg z) [x] (κ (.v S.n) (S.new .fresh true))else match pW S c with
     |some y=>bif wG S x&&wG S y then .bind (.mk el e.size e.bytes e.agg z) [x,y] (κ (.v S.n) (S.new .fresh true))else .fail
     |none=>.fail
    |none=>.fail
   |none=>.fail
  |_,_=>.fail
 |.makeMap _ none=>.bind .mnew [] (κ (.v S.n) (S.new .fresh true))
 |.range t x=>match pW S x,E.types.get t with
  |some y,some {desc:=.string,..}=>j7 (.len true) [y] .pure true S λ_ S=>κ (.loc S.blks.length 0) {S with blks:=S.blks++[some (.tcells 0 [y,.c (.int .i64 0)])]}
  |_,_=>.fail
 | .next F true=>match pW S F with
  |some (.loc b 0)=>match S.blks[b]? with
   |some (some (.tcells 0 [y,p]))=>j7 .nok [y,p] .pure true S λc S=>.ite c (j7 .nch [y,p] .pure true S λG S=>j7 .nnx [y,p] .pure true S λnx S=>κ (.tup [.c (.bool true),p,G]) (S.setBlk b (.tcells 0 [y,nx]))) (κ (.tup [.c (.bool false)]) S)
   |_=>.fail
  |_=>.fail
 |.lookup t x k ok=>match pW S x,pW S k with
  |some y,some z=>j7 (.mget t ok) [y,z] .pure false S κ
  |_,_=>.fail
 |.mapUpdate t m k x=>match pW S m,pW S k,pW S x with
  |some (.v i),some z,some y=>qA0 t i z y S κ
  |_,_,_=>.fail
 |.nilCheck x=>match pW S x with
  |some (.loc b o)=>κ (.loc b o) S
  |some (.fn (.func f) a b)=>κ (.fn (.func f) a b) S
  |some (.ifc t x)=>κ (.ifc t x) S
  |some (.v i)=>j7 .nn [.v i] .pure true S κ
  |_=>.fail
 | .binOp w t x y _=>match pW S x,pW S y with
  |some a,some b=>
   bif qFp b&&(qB7 E w t x y true||qB7 E w t x y false)then j7 (.isNil (qU1 w)) [a] .pure true S κ
   else bif wH S a&&wH S b then .bind (.bin w t x y) [a,b] (κ (.v S.n) (S.new .pure true))else .fail
  |_,_=>.fail
 | .unOp w t x=>match pW S x with
  |some y=>match w,qQm y with
   |.not,some b=>κ (.c (.bool !b)) S
   |_,_=>j7 (.un w t) [y] .pure true S κ
  |none=>.fail
 | .convert s d x=>match pW S x with
  |some y=>match fR E s d with
   |some el=>bif wG S y then .bind (.byt el) [y] (κ (.v S.n) (S.new .fresh true))else .fail
   |none=>bif tU E s d then j7 .bstr [y] .pure true S κ else j7 (.conv s d) [y] .pure true S κ
  |none=>.fail
 |.makeInterface t x=>match E.types.get t,pW S x with
  |some {desc:=.interface _,..},_=>.fail
  |some _,some y=>κ (.ifc t y) S
  |_,_=>.fail
 |.makeFunc fn first cap=>match cL S first.toList,cL S cap.toList with
  |some a,some b=>bif rK fn then(bif qUZ E fn then κ (.fn fn a b) S else qHw b [] S λb S=>κ (.fn fn a b) S)else .fail
  |_,_=>.fail
 | .slice t x lo C mx=>bif (lo.isNone||aJ lo)&&aJ C&&aJ mx then .fail else match pW S x,cL S lo.toList,cL S C.toList,mx with
  | some y,some l,some h,none=>match E.types.get t with
   |some {desc:=.slice el,..}=>match E.types.get el with
    |some e=>qHz (.slc el e.size lo.isSome C.isSome) (y::(l++h)) .pure true S κ
    |none=>.fail
   |some {desc:=.string,..}=>j7 (.sub lo.isSome C.isSome) (y::(l++h)) .pure true S κ
   |_=>.fail
  |_,_,_,_=>.fail
 | .fieldAddr s x f=>match pW S x,fO E s f with
  |some y,some (off,ti)=>bif Nat.beq ti.size 0 then .fail else qFE y S λy S=>match y with
   |.loc b o=>κ (.loc b (Nat.add o off)) S
   |.ptr s i sz o=>κ (.ptr s i sz (Nat.add o off)) S
   |.pp i o=>κ (.pp i (Nat.add o off)) S
   |_=>.fail
  |_,_=>.fail
 | .field t x f=>match pW S x,fO E t f with
  |some (.agg cs),some (off,ti)=>match qAD ti.agg ti.size off cs with
   |some y=>κ y S
   |none=>.fail
  |some (.v i),some (off,ti)=>j7 (.chk true (match E.types.get t with|some ti=>ti.size|none=>0)) [.v i] .pure false S λy S=>j7 (.fld ti.agg ti.size off) [y] .pure (!ti.agg) S κ
  |_,_=>.fail
 | .indexAddr t x i=>match pW S x,pW S i,wO E t with
  |some y,some j,some el=>match E.types.get el with
   |some e=>bif wG S y&&wG S j then j7 .inr [y,j] .pure true S λ_ S=>κ (.ptr y j e.size 0) S else .fail
   |none=>.fail
  |_,_,_=>.fail
 |.index t x i=>match pW S x,pW S i,E.types.get t with
  |some y,some j,some {desc:=.string,..}=>j7 .chr [y,j] .pure true S κ
  |_,_,_=>.fail
 | .extract x i=>match pW S x with
  |some (.tup cs)=>match cs[i]? with
   |some y=>κ y S
   |none=>.fail
  |some (.v j)=>j7 (.ext i) [.v j] .pure false S κ
  |_=>.fail
 | .call c=>match cL S c.args.toList with
  |none=>.fail
  | some q=>match c.callee with
   |.builtin b=>qHv E b c.argTypes.toList q S κ
   |.invoke r B=>match pW S r with
    |some y=>qHs E (.meth y B) (y::q) 0 S κ
    |none=>.fail
   |.value f=>match pW S f with
    |some (.fn (.func g) first cap)=>bif qYq E o g (first++q++cap)then qJa E g (first++q++cap) S κ else qHs E (.fn g) (first++q++cap) (qPr E g) S κ
    |some (.v i)=>qHs E (.val (.v i)) (.v i::q) (match E.types.get o.type with|some {desc:=.bool,..}=>1|some {desc:=.int _,..}=>1|some {desc:=.string,..}=>1|_=>0) S κ
    |_=>.fail
 |_=>.fail
def gW(o:Oper):Bool:=match o.op with
 |.store _ _ _=>true
 |_=>false
def qJj(S:St):List SV->Bool
 | [.v i,_]=>S.freshV i
 |_=>false
def xO(E:Env)(S:St)(o:Oper):Bool:=gW o||match o.op with
 |.mapUpdate _ _ _ _=>true
 |.next _ _=>true
 | .call c=>match c.callee,cL S c.args.toList with
  |.builtin .append,some h=>qJj S h
  |.builtin .delete,_=>true
  |.value f,some h=>match pW S f with
   |some (.fn (.func g) first cap)=>qYq E o g (first++h++cap)
   |_=>false
  |_,_=>false
 |_=>false
def qCv(all:Array Oper)(o:Oper)(S:St)(h x:St->Tree):Tree:=match o.guard with
 |none=>h S
 | some (j,want)=>match all.toList[j]? with
  |some {dst:=some d,..}=>match S.slots.get d with
   |some (.c (.bool b))=>bif b==want then h S else x S
   |some (.tup [])=>x S
   |some (.v i)=>bif S.pureV i then .ite (.v i) (bif want then h (S.known i true)else x (S.known i true)) (bif want then x (S.known i false)else h (S.known i false))else .fail
   |_=>.fail
  |_=>.fail
def qGk:Op->Bool
 |.move _|.assign _|.pick _ _ _|.nilCheck _|.binOp _ _ _ _ _|.unOp _ _ _|.fieldAddr _ _ _|.indexAddr _ _ _|.extract _ _|.build _ _=>true
 |_=>false
def qOU(o:Oper):Bool:=qGk o.op||match o.op with
 |.slice _ _ _ _ _=>true
 |_=>false
def eS(all:List Oper)(h:Nat):List Oper->Nat->Bool
 | [],_=>true
 |_::os,i=>pL (yX all) h i&&eS all h os (i+1)
def s8(all:List Oper)(h:Nat):List Oper->Nat->Bool
 | [],_=>true
 |o::os,i=>(qOU o&&o.guard.isNone&&s8 all h os (i+1))||eS all h (o::os) i
def qCf(all:List Oper)(i:Nat)(o:Oper)(os:List Oper):Bool:=(match o.op with
 |.call c=>(match c.callee,c.args.toList with
  |.builtin .append,[.tmp _,_]=>true
  |_,_=>false)
 |_=>false)&&(List.range i).all (λk=>pL (yX all) i k)&&s8 all i os (i+1)
def qDw(E:Env)(all:Array Oper)(draw:Bool):List Oper->Nat->St->(St->Tree)->Tree
 | [],_,S,κ=>κ S
 | o::os,i,S,κ=>
  qCv all o S
   (λS=>bif draw&&xO E S o&& !(yM all.toList i)&& !(qCf all.toList i o os)then .fail else
    vZ E o S λy S=>match S.put o.dst y with
     |some S=>qDw E all draw os (i+1) S κ
     |none=>.fail)
   (λS=>match S.put o.dst (.tup [])with
    |some S=>qDw E all draw os (i+1) S κ
    |none=>.fail)
def qAX(S:St):List Oper->Nat->List (Nat×Nat)
 | [],_=>[]
 | o::os,i=>match o.op with
  |.store _ (.tmp a) _=>match S.slots.get a with
   |some (.loc b _)=>(i,b)::qAX S os (i+1)
   |_=>qAX S os (i+1)
  |_=>qAX S os (i+1)
def iI(S:St)(o:Oper)(os:List Oper)(h:List Nat):Bool:=match o.op with
 |.load _ (.tmp a)=>(o::os).all (mZ a)&&match S.slots.get a with
  |some (.loc b _)=>h.all (λc=>!(Nat.beq c b))&&(S.blks[b]?.getD none).isSome
  |some (.ptr (.v k) _ _ _)=>S.pureV k
  |_=>false
 | .alloc _=>match o.dst with
  |some d=>os.all (mZ d)&&match S.slots.get d with
   |some (.loc b _)=>h.all (λc=>!(Nat.beq c b))&&(S.blks[b]?.getD none).isSome
   |_=>false
  |none=>false
 |.store _ (.tmp a) _=>h.isEmpty&&(o::os).all (mZ a)&&match S.slots.get a with
  |some (.loc b _)=>(S.blks[b]?.getD none).isSome
  |_=>false
 | .buildSlice _ n _=>Nat.ble 1 n&&match o.dst with
  |some d=>os.all (mZ d)&&match S.slots.get d with
   |some (.v k)=>S.freshV k||S.pureV k
   |_=>false
  |none=>false
 |op=>qGk op
def mQ(S:St)(all:List Oper):List Oper->Nat->Bool
 | [],_=>true
 |o::os,i=>iI S o os (qJ all i (qAX S all 0))&&mQ S all os (i+1)
def sP(S:St):List Oper->List (SV×SV)
 | []=>[]
 | o::os=>match o.op with
  |.load _ (.tmp a)=>match S.slots.get a with
   |some (.ptr (.v k) i _ _)=>(.v k,i)::sP S os
   |_=>sP S os
  |_=>sP S os
def dV(S:St):List Oper->List (SV×SV)
 | []=>[]
 | o::os=>match o.op with
  | .buildSlice _ _ _=>match o.dst with
   |some d=>match S.slots.get d with
    |some (.v k)=>bif S.pureV k then(.v k,.c (.int .i64 0))::dV S os else dV S os
    |_=>dV S os
   |none=>dV S os
  |_=>dV S os
def qGl(S:St)(os:List Oper):List (SV×SV):=sP S os++dV S os
def qHn:List (SV×SV)->St->(St->Tree)->Tree
 | [],S,κ=>κ S
 |(s,i)::r,S,κ=>bif wH S s&&wH S i then .bind .inr [s,i] (qHn r (S.new .pure true) κ)else .fail
def qZW(ops:List Oper):Bool:=ops.zipIdx.any λ(o,i)=>gW o&& !(yM ops i)
def nl:Code->Nat
 |.seq a b=>nl a+nl b
 |.cond _ a b=>nl a+nl b
 |.block _ b=>nl b
 |.loop b=>nl b+1
 |.scope b=>nl b
 |_=>0
def qJQ(o:Oper):Option (TypeId×Tmp×Tmp):=match o.op,o.dst,o.guard with
 |.load t (.tmp p),some d,none=>some (t,p,d)
 |_,_,_=>none
def qDT(o:Oper):Option (Tmp×Tmp):=match o.op,o.dst,o.guard with
 |.move (.tmp s),some d,none=>some (s,d)
 |_,_,_=>none
def qOi(o:Oper):Option (Tmp×Tmp):=match o.op,o.dst,o.guard with
 |.binOp .add _ (.tmp a) (.const (.int .i64 (.ofNat 1))) _,some d,none=>some (a,d)
 |_,_,_=>none
def qGj(o:Oper):Option (TypeId×Tmp×Tmp×Tmp):=match o.op,o.dst,o.guard with
 |.slice t (.tmp x) (some (.tmp l)) none none,some d,none=>some (t,x,l,d)
 |_,_,_=>none
def qOh(o:Oper):Option (TypeId×Tmp×Tmp×Tmp):=match o.op,o.dst,o.guard with
 |.call c,some d,none=>match c.callee,c.args.toList,c.argTypes.toList with
  |.builtin .copy,[.tmp a,.tmp b],t::_=>some (t,a,b,d)
  |_,_,_=>none
 |_,_,_=>none
structure CpP where
 k:Nat
 j:SV
 el:Nat
 sz:Nat
 ds:List Tmp
def zA4(h j i c b p0 p4 o k G A y B q z x u p t F w C r:Nat)(l:List Nat)(n:Nat):Bool:=
 (Nat.beq j h&&(Nat.beq i h&&(Nat.beq c h&&Nat.beq b h)))&&((Nat.beq p4 p0&&Nat.beq k o)&&((Nat.beq G A&&(Nat.beq y B&&Nat.beq q z))&&((Nat.beq x u&&Nat.beq p t)&&((Nat.beq F w&&Nat.beq C r)&&(dR l&&l.all λd=>Nat.ble (d+1) n)))))
def qI4(E:Env)(t:TypeId):Bool:=match E.types.get t with
 |some h=>!h.agg&&Nat.beq h.size 1
 |none=>false
def qXw(E:Env)(S:St):List Oper->Option CpP
 | [B,A,z,w,u,t,r,q]=>match qJQ B,qDT A,qOi z,qGj w with
  | some (h,p0,p),some (s1,o),some (R,l),some (L,G,O,i)=>match qJQ u,qDT t,qGj r,qOh q with
   | some (K,p4,c),some (M,y),some (J,F,N,x),some (I,Q,P,C)=>
    bif zA4 h L K J I p0 p4 s1 M R o G p O l F c N y Q i P x [p0,s1,p,o,l,i,c,y,x,C] S.sz&&(yM [B,A,z,w,u,t,r,q] 7&&qI4 E h)then
     match S.slots.get p0,S.slots.get s1,wO E h with
     |some (.loc b 0),some j,some el=>match S.blks[b]?,E.types.get el with
      |some (some (.cells [.v k])),some e=>bif S.freshV k&&wG S j then some ⟨k,j,el,e.size,[p,o,l,i,c,y,x,C]⟩else none
      |_,_=>none
     |_,_,_=>none
    else none
   |_,_,_,_=>none
  |_,_,_,_=>none
 |_=>none
def qIi(o:Oper):Option (TypeId×Tmp):=match o.op,o.dst,o.guard with
 |.call c,none,none=>match c.callee,c.args.toList,c.argTypes.toList with
  |.builtin .clear,[.tmp a],t::_=>some (t,a)
  |_,_,_=>none
 |_,_,_=>none
structure ClP where
 k:Nat
 j:SV
 el:Nat
 sz:Nat
 ag:Bool
 z:List Value
 ds:List Tmp
def qXF(E:Env)(S:St):List Oper->Option ClP
 | [q,p,o,l]=>match qDT q,qDT p,qGj o,qIi l with
  | some (s0,y),some (s1,x),some (b,c,r,h),some (i,a3)=>
   bif (Nat.beq c y&&(Nat.beq r x&&(Nat.beq a3 h&&Nat.beq i b)))&&(dR [s0,s1,y,x,h]&&[s0,s1,y,x,h].all λd=>Nat.ble (d+1) S.sz)then
    match S.slots.get s0,S.slots.get s1,wO E b with
    | some (.v k),some j,some el=>match E.types.get el with
     |some e=>match e.zero with
      |some z=>bif S.freshV k&&wG S j then some ⟨k,j,el,e.size,e.agg,z,[y,x,h]⟩else none
      |none=>none
     |none=>none
    |_,_,_=>none
   else none
  |_,_,_,_=>none
 |_=>none
def aB(t:T SV):List Tmp->T SV
 | []=>t
 |d::ds=>(aB t ds).put d none
def St.cpy(S:St)(p:CpP):St:={S with slots:=aB S.slots p.ds}
def St.clr(S:St)(p:ClP):St:={S with slots:=aB S.slots p.ds}
abbrev KC:=AExit->St->Tree
def qK9(k:St->Tree)(κ:KC):KC:=λe S=>match e with
 |.normal=>k S
 |e=>κ e S
def cP(id:Nat)(κ:KC):KC:=λe S=>match e with
 |.exit h=>bif Nat.beq h id then κ .normal S else κ (.exit h) S
 |e=>κ e S
def sx(E:Env)(J:Nat->St->Tree):Nat->Code->St->KC->Tree
 |at_,.seq a b,S,κ=>sx E J at_ a S (qK9 (λS=>sx E J (at_+nl a) b S κ) κ)
 |at_,.cond c a b,S,κ=>match pW S c with
  |some (.c (.bool true))=>sx E J at_ a S κ
  |some (.c (.bool false))=>sx E J (at_+nl a) b S κ
  |some (.v i)=>bif S.pureV i then .ite (.v i) (sx E J at_ a (S.known i true) κ) (sx E J (at_+nl a) b (S.known i false) κ)else .fail
  |_=>.fail
 |at_,.block id b,S,κ=>sx E J at_ b S (cP id κ)
 |at_,.loop _,S,_=>J at_ S
 |at_,.scope b,S,κ=>sx E J at_ b S κ
 |_,.region _ ops draw,S,κ=>match (bif draw&&Nat.beq ops.toList.length 8 then qXw E S ops.toList else none)with
  |some p=>.bind (.cpy p.el p.sz) [.v p.k,p.j] (κ .normal ((S.cpy p).mapped p.k))
  |none=>match (bif !draw&&Nat.beq ops.toList.length 4 then qXF E S ops.toList else none)with
  |some p=>.bind (.clr p.el p.sz p.ag p.z) [.v p.k,p.j] (κ .normal ((S.clr p).mapped p.k))
  |none=>bif draw&&qZW ops.toList then qDw E ops false ops.toList 0 S (λS=>bif mQ S ops.toList ops.toList 0 then qHn (qGl S ops.toList) S (κ .normal)else .fail)else qDw E ops draw ops.toList 0 S (κ .normal)
 |_,.skip,S,κ=>κ .normal S
 |_,.label _,S,κ=>κ .normal S
 |_,.ret,S,κ=>κ .ret S
 |_,.exit id,S,κ=>κ (.exit id) S
 |_,_,_,_=>.fail
def qE0(E:Env)(S:St)(acc:List SV):List ResultVar->Tree
 | []=>
  let S:=vR S acc
  bif acc.all (wH S)then .ret acc else .fail
 |.tmp t::r=>match S.slots.get t with
  |some x=>qE0 E S (acc++[x]) r
  |none=>.fail
 |.cell a t::r=>match S.slots.get a with
  |some p=>qD9 E t p S λx S=>qE0 E S (acc++[x]) r
  |none=>.fail
def qE2(E:Env)(m:Mode)(S:St)(acc:List SV):List ResultVar->Tree
 | []=>qJ9 .ret acc.length m.out {S with slots:=T.ofList .leaf 0 acc,sz:=acc.length}
 |.tmp t::r=>match S.slots.get t with
  |some x=>qE2 E m S (acc++[x]) r
  |none=>.fail
 |.cell a t::r=>match S.slots.get a with
  |some p=>qD9 E t p S λx S=>qE2 E m S (acc++[x]) r
  |none=>.fail
def qHc(E:Env)(m:Mode)(h:List ResultVar):KC:=λe S=>match e with
 |.normal=>qE2 E m S [] h
 |.ret=>qE2 E m S [] h
 |.exit _=>.fail
def qGd(E:Env)(J:Nat->St->Tree)(fn:Func)(m:Mode):Tree:=match fn.body with
 |some c=>sx E J 1 c (m.inp.st (Nat.max fn.ntmps m.n)) (qHc E m fn.results.toList)
 |none=>.fail
def mK(E:Env)(h:List ResultVar):KC:=λe S=>match e with
 |.normal=>qE0 E S [] h
 |.ret=>qE0 E S [] h
 |.exit _=>.fail
def yL(n sz:Nat):St:={sts:=List.replicate n ⟨.pure,false⟩,slots:=T.ofList .leaf 0 ((List.range n).map .v),blks:=[],sz:=sz}
def qGc(E:Env)(J:Nat->St->Tree)(fn:Func)(n:Nat):Tree:=match fn.body with
 |some c=>sx E J 1 c (yL n (Nat.max fn.ntmps n)) (mK E fn.results.toList)
 |none=>.fail
def iB(J:Nat->St->Tree)(h:Nat)(κ:KC):KC:=λe S=>match e with
 |.normal=>J h S
 |e=>κ e S
def xB(E:Env)(P:Nat->St)(J:Nat->St->Tree):Nat->Code->KC->List (Nat×Tree)
 |at_,.seq a b,κ=>xB E P J at_ a (qK9 (λS=>sx E J (at_+nl a) b S κ) κ)++xB E P J (at_+nl a) b κ
 |at_,.cond _ a b,κ=>xB E P J at_ a κ++xB E P J (at_+nl a) b κ
 |at_,.block id b,κ=>xB E P J at_ b (cP id κ)
 |at_,.loop b,κ=>(at_,sx E J (at_+1) b (P at_) (iB J at_ κ))::xB E P J (at_+1) b (iB J at_ κ)
 |at_,.scope b,κ=>xB E P J at_ b κ
 |_,_,_=>[]
inductive Res1 where
 |ret (d:D)
 |jump (k:Nat) (ds:List D)
def gZ:List D->D
 | [d]=>d
 |l=>.tup l
def tX:List D->Bool
 | []=>true
 |.leaf _::r=>tX r
 |_::_=>false
def qEp:Nat->D->Bool
 |0,_=>true
 |1,.leaf _=>true
 |1,_=>false
 |_,.tup l=>tX l
 |_,_=>false
def cQ:Nat:=1000000000000
def qBA(E:Env)(y:Tgt)(ds:List D):Option (FuncId×List D):=match y with
 |.fn f=>some (f,ds)
 |.val _=>match ds with
  |.clo (.func g) first cap::r=>some (g,first++r++cap)
  |_=>none
 | .meth _ h=>match ds with
  | .iface t d::r=>match E.prog.info? t,E.types.get t with
   |some i,some x=>match i.methods.find? (·.name==h)with
    |some {path:=p,func:=some (f,ptr),..}=>bif Nat.beq p.toList.length 0&&qBa x.desc ptr then some (f,d::r)else none
    |_=>none
   |_,_=>none
  |_=>none
def getD(ρ:List D)(i:Nat):D:=ρ.getD i .nil
def wp(E:Env)(h:FuncId->List D->D->Prop)(Q:Res1->Prop):Tree->List D->Prop
 |.fail,_=>False
 |.stop _ _,_=>False
 |.ret xs,ρ=>Q (.ret (gZ (SV.ds (getD ρ) xs)))
 |.jump k xs,ρ=>Q (.jump k (SV.ds (getD ρ) xs))
 |.bind o xs r,ρ=>match o.eval E (SV.ds (getD ρ) xs)with
  |some d=>wp E h Q r (ρ++[d])
  |none=>False
 |.call x xs y r,ρ=>match qBA E x (SV.ds (getD ρ) xs)with
  |some (f,ds)=>∃d,h f ds d/\qEp y d=true/\wp E h Q r (ρ++[d])
  |none=>False
 |.callM f m xs r,ρ=>∃ds,h (Nat.add cQ f) (.mode m::SV.ds (getD ρ) xs) (gZ ds)/\ds.length=m.out.sts.length/\wp E h Q r (ρ++ds)
 |.ite c a b,ρ=>match c.d (getD ρ)with
  |.leaf (.bool true)=>wp E h Q a ρ
  |.leaf (.bool false)=>wp E h Q b ρ
  |_=>False
def qW7(E:Env)(x:FuncId->List D->D->Prop)(h:Nat->Tree):Nat->Nat->List D->D->Prop
 |0,_,_,_=>False
 |n+1,k,ρ,d=>wp E x (λr=>match r with|.ret y=>y=d|.jump k' ds=>qW7 E x h n k' ds d) (h k) ρ
def qE(E:Env)(x:FuncId->List D->D->Prop)(h:Nat->Tree)(k:Nat)(ρ:List D)(d:D):Prop:=∃n,qW7 E x h n k ρ d
end Go.Am
