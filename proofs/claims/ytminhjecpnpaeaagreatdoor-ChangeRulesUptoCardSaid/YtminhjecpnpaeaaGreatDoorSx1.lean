/- What commands do, said without a bound on steps. Conditions: none. -/
import Derived.Test.YtminhjecpnpaeaaGreatDoorAm7
set_option linter.unusedVariables false
set_option linter.unusedSimpArgs false
namespace Go.Am
open Go
def zT(E:Env)(c:Code)(fr:Fr)(H:AH)(e:AExit)(fr':Fr)(H':AH):Prop:=H.next<=H'.next/\pT E c fr H e fr' H'
section
variable{E:Env}{H H1 H':AH}{fr fr1 fr':Fr}{e e':AExit}
theorem qDa{c1 K:Code}(G:zT E c1 fr H .normal fr1 H1)(F:zT E K fr1 H1 e fr' H'){c:Code}(p:zP c=true->zP c1=true/\zP K=true)(x:Item)(V:∀(b:Frame) (tmps:Array Value) (ds:List Deferred) (k:List Item) (cs:List Frame) (w:World),Steps E.prog (lone (Fm b tmps ds (lay c k)) cs w) (lone (Fm b tmps ds (.code c1::x::k)) cs w))(A:∀(b:Frame) (tmps:Array Value) (ds:List Deferred) (k:List Item) (cs:List Frame) (w:World),Steps E.prog (lone (Fm b tmps ds (x::k)) cs w) (lone (Fm b tmps ds (lay K k)) cs w)):zT E c fr H e fr' H':=by refine⟨lT G.1 F.1,?_⟩;intro B σ w tmps n0 P W X y q b ds k cs O o C;obtain⟨S,R⟩:=p B;have N:H.next<=H1.next:=G.1;have M:H1.next<=H'.next:=F.1;have i:yD σ H.next H1.next:=λc U q2=>y c U (by omega);obtain⟨u,L,h,r,s1,f1,l,d1,e1⟩:=G.2.lay S tmps n0 P W X i q b ds (x::k) cs O o C;obtain⟨t,Q,j,J,s2,f2,z,d2,Z⟩:=F.2 R u L h n0 P s1.hr f1 (y.split s1.ext s1.next) (lT q s1.size) b r k cs O (by rw[l];exact o) d1;have I:Steps E.prog _ _:=e1;exact⟨t,Q,j,J,s1.trans s2,f2,z.trans l,d2,.head ((V b tmps ds k cs w).trans (I.trans (A b h r k cs L))) Z⟩
theorem mI{c1:Code}(A:zT E c1 fr H e fr' H'){c:Code}(y:zP c=true->zP c1=true)(xs:List Item)(C:∀(tmps:Array Value),(∀σ:zU,aW σ fr tmps->∀(b:Frame) (ds:List Deferred) (k:List Item) (cs:List Frame) (w:World),HR E σ H w->Steps E.prog (lone (Fm b tmps ds (lay c k)) cs w) (lone (Fm b tmps ds (.code c1::xs++k)) cs w)))(l:∀(m:Machine) (b:Frame) (tmps:Array Value) (ds:List Deferred) (k:List Item) (cs:List Frame) (w:World),Reach E.prog e m b tmps ds (xs++k) cs w->Reach E.prog e' m b tmps ds k cs w):zT E c fr H e' fr' H':=by refine⟨A.1,?_⟩;intro p σ w tmps n0 I u z x q b ds k cs F o r;obtain⟨i,B,h,t,s1,f1,j,d1,G⟩:=A.2.lay (y p) tmps n0 I u z x q b ds (xs++k) cs F o r;exact⟨i,B,h,t,s1,f1,j,d1,l _ _ _ _ _ _ _ (.head (C tmps σ z b ds k cs w u) G)⟩
theorem zT.skip:zT E .skip fr H .normal fr H:=⟨lR _,gY λ_ _ _ _ _ _=>.one qKB⟩
theorem zT.label{l:Nat}:zT E (.label l) fr H .normal fr H:=⟨lR _,gY λ_ _ _ _ _ _=>.one qHo⟩
theorem zT.ret:zT E .ret fr H .ret fr H:=⟨lR _,gY λ_ _ _ k _ _=>⟨k,Steps.refl _ _⟩⟩
theorem zT.exit{id:Nat}:zT E (.exit id) fr H (.exit id) fr H:=
 ⟨lR _,gY λ_ _ _ k _ _=>⟨λ_ x=>.one (qKC x),λh=>⟨k,h,Steps.refl _ _⟩⟩⟩
theorem zT.seq{a b:Code}(y:zT E a fr H .normal fr1 H1)(x:zT E b fr1 H1 e fr' H'):zT E (.seq a b) fr H e fr' H':=
 qDa y x (λh=>by simpa[zP]using h) (.code b) (λ_ _ _ _ _ _=>.one qAo) (λ_ _ _ _ _ _=>qAj _ _ _ _ _ _ _ _)
theorem zT.seqOut{a b:Code}(y:zT E a fr H e fr' H')(x:e≠.normal):zT E (.seq a b) fr H e fr' H':=
 mI y (λh=>by simp[zP]at h;exact h.1) [.code b] (λ_ _ _ _ _ _ _ _ _=>.one qAo) (λ_ _ _ _ _ _ _ g=>g.weaken (λ_=>rfl) x)
theorem zT.condT(he:EOk E){c:Operand}{a b:Code}(y:ev E fr c=some (.bool true))(i:zT E a fr H e fr' H'):zT E (.cond c a b) fr H e fr' H':=
 mI i (λh=>by simp[zP]at h;exact h.1) [] (λtmps _ x _ _ _ _ _ h=>.one (qBt (t:=true) (uL (pQ (a:=⟨tmps,[]⟩) he h x y)))) (λ_ _ _ _ _ _ _ g=>g)
theorem zT.condF(he:EOk E){c:Operand}{a b:Code}(y:ev E fr c=some (.bool false))(i:zT E b fr H e fr' H'):zT E (.cond c a b) fr H e fr' H':=
 mI i (λh=>by simp[zP]at h;exact h.2) [] (λtmps _ x _ _ _ _ _ h=>.one (qBt (t:=false) (uL (pQ (a:=⟨tmps,[]⟩) he h x y)))) (λ_ _ _ _ _ _ _ g=>g)
theorem zT.blockExit{id:Nat}{b:Code}(x:zT E b fr H (.exit id) fr' H'):zT E (.block id b) fr H .normal fr' H':=
 mI x (λh=>h) [.inBlock id] (λ_ _ _ _ _ _ _ _ _=>.one eC) (λ_ _ _ _ k _ _ g=>g.1 k (by simp[exitTo]))
theorem zT.block{id:Nat}{b:Code}(j:zT E b fr H e fr' H')(c:e≠.exit id):zT E (.block id b) fr H e fr' H':=by
 refine mI j (λy=>y) [.inBlock id] (λ_ _ _ _ _ _ _ _ _=>.one eC) (λm b tmps ds k cs w g=>?_);cases e with
 |normal=>have g':Steps E.prog _ _:=g;exact g'.trans (.one qCQ)
 |exit h=>
  refine g.weaken2 (λx l=>?_) (by simp);cases l;have:(id==h)=false:=by simpa using λi=>c (by rw[i])
  simp[exitTo,this]
 |ret=>exact g
theorem zT.loop{b:Code}(x:zT E b fr H .normal fr1 H1)(h:zT E (.loop b) fr1 H1 e fr' H'):zT E (.loop b) fr H e fr' H':=
 qDa x h (λhr=>⟨hr,hr⟩) (.inLoop b) (λ_ _ _ _ _ _=>Steps.refl _ _) (λ_ _ _ _ _ _=>.one qEt)
theorem zT.loopOut{b:Code}(y:zT E b fr H e fr' H')(x:e≠.normal):zT E (.loop b) fr H e fr' H':=
 mI y (λh=>h) [.inLoop b] (λ_ _ _ _ _ _ _ _ _=>Steps.refl _ _) (λ_ _ _ _ _ _ _ g=>g.weaken (λ_=>rfl) x)
theorem zT.scope{b:Code}(y:zT E b fr H e fr' H'):zT E (.scope b) fr H e fr' H':=by
 refine mI y (λx=>x) [.inScope b] (λ_ _ _ _ _ _ _ _ _=>.one qHn) (λm c tmps ds k cs w g=>?_);by_cases h:e=.normal
 ·subst h;have g':Steps E.prog _ _:=g;exact g'.trans (.one qCP)
 exact g.weaken (λ_=>rfl) h
structure jL where
 f:FuncId
 args:List Value
 H:AH
 v:Value
 H':AH
 rnd:Bool:=false
def jL.cmd(a:jL):Cmd:=match a.rnd with
 |false=>.call a.f a.args
 |true=>.round a.f a.args
def jL.ok(E:Env)(a:jL):Prop:=a.H.next<a.H'.next/\match a.rnd with
 |false=>vU E a.f a.args a.H a.v a.H'
 |true=>wO E a.f a.args a.H a.v a.H'
def pF(E:Env):Nat->List jL->Prop
 |_,[]=>True
 |n,a::l=>a.ok E/\n<=a.H.next/\pF E a.H'.next l
theorem pF.mono:∀{n m:Nat} {l:List jL},m<=n->pF E n l->pF E m l
 |_,_,[],_,_=>trivial
 |_,_,_::_,h,⟨y,x,h3⟩=>⟨y,lT h x,h3⟩
theorem pF.later:∀{n:Nat} {l:List jL},pF E n l->∀a∈l,n<=a.H.next/\a.ok E
 |_,[],_,_,h=>by cases h
 |n,b::l,⟨y,x,h3⟩,a,h=>by
  rcases List.mem_cons.1 h with rfl|h
  ·exact⟨x,y⟩
  have:=pF.later h3 a h;exact⟨lT x (lT (Nat.le_of_lt y.1) this.1),this.2⟩
open Classical in
noncomputable def qOu:List jL->Cmd->AH->j9
 | [],_,_=>none
 |a::l,cmd,H=>if cmd=a.cmd/\H=a.H then some (.val a.v,a.H')else qOu l cmd H
theorem qCx:∀{n:Nat} {l:List jL},pF E n l->∀a∈l,qOu l a.cmd a.H=some (.val a.v,a.H')
 |_,[],_,_,h=>by cases h
 |n,b::l,⟨x,c,h3⟩,a,h=>by
  rcases List.mem_cons.1 h with rfl|h
  ·simp[qOu]
  have:=pF.later h3 a h;have y:b.H.next<b.H'.next:=x.1;rw[qOu,if_neg,qCx h3 a h];rintro⟨_,e⟩;grind
theorem fI:∀{l:List jL} {cmd:Cmd} {H:AH} {r:Out×AH},qOu l cmd H=some r->∃a∈l,cmd=a.cmd/\H=a.H/\r=(.val a.v,a.H')
 | [],_,_,_,h=>by cases h
 |a::l,cmd,H,r,h=>by
  rw[qOu]at h;split at h
  ·grind
  obtain⟨b,y,x⟩:=fI h;grind
theorem jL.cmd_call{a:jL}{f:FuncId}{args:List Value}(h:.call f args=a.cmd):a.rnd=false/\f=a.f/\args=a.args:=by unfold jL.cmd at h;grind
theorem jL.cmd_round{a:jL}{f:FuncId}{args:List Value}(h:.round f args=a.cmd):a.rnd=true/\f=a.f/\args=a.args:=by unfold jL.cmd at h;grind
theorem jL.cmd_code{a:jL}{c:Code}{fr:Fr}(h:.code c fr=a.cmd):False:=by unfold jL.cmd at h;split at h<;>cases h
theorem qOt{n:Nat}{l:List jL}(h:pF E n l):IhOK E (qOu l) where
 up cmd H o H' x:=by
  obtain⟨a,b,_,rfl,i⟩:=fI x
  cases i
  exact Nat.le_of_lt (h.later a b).2.1
 call f j H v H' x:=by
  obtain⟨a,b,y,rfl,i⟩:=fI x
  obtain⟨k,rfl,rfl⟩:=jL.cmd_call y
  cases i
  have:=(h.later a b).2.2
  rw[k]at this
  exact this
 round l j H v H' x:=by
  obtain⟨a,b,y,rfl,i⟩:=fI x
  obtain⟨k,rfl,rfl⟩:=jL.cmd_round y
  cases i
  have:=(h.later a b).2.2
  rw[k]at this
  exact this
 code c fr H e fr' H' x:=by
  obtain⟨a,b,y,_⟩:=fI x
  exact(jL.cmd_code y).elim
 codev c fr H v H' x:=by
  obtain⟨a,b,y,_⟩:=fI x
  exact(jL.cmd_code y).elim
def qJH(l:List jL)(ih:Cmd->AH->j9):Prop:=∀a∈l,ih a.cmd a.H=some (.val a.v,a.H')
def qH7(all:List Oper)(i:Nat)(ts:List (Nat×Nat)):Prop:=∀p∈ts,i<=p.1/\∀k,k<p.1->rG (kI all) p.1 k=true
theorem qH7.hid{all:List Oper}{i:Nat}:∀{ts:List (Nat×Nat)},qH7 all (i+1) ts->qJ all i ts=[]
 | [],_=>rfl
 |p::ts,h=>by have x:=(h p List.mem_cons_self).2 i (h p List.mem_cons_self).1;obtain⟨j,b⟩:=p;have x:rG (kI all) j i=true:=x;rw[qJ,x,Bool.or_true,cond_true];exact qH7.hid λq y=>h q (mC _ y)
theorem qH7.less{all:List Oper}{i:Nat}{ts:List (Nat×Nat)}(h:qH7 all (i+1) ts):qH7 all i ts:=λp x=>⟨Nat.le_of_succ_le (h p x).1,(h p x).2⟩
theorem qDY{E:Env}{ih:Cmd->AH->j9}{all:Array Oper}{ts:List (Nat×Nat)}:∀(h:List Oper) (i:Nat) (fr:Fr) (H:AH),zM E ih all false ts h i fr H=zM E ih all false [] h i fr H
 | [],_,_,_=>rfl
 |o::h,i,fr,H=>by simp only[zM,cond_false,qDY h]
def yW(E:Env)(all:Array Oper)(draw:Bool)(h:List Oper)(i:Nat)(fr:Fr)(H:AH)(fr':Fr)(H':AH):Prop:=
 H.next<=H'.next/\∃l,pF E H.next l/\(∀a∈l,a.H'.next<=H'.next)/\∃ts,qH7 all.toList i ts/\∀ih,qJH l ih->zM E ih all draw ts h i fr H=some (fr',H')
theorem zT.region(he:EOk E){id:Nat}{ops:Array Oper}{draw:Bool}(h:yW E ops draw ops.toList 0 fr H fr' H'):zT E (.region id ops draw) fr H .normal fr' H':=by obtain⟨z,l,t,_,ts,_,h3⟩:=h;refine⟨z,?_⟩;have x:=h3 (qOu l) (λa C=>qCx t a C);have j:=qOt t;intro p σ w tmps n0 F r B c u b ds k cs A o q;obtain⟨i,w',y,g1,g2,g3⟩:=cE he j.call j.round j.up (id:=id) (λhd=>by simpa[zP,hd]using p) b ds k cs A o x r B c;exact⟨i,w',y,ds,g1,g2,pH x,q.step r g1,g3⟩
open Classical in
theorem zT.call(he:EOk E){f:FuncId}{args:List Value}{fn:Func}{c:Code}{v:Value}(o:E.funcs.get f=some fn)(q:fn.body=some c)(h:zT E c ⟨Nat.max fn.ntmps args.length,false,T.ofList .leaf 0 args⟩ H e fr' H')(p:e=.normal∨e=.ret)(j:(match vI E fr' H' fn.results.toList with|some [v]=>some v|some vs=>some (.tuple ⟨vs⟩)|none=>none)=some v):vU E f args H v H':=by
 let x:Fr:=⟨Nat.max fn.ntmps args.length,false,T.ofList .leaf 0 args⟩;let ih:Cmd->AH->j9:=λcmd H2=>if cmd=.code c x/\H2=H then some (.ex e fr',H')else none;have y:∀{cmd:Cmd} {H2:AH} {r:Out×AH},ih cmd H2=some r->cmd=.code c x/\H2=H/\r=(.ex e fr',H'):=by grind
 have l:IhOK E ih:=by
  refine {up:=?_,call:=?_,round:=?_,code:=?_,codev:=?_}
  ·intro cmd H2 k A i;obtain⟨_,t,h3⟩:=y i;cases h3;rw[t];exact h.1
  ·grind
  ·grind
  ·intro F z H2 C w A i;obtain⟨u,rfl,h3⟩:=y i;cases u;cases h3;exact h.2
  grind
 have b:body E ih (.call f args) H=some (.val v,H'):=by
  have B:ih (.code c x) H=some (.ex e fr',H'):=by simp[ih]
  simp only[body,o,q];grind
 exact(qLb he l).call _ _ _ _ _ b
end
end Go.Am
namespace Go.Am
open Go
inductive SV where
 |v (i:Nat)
 |c (x:Value)
 |loc (b off:Nat)
 |ptr (s i:SV) (sz off:Nat)
 |pp (i off:Nat)
 |agg (cs:List SV)
 |tup (cs:List SV)
 |fn (f:Fn) (first cap:List SV)
 |ifc (t:TypeId) (x:SV)
 |yld (b:Nat)
instance:Inhabited SV:=⟨.v 0⟩
inductive VK where
 |pure
 |full
 |fresh
 |dead
 |ptr
structure VSt where
 k:VK
 one:Bool
inductive Blk where
 |cells (cs:List SV)
 |whole (x:SV) (n:Nat)
 |loop (st pd:Nat)
 |tcells (t:TypeId) (cs:List SV)
structure Pat where
 sts:List VSt
 slots:List (Nat×SV)
 blks:List (Option Blk)
 sav:List (List (Nat×SV)):=[]
structure Mode where
 inp:Pat
 n:Nat
 out:Pat
inductive D where
 |leaf (v:Value)
 |agg (cs:List D)
 |nil
 |sl (el:TypeId) (sz:Nat) (es:List D)
 |tup (cs:List D)
 |ptr (cs:List D) (off:Nat)
 |clo (fn:Fn) (first cap:List D)
 |iface (t:TypeId) (d:D)
 |mode (m:Mode)
 |mp (ks:List Value) (ds:List D)
instance:Inhabited D:=⟨.nil⟩
def D.cells:D->List D
 |.agg cs=>cs
 |d=>[d]
def D.one:D->Bool
 |.agg _|.tup _=>false
 |_=>true
def D.es:D->List D
 |.sl _ _ es=>es
 |_=>[]
def D.szD:D->Nat
 |.sl _ sz _=>sz
 |_=>0
def wJ:Value->Bool
 |.bool _|.int _ _|.float _ _|.complex _ _ _|.string _=>true
 |.pointer a=>a.isNone
 |.map r=>r.isNone
 |.nilFunc|.nilIface=>true
 |_=>false
abbrev zB:=Nat->Option ABlk
mutual
inductive DR (g:zB):D->Value->Prop
 |leaf {v:Value} (h:wJ v=true):DR g (.leaf v) v
 |agg {cs:List D} {vs:List Value} (h:DRs g cs vs) (o:vs.all qE=true):DR g (.agg cs) (.agg ⟨vs⟩)
 |tup {cs:List D} {vs:List Value} (h:DRs g cs vs):DR g (.tup cs) (.tuple ⟨vs⟩)
 |nil:DR g .nil (.slice none 0 0)
 | sl {el:TypeId} {es:List D} {b o l c sz rt:Nat} {cs vs:List Value} {own:Bool} (hb:g b=some ⟨.cells cs el,rt,own⟩) (ht:take? (cs.drop o) (l*sz)=some vs)
   (hv:DRs g (es.flatMap D.cells) vs) (hl:es.length=l) (hs:∀e∈es,e.cells.length=sz) (hc:l<=c) (hx:l<qT) (ho:vs.all qE=true):DR g (.sl el sz es) (.slice (some ⟨b,o,none⟩) l c)
 |ptr {cs:List D} {off b rt:Nat} {vs:List Value} {el:TypeId} {own:Bool} (hb:g b=some ⟨.cells vs el,rt,own⟩) (hv:DRs g cs vs) (ho:vs.all qE=true):DR g (.ptr cs off) (.pointer (some ⟨b,off,none⟩))
 |clo {fn:Fn} {first cap:List D} {f c:List Value} (hp:rD fn=true) (hf:DRs g first f) (hc:DRs g cap c):DR g (.clo fn first cap) (.func fn ⟨f⟩ ⟨c⟩)
 |iface {t:TypeId} {d:D} {v:Value} (h:DR g d v):DR g (.iface t d) (.iface t v)
 |mp {ks:List Value} {ds:List D} {r rt clock:Nat} {es:List MapEntry} {own:Bool} (hb:g r=some ⟨.map es clock,rt,own⟩) (hk:es.map (·.key)=ks) (hv:DRs g ds (es.map (·.val))):DR g (.mp ks ds) (.map (some r))
inductive DRs (g:zB):List D->List Value->Prop
 |nil:DRs g [] []
 |cons {d:D} {v:Value} {ds:List D} {vs:List Value} (h:DR g d v) (hs:DRs g ds vs):DRs g (d::ds) (v::vs)
end
def zB.le(g g':zB):Prop:=∀b k,g b=some k->g' b=some k
theorem zB.le_refl(g:zB):zB.le g g:=λ_ _ h=>h
theorem zB.le_trans{g g' x:zB}(h:zB.le g g')(y:zB.le g' x):zB.le g x:=λb k e=>y b k (h b k e)
mutual
theorem DR.mono{g g':zB}(x:zB.le g g'):∀{d:D} {v:Value},DR g d v->DR g' d v
 |_,_,.leaf h=>.leaf h
 |_,_,.agg h o=>.agg (DRs.mono x h) o
 |_,_,.tup h=>.tup (DRs.mono x h)
 |_,_,.nil=>.nil
 |_,_,.sl y j hv p k c i b=>.sl (x _ _ y) j (DRs.mono x hv) p k c i b
 |_,_,.ptr y hv b=>.ptr (x _ _ y) (DRs.mono x hv) b
 |_,_,.clo l r c=>.clo l (DRs.mono x r) (DRs.mono x c)
 |_,_,.iface h=>.iface (DR.mono x h)
 |_,_,.mp y q hv=>.mp (x _ _ y) q (DRs.mono x hv)
theorem DRs.mono{g g':zB}(x:zB.le g g'):∀{ds:List D} {vs:List Value},DRs g ds vs->DRs g' ds vs
 |_,_,.nil=>.nil
 |_,_,.cons h y=>.cons (DR.mono x h) (DRs.mono x y)
end
section
variable{g g':zB}
theorem DR.one{d:D}{v:Value}(h:DR g d v):qE v=d.one:=by
 cases h<;>try rfl
 rename_i h;cases v<;>first|rfl|(simp[wJ]at h)
theorem DRs.length:∀{ds:List D} {vs:List Value},DRs g ds vs->vs.length=ds.length
 |_,_,.nil=>rfl
 |_,_,.cons _ h=>by simp[DRs.length h]
theorem DRs.append:∀{a b:List D} {x y:List Value},DRs g a x->DRs g b y->DRs g (a++b) (x++y)
 |_,_,_,_,.nil,h=>h
 |_,_,_,_,.cons h c,i=>.cons h (DRs.append c i)
theorem DRs.get:∀{ds:List D} {vs:List Value},DRs g ds vs->∀(i:Nat) (d:D),ds[i]? = some d->∃v,vs[i]? = some v/\DR g d v
 |_,_,.nil,i,d,h=>by simp at h
 |_,_,.cons h x,0,d,e=>by simp at e;subst e;exact⟨_,rfl,h⟩
 |_,_,.cons h x,i+1,d,e=>by simp at e;simpa using DRs.get x i d e
theorem DRs.split:∀{a b:List D} {vs:List Value},DRs g (a++b) vs->∃x y,vs=x++y/\DRs g a x/\DRs g b y
 | [],b,vs,h=>⟨[],vs,rfl,.nil,h⟩
 |d::a,b,_,.cons h c=>by obtain⟨x,y,rfl,j,i⟩:=DRs.split (a:=a) c;exact⟨_::x,y,rfl,.cons h j,i⟩
theorem DRs.drop:∀(n:Nat) {ds:List D} {vs:List Value},DRs g ds vs->DRs g (ds.drop n) (vs.drop n)
 |0,_,_,h=>h
 |_+1,_,_,.nil=>.nil
 |n+1,_,_,.cons _ x=>DRs.drop n x
theorem DRs.take:∀(n:Nat) {ds:List D} {vs:List Value},DRs g ds vs->DRs g (ds.take n) (vs.take n)
 |0,_,_,_=>.nil
 |_+1,_,_,.nil=>.nil
 |n+1,_,_,.cons h x=>.cons h (DRs.take n x)
theorem DRs.all_one{ds:List D}{vs:List Value}(h:DRs g ds vs):vs.all qE=ds.all D.one:=by
 induction ds generalizing vs with
 |nil=>cases h;rfl
 |cons d ds ih=>cases h with
  |cons h x=>simp[DR.one h,ih x]
theorem DR.cells{d:D}{v:Value}(h:DR g d v):DRs g d.cells v.cells.toList:=by
 cases h with
 |agg h o=>exact h
 |leaf h=>cases v<;>first|exact .cons (.leaf h) .nil|(simp[wJ]at h)
 |tup h=>exact .cons (.tup h) .nil
 |nil=>exact .cons .nil .nil
 |sl x i hv l j b c y=>exact .cons (.sl x i hv l j b c y) .nil
 |ptr x hv y=>exact .cons (.ptr x hv y) .nil
 |clo k q b=>exact .cons (.clo k q b) .nil
 |iface h=>exact .cons (.iface h) .nil
 |mp x p hv=>exact .cons (.mp x p hv) .nil
theorem DR.leaf_inv{x v:Value}(h:DR g (.leaf x) v):v=x/\wJ x=true:=by cases h;exact⟨rfl,by assumption⟩
theorem jF:∀{l:List Value} {n:Nat} {r:List Value},take? l n=some r->r=l.take n/\n<=l.length
 |_,0,r,h=>by simp only[take?,oI]at h;subst h;simp
 | [],n+1,r,h=>by simp[take?]at h
 |x::l,n+1,r,h=>by simp only[take?,Option.map_eq_some_iff]at h;obtain⟨b,y,rfl⟩:=h;obtain⟨rfl,c⟩:=jF y;grind
theorem xI:∀{l:List Value} {n:Nat},n<=l.length->take? l n=some (l.take n)
 |_,0,_=>by simp[take?]
 | [],n+1,h=>by simp at h
 |x::l,n+1,h=>by simp only[take?];rw[xI (show n<=l.length by simpa using h)];simp
theorem gV:∀{es:List D} {sz:Nat},(∀e∈es,e.cells.length=sz)->(es.flatMap D.cells).length=es.length*sz
 | [],sz,_=>by simp
 |e::es,sz,h=>by have:=gV (es:=es) λx y=>h x (mC _ y);grind
theorem kP:∀{es:List D} {sz:Nat},(∀e∈es,e.cells.length=sz)->∀i,(es.flatMap D.cells).drop (i*sz)=(es.drop i).flatMap D.cells
 |_,_,_,0=>by simp
 | [],_,_,i+1=>by simp
 |e::es,sz,h,i+1=>by have:=kP (es:=es) (λx y=>h x (mC _ y)) i;simp only[List.flatMap_cons,List.drop_succ_cons];rw[←this];have he:=h e List.mem_cons_self;rw[show(i+1)*sz=e.cells.length+i*sz by rw[Nat.add_mul,he];omega,←List.drop_drop];simp
theorem gU:∀{es:List D} {sz:Nat},(∀e∈es,e.cells.length=sz)->∀i,(es.flatMap D.cells).take (i*sz)=(es.take i).flatMap D.cells
 |_,_,_,0=>by simp
 | [],_,_,i+1=>by simp
 |e::es,sz,h,i+1=>by have:=gU (es:=es) (λx y=>h x (mC _ y)) i;simp only[List.flatMap_cons,List.take_succ_cons];rw[←this];have he:=h e List.mem_cons_self;rw[show(i+1)*sz=e.cells.length+i*sz by rw[Nat.add_mul,he];omega,List.take_append];simp[List.take_of_length_le]
theorem qRs{es:List D}{sz:Nat}(h:∀e∈es,e.cells.length=sz){i:Nat}{e:D}(y:es[i]? = some e):((es.flatMap D.cells).drop (i*sz)).take sz=e.cells:=by obtain⟨x,rfl⟩:=gI y;rw[kP h,List.drop_eq_getElem_cons x,List.flatMap_cons,List.take_append];have:=h _ (List.getElem_mem x);rw[this];grind
theorem qDT{l:List Value}{n:Nat}{vs:List Value}(h:take? l n=some vs){i k:Nat}(x:i+k<=n):take? (l.drop i) k=some ((vs.drop i).take k):=by
 obtain⟨rfl,y⟩:=jF h;rw[xI (by simp;omega)]
 congr 1
 rw[List.drop_take,List.take_take,Nat.min_eq_left (by omega)]
def Whole(ag:Bool)(size:Nat)(d:D):Prop:=if ag then∃cs,d=.agg cs/\cs.length=size else d.one=true/\size=1
theorem qUH{a b c:Nat}(h:a<b):a*c+c<=b*c:=by have:(a+1)*c<=b*c:=Nat.mul_le_mul_right c h;rw[Nat.add_mul]at this;omega
end
end Go.Am
namespace Go.Am
open Go
def T.map{α h:Type}(f:α->h):T α->T h
 |.leaf=>.leaf
 |.node v l r=>.node (match v with|some x=>some (f x)|none=>none) (l.map f) (r.map f)
def qAa:Nat->Value->D
 |0,v=>match v with
  |.slice none _ _=>.nil
  |v=>.leaf v
 |n+1,v=>match v with
  |.slice none _ _=>.nil
  |.agg cs=>.agg (cs.toList.map (qAa n))
  |.tuple cs=>.tup (cs.toList.map (qAa n))
  |.iface t v=>.iface t (qAa n v)
  |v=>.leaf v
abbrev qIc:Value->D:=qAa 6
def qCc(s i:Value)(sz off:Nat):Value:=match s,i with
 |.slice (some ⟨b,o,none⟩) _ _,.int _ (.ofNat n)=>.pointer (some ⟨b,o+n*sz+off,none⟩)
 |_,_=>.pointer (some ⟨0,off,none⟩)
def qQz(p:Value)(off:Nat):Value:=match p with
 |.pointer (some ⟨b,o,none⟩)=>.pointer (some ⟨b,o+off,none⟩)
 |_=>.pointer (some ⟨0,off,none⟩)
def qZF(p:D)(off:Nat):D:=match p with
 |.ptr cs o=>.ptr cs (o+off)
 |d=>d
mutual
def SV.val(ve:Nat->Value)(lb:Nat->Nat):SV->Value
 |.v i=>ve i
 |.c x=>x
 |.loc b off=>.pointer (some ⟨lb b,off,none⟩)
 |.ptr s i sz off=>qCc (s.val ve lb) (i.val ve lb) sz off
 |.pp i off=>qQz (ve i) off
 |.agg cs=>.agg ⟨SV.vals ve lb cs⟩
 |.tup cs=>.tuple ⟨SV.vals ve lb cs⟩
 |.fn f a b=>.func f ⟨SV.vals ve lb a⟩ ⟨SV.vals ve lb b⟩
 |.ifc t x=>.iface t (x.val ve lb)
 |.yld b=>.func (.yield (lb b)) #[] #[]
def SV.vals(ve:Nat->Value)(lb:Nat->Nat):List SV->List Value
 | []=>[]
 |x::xs=>x.val ve lb::SV.vals ve lb xs
end
mutual
def SV.d(ρ:Nat->D):SV->D
 |.v i=>ρ i
 |.c x=>qIc x
 |.loc _ _=>.nil
 |.ptr _ _ _ _=>.nil
 |.pp i off=>qZF (ρ i) off
 |.agg cs=>.agg (SV.ds ρ cs)
 |.tup cs=>.tup (SV.ds ρ cs)
 |.fn f a b=>.clo f (SV.ds ρ a) (SV.ds ρ b)
 |.ifc t x=>.iface t (x.d ρ)
 |.yld _=>.nil
def SV.ds(ρ:Nat->D):List SV->List D
 | []=>[]
 |x::xs=>x.d ρ::SV.ds ρ xs
end
inductive TOp where
 |bin (op:BinOp) (t:TypeId) (x y:Operand)
 |isNil (neg:Bool)
 |un (op:UnOp) (t:TypeId)
 |conv (s d:TypeId)
 |chk (ag:Bool) (size:Nat)
 |fld (ag:Bool) (size off:Nat)
 |inr
 |elem (sz:Nat) (ag:Bool) (size off:Nat)
 |len (str:Bool)
 |slc (el sz:Nat) (lo hi:Bool)
 |sub (lo hi:Bool)
 |chr
 |ext (i:Nat)
 |app (el sz bytes:Nat)
 |apps (el bytes:Nat)
 |bld (el:Nat)
 |lit (el sz:Nat)
 |loadp (ag:Bool) (size:Nat)
 |box
 |boxw
 |nn
 |pchk
 |mk (el sz bytes:Nat) (ag:Bool) (z:List Value)
 |set (sz:Nat) (ag:Bool) (size off:Nat)
 |bstr
 |slc0 (el sz:Nat)
 |byt (el:Nat)
 |mm (mx:Bool)
 |lib (F:List D->Option D)
 |mnew
 |mget (t:TypeId) (ok:Bool)
 |mset (t:TypeId)
 |mdel (t:TypeId)
 |mlen
 |nok
 |nch
 |nnx
 |cpy (el sz:Nat)
 |clr (el sz:Nat) (ag:Bool) (z:List Value)
mutual
def D.toV:D->Option Value
 |.leaf v=>some v
 |.agg cs=>(D.toVs cs).map λl=>.agg ⟨l⟩
 |.nil=>some (.slice none 0 0)
 |_=>none
def D.toVs:List D->Option (List Value)
 | []=>some []
 |d::ds=>match d.toV,D.toVs ds with
  |some v,some vs=>some (v::vs)
  |_,_=>none
end
def bF(ag:Bool)(size off:Nat)(cs:List D):Option D:=
 bif ag then(bif Nat.ble (off+size) cs.length then some (.agg ((cs.drop off).take size))else none)
 else match cs[off]? with
  |some d=>bif d.one then some d else none
  |none=>none
def eK(ag:Bool)(size:Nat)(d:D):Option D:=
 bif ag then(match d with|.agg cs=>bif Nat.beq cs.length size then some d else none|_=>none)
 else bif d.one&&Nat.beq size 1 then some d else none
def dY:D->Option Nat
 |.leaf (.int _ (.ofNat n))=>some n
 |_=>none
def bQ(d i:D):Option D:=match dY i with
 |some n=>d.es[n]?
 |none=>none
def cX(v:Option Value):Option D:=match v with
 |some v=>bif wJ v then some (.leaf v)else none
 |none=>none
def qKZ(E:Env)(s d:TypeId)(v:Value):Option Value:=match v with
 |.string b=>match E.types.get s,E.types.get d with
  |some {desc:=.string,..},some {desc:=.slice _,..}=>none
  |_,_=>flat? (qS E.prog (Go.convert s d (.string b)))
 |.pointer _=>none
 |v=>bif zF v then flat? (qS E.prog (Go.convert s d v))else none
def vS(b:Bool)(d:Nat):List D->Option (Nat×List D)
 |l=>bif b then(match l with
  |x::r=>(dY x).map λn=>(n,r)
  | []=>none)else some (d,l)
def pX:D->Option Nat
 |.leaf (.string s)=>some s.size
 |.sl _ _ es=>some es.length
 |.nil=>some 0
 |_=>none
def zD(ag:Bool)(z:List Value):D:=bif ag then .agg (z.map qIc)else match z with
 |v::_=>qIc v
 | []=>.nil
def uU(cs:List D)(off:Nat)(xs:List D):List D:=cs.take off++(xs++cs.drop (off+xs.length))
def uV(e:D)(off:Nat)(xs:List D):D:=match e with
 |.agg cs=>.agg (uU cs off xs)
 |_=>match xs with
  | [x]=>x
  |_=>e
def cQ:List D->Option (List UInt8)
 | []=>some []
 |.leaf (.int .u8 b)::r=>(cQ r).map (UInt8.ofNat b.toNat :: ·)
 |_=>none
def qTo(mx:Bool):Value->Value->Option Value
 |.int k x,.int _ y=>some (.int k (bif mx then(if x<y then y else x)else(if y<x then y else x)))
 |_,_=>none
def qYU(el:Nat):D->Bool
 |.nil=>true
 |.sl zS h es=>Nat.beq zS el&&Nat.beq h 1&&Nat.ble 1 es.length
 |_=>false
def qF7:TypeDesc->Bool
 |.int _|.string|.bool=>true
 |_=>false
def qBc(kd:TypeDesc)(k:Value):List Value->Nat->Option (Option Nat)
 | [],_=>some none
 |x::r,i=>match Instr.sameNow kd k x with
  |some true=>some (some i)
  |some false=>qBc kd k r (i+1)
  |none=>none
def qIL(E:Env)(t:TypeId):Option (TypeDesc×Bool×List Value):=match E.types.get t with
 |some {desc:=.map h x,..}=>match qS E.prog (underlying h),E.types.get x with
  |some kd,some {zero:=some z,agg:=ag,..}=>bif qF7 kd then some (kd,ag,z)else none
  |_,_=>none
 |_=>none
def qCu:D->Option (List Value×List D)
 |.mp h ds=>some (h,ds)
 |.leaf (.map none)=>some ([],[])
 |_=>none
def qGV(E:Env)(t:TypeId)(ok:Bool)(m k:D):Option D:=match qIL E t,qCu m,k with
 | some (kd,ag,z),some (x,ds),.leaf h=>match qBc kd h x 0 with
  |some (some i)=>(ds[i]?).map λd=>bif ok then .tup [d,.leaf (.bool true)]else d
  |some none=>match pU ag z with
   |some v=>bif zF v then some (bif ok then .tup [qIc v,.leaf (.bool false)]else qIc v)else none
   |none=>none
  |none=>none
 |_,_,_=>none
def qGU(E:Env)(t:TypeId)(m k x:D):Option D:=match qIL E t,m,k with
 |some (kd,_,_),.mp y ds,.leaf h=>match qBc kd h y 0 with
  |some (some i)=>some (.mp (y.set i h) (ds.set i x))
  |some none=>some (.mp (y++[h]) (ds++[x]))
  |none=>none
 |_,_,_=>none
def qKl(E:Env)(t:TypeId)(m k:D):Option D:=match qIL E t,m,k with
 |some (kd,_,_),.mp h ds,.leaf x=>match qBc kd x h 0 with
  |some (some i)=>some (.mp (h.eraseIdx i) (ds.eraseIdx i))
  |some none=>some (.mp h ds)
  |none=>none
 |_,_,_=>none
def qPS(F:ByteArray->Nat->Value):D->D->Option D
 |.leaf (.string s),.leaf (.int .i64 (.ofNat n))=>some (.leaf (F s n))
 |_,_=>none
def eJ(es:List D)(n:Nat):List D:=es.take (n+1)++(es.drop n).take (es.length-(n+1))
def TOp.eval(E:Env):TOp->List D->Option D
 |.mm mx,[.leaf u,.leaf v]=>cX (qTo mx u v)
 |.bin A t x y,[a,b]=>match a.toV,b.toV with
  |some u,some v=>cX (oW E A t x y u v)
  |_,_=>none
 |.isNil o,[d]=>match d with
  |.nil=>some (.leaf (.bool !o))
  |.sl _ _ _=>some (.leaf (.bool o))
  |_=>none
 |.un A _,[.leaf v]=>bif zF v then cX (flat? (qS E.prog (Op.unary A v)))else none
 |.conv s d,[.leaf v]=>cX (qKZ E s d v)
 |.chk ag size,[d]=>eK ag size d
 |.fld ag size off,[d]=>bF ag size off d.cells
 |.inr,[d,i]=>(bQ d i).map λ_=>.leaf (.bool true)
 |.elem sz ag size off,[d,i]=>match bQ d i with
  |some e=>bif Nat.beq d.szD sz&&Nat.ble (off+(bif ag then size else 1)) sz then(bif ag&&Nat.beq off 0&&Nat.beq size sz then eK true size e else bF ag size off e.cells)else none
  |none=>none
 |.len w,[d]=>match w,d with
  |true,.leaf (.string s)=>some (.leaf (goInt s.size))
  |false,.sl _ _ es=>some (.leaf (goInt es.length))
  |false,.nil=>some (.leaf (goInt 0))
  |_,_=>none
 | .slc el sz lo q,d::r=>match d with
  | .sl zS c es=>match vS lo 0 r with
   |some (l,r)=>match vS q es.length r with
    |some (h,[])=>bif Nat.beq zS el&&Nat.beq c sz&&Nat.ble l h&&Nat.ble h es.length then some (.sl el sz ((es.drop l).take (h-l)))else none
    |_=>none
   |none=>none
  | .nil=>match vS lo 0 r with
   |some (0,r)=>match vS q 0 r with
    |some (0,[])=>some .nil
    |_=>none
   |_=>none
  |_=>none
 | .sub lo q,.leaf (.string s)::r=>match vS lo 0 r with
  |some (l,r)=>match vS q s.size r with
   |some (h,[])=>bif Nat.ble l h&&Nat.ble h s.size then some (.leaf (.string (s.extract l h)))else none
   |_=>none
  |none=>none
 |.chr,[.leaf (.string s),i]=>match dY i with
  |some n=>(s.data.toList[n]?).map λb=>.leaf (.int .u8 b.toNat)
  |none=>none
 |.ext i,[.tup ds]=>ds[i]?
 | .app el sz bytes,[a,b]=>match pX a,b with
  |some n,.nil=>bif Nat.ble (Nat.mul (Nat.add (Nat.mul 4 n) 4000) (Nat.succ bytes)) 100000000000 then some a else none
  |some n,.sl _ c es=>
   bif Nat.ble (Nat.mul (Nat.add (Nat.mul 4 (Nat.add n es.length)) 4000) (Nat.succ bytes)) 100000000000&&Nat.beq c sz&&(match a with|.sl zS c _=>Nat.beq zS el&&Nat.beq c sz|.nil=>true|_=>false)then(bif Nat.beq es.length 0 then some a else some (.sl el sz (a.es++es)))else none
  |_,_=>none
 |.lit el sz,ds=>bif ds.all (λe=>Nat.beq e.cells.length sz)&&Nat.ble (Nat.mul ds.length (Nat.succ sz)) 1000000 then some (.sl el sz ds)else none
 |.loadp ag size,[.ptr cs off]=>bF ag size off cs
 |.box,ds=>some (.ptr ds 0)
 |.boxw,[.agg cs]=>some (.ptr cs 0)
 |.nn,[d]=>match d with
  |.clo (.func _) _ _=>some d
  |.ptr _ _=>some d
  |.iface _ _=>some d
  |_=>none
 |.pchk,[d]=>match d with
  |.ptr _ _=>some d
  |_=>none
 |.mk el sz bytes ag z,[d]=>match dY d with
  |some n=>bif Nat.beq z.length sz&&z.all (λv=>zF v&&qE v)&&(ag||Nat.beq sz 1)&&Nat.ble (Nat.mul n (Nat.succ (Nat.add bytes sz))) 1000000000 then some (.sl el sz (List.replicate n (zD ag z)))else none
  |none=>none
 |.mk el sz bytes ag z,[B,d]=>match dY B,dY d with
  |some 0,some n=>bif Nat.beq z.length sz&&z.all (λv=>zF v&&qE v)&&(ag||Nat.beq sz 1)&&Nat.ble (Nat.mul n (Nat.succ (Nat.add bytes sz))) 1000000000 then some (.sl el sz [])else none
  |_,_=>none
 | .set sz ag size off,[d,i,x]=>match d,dY i,eK ag size x with
  |.sl el c es,some n,some _=>match es[n]? with
   |some e=>bif Nat.beq c sz&&Nat.ble (off+size) sz then some (.sl el sz (es.set n (uV e off x.cells)))else none
   |none=>none
  |_,_,_=>none
 |.bstr,[d]=>match d with
  |.sl _ sz es=>bif Nat.beq sz 1 then(cQ es).map λl=>.leaf (.string ⟨⟨l⟩⟩)else none
  |_=>none
 |.slc0 el sz,[d]=>match d with
  |.nil=>some .nil
  |.sl zS c _=>bif Nat.beq zS el&&Nat.beq c sz then some (.sl el sz [])else none
  |_=>none
 | .apps el bytes,[a,b]=>match b with
  |.leaf (.string s)=>
   bif Nat.ble (Nat.mul (Nat.add (Nat.mul 4 (Nat.add a.es.length s.data.toList.length)) 4000) (Nat.succ bytes)) 100000000000&&qYU el a then(bif Nat.beq s.data.toList.length 0 then some a else some (.sl el 1 (a.es++s.data.toList.map λb=>.leaf (.int .u8 b.toNat))))else none
  |_=>none
 |.bld el,[a]=>match a with
  |.nil=>some (.leaf (.string .empty))
  |.sl zS sz es=>bif Nat.beq zS el&&Nat.beq sz 1&&Nat.ble 1 es.length&&Nat.ble es.length 1000000000 then(cQ es).map λl=>.leaf (.string ⟨⟨l⟩⟩)else none
  |_=>none
 |.lib F,ds=>F ds
 |.mnew,[]=>some (.mp [] [])
 |.mget t ok,[m,k]=>qGV E t ok m k
 |.mset t,[m,k,x]=>qGU E t m k x
 |.mdel t,[m,k]=>qKl E t m k
 |.mlen,[m]=>(qCu m).map λp=>.leaf (goInt p.1.length)
 |.nok,[s,p]=>qPS (λs n=>.bool (Nat.ble (n+1) s.size)) s p
 |.nch,[s,p]=>qPS (λs n=>.int .i32 (Utf8.decode s n).1) s p
 |.nnx,[s,p]=>qPS (λs n=>goInt ((n+(Utf8.decode s n).2:Nat):Int)) s p
 |.clr el sz ag z,[d,j]=>match d,j with
  |.sl zS c es,.leaf (.int .i64 (.ofNat n))=>bif Nat.beq zS el&&Nat.beq c sz&&(Nat.ble n es.length&&Nat.ble 1 es.length)&&(Nat.beq z.length sz&&z.all (λv=>zF v&&qE v)&&(ag||Nat.beq sz 1))then some (.sl el sz (es.take n++List.replicate (es.length-n) (zD ag z)))else none
  |_,_=>none
 |.cpy el sz,[d,j]=>match d,j with
  |.sl zS c es,.leaf (.int .i64 (.ofNat n))=>bif Nat.beq zS el&&Nat.beq c sz&&Nat.ble (n+1) es.length then some (.sl el sz (eJ es n))else none
  |_,_=>none
 |.byt el,[d]=>match d with
  |.leaf (.string s)=>bif Nat.ble s.data.toList.length 1000000000 then some (.sl el 1 (s.data.toList.map λb=>.leaf (.int .u8 b.toNat)))else none
  |_=>none
 |_,_=>none
section
variable{E:Env}
theorem aI{op:BinOp}{t:TypeId}{x y:Operand}{a b:D}:TOp.eval E (.bin op t x y) [a,b]=(match a.toV,b.toV with
  |some u,some v=>cX (oW E op t x y u v)
  |_,_=>none):=rfl
theorem qFS{t:TypeId}{ok:Bool}{m k:D}:TOp.eval E (.mget t ok) [m,k]=qGV E t ok m k:=rfl
theorem qFR{t:TypeId}{m k x:D}:TOp.eval E (.mset t) [m,k,x]=qGU E t m k x:=rfl
theorem qKN{t:TypeId}{m k:D}:TOp.eval E (.mdel t) [m,k]=qKl E t m k:=rfl
theorem qKM{m:D}:TOp.eval E .mlen [m]=(qCu m).map λp=>.leaf (goInt p.1.length):=rfl
theorem qVp{s p:D}:TOp.eval E .nok [s,p]=qPS (λs n=>.bool (Nat.ble (n+1) s.size)) s p:=rfl
theorem qVr{s p:D}:TOp.eval E .nch [s,p]=qPS (λs n=>.int .i32 (Utf8.decode s n).1) s p:=rfl
theorem qVq{s p:D}:TOp.eval E .nnx [s,p]=qPS (λs n=>goInt ((n+(Utf8.decode s n).2:Nat):Int)) s p:=rfl
theorem qKL:TOp.eval E .mnew []=some (.mp [] []):=rfl
theorem qO4{F:List D->Option D}{ds:List D}:TOp.eval E (.lib F) ds=F ds:=rfl
theorem eG{neg:Bool}{d:D}:TOp.eval E (.isNil neg) [d]=(match d with
  |.nil=>some (.leaf (.bool !neg))
  |.sl _ _ _=>some (.leaf (.bool neg))
  |_=>none):=rfl
theorem qYs{op:UnOp}{t:TypeId}{v:Value}:TOp.eval E (.un op t) [.leaf v]=(bif zF v then cX (flat? (qS E.prog (Op.unary op v)))else none):=rfl
theorem qYu{mx:Bool}{u v:Value}:TOp.eval E (.mm mx) [.leaf u,.leaf v]=cX (qTo mx u v):=rfl
theorem qRI{s d:TypeId}{v:Value}:TOp.eval E (.conv s d) [.leaf v]=cX (qKZ E s d v):=rfl
theorem aH{ag:Bool}{size:Nat}{d:D}:TOp.eval E (.chk ag size) [d]=eK ag size d:=rfl
theorem qCX{ag:Bool}{size off:Nat}{d:D}:TOp.eval E (.fld ag size off) [d]=bF ag size off d.cells:=rfl
theorem qJj{d i:D}:TOp.eval E .inr [d,i]=(bQ d i).map λ_=>.leaf (.bool true):=rfl
theorem uB{sz:Nat}{ag:Bool}{size off:Nat}{d i:D}:TOp.eval E (.elem sz ag size off) [d,i]=(match bQ d i with
  |some e=>bif Nat.beq d.szD sz&&Nat.ble (off+(bif ag then size else 1)) sz then(bif ag&&Nat.beq off 0&&Nat.beq size sz then eK true size e else bF ag size off e.cells)else none
  |none=>none):=rfl
theorem qJi{str:Bool}{d:D}:TOp.eval E (.len str) [d]=(match str,d with
  |true,.leaf (.string s)=>some (.leaf (goInt s.size))
  |false,.sl _ _ es=>some (.leaf (goInt es.length))
  |false,.nil=>some (.leaf (goInt 0))
  |_,_=>none):=rfl
theorem mH{el sz:Nat}{lo y:Bool}{d:D}{r:List D}:TOp.eval E (.slc el sz lo y) (d::r)=(match d with
  | .sl zS x es=>match vS lo 0 r with
   |some (l,r)=>match vS y es.length r with
    |some (h,[])=>bif Nat.beq zS el&&Nat.beq x sz&&Nat.ble l h&&Nat.ble h es.length then some (.sl el sz ((es.drop l).take (h-l)))else none
    |_=>none
   |none=>none
  | .nil=>match vS lo 0 r with
   |some (0,r)=>match vS y 0 r with
    |some (0,[])=>some .nil
    |_=>none
   |_=>none
  |_=>none):=rfl
theorem qOZ{lo x:Bool}{s:ByteArray}{r:List D}:TOp.eval E (.sub lo x) (.leaf (.string s)::r)=(match vS lo 0 r with
  |some (l,r)=>match vS x s.size r with
   |some (h,[])=>bif Nat.ble l h&&Nat.ble h s.size then some (.leaf (.string (s.extract l h)))else none
   |_=>none
  |none=>none):=rfl
theorem qO8{s:ByteArray}{i:D}:TOp.eval E .chr [.leaf (.string s),i]=(match dY i with
  |some n=>(s.data.toList[n]?).map λb=>.leaf (.int .u8 b.toNat)
  |none=>none):=rfl
theorem qO5{i:Nat}{ds:List D}:TOp.eval E (.ext i) [.tup ds]=ds[i]? :=rfl
theorem qAt{el sz:Nat}{ds:List D}:TOp.eval E (.lit el sz) ds=(bif ds.all (λe=>Nat.beq e.cells.length sz)&&Nat.ble (Nat.mul ds.length (Nat.succ sz)) 1000000 then some (.sl el sz ds)else none):=by
 cases ds with
 |nil=>rfl
 |cons a l=>cases l with
  |nil=>cases a<;>rfl
  |cons b l=>cases l<;>rfl
theorem aJ{el sz bytes:Nat}{a b:D}:TOp.eval E (.app el sz bytes) [a,b]=(match pX a,b with
  |some n,.nil=>bif Nat.ble (Nat.mul (Nat.add (Nat.mul 4 n) 4000) (Nat.succ bytes)) 100000000000 then some a else none
  |some n,.sl _ h es=>
   bif Nat.ble (Nat.mul (Nat.add (Nat.mul 4 (Nat.add n es.length)) 4000) (Nat.succ bytes)) 100000000000&&Nat.beq h sz&&(match a with|.sl zS h _=>Nat.beq zS el&&Nat.beq h sz|.nil=>true|_=>false)then(bif Nat.beq es.length 0 then some a else some (.sl el sz (a.es++es)))else none
  |_,_=>none):=rfl
theorem qO3{ag:Bool}{size off:Nat}{cs:List D}:TOp.eval E (.loadp ag size) [.ptr cs off]=bF ag size off cs:=rfl
theorem qPa{ds:List D}:TOp.eval E .box ds=some (.ptr ds 0):=by
 cases ds with
 |nil=>rfl
 |cons a l=>cases l with
  |nil=>cases a<;>rfl
  |cons b l=>cases l<;>rfl
theorem qBu{cs:List D}:TOp.eval E .boxw [.agg cs]=some (.ptr cs 0):=rfl
theorem qYt{d:D}:TOp.eval E .nn [d]=(match d with
  |.clo (.func _) _ _=>some d
  |.ptr _ _=>some d
  |.iface _ _=>some d
  |_=>none):=rfl
theorem qO2{el sz bytes:Nat}{ag:Bool}{z:List Value}{d:D}:TOp.eval E (.mk el sz bytes ag z) [d]=(match dY d with
  |some n=>bif Nat.beq z.length sz&&z.all (λv=>zF v&&qE v)&&(ag||Nat.beq sz 1)&&Nat.ble (Nat.mul n (Nat.succ (Nat.add bytes sz))) 1000000000 then some (.sl el sz (List.replicate n (zD ag z)))else none
  |none=>none):=rfl
theorem qO1{el sz bytes:Nat}{ag:Bool}{z:List Value}{h d:D}:TOp.eval E (.mk el sz bytes ag z) [h,d]=(match dY h,dY d with
  |some 0,some n=>bif Nat.beq z.length sz&&z.all (λv=>zF v&&qE v)&&(ag||Nat.beq sz 1)&&Nat.ble (Nat.mul n (Nat.succ (Nat.add bytes sz))) 1000000000 then some (.sl el sz [])else none
  |_,_=>none):=rfl
theorem qCW{sz size off:Nat}{ag:Bool}{d i x:D}:TOp.eval E (.set sz ag size off) [d,i,x]=(match d,dY i,eK ag size x with
  |.sl el h es,some n,some _=>match es[n]? with
   |some e=>bif Nat.beq h sz&&Nat.ble (off+size) sz then some (.sl el sz (es.set n (uV e off x.cells)))else none
   |none=>none
  |_,_,_=>none):=rfl
theorem qO7{el sz:Nat}{ag:Bool}{z:List Value}{d j:D}:TOp.eval E (.clr el sz ag z) [d,j]=(match d,j with
  |.sl zS h es,.leaf (.int .i64 (.ofNat n))=>bif Nat.beq zS el&&Nat.beq h sz&&(Nat.ble n es.length&&Nat.ble 1 es.length)&&(Nat.beq z.length sz&&z.all (λv=>zF v&&qE v)&&(ag||Nat.beq sz 1))then some (.sl el sz (es.take n++List.replicate (es.length-n) (zD ag z)))else none
  |_,_=>none):=by
 unfold TOp.eval;rfl
theorem qO6{el sz:Nat}{d j:D}:TOp.eval E (.cpy el sz) [d,j]=(match d,j with
  |.sl zS h es,.leaf (.int .i64 (.ofNat n))=>bif Nat.beq zS el&&Nat.beq h sz&&Nat.ble (n+1) es.length then some (.sl el sz (eJ es n))else none
  |_,_=>none):=rfl
theorem qO0{d:D}:TOp.eval E .bstr [d]=(match d with
  |.sl _ sz es=>bif Nat.beq sz 1 then(cQ es).map λl=>.leaf (.string ⟨⟨l⟩⟩)else none
  |_=>none):=rfl
theorem qO9{el:Nat}{d:D}:TOp.eval E (.byt el) [d]=(match d with
  |.leaf (.string s)=>bif Nat.ble s.data.toList.length 1000000000 then some (.sl el 1 (s.data.toList.map λb=>.leaf (.int .u8 b.toNat)))else none
  |_=>none):=rfl
theorem yZ{d:D}:TOp.eval E .pchk [d]=(match d with
  |.ptr _ _=>some d
  |_=>none):=rfl
end
structure St where
 sts:List VSt
 slots:T SV
 blks:List (Option Blk)
 sz:Nat
 sav:List (List (Nat×SV)):=[]
def St.n(S:St):Nat:=S.sts.length
def St.pureV(S:St)(i:Nat):Bool:=match S.sts[i]? with
 |some ⟨.pure,_⟩=>true
 |some ⟨.full,_⟩=>true
 |some ⟨.ptr,_⟩=>true
 |_=>false
def St.isPtr(S:St)(i:Nat):Bool:=match S.sts[i]? with
 |some ⟨.ptr,_⟩=>true
 |_=>false
def St.readV(S:St)(i:Nat):Bool:=match S.sts[i]? with
 |some ⟨.dead,_⟩=>false
 |some _=>true
 |none=>false
def St.freshV(S:St)(i:Nat):Bool:=match S.sts[i]? with
 |some ⟨.fresh,_⟩=>true
 |_=>false
def St.oneV(S:St)(i:Nat):Bool:=match S.sts[i]? with
 |some ⟨_,o⟩=>o
 |none=>false
def dV(S:St):SV->Bool
 |.v i=>S.oneV i
 |.c x=>qE x
 |.agg _|.tup _=>false
 |_=>true
mutual
def wC(S:St):SV->Bool
 |.v i=>S.pureV i
 |.c x=>zF x
 |.loc _ _=>false
 |.ptr _ _ _ _=>false
 |.pp i _=>S.isPtr i
 |.agg cs=>cH S cs&&cs.all (dV S)
 |.tup cs=>cH S cs
 |.fn f a b=>rD f&&cH S a&&cH S b
 |.ifc _ x=>wC S x
 |.yld _=>false
def cH(S:St):List SV->Bool
 | []=>true
 |x::xs=>wC S x&&cH S xs
end
def wB(S:St):SV->Bool
 |.v i=>S.readV i
 |x=>wC S x
def tV:VSt->VSt
 |⟨.fresh,o⟩=>⟨.pure,o⟩
 |s=>s
def St.freeze(S:St)(i:Nat):St:={S with sts:=S.sts.modify i tV}
def St.kill(S:St)(i:Nat):St:={S with sts:=S.sts.modify i λs=>⟨.dead,s.one⟩}
mutual
def rC(S:St):SV->St
 |.v i=>S.freeze i
 |.agg cs=>vM S cs
 |.tup cs=>vM S cs
 |.fn _ a b=>vM (vM S a) b
 |.ifc _ x=>rC S x
 |_=>S
def vM(S:St):List SV->St
 | []=>S
 |x::xs=>vM (rC S x) xs
end
def St.put(S:St)(h:Option Tmp)(x:SV):Option St:=match h with
 |some d=>bif Nat.ble (d+1) S.sz then some {S with slots:=S.slots.put d (some x)}else none
 |none=>some S
def St.new(S:St)(k:VK)(one:Bool):St:={S with sts:=S.sts++[⟨k,one⟩]}
def SV.known(i:Nat)(b:Bool):SV->SV
 |.v j=>bif Nat.beq j i then .c (.bool b)else .v j
 |x=>x
def St.known(S:St)(i:Nat)(b:Bool):St:={S with slots:=S.slots.map (SV.known i b)}
inductive Tgt where
 |fn (f:FuncId)
 |val (x:SV)
 |meth (x:SV) (name:String)
inductive Tree where
 |fail
 |stop (k:Nat) (S:St)
 |ret (xs:List SV)
 |jump (k:Nat) (args:List SV)
 |bind (o:TOp) (args:List SV) (rest:Tree)
 |call (tg:Tgt) (args:List SV) (flat:Nat) (rest:Tree)
 |callM (f:FuncId) (m:Mode) (args:List SV) (rest:Tree)
 |ite (c:SV) (a b:Tree)
abbrev K1:=SV->St->Tree
def rP(S:St):Operand->Option SV
 |.tmp t=>S.slots.get t
 |.const v=>bif zF v then some (.c v)else none
 |.global _=>none
 |.func f=>some (.fn (.func f) [] [])
def bO(S:St):List Operand->Option (List SV)
 | []=>some []
 |x::xs=>match rP S x,bO S xs with
  |some a,some l=>some (a::l)
  |_,_=>none
def jX(o:TOp)(h:List SV)(k:VK)(one:Bool)(S:St)(κ:K1):Tree:=
 bif h.all (wB S)then .bind o h (κ (.v S.n) (S.new k one))else .fail
def qH2(o:TOp)(h:List SV)(k:VK)(one:Bool)(S:St)(κ:K1):Tree:=
 let S:=vM S h
 bif h.all (wC S)then .bind o h (κ (.v S.n) (S.new k one))else .fail
def qKD(i:Nat):Nat->Nat->List SV->St->(List SV->St->Tree)->Tree
 |0,_,acc,S,κ=>κ acc S
 |n+1,k,acc,S,κ=>jX (.fld false 1 k) [.v i] .pure true S λy S=>qKD i n (k+1) (acc++[y]) S κ
def aL(ag:Bool)(size:Nat)(x:Value):Option (List SV):=
 let l:=x.cells.toList
 bif zF x&&Nat.beq l.length size&&(match x with|.agg _=>ag|.tuple _=>false|_=>!ag)then some (l.map .c)else none
def rZ(x:SV)(ag:Bool)(size:Nat)(S:St)(κ:List SV->St->Tree):Tree:=match x with
 |.agg cs=>bif ag&&Nat.beq cs.length size&&cs.all (dV S)then κ cs S else .fail
 |.c v=>match aL ag size v with
  |some l=>κ l S
  |none=>.fail
 | .v i=>bif ag then jX (.chk true size) [.v i] .pure false S λy S=>match y with
    |.v j=>qKD j size 0 [] S κ
    |_=>.fail
   else bif Nat.beq size 1 then(bif S.oneV i&&S.readV i then κ [.v i] S else qH2 (.chk false 1) [.v i] .pure true S λy S=>κ [y] S)else .fail
 |.tup _=>.fail
 |.yld _=>.fail
 |x=>bif !ag&&Nat.beq size 1 then κ [x] S else .fail
def wY:List SV->Nat->List SV->Option (List SV)
 |cs,0,[]=>some cs
 | [],0,_::_=>none
 |_::cs,0,v::vs=>(wY cs 0 vs).map (v :: ·)
 | [],_+1,_=>none
 |c::cs,i+1,vs=>(wY cs i vs).map (c :: ·)
def qAQ(ag:Bool)(size off:Nat)(cs:List SV):Option SV:=
 bif ag then(bif Nat.ble (off+size) cs.length then some (.agg ((cs.drop off).take size))else none)
 else cs[off]?
def qDl(E:Env)(S:St)(h:Nat->Option (Nat×Nat×Bool))(cs:List SV):List (Nat×Operand)->(List SV->St->Tree)->Tree
 | [],κ=>κ cs S
 | (i,x)::r,κ=>match h i,rP S x with
  |some (off,size,ag),some y=>rZ y ag size S λl S=>match wY cs off l with
   |some cs'=>qDl E S h cs' r κ
   |none=>.fail
  |_,_=>.fail
def qAv(size:Nat)(ag:Bool)(acc:List SV)(S:St):List (Nat×Operand)->(List SV->St->Tree)->Tree
 | [],κ=>κ acc S
 |(i,x)::r,κ=>match rP S x with
  |some y=>bif Nat.beq i acc.length then(bif wB S y then .bind (.chk ag size) [y] (qAv size ag (acc++[y]) (S.new .dead false) r κ)else bif wB (rC S y) y then .bind (.chk ag size) [y] (qAv size ag (acc++[y]) ((rC S y).new .dead false) r κ)else .fail)else .fail
  |none=>.fail
def qPA(E:Env)(t:TypeId):Bool:=match E.types.get t with
 |some {desc:=.bool,..}|some {desc:=.int _,..}|some {desc:=.string,..}=>true
 |_=>false
def qOI(E:Env)(f:FuncId):Nat:=match E.prog.funcs[f]? with
 |some fn=>match fn.resultTypes.toList with
  | [t]=>bif qPA E t then 1 else 0
  |ts=>bif ts.all (qPA E)then 2 else 0
 |none=>0
def qHV(E:Env)(x:Tgt)(h:List SV)(flat:Nat)(S:St)(κ:K1):Tree:=
 match flat with
 |0=>
  let S:=vM S h
  bif h.all (wC S)then .call x h 0 (κ (.v S.n) (S.new .pure false))else .fail
 |y=>
  bif h.all (wC (vM S h))then .call x h y (κ (.v S.n) (S.new .pure (Nat.beq y 1)))else .fail
def St.boxed(S:St)(b:Nat):St:={S.new .ptr true with blks:=S.blks.set b none,slots:=S.slots.map λx=>match x with|.loc h off=>bif Nat.beq h b then .pp S.n off else .loc h off|x=>x}
def qHZ:List SV->List SV->St->(List SV->St->Tree)->Tree
 | [],acc,S,κ=>κ acc S
 | .loc b 0::r,acc,S,κ=>match S.blks[b]? with
  |some (some (.cells cs))=>
   let S:=vM S cs
   bif cs.all (wC S)&&cs.all (dV S)then .bind .box cs (qHZ r (acc++[.pp S.n 0]) (S.boxed b) κ)else .fail
  |some (some (.whole x _))=>bif wC S x then .bind .boxw [x] (qHZ r (acc++[.pp S.n 0]) (S.boxed b) κ)else .fail
  |_=>.fail
 |x::r,acc,S,κ=>qHZ r (acc++[x]) S κ
def Pat.st(p:Pat)(sz:Nat):St:={sts:=p.sts,slots:=p.slots.foldl (λt (k,x)=>t.put k (some x)) .leaf,blks:=p.blks,sz:=sz,sav:=p.sav}
def qJZ:Value->Value->Bool
 |.bool a,.bool b=>a==b
 |.int k m,.int k' n=>decide (k=k')&&decide (m=n)
 |.string a,.string b=>decide (a=b)
 |.slice none 0 0,.slice none 0 0=>true
 |.pointer none,.pointer none=>true
 |.nilFunc,.nilFunc=>true
 |.nilIface,.nilIface=>true
 |_,_=>false
def qKG(i:Nat):List (Nat×SV)->Option Nat
 | []=>none
 |(t,.v j)::r=>bif Nat.beq i j then some t else qKG i r
 |_::r=>qKG i r
def cellsOf:Option Blk->List SV
 |some (.cells cs)=>cs
 |some (.whole x _)=>[x]
 |some (.loop _ _)=>[]
 |some (.tcells _ cs)=>cs
 |none=>[]
def qYo(i:Nat):SV->SV->Option SV
 |.pp j _,.pp k _=>bif Nat.beq i j then some (.v k)else none
 |.fn _ _ (.pp j _::_),.fn _ _ (.pp k _::_)=>bif Nat.beq i j then some (.v k)else none
 |_,_=>none
def qI7(i:Nat)(t:T SV):List (Nat×SV)->Option SV
 | []=>none
 | (u,x)::r=>match t.get u with
  |some y=>match qYo i x y with
   |some z=>some z
   |none=>qI7 i t r
  |none=>qI7 i t r
def qA5(i:Nat):List (Option Blk)->List (Option Blk)->Option SV
 |some (.cells cs)::r,some (.cells cs')::h=>match (cs.zip cs').find? (λp=>match p.1 with|.v j=>Nat.beq i j|_=>false)with
  |some p=>some p.2
  |none=>qA5 i r h
 |some (.tcells _ cs)::r,some (.tcells _ cs')::h=>match (cs.zip cs').find? (λp=>match p.1 with|.v j=>Nat.beq i j|_=>false)with
  |some p=>some p.2
  |none=>qA5 i r h
 |some (.whole x _)::r,some (.whole y _)::h=>match x with
  |.v j=>bif Nat.beq i j then some y else qA5 i r h
  |_=>qA5 i r h
 |some (.whole x n)::r,some (.cells cs)::h=>match x with
  |.v j=>bif Nat.beq i j&&Nat.beq n cs.length then some (.agg cs)else qA5 i r h
  |_=>qA5 i r h
 |_::r,_::h=>qA5 i r h
 |_,_=>none
def qOB(t:Nat):List (Nat×SV)->Option SV
 | []=>none
 |(u,x)::r=>bif Nat.beq u t then some x else qOB t r
def qTw(i:Nat):List (List (Nat×SV))->List (List (Nat×SV))->Option SV
 |l::r,x::h=>match qKG i l with
  |some t=>qOB t x
  |none=>qTw i r h
 |_,_=>none
def qYX(p:Pat)(S:St)(i:Nat):Option SV:=match qKG i p.slots with
 |some t=>S.slots.get t
 | none=>match qA5 i p.blks S.blks with
  |some x=>some x
  |none=>match qTw i p.sav S.sav with
   |some x=>some x
   |none=>qI7 i S.slots p.slots
def qPC(p:Pat)(S:St):Nat->Nat->Option (List SV)
 |0,_=>some []
 |n+1,i=>match qYX p S i,qPC p S n (i+1)with
  |some x,some l=>some (x::l)
  |_,_=>none
mutual
def fits(az:List SV):SV->SV->Bool
 |.v i,y=>match az[i]? with
  |some x=>qAM x y
  |none=>false
 |.c x,.c y=>qJZ x y
 |.loc b o,.loc h c=>Nat.beq b h&&Nat.beq o c
 |.pp i o,.pp j c=>Nat.beq o c&&(match az[i]? with|some (.v k)=>Nat.beq k j|_=>false)
 |.agg cs,.agg cs'=>tW az cs cs'
 |.tup cs,.tup cs'=>tW az cs cs'
 |.fn (.func f) a b,.fn (.func p) q h=>Nat.beq f p&&tW az a q&&tW az b h
 |.ifc t x,.ifc l y=>Nat.beq t l&&fits az x y
 |.yld b,.yld h=>Nat.beq b h
 |_,_=>false
def tW(az:List SV):List SV->List SV->Bool
 | [],[]=>true
 |x::xs,y::ys=>fits az x y&&tW az xs ys
 |_,_=>false
def qAM:SV->SV->Bool
 |.v i,.v j=>Nat.beq i j
 |.c x,.c y=>qJZ x y
 |.loc b o,.loc c h=>Nat.beq b c&&Nat.beq o h
 |.pp i o,.pp j h=>Nat.beq i j&&Nat.beq o h
 |.agg cs,.agg cs'=>iP cs cs'
 |.tup cs,.tup cs'=>iP cs cs'
 |.fn (.func f) a b,.fn (.func l) p c=>Nat.beq f l&&iP a p&&iP b c
 |.ifc t x,.ifc k y=>Nat.beq t k&&qAM x y
 |_,_=>false
def iP:List SV->List SV->Bool
 | [],[]=>true
 |x::xs,y::ys=>qAM x y&&iP xs ys
 |_,_=>false
end
def qAq(az:List SV):Option Blk->Option Blk->Bool
 |none,_=>true
 |some (.cells cs),some (.cells cs')=>tW az cs cs'
 |some (.whole x n),some (.whole y m)=>Nat.beq n m&&fits az x y
 |some (.whole x n),some (.cells cs)=>Nat.beq n cs.length&&fits az x (.agg cs)
 |some (.loop st i),some (.loop h b)=>Nat.beq st h&&Nat.beq i b
 |some (.tcells t cs),some (.tcells c cs')=>Nat.beq t c&&tW az cs cs'
 |_,_=>false
def tX(az:List SV):List (Option Blk)->List (Option Blk)->Bool
 | [],_=>true
 |b::h,c::cs=>qAq az b c&&tX az h cs
 |_::_,[]=>false
def oL:List VSt->List SV->List SV
 |⟨.pure,_⟩::r,x::xs=>x::oL r xs
 |⟨.full,_⟩::r,x::xs=>x::oL r xs
 |⟨.ptr,_⟩::r,x::xs=>x::oL r xs
 |_::r,_::xs=>oL r xs
 |_,_=>[]
def St.fullV(S:St)(i:Nat):Bool:=match S.sts[i]? with
 |some ⟨.full,_⟩=>true
 |_=>false
def qAn(S:St):SV->Bool
 |.c (.slice none 0 0)=>true
 |.v i=>S.freshV i||S.fullV i
 |_=>false
def qTC(sts:List VSt)(az:List SV)(i j:Nat):Bool:=match sts[i]?,sts[j]?,az[i]?,az[j]? with
 |some ⟨.fresh,_⟩,some ⟨.fresh,_⟩,some (.v a),some (.v b)=>Nat.beq i j|| !(Nat.beq a b)
 |_,_,_,_=>true
def qED(h:List VSt)(az:List SV):Bool:=(List.range h.length).all λi=>(List.range h.length).all λj=>qTC h az i j
mutual
def qMM(n m:Nat):SV->Bool
 |.v i=>Nat.blt i n
 |.c _=>true
 |.loc b _=>Nat.blt b m
 |.ptr s i _ _=>qMM n m s&&qMM n m i
 |.pp i _=>Nat.blt i n
 |.agg cs=>qF6 n m cs
 |.tup cs=>qF6 n m cs
 |.fn _ a b=>qF6 n m a&&qF6 n m b
 |.ifc _ x=>qMM n m x
 |.yld b=>Nat.blt b m
def qF6(n m:Nat):List SV->Bool
 | []=>true
 |x::xs=>qMM n m x&&qF6 n m xs
end
def qTG(n m:Nat):Option Blk->Bool
 |none=>true
 |some (.cells cs)=>qF6 n m cs
 |some (.whole x _)=>qMM n m x
 |some (.loop _ _)=>true
 |some (.tcells _ cs)=>qF6 n m cs
def iN(S:St):List VSt->List SV->Bool
 | [],[]=>true
 | ⟨k,o⟩::r,x::xs=>(match k with
   |.pure=>wC S x
   |.full=>(match x with|.v i=>(match S.sts[i]? with|some ⟨.full,_⟩=>true|_=>false)|_=>false)
   |.ptr=>(match x with|.v i=>S.isPtr i|_=>false)
   |.fresh=>qAn S x
   |.dead=>!o)&&(!o||dV S x)&&iN S r xs
 |_,_=>false
def qCS(n m:Nat)(az:List SV):List (List (Nat×SV))->List (List (Nat×SV))->Bool
 | [],[]=>true
 |l::r,b::h=>l.all (λ(t,x)=>qMM n m x&&match qOB t b with|some y=>fits az x y|none=>false)&&qCS n m az r h
 |_,_=>false
def cZ(sz:Nat)(p:Pat)(az:List SV)(S:St):Bool:=
 Nat.beq S.sz sz&&p.slots.all (λ(t,x)=>qMM p.sts.length p.blks.length x&&(match S.slots.get t with|some y=>fits az x y|none=>false))&&p.blks.all (qTG p.sts.length p.blks.length)&&tX az p.blks S.blks&&iN S p.sts az&&qED p.sts az&&qCS p.sts.length p.blks.length az p.sav S.sav
def qKu(h:List SV->Tree)(sz:Nat)(p:Pat)(S:St):Tree:=match qPC p S p.sts.length 0 with
 |none=>.fail
 |some az=>
  let S:=vM S (oL p.sts az)
  bif cZ sz p az S then h az else .fail
def jN(sz:Nat)(p:Pat)(k:Nat)(S:St):Tree:=qKu (.jump k) sz p S
mutual
def qOz:SV->Bool
 |.loc _ _=>true
 |.ptr _ _ _ _=>true
 |.agg cs=>lM cs
 |.tup cs=>lM cs
 |.fn _ a b=>lM a||lM b
 |.ifc _ x=>qOz x
 |.yld _=>true
 |_=>false
def lM:List SV->Bool
 | []=>false
 |x::xs=>qOz x||lM xs
end
mutual
def qN9:SV->List Nat
 |.loc b _=>[b]
 |.agg cs=>nD cs
 |.tup cs=>nD cs
 |.fn _ a b=>nD a++nD b
 |.ifc _ x=>qN9 x
 |_=>[]
def nD:List SV->List Nat
 | []=>[]
 |x::xs=>qN9 x++nD xs
end
def qSi(l:List Nat)(n:Nat):List Nat:=bif l.any (Nat.beq n)then l else l++[n]
def qV0:Option Blk->List SV
 |some (.cells cs)=>cs
 |some (.whole x _)=>[x]
 |some (.loop _ _)=>[]
 |some (.tcells _ cs)=>cs
 |none=>[]
def qF2(S:St):Nat->List Nat->List Nat
 |0,l=>l
 |n+1,l=>qF2 S n (l.foldl (λl b=>(nD (qV0 (S.blks[b]?.getD none))).foldl qSi l) l)
def qRg(b:Nat):List Nat->Nat->Option Nat
 | [],_=>none
 |c::r,i=>bif Nat.beq c b then some i else qRg b r (i+1)
mutual
def SV.toC(bm:List Nat):SV->Option SV
 |.v i=>some (.v i)
 |.c x=>some (.c x)
 |.loc b o=>match qRg b bm 0 with
  |some k=>some (.loc k o)
  |none=>none
 |.ptr _ _ _ _=>none
 |.pp i o=>some (.pp i o)
 |.agg cs=>match SV.toCs bm cs with
  |some l=>some (.agg l)
  |none=>none
 |.tup cs=>match SV.toCs bm cs with
  |some l=>some (.tup l)
  |none=>none
 |.fn f a b=>match SV.toCs bm a,SV.toCs bm b with
  |some a,some b=>some (.fn f a b)
  |_,_=>none
 |.ifc t x=>match SV.toC bm x with
  |some x=>some (.ifc t x)
  |none=>none
 |.yld _=>none
def SV.toCs(bm:List Nat):List SV->Option (List SV)
 | []=>some []
 |x::xs=>match SV.toC bm x,SV.toCs bm xs with
  |some y,some l=>some (y::l)
  |_,_=>none
end
def Blk.toC(bm:List Nat):Blk->Option Blk
 |.loop _ _=>none
 |.tcells _ _=>none
 |.cells cs=>match SV.toCs bm cs with
  |some l=>some (.cells l)
  |none=>none
 |.whole x n=>match SV.toC bm x with
  |some y=>some (.whole y n)
  |none=>none
def eM(S:St)(bm:List Nat):List Nat->Option (List (Option Blk))
 | []=>some []
 | b::r=>match S.blks[b]?,eM S bm r with
  |some (some x),some l=>match x.toC bm with
   |some y=>some (some y::l)
   |none=>none
  |_,_=>none
def St.forC(S:St)(l:List SV)(h:List (Option Blk)):St:={sts:=S.sts,slots:=T.ofList .leaf 0 l,blks:=h,sz:=l.length}
mutual
def SV.ofC(n:Nat)(bm:List Nat):SV->SV
 |.v i=>.v (Nat.add n i)
 |.c x=>.c x
 |.loc k o=>.loc (bm.getD k 0) o
 |.ptr s i sz off=>.ptr (SV.ofC n bm s) (SV.ofC n bm i) sz off
 |.pp i o=>.pp (Nat.add n i) o
 |.agg cs=>.agg (SV.ofCs n bm cs)
 |.tup cs=>.tup (SV.ofCs n bm cs)
 |.fn f a b=>.fn f (SV.ofCs n bm a) (SV.ofCs n bm b)
 |.ifc t x=>.ifc t (SV.ofC n bm x)
 |.yld b=>.yld (bm.getD b 0)
def SV.ofCs(n:Nat)(bm:List Nat):List SV->List SV
 | []=>[]
 |x::xs=>SV.ofC n bm x::SV.ofCs n bm xs
end
def Blk.ofC(n:Nat)(bm:List Nat):Blk->Blk
 |.loop a b=>.loop a b
 |.tcells t cs=>.tcells t (SV.ofCs n bm cs)
 |.cells cs=>.cells (SV.ofCs n bm cs)
 |.whole x k=>.whole (SV.ofC n bm x) k
def sP(n:Nat)(bm:List Nat):List Nat->List (Option Blk)->List (Option Blk)->List (Option Blk)
 |b::h,x::xs,l=>sP n bm h xs (l.set b (x.map (Blk.ofC n bm)))
 |b::h,[],l=>sP n bm h [] (l.set b none)
 | [],_,l=>l
def bM(l:List VSt):SV->List VSt
 |.v i=>l.modify i λs=>match s with|⟨.fresh,o⟩=>⟨.dead,o⟩|s=>s
 |_=>l
def St.after(S:St)(m:Mode)(bm:List Nat)(az:List SV):St:=
 {sts:=az.foldl bM S.sts++m.out.sts,slots:=S.slots,blks:=sP S.n bm bm m.out.blks S.blks,sz:=S.sz,sav:=S.sav}
def qJ3(m:Mode)(n:Nat)(bm:List Nat):SV:=match m.out.slots with
 | [(_,x)]=>SV.ofC n bm x
 |l=>.tup (SV.ofCs n bm (l.map Prod.snd))
structure Hint where
 name:String
 fresh:List Nat
 spec:List Nat
 res:Bool
 /-- the places of the calls it is meant for; none: all -/
 only:List String:=[]
def qYe:List Hint:=[
 ⟨"slices.Clone[[]uint8,uint8]", [], [], true, []⟩,
 ⟨"slices.Clone[[]byte,byte]", [], [], true, []⟩,
 ⟨"slices.Clone[[]langdoc/api.Analysis,langdoc/api.Analysis]", [], [], true, []⟩,
 ⟨"slices.DeleteFunc[[]langdoc/api.Analysis,langdoc/api.Analysis]", [0], [], false, []⟩,
 ⟨"slices.AppendSeq[[]int,int]", [0], [1], true, []⟩,
 ⟨"slices.Clone[[]langdoc/api.Rewrite,langdoc/api.Rewrite]", [], [], true, []⟩,
 ⟨"slices.Insert[[]langdoc/api.Rewrite,langdoc/api.Rewrite]", [0, 2], [], true, []⟩,
 ⟨"slices.Delete[[]langdoc/api.Rewrite,langdoc/api.Rewrite]", [0], [], true, []⟩,
 ⟨"langdoc/wire.varint", [0], [], true, []⟩,
 ⟨"langdoc/langdocref04.PutInt", [], [], true, ["ref.go:22"]⟩,
 ⟨"langdoc/wire.put[uint8]", [0], [2], true, []⟩,
 ⟨"langdoc/wire.put[byte]", [0], [2], true, []⟩,
 ⟨"langdoc/wire.put[int]", [0], [2], true, []⟩,
 ⟨"langdoc/wire.PutText$1", [0], [], true, []⟩,
 ⟨"langdoc/change.changed", [], [1], false, []⟩]
def qFH(E:Env)(f:FuncId):Option Hint:=match E.prog.funcs[f]? with
 |some fn=>qYe.find? λh=>h.name==fn.name
 |none=>none
def keeps: List String := ["langdoc/relate.Reach$1", "langdoc/analyze.All$1", "langdoc/analyze.All$2", "langdoc/analyze.Uses$1", "langdoc/analyze.Bases$1"]
def qTs(E:Env):Fn->Bool
 |.func g=>match E.prog.funcs[g]? with
  |some fn=>keeps.any (·== fn.name)
  |none=>false
 |_=>false
def qWH(E:Env)(o:Oper)(f:FuncId)(l:List SV):Bool:=lM l||(match qFH E f with|some h=>h.only.isEmpty||h.only.any (λp=>p==o.pos)|none=>false)
def qXV(n:Nat)(l:List Nat):Bool:=l.any (Nat.beq n)
mutual
def qR2(S:St):SV->List SV->List VSt->SV×List SV×List VSt
 |.loc k o,az,sts=>(.loc k o,az,sts)
 | .fn f a b,az,sts=>bif lM a||lM b then
   (match qHU S a az sts with
   |(a,az,sts)=>match qHU S b az sts with
    |(b,az,sts)=>(.fn f a b,az,sts))
  else(.v az.length,az++[.fn f a b],sts++[⟨.pure,false⟩])
 |x,az,sts=>(.v az.length,az++[x],sts++[⟨.pure,false⟩])
def qHU(S:St):List SV->List SV->List VSt->List SV×List SV×List VSt
 | [],az,sts=>([],az,sts)
 | x::xs,az,sts=>match qR2 S x az sts with
  |(x,az,sts)=>match qHU S xs az sts with
   |(xs,az,sts)=>(x::xs,az,sts)
end
def qTF(S:St)(fr h:List Nat):Nat->List SV->List SV->List VSt->List SV×List SV×List VSt
 |_,[],az,sts=>([],az,sts)
 | n,x::xs,az,sts=>match (bif qXV n fr&&qAn S x then(.v az.length,az++[x],sts++[⟨.fresh,true⟩])else
   bif qXV n h then(match x with
    | .fn f a b=>(match qHU S a az sts with
     |(a,az,sts)=>match qHU S b az sts with
      |(b,az,sts)=>(.fn f a b,az,sts))
    |x=>qR2 S x az sts)
   else qR2 S x az sts:SV×List SV×List VSt)with
  |(x,az,sts)=>match qTF S fr h (n+1) xs az sts with
   |(xs,az,sts)=>(x::xs,az,sts)
def qTD(S:St):List SV->List SV->List VSt->List SV×List SV×List VSt
 | [],az,sts=>([],az,sts)
 | x::xs,az,sts=>match (bif qAn S x then(.v az.length,az++[x],sts++[⟨.fresh,true⟩])else match qR2 S x az sts with
   |(.v n,y,h)=>(.v n,y,bif dV S x then h.dropLast++[⟨.pure,true⟩]else h)
   |r=>r:SV×List SV×List VSt)with
  |(x,az,sts)=>match qTD S xs az sts with
   |(xs,az,sts)=>(x::xs,az,sts)
def qTE(S:St):List (Option Blk)->List SV->List VSt->List (Option Blk)×List SV×List VSt
 | [],az,sts=>([],az,sts)
 | b::h,az,sts=>match (match b with
   |some (.cells cs)=>(match qTD S cs az sts with|(cs,az,sts)=>(some (.cells cs),az,sts))
   |some (.whole x n)=>(some (.whole (.v az.length) n),az++[x],sts++[⟨.pure,false⟩])
   |some (.loop a b)=>(some (.loop a b),az,sts)
   |some (.tcells t cs)=>(some (.tcells t cs),az,sts)
   |none=>(none,az,sts):Option Blk×List SV×List VSt)with
  |(b,az,sts)=>match qTE S h az sts with
   |(h,az,sts)=>(b::h,az,sts)
def qTi(h:List VSt):List SV->List VSt->List SV×List VSt
 | [],o=>([],o)
 | x::xs,o=>match (match x with
   |.v i=>(.v o.length,o++[h.getD i ⟨.pure,false⟩])
   |x=>(x,o):SV×List VSt)with
  |(x,o)=>match qTi h xs o with
   |(xs,o)=>(x::xs,o)
def qTj(h:List VSt):List (Option Blk)->List VSt->List (Option Blk)×List VSt
 | [],o=>([],o)
 | b::x,o=>match (match b with
   |some (.cells cs)=>(match qTi h cs o with|(cs,o)=>(some (.cells cs),o))
   |some (.whole _ n)=>(some (.whole (.v o.length) n),o++[⟨.pure,false⟩])
   |some (.loop a b)=>(some (.loop a b),o)
   |some (.tcells t cs)=>(some (.tcells t cs),o)
   |none=>(none,o):Option Blk×List VSt)with
  |(b,o)=>match qTj h x o with
   |(x,o)=>(b::x,o)
def qYc(l:List SV):List (Nat×SV):=(List.range l.length).zip l
def qI0(S:St)(h:Option Hint)(x:Nat)(l:List SV)(i:List (Option Blk)):Mode×List SV:=
 match qTF S (match h with|some h=>h.fresh|none=>[]) (match h with|some h=>h.spec|none=>[]) 0 l [] []with
 | (c,az,sts)=>match qTE S i az sts with
  |(bs',az,sts)=>
   let r:=(List.range x).map SV.v
   match qTj sts bs' (r.map λ_=>match h with|some h=>bif h.res then⟨.fresh,true⟩else⟨.pure,false⟩|none=>⟨.pure,false⟩)with
   |(b,y)=>(⟨⟨sts,qYc c,bs',[]⟩,l.length,⟨y,qYc r,b,[]⟩⟩,az)
def dX:List Nat->Bool
 | []=>true
 |b::r=>!(r.any (Nat.beq b))&&dX r
def fE:Option Blk->Bool
 |some (.loop _ _)=>false
 |some (.tcells _ _)=>false
 |_=>true
def qJv(E:Env)(f:FuncId)(l:List SV)(S:St)(κ:K1):Tree:=
 let bm:=qF2 S 3 ((nD l).foldl qSi [])
 match E.prog.funcs[f]?,SV.toCs bm l,eM S bm bm with
 | some fn,some h,some y=>
  match qI0 (S.forC h y) (qFH E f) fn.resultTypes.size h y with
  |(m,az)=>
   let b:=vM S (oL m.inp.sts az)
   bif dX bm&&cZ h.length m.inp az (b.forC h y)&&Nat.beq m.n h.length&&m.out.slots.all (λ(_,x)=>qMM m.out.sts.length bm.length x)&&m.out.blks.all (qTG m.out.sts.length bm.length)&&Nat.ble m.out.blks.length bm.length&&m.out.blks.all fE then .callM f m az (κ (qJ3 m b.n bm) (b.after m bm az))else .fail
 |_,_,_=>.fail
def qFW(a:SV)(S:St)(κ:K1):Tree:=match a with
 |.v i=>jX .pchk [.v i] .ptr true S λy S=>match y with
  |.v j=>κ (.pp j 0) S
  |_=>.fail
 |a=>κ a S
def qEe(E:Env)(t:TypeId)(a:SV)(S:St)(κ:K1):Tree:=qFW a S λa S=>match E.types.get t with
 |none=>.fail
 | some h=>match a with
  | .loc b off=>match S.blks[b]? with
   |some (some (.cells cs))=>match qAQ h.agg h.size off cs with
    |some x=>κ x S
    |none=>.fail
   |some (some (.whole x n))=>bif Nat.beq off 0&&Nat.beq h.size n&&h.agg then(bif wB S x then κ x S else .fail)else jX (.fld h.agg h.size off) [x] .pure (!h.agg) S κ
   |_=>.fail
  |.ptr s i sz off=>jX (.elem sz h.agg h.size off) [s,i] .pure (!h.agg) S κ
  |.pp i off=>jX (.loadp h.agg h.size) [.pp i off] .pure (!h.agg) S κ
  |_=>.fail
def St.setBlk(S:St)(b:Nat)(x:Blk):St:={S with blks:=S.blks.set b (some x)}
def qE8(h:TI)(b:Nat)(x:SV)(S:St)(κ:K1):Tree:=match x with
 |.v i=>jX (.chk true h.size) [.v i] .pure false S λy S=>κ (.tup []) (S.setBlk b (.whole y h.size))
 |x=>rZ x h.agg h.size S λl S=>κ (.tup []) (S.setBlk b (.cells l))
def qIo(E:Env)(t:TypeId)(a x:SV)(S:St)(κ:K1):Tree:=match E.types.get t with
 |none=>.fail
 | some h=>match a with
  | .loc b off=>match S.blks[b]? with
   | some (some (.cells cs))=>
    bif h.agg&&Nat.beq off 0&&Nat.beq cs.length h.size then qE8 h b x S κ
    else rZ x h.agg h.size S λl S=>match wY cs off l with
     |some cs'=>κ (.tup []) (S.setBlk b (.cells cs'))
     |none=>.fail
   | some (some (.whole y n))=>
    bif h.agg&&Nat.beq off 0&&Nat.beq n h.size&&wB S y then qE8 h b x S κ
    else rZ y true n S λcs S=>rZ x h.agg h.size S λl S=>match wY cs off l with
     |some cs'=>κ (.tup []) (S.setBlk b (.cells cs'))
     |none=>.fail
   |_=>.fail
  |_=>.fail
def SV.ren(i n:Nat):SV->SV
 |.v j=>bif Nat.beq j i then .v n else .v j
 |.ptr (.v j) k sz off=>bif Nat.beq j i then .ptr (.v n) k sz off else .ptr (.v j) k sz off
 |x=>x
def St.setted(S:St)(i:Nat):St:={(S.kill i).new .fresh true with slots:=S.slots.map (SV.ren i S.n)}
mutual
def SV.renD(i n:Nat):SV->SV
 |.v j=>bif Nat.beq j i then .v n else .v j
 |.c x=>.c x
 |.loc b o=>.loc b o
 |.ptr s k sz off=>.ptr (SV.renD i n s) (SV.renD i n k) sz off
 |.pp j o=>.pp j o
 |.agg cs=>.agg (SV.renDs i n cs)
 |.tup cs=>.tup (SV.renDs i n cs)
 |.fn f a b=>.fn f (SV.renDs i n a) (SV.renDs i n b)
 |.ifc t x=>.ifc t (SV.renD i n x)
 |.yld b=>.yld b
def SV.renDs(i n:Nat):List SV->List SV
 | []=>[]
 |x::xs=>SV.renD i n x::SV.renDs i n xs
end
def Blk.renD(i n:Nat):Blk->Blk
 |.cells cs=>.cells (SV.renDs i n cs)
 |.whole x k=>.whole x k
 |.loop a b=>.loop a b
 |.tcells t cs=>.tcells t (SV.renDs i n cs)
def St.mapped(S:St)(i:Nat):St:={(S.kill i).new .fresh true with slots:=S.slots.map (SV.renD i S.n),blks:=S.blks.map (λb=>b.map (Blk.renD i S.n)),sav:=S.sav.map (λl=>l.map (λ(t,x)=>(t,SV.renD i S.n x)))}
def qXW(t:TypeId)(i:Nat)(k x:SV)(S:St)(κ:K1):Tree:=
 let S:=rC S x
 bif wC S x&&wB S k&&S.freshV i then .bind (.mset t) [.v i,k,x] (κ (.tup []) (S.mapped i))else .fail
def qVD(t:TypeId)(i:Nat)(k:SV)(S:St)(κ:K1):Tree:=.fail
def qUd(E:Env)(t:TypeId)(i:Nat)(j:SV)(sz off:Nat)(x:SV)(S:St)(κ:K1):Tree:=match E.types.get t with
 |none=>.fail
 |some h=>
  let S:=rC S x
  bif wC S x&&wB S j&&S.freshV i then .bind (.set sz h.agg h.size off) [.v i,j,x] (κ (.tup []) (S.mapped i))else .fail
def qFc:Operand->Operand->Bool
 |.tmp a,.tmp b=>Nat.beq a b
 |.const (.int k a),.const (.int k' b)=>decide (k=k')&&decide (a=b)
 |_,_=>false
def wM(E:Env)(t:TypeId):Option TypeId:=match E.types.get t with
 |some {desc:=.slice e,..}=>some e
 |_=>none
def uJ(E:Env)(s d:TypeId):Bool:=match wM E s with
 |some el=>match E.types.get el,E.types.get d with
  |some {desc:=.int .u8,..},some {desc:=.string,..}=>true
  |_,_=>false
 |none=>false
def fR(E:Env)(s d:TypeId):Option TypeId:=match E.types.get s,wM E d with
 |some {desc:=.string,..},some el=>match E.types.get el with
  |some {desc:=.int .u8,size:=sz,..}=>bif Nat.beq sz 1 then some el else none
  |_=>none
 |_,_=>none
def aY:Option Operand->Bool
 |some (.const (.int _ (.ofNat 0)))=>true
 |_=>false
def qCl(E:Env)(c:BinOp)(t:TypeId)(x y:Operand)(h:Bool):Bool:=
 (wM E t).isSome&&(match oW E c t x y (.slice none 0 0) (.slice none 0 0)with|some (.bool b)=>b == !h|_=>false)&&(match c with|.eql=>!h|.neq=>h|_=>false)
def qTu:BinOp->Bool
 |.neq=>true
 |_=>false
def qFD:SV->Bool
 |.c (.slice none 0 0)=>true
 |_=>false
def qV7(E:Env)(ts:List TypeId)(s x:SV)(S:St)(κ:K1):Tree:=match ts with
 | t::xt::_=>match wM E t,E.types.get xt with
  | some el,some y=>match E.types.get el,y.desc with
   | some e,.slice _=>match e.zero with
    | some _=>
     let h:=λ(S':St)=>bif wB S x&&Nat.ble 1 e.size then Tree.bind (.app el e.size e.bytes) [s,x] (κ (.v S.n) (S'.new .fresh true))else .fail
     match s with
     |.c (.slice none 0 0)=>h S
     | .v i=>match S.sts[i]? with
      |some ⟨.full,_⟩=>h S
      |some ⟨.fresh,_⟩=>(match x with
       |.v j=>bif Nat.beq i j then .fail else h (S.kill i)
       |_=>h (S.kill i))
      |_=>.fail
     |_=>.fail
    |none=>.fail
   |_,_=>.fail
  |_,_=>.fail
 |_=>.fail
def fN(E:Env)(t:TypeId)(f:Nat):Option (Nat×TI):=match E.types.get t with
 | some {desc:=.struct y,..}=>match y[f]? with
  |some h=>match E.types.get h.type with
   |some x=>some (h.offset,x)
   |none=>none
  |none=>none
 |_=>none
def qHY(E:Env)(b:Builtin)(ts:List TypeId)(args:List SV)(S:St)(κ:K1):Tree:=match b with
 | .len=>match ts,args with
  |t::_,[x]=>match E.types.get t with
   |some {desc:=.string,..}=>jX (.len true) [x] .pure true S κ
   |some {desc:=.slice _,..}=>jX (.len false) [x] .pure true S κ
   |some {desc:=.map _ _,..}=>jX .mlen [x] .pure true S κ
   |_=>.fail
  |_,_=>.fail
 |.delete=>match ts,args with
  |t::_,[.v i,k]=>qVD t i k S κ
  |_,_=>.fail
 |.append=>match args with
  | [s,x]=>qV7 E ts s x S κ
  |_=>.fail
 |.min=>match args with
  | [x,y]=>jX (.mm false) [x,y] .pure true S κ
  |_=>.fail
 |.max=>match args with
  | [x,y]=>jX (.mm true) [x,y] .pure true S κ
  |_=>.fail
 |_=>.fail
def qPp:SV->Option Bool
 |.c (.bool b)=>some b
 |_=>none
def vZ(E:Env)(o:Oper)(S:St)(κ:K1):Tree:=match o.op with
 |.move x|.assign x=>match rP S x with
  |some y=>κ y S
  |none=>.fail
 |.pick c a b=>match rP S c with
  |some (.c (.bool true))=>match rP S a with|some y=>κ y S|none=>.fail
  |some (.c (.bool false))=>match rP S b with|some y=>κ y S|none=>.fail
  |some (.v i)=>bif S.pureV i then .ite (.v i) (match rP (S.known i true) a with|some y=>κ y (S.known i true)|none=>.fail) (match rP (S.known i false) b with|some y=>κ y (S.known i false)|none=>.fail)else .fail
  |_=>.fail
 |.alloc t=>match E.types.get t with
  |some {zero:=some z,..}=>bif z.all (λv=>zF v&&qE v)then κ (.loc S.blks.length 0) {S with blks:=S.blks++[some (.cells (z.map .c))]}else .fail
  |_=>.fail
 | .box t x=>match rP S x,E.types.get t with
  |some y,some u=>match y,u.agg with
   |.v i,true=>jX (.chk true u.size) [.v i] .pure false S λy S=>κ (.loc S.blks.length 0) {S with blks:=S.blks++[some (.whole y u.size)]}
   |y,ag=>rZ y ag u.size S λl S=>κ (.loc S.blks.length 0) {S with blks:=S.blks++[some (.cells l)]}
  |_,_=>.fail
 |.build t B=>match E.types.get t with
  |some {desc:=.struct I,zero:=some z,agg:=true,..}=>bif z.all (λv=>zF v&&qE v)then qDl E S (λi=>match I[i]? with|some f=>(E.types.get f.type).map λt=>(f.offset,t.size,t.agg)|none=>none) (z.map .c) B.toList λcs S=>κ (.agg cs) S else .fail
  |some {desc:=.array _ w,zero:=some z,agg:=true,..}=>bif (E.types.get w).isSome&&z.all (λv=>zF v&&qE v)then qDl E S (λi=>(E.types.get w).map λe=>(Nat.mul i e.size,e.size,e.agg)) (z.map .c) B.toList λcs S=>κ (.agg cs) S else .fail
  |_=>.fail
 | .buildSlice t n B=>match wM E t with
  | some el=>match E.types.get el with
   |some e=>match e.zero with
    |some z=>bif Nat.beq z.length e.size&&Nat.beq n B.toList.length then qAv e.size e.agg [] S B.toList λl S=>qH2 (.lit el e.size) l (bif Nat.beq n 0 then .full else .fresh) true S κ else .fail
    |none=>.fail
   |none=>.fail
  |none=>.fail
 |.load t a=>match rP S a with
  |some a=>qEe E t a S κ
  |none=>.fail
 |.store t a x=>match rP S a,rP S x with
  |some (.ptr (.v i) j sz off),some x=>qUd E t i j sz off x S κ
  |some a,some x=>qIo E t a x S κ
  |_,_=>.fail
 | .makeSlice t l c=>match wM E t,rP S l with
  | some el,some x=>match E.types.get el with
   | some e=>match e.zero with
    |some z=>bif qFc l c&&wB S x then .bind (.mk el e.size e.bytes e.agg z) [x] (κ (.v S.n) (S.new .fresh true))else match rP S c with
     |some y=>bif wB S x&&wB S y then .bind (.mk el e.size e.bytes e.agg z) [x,y] (κ (.v S.n) (S.new .fresh true))else .fail
     |none=>.fail
    |none=>.fail
   |none=>.fail
  |_,_=>.fail
 |.makeMap _ none=>.bind .mnew [] (κ (.v S.n) (S.new .fresh true))
 |.range t x=>match rP S x,E.types.get t with
  |some y,some {desc:=.string,..}=>jX (.len true) [y] .pure true S λ_ S=>κ (.loc S.blks.length 0) {S with blks:=S.blks++[some (.tcells 0 [y,.c (.int .i64 0)])]}
  |_,_=>.fail
 | .next G true=>match rP S G with
  |some (.loc b 0)=>match S.blks[b]? with
   |some (some (.tcells 0 [y,p]))=>jX .nok [y,p] .pure true S λc S=>.ite c (jX .nch [y,p] .pure true S λJ S=>jX .nnx [y,p] .pure true S λnx S=>κ (.tup [.c (.bool true),p,J]) (S.setBlk b (.tcells 0 [y,nx]))) (κ (.tup [.c (.bool false)]) S)
   |_=>.fail
  |_=>.fail
 |.lookup t x k ok=>match rP S x,rP S k with
  |some y,some z=>jX (.mget t ok) [y,z] .pure false S κ
  |_,_=>.fail
 |.mapUpdate t m k x=>match rP S m,rP S k,rP S x with
  |some (.v i),some z,some y=>qXW t i z y S κ
  |_,_,_=>.fail
 |.nilCheck x=>match rP S x with
  |some (.loc b o)=>κ (.loc b o) S
  |some (.fn (.func f) a b)=>κ (.fn (.func f) a b) S
  |some (.ifc t x)=>κ (.ifc t x) S
  |some (.v i)=>jX .nn [.v i] .pure true S κ
  |_=>.fail
 | .binOp A t x y _=>match rP S x,rP S y with
  |some a,some b=>
   bif qFD b&&(qCl E A t x y true||qCl E A t x y false)then jX (.isNil (qTu A)) [a] .pure true S κ
   else bif wC S a&&wC S b then .bind (.bin A t x y) [a,b] (κ (.v S.n) (S.new .pure true))else .fail
  |_,_=>.fail
 | .unOp A t x=>match rP S x with
  |some y=>match A,qPp y with
   |.not,some b=>κ (.c (.bool !b)) S
   |_,_=>jX (.un A t) [y] .pure true S κ
  |none=>.fail
 | .convert s d x=>match rP S x with
  |some y=>match fR E s d with
   |some el=>bif wB S y then .bind (.byt el) [y] (κ (.v S.n) (S.new .fresh true))else .fail
   |none=>bif uJ E s d then jX .bstr [y] .pure true S κ else jX (.conv s d) [y] .pure true S κ
  |none=>.fail
 |.makeInterface t x=>match E.types.get t,rP S x with
  |some {desc:=.interface _,..},_=>.fail
  |some _,some y=>κ (.ifc t y) S
  |_,_=>.fail
 |.makeFunc fn first cap=>match bO S first.toList,bO S cap.toList with
  |some a,some b=>bif rD fn then(bif qTs E fn then κ (.fn fn a b) S else qHZ b [] S λb S=>κ (.fn fn a b) S)else .fail
  |_,_=>.fail
 | .slice t x lo F mx=>bif (lo.isNone||aY lo)&&aY F&&aY mx then .fail else match rP S x,bO S lo.toList,bO S F.toList,mx with
  | some y,some l,some h,none=>match E.types.get t with
   |some {desc:=.slice el,..}=>match E.types.get el with
    |some e=>qH2 (.slc el e.size lo.isSome F.isSome) (y::(l++h)) .pure true S κ
    |none=>.fail
   |some {desc:=.string,..}=>jX (.sub lo.isSome F.isSome) (y::(l++h)) .pure true S κ
   |_=>.fail
  |_,_,_,_=>.fail
 | .fieldAddr s x f=>match rP S x,fN E s f with
  |some y,some (off,u)=>bif Nat.beq u.size 0 then .fail else qFW y S λy S=>match y with
   |.loc b o=>κ (.loc b (Nat.add o off)) S
   |.ptr s i sz o=>κ (.ptr s i sz (Nat.add o off)) S
   |.pp i o=>κ (.pp i (Nat.add o off)) S
   |_=>.fail
  |_,_=>.fail
 | .field t x f=>match rP S x,fN E t f with
  |some (.agg cs),some (off,u)=>match qAQ u.agg u.size off cs with
   |some y=>κ y S
   |none=>.fail
  |some (.v i),some (off,u)=>jX (.chk true (match E.types.get t with|some u=>u.size|none=>0)) [.v i] .pure false S λy S=>jX (.fld u.agg u.size off) [y] .pure (!u.agg) S κ
  |_,_=>.fail
 | .indexAddr t x i=>match rP S x,rP S i,wM E t with
  |some y,some j,some el=>match E.types.get el with
   |some e=>bif wB S y&&wB S j then jX .inr [y,j] .pure true S λ_ S=>κ (.ptr y j e.size 0) S else .fail
   |none=>.fail
  |_,_,_=>.fail
 |.index t x i=>match rP S x,rP S i,E.types.get t with
  |some y,some j,some {desc:=.string,..}=>jX .chr [y,j] .pure true S κ
  |_,_,_=>.fail
 | .extract x i=>match rP S x with
  |some (.tup cs)=>match cs[i]? with
   |some y=>κ y S
   |none=>.fail
  |some (.v j)=>jX (.ext i) [.v j] .pure false S κ
  |_=>.fail
 | .call c=>match bO S c.args.toList with
  |none=>.fail
  | some q=>match c.callee with
   |.builtin b=>qHY E b c.argTypes.toList q S κ
   |.invoke r C=>match rP S r with
    |some y=>qHV E (.meth y C) (y::q) 0 S κ
    |none=>.fail
   |.value f=>match rP S f with
    |some (.fn (.func g) first cap)=>bif qWH E o g (first++q++cap)then qJv E g (first++q++cap) S κ else qHV E (.fn g) (first++q++cap) (qOI E g) S κ
    |some (.v i)=>qHV E (.val (.v i)) (.v i::q) (match E.types.get o.type with|some {desc:=.bool,..}=>1|some {desc:=.int _,..}=>1|some {desc:=.string,..}=>1|_=>0) S κ
    |_=>.fail
 |_=>.fail
def oB(o:Oper):Bool:=match o.op with
 |.store _ _ _=>true
 |_=>false
def qPD(S:St):List SV->Bool
 | [.v i,_]=>S.freshV i
 |_=>false
def qUD(s:VSt):Bool:=match s.k with
 |.fresh=>false
 |_=>true
def qFk(E:Env)(f:FuncId)(l:List SV)(S:St):Bool:=
 let bm:=qF2 S 3 ((nD l).foldl qSi [])
 bm.isEmpty&&match E.prog.funcs[f]?,SV.toCs bm l,eM S bm bm with
 |some fn,some h,some x=>match qI0 (S.forC h x) (qFH E f) fn.resultTypes.size h x with
  |(m,_)=>m.inp.sts.all qUD&&m.inp.blks.isEmpty
 |_,_,_=>true
def xH(E:Env)(S:St)(o:Oper):Bool:=oB o||match o.op with
 |.mapUpdate _ _ _ _=>true
 |.next _ _=>true
 | .call c=>match c.callee,bO S c.args.toList with
  |.builtin .append,some h=>qPD S h
  |.builtin .delete,_=>true
  |.value f,some h=>match rP S f with
   |some (.fn (.func g) first cap)=>qWH E o g (first++h++cap)&& !qFk E g (first++h++cap) S
   |_=>false
  |_,_=>false
 |_=>false
def qCG(all:Array Oper)(o:Oper)(S:St)(h x:St->Tree):Tree:=match o.guard with
 |none=>h S
 | some (j,want)=>match all.toList[j]? with
  |some {dst:=some d,..}=>match S.slots.get d with
   |some (.c (.bool b))=>bif b==want then h S else x S
   |some (.tup [])=>x S
   |some (.v i)=>bif S.pureV i then .ite (.v i) (bif want then h (S.known i true)else x (S.known i true)) (bif want then x (S.known i false)else h (S.known i false))else .fail
   |_=>.fail
  |_=>.fail
def qGH:Op->Bool
 |.move _|.assign _|.pick _ _ _|.nilCheck _|.binOp _ _ _ _ _|.unOp _ _ _|.fieldAddr _ _ _|.indexAddr _ _ _|.extract _ _|.build _ _=>true
 |_=>false
def qN4(o:Oper):Bool:=qGH o.op||match o.op with
 |.slice _ _ _ _ _=>true
 |.load _ _=>true
 |_=>false
def eT(all:List Oper)(h:Nat):List Oper->Nat->Bool
 | [],_=>true
 |_::x,i=>rG (kI all) h i&&eT all h x (i+1)
def tL(all:List Oper)(x:Nat):List Oper->Nat->Bool
 | [],_=>true
 |o::h,i=>(qN4 o&&o.guard.isNone&&tL all x h (i+1))||eT all x (o::h) i
def qCs(all:List Oper)(i:Nat)(o:Oper)(h:List Oper):Bool:=(match o.op with
 |.call c=>(match c.callee,c.args.toList with
  |.builtin .append,[.tmp _,_]=>true
  |_,_=>false)
 |_=>false)&&(List.range i).all (λk=>rG (kI all) i k)&&tL all i h (i+1)
def qDE(E:Env)(all:Array Oper)(draw:Bool):List Oper->Nat->St->(St->Tree)->Tree
 | [],_,S,κ=>κ S
 | o::h,i,S,κ=>
  qCG all o S
   (λS=>bif draw&&xH E S o&& !(yT all.toList i)&& !(qCs all.toList i o h)then .fail else
    vZ E o S λy S=>match S.put o.dst y with
     |some S=>qDE E all draw h (i+1) S κ
     |none=>.fail)
   (λS=>match S.put o.dst (.tup [])with
    |some S=>qDE E all draw h (i+1) S κ
    |none=>.fail)
def qBb(S:St):List Oper->Nat->List (Nat×Nat)
 | [],_=>[]
 | o::h,i=>match o.op with
  |.store _ (.tmp a) _=>match S.slots.get a with
   |some (.loc b _)=>(i,b)::qBb S h (i+1)
   |_=>qBb S h (i+1)
  |_=>qBb S h (i+1)
def iM(S:St)(o:Oper)(h:List Oper)(x:List Nat):Bool:=match o.op with
 |.load _ (.tmp a)=>(o::h).all (lF a)&&match S.slots.get a with
  |some (.loc b _)=>x.all (λc=>!(Nat.beq c b))&&(S.blks[b]?.getD none).isSome
  |some (.ptr (.v k) _ _ _)=>S.pureV k
  |_=>false
 | .alloc _=>match o.dst with
  |some d=>h.all (lF d)&&match S.slots.get d with
   |some (.loc b _)=>x.all (λc=>!(Nat.beq c b))&&(S.blks[b]?.getD none).isSome
   |_=>false
  |none=>false
 |.store _ (.tmp a) _=>x.isEmpty&&(o::h).all (lF a)&&match S.slots.get a with
  |some (.loc b _)=>(S.blks[b]?.getD none).isSome
  |_=>false
 | .buildSlice _ n _=>Nat.ble 1 n&&match o.dst with
  |some d=>h.all (lF d)&&match S.slots.get d with
   |some (.v k)=>S.freshV k||S.pureV k
   |_=>false
  |none=>false
 |op=>qGH op
def mY(S:St)(all:List Oper):List Oper->Nat->Bool
 | [],_=>true
 |o::h,i=>iM S o h (qJ all i (qBb S all 0))&&mY S all h (i+1)
def s7(S:St):List Oper->List (SV×SV)
 | []=>[]
 | o::h=>match o.op with
  |.load _ (.tmp a)=>match S.slots.get a with
   |some (.ptr (.v k) i _ _)=>(.v k,i)::s7 S h
   |_=>s7 S h
  |_=>s7 S h
def dZ(S:St):List Oper->List (SV×SV)
 | []=>[]
 | o::h=>match o.op with
  | .buildSlice _ _ _=>match o.dst with
   |some d=>match S.slots.get d with
    |some (.v k)=>bif S.pureV k then(.v k,.c (.int .i64 0))::dZ S h else dZ S h
    |_=>dZ S h
   |none=>dZ S h
  |_=>dZ S h
def qGI(S:St)(h:List Oper):List (SV×SV):=s7 S h++dZ S h
def qHQ:List (SV×SV)->St->(St->Tree)->Tree
 | [],S,κ=>κ S
 |(s,i)::r,S,κ=>bif wC S s&&wC S i then .bind .inr [s,i] (qHQ r (S.new .pure true) κ)else .fail
def qX1(ops:List Oper):Bool:=ops.zipIdx.any λ(o,i)=>oB o&& !(yT ops i)
def nl:Code->Nat
 |.seq a b=>nl a+nl b
 |.cond _ a b=>nl a+nl b
 |.block _ b=>nl b
 |.loop b=>nl b+1
 |.scope b=>nl b
 |_=>0
def qJ5(o:Oper):Option (TypeId×Tmp×Tmp):=match o.op,o.dst,o.guard with
 |.load t (.tmp p),some d,none=>some (t,p,d)
 |_,_,_=>none
def qD0(o:Oper):Option (Tmp×Tmp):=match o.op,o.dst,o.guard with
 |.move (.tmp s),some d,none=>some (s,d)
 |_,_,_=>none
def qNt(o:Oper):Option (Tmp×Tmp):=match o.op,o.dst,o.guard with
 |.binOp .add _ (.tmp a) (.const (.int .i64 (.ofNat 1))) _,some d,none=>some (a,d)
 |_,_,_=>none
def qGF(o:Oper):Option (TypeId×Tmp×Tmp×Tmp):=match o.op,o.dst,o.guard with
 |.slice t (.tmp x) (some (.tmp l)) none none,some d,none=>some (t,x,l,d)
 |_,_,_=>none
def qNs(o:Oper):Option (TypeId×Tmp×Tmp×Tmp):=match o.op,o.dst,o.guard with
 |.call c,some d,none=>match c.callee,c.args.toList,c.argTypes.toList with
  |.builtin .copy,[.tmp a,.tmp b],t::_=>some (t,a,b,d)
  |_,_,_=>none
 |_,_,_=>none
structure CpP where
 k:Nat
 j:SV
 el:Nat
 sz:Nat
 ds:List Tmp
def qYR(h j i c b q p o k J C y F t B x z r w I A G u:Nat)(l:List Nat)(n:Nat):Bool:=
 (Nat.beq j h&&(Nat.beq i h&&(Nat.beq c h&&Nat.beq b h)))&&((Nat.beq p q&&Nat.beq k o)&&((Nat.beq J C&&(Nat.beq y F&&Nat.beq t B))&&((Nat.beq x z&&Nat.beq r w)&&((Nat.beq I A&&Nat.beq G u)&&(dX l&&l.all λd=>Nat.ble (d+1) n)))))
def qJq(E:Env)(t:TypeId):Bool:=match E.types.get t with
 |some h=>!h.agg&&Nat.beq h.size 1
 |none=>false
def qVH(E:Env)(S:St):List Oper->Option CpP
 | [A,z,w,u,t,r,q,p]=>match qJ5 A,qD0 z,qNt w,qGF u with
  | some (h,x,o),some (s1,d1),some (R,d2),some (K,F,O,l)=>match qJ5 t,qD0 r,qGF q,qNs p with
   | some (J,M,i),some (L,c),some (I,C,N,y),some (G,Q,P,B)=>
    bif qYR h K J I G x M s1 L R d1 F o O d2 C i N c Q l P y [x,s1,o,d1,d2,l,i,c,y,B] S.sz&&(yT [A,z,w,u,t,r,q,p] 7&&qJq E h)then
     match S.slots.get x,S.slots.get s1,wM E h with
     |some (.loc b 0),some j,some el=>match S.blks[b]?,E.types.get el with
      |some (some (.cells [.v k])),some e=>bif S.freshV k&&wB S j then some ⟨k,j,el,e.size,[o,d1,d2,l,i,c,y,B]⟩else none
      |_,_=>none
     |_,_,_=>none
    else none
   |_,_,_,_=>none
  |_,_,_,_=>none
 |_=>none
def qIz(o:Oper):Option (TypeId×Tmp):=match o.op,o.dst,o.guard with
 |.call c,none,none=>match c.callee,c.args.toList,c.argTypes.toList with
  |.builtin .clear,[.tmp a],t::_=>some (t,a)
  |_,_,_=>none
 |_,_,_=>none
structure ClP where
 k:Nat
 j:SV
 el:Nat
 sz:Nat
 ag:Bool
 z:List Value
 ds:List Tmp
def qVQ(E:Env)(S:St):List Oper->Option ClP
 | [p,o,l,i]=>match qD0 p,qD0 o,qGF l,qIz i with
  | some (x,h),some (s1,d1),some (y,b,q,d2),some (c,a3)=>
   bif (Nat.beq b h&&(Nat.beq q d1&&(Nat.beq a3 d2&&Nat.beq c y)))&&(dX [x,s1,h,d1,d2]&&[x,s1,h,d1,d2].all λd=>Nat.ble (d+1) S.sz)then
    match S.slots.get x,S.slots.get s1,wM E y with
    | some (.v k),some j,some el=>match E.types.get el with
     |some e=>match e.zero with
      |some z=>bif S.freshV k&&wB S j then some ⟨k,j,el,e.size,e.agg,z,[h,d1,d2]⟩else none
      |none=>none
     |none=>none
    |_,_,_=>none
   else none
  |_,_,_,_=>none
 |_=>none
def aK(t:T SV):List Tmp->T SV
 | []=>t
 |d::ds=>(aK t ds).put d none
def St.cpy(S:St)(p:CpP):St:={S with slots:=aK S.slots p.ds}
def St.clr(S:St)(p:ClP):St:={S with slots:=aK S.slots p.ds}
abbrev KC:=AExit->St->Tree
def qLu(k:St->Tree)(κ:KC):KC:=λe S=>match e with
 |.normal=>k S
 |e=>κ e S
def cR(id:Nat)(κ:KC):KC:=λe S=>match e with
 |.exit h=>bif Nat.beq h id then κ .normal S else κ (.exit h) S
 |e=>κ e S
def sx(E:Env)(J:Nat->St->Tree):Nat->Code->St->KC->Tree
 |at_,.seq a b,S,κ=>sx E J at_ a S (qLu (λS=>sx E J (at_+nl a) b S κ) κ)
 |at_,.cond c a b,S,κ=>match rP S c with
  |some (.c (.bool true))=>sx E J at_ a S κ
  |some (.c (.bool false))=>sx E J (at_+nl a) b S κ
  |some (.v i)=>bif S.pureV i then .ite (.v i) (sx E J at_ a (S.known i true) κ) (sx E J (at_+nl a) b (S.known i false) κ)else .fail
  |_=>.fail
 |at_,.block id b,S,κ=>sx E J at_ b S (cR id κ)
 |at_,.loop _,S,_=>J at_ S
 |at_,.scope b,S,κ=>sx E J at_ b S κ
 |_,.region _ ops draw,S,κ=>match (bif draw&&Nat.beq ops.toList.length 8 then qVH E S ops.toList else none)with
  |some p=>.bind (.cpy p.el p.sz) [.v p.k,p.j] (κ .normal ((S.cpy p).mapped p.k))
  |none=>match (bif !draw&&Nat.beq ops.toList.length 4 then qVQ E S ops.toList else none)with
  |some p=>.bind (.clr p.el p.sz p.ag p.z) [.v p.k,p.j] (κ .normal ((S.clr p).mapped p.k))
  |none=>bif draw&&qX1 ops.toList then qDE E ops false ops.toList 0 S (λS=>bif mY S ops.toList ops.toList 0 then qHQ (qGI S ops.toList) S (κ .normal)else .fail)else qDE E ops draw ops.toList 0 S (κ .normal)
 |_,.skip,S,κ=>κ .normal S
 |_,.label _,S,κ=>κ .normal S
 |_,.ret,S,κ=>κ .ret S
 |_,.exit id,S,κ=>κ (.exit id) S
 |_,_,_,_=>.fail
def qFf(E:Env)(S:St)(acc:List SV):List ResultVar->Tree
 | []=>
  let S:=vM S acc
  bif acc.all (wC S)then .ret acc else .fail
 |.tmp t::r=>match S.slots.get t with
  |some x=>qFf E S (acc++[x]) r
  |none=>.fail
 |.cell a t::r=>match S.slots.get a with
  |some p=>qEe E t p S λx S=>qFf E S (acc++[x]) r
  |none=>.fail
def qFh(E:Env)(m:Mode)(S:St)(acc:List SV):List ResultVar->Tree
 | []=>qKu .ret acc.length m.out {S with slots:=T.ofList .leaf 0 acc,sz:=acc.length}
 |.tmp t::r=>match S.slots.get t with
  |some x=>qFh E m S (acc++[x]) r
  |none=>.fail
 |.cell a t::r=>match S.slots.get a with
  |some p=>qEe E t p S λx S=>qFh E m S (acc++[x]) r
  |none=>.fail
def eH(E:Env)(m:Mode)(rs:List ResultVar):KC:=λe S=>match e with
 |.normal=>qFh E m S [] rs
 |.ret=>qFh E m S [] rs
 |.exit _=>.fail
def qB2(E:Env)(J:Nat->St->Tree)(fn:Func)(m:Mode):Tree:=match fn.body with
 |some c=>sx E J 1 c (m.inp.st (Nat.max fn.ntmps m.n)) (eH E m fn.results.toList)
 |none=>.fail
def uD(E:Env)(rs:List ResultVar):KC:=λe S=>match e with
 |.normal=>qFf E S [] rs
 |.ret=>qFf E S [] rs
 |.exit _=>.fail
def oD(n sz:Nat):St:={sts:=List.replicate n ⟨.pure,false⟩,slots:=T.ofList .leaf 0 ((List.range n).map .v),blks:=[],sz:=sz}
def qGB(E:Env)(J:Nat->St->Tree)(fn:Func)(n:Nat):Tree:=match fn.body with
 |some c=>sx E J 1 c (oD n (Nat.max fn.ntmps n)) (uD E fn.results.toList)
 |none=>.fail
def iF(J:Nat->St->Tree)(h:Nat)(κ:KC):KC:=λe S=>match e with
 |.normal=>J h S
 |e=>κ e S
def jR(E:Env)(P:Nat->St)(J:Nat->St->Tree):Nat->Code->KC->List (Nat×Tree)
 |at_,.seq a b,κ=>jR E P J at_ a (qLu (λS=>sx E J (at_+nl a) b S κ) κ)++jR E P J (at_+nl a) b κ
 |at_,.cond _ a b,κ=>jR E P J at_ a κ++jR E P J (at_+nl a) b κ
 |at_,.block id b,κ=>jR E P J at_ b (cR id κ)
 |at_,.loop b,κ=>(at_,sx E J (at_+1) b (P at_) (iF J at_ κ))::jR E P J (at_+1) b (iF J at_ κ)
 |at_,.scope b,κ=>jR E P J at_ b κ
 |_,_,_=>[]
inductive Res1 where
 |ret (d:D)
 |jump (k:Nat) (ds:List D)
def xN:List D->D
 | [d]=>d
 |l=>.tup l
def uN:List D->Bool
 | []=>true
 |.leaf _::r=>uN r
 |_::_=>false
def qEw:Nat->D->Bool
 |0,_=>true
 |1,.leaf _=>true
 |1,_=>false
 |_,.tup l=>uN l
 |_,_=>false
def gM:Nat:=1000000000000
def qBN(E:Env)(y:Tgt)(ds:List D):Option (FuncId×List D):=match y with
 |.fn f=>some (f,ds)
 |.val _=>match ds with
  |.clo (.func g) first cap::r=>some (g,first++r++cap)
  |_=>none
 | .meth _ h=>match ds with
  | .iface t d::r=>match E.prog.info? t,E.types.get t with
   |some i,some x=>match i.methods.find? (·.name==h)with
    |some {path:=p,func:=some (f,ptr),..}=>bif Nat.beq p.toList.length 0&&qBk x.desc ptr then some (f,d::r)else none
    |_=>none
   |_,_=>none
  |_=>none
def getD(ρ:List D)(i:Nat):D:=ρ.getD i .nil
def wp(E:Env)(h:FuncId->List D->D->Prop)(Q:Res1->Prop):Tree->List D->Prop
 |.fail,_=>False
 |.stop _ _,_=>False
 |.ret xs,ρ=>Q (.ret (xN (SV.ds (getD ρ) xs)))
 |.jump k xs,ρ=>Q (.jump k (SV.ds (getD ρ) xs))
 |.bind o xs r,ρ=>match o.eval E (SV.ds (getD ρ) xs)with
  |some d=>wp E h Q r (ρ++[d])
  |none=>False
 |.call x xs y r,ρ=>match qBN E x (SV.ds (getD ρ) xs)with
  |some (f,ds)=>∃d,h f ds d/\qEw y d=true/\wp E h Q r (ρ++[d])
  |none=>False
 |.callM f m xs r,ρ=>∃ds,h (Nat.add gM f) (.mode m::SV.ds (getD ρ) xs) (xN ds)/\ds.length=m.out.sts.length/\wp E h Q r (ρ++ds)
 |.ite c a b,ρ=>match c.d (getD ρ)with
  |.leaf (.bool true)=>wp E h Q a ρ
  |.leaf (.bool false)=>wp E h Q b ρ
  |_=>False
def qU7(E:Env)(x:FuncId->List D->D->Prop)(h:Nat->Tree):Nat->Nat->List D->D->Prop
 |0,_,_,_=>False
 |n+1,k,ρ,d=>wp E x (λr=>match r with|.ret d'=>d'=d|.jump k' ds=>qU7 E x h n k' ds d) (h k) ρ
def qX(E:Env)(x:FuncId->List D->D->Prop)(h:Nat->Tree)(k:Nat)(ρ:List D)(d:D):Prop:=∃n,qU7 E x h n k ρ d
end Go.Am
