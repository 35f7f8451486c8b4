/- What commands do, said without a bound on steps. Conditions: none. -/
import Derived.Test.YtminhjecpnpaeaaGreatDoorAm7
set_option linter.unusedVariables false
set_option linter.unusedSimpArgs false
namespace Go.Am
open Go
def vF (E:Env) (c:Code) (fr:Fr) (H:AH) (e:AExit) (fr':Fr) (H':AH):Prop:=H.next<=H'.next/\kI E c fr H e fr' H'
section
variable {E:Env} {H H1 H':AH} {fr fr1 fr':Fr} {e e':AExit}
theorem qCh {c1 c2:Code} (h1:vF E c1 fr H .normal fr1 H1) (h2:vF E c2 fr1 H1 e fr' H')
  {c:Code} (hreg:zT c=true->zT c1=true/\zT c2=true) (x:Item)
  (hs:∀ (b:Frame) (tmps:Array Value) (ds:List Deferred) (k:List Item) (cs:List Frame) (w:World),Steps E.prog (lone (Fm b tmps ds (lay c k)) cs w) (lone (Fm b tmps ds (.code c1::x::k)) cs w))
  (hs2:∀ (b:Frame) (tmps:Array Value) (ds:List Deferred) (k:List Item) (cs:List Frame) (w:World),Steps E.prog (lone (Fm b tmps ds (x::k)) cs w) (lone (Fm b tmps ds (lay c2 k)) cs w)) :
  vF E c fr H e fr' H':=by
 refine ⟨lT h1.1 h2.1,?_⟩
 intro hr0 σ w tmps n0 B0 hr hf hfree hn0 b ds k cs hk hro hds
 obtain ⟨r1,r2⟩:=hreg hr0
 have hup1:H.next<=H1.next:=h1.1
 have hup2:H1.next<=H'.next:=h2.1
 have hfree1:wZ σ H.next H1.next:=fun c q1 q2=>hfree c q1 (by omega)
 obtain ⟨σ1,w1,tmps1,ds1,s1,f1,rd1,d1,e1⟩:=h1.2.lay r1 tmps n0 B0 hr hf hfree1 hn0 b ds (x::k) cs hk hro hds
 obtain ⟨σ2,w2,tmps2,ds2,s2,f2,rd2,d2,e2⟩:=h2.2 r2 σ1 w1 tmps1 n0 B0 s1.hr f1 (hfree.split s1.ext s1.next) (lT hn0 s1.size) b ds1 k cs hk (by rw [rd1]; exact hro) d1
 have e1':Steps E.prog _ _:=e1
 exact ⟨σ2,w2,tmps2,ds2,s1.trans s2,f2,rd2.trans rd1,d2,.head ((hs b tmps ds k cs w).trans (e1'.trans (hs2 b tmps1 ds1 k cs w1))) e2⟩
theorem nG {c1:Code} (h1:vF E c1 fr H e fr' H')
  {c:Code} (hreg:zT c=true->zT c1=true) (xs:List Item)
  (hs:∀ (tmps:Array Value),(∀ σ:zZ,iH σ fr tmps->∀ (b:Frame) (ds:List Deferred) (k:List Item) (cs:List Frame) (w:World),HR E σ H w->Steps E.prog (lone (Fm b tmps ds (lay c k)) cs w) (lone (Fm b tmps ds (.code c1::xs++k)) cs w)))
  (hs2:∀ (m:Machine) (b:Frame) (tmps:Array Value) (ds:List Deferred) (k:List Item) (cs:List Frame) (w:World),pJ E.prog e m b tmps ds (xs++k) cs w->pJ E.prog e' m b tmps ds k cs w) :
  vF E c fr H e' fr' H':=by
 refine ⟨h1.1,?_⟩
 intro hr0 σ w tmps n0 B0 hr hf hfree hn0 b ds k cs hk hro hds
 obtain ⟨σ1,w1,tmps1,ds1,s1,f1,rd1,d1,e1⟩:=h1.2.lay (hreg hr0) tmps n0 B0 hr hf hfree hn0 b ds (xs++k) cs hk hro hds
 exact ⟨σ1,w1,tmps1,ds1,s1,f1,rd1,d1,hs2 _ _ _ _ _ _ _ (.head (hs tmps σ hf b ds k cs w hr) e1)⟩
theorem vF.skip:vF E .skip fr H .normal fr H:=⟨lR _,gD fun _ _ _ _ _ _=>.one qJe⟩
theorem vF.label {l:Nat}:vF E (.label l) fr H .normal fr H:=⟨lR _,gD fun _ _ _ _ _ _=>.one qF9⟩
theorem vF.ret:vF E .ret fr H .ret fr H:=⟨lR _,gD fun _ _ _ k _ _=>⟨k,Steps.refl _ _⟩⟩
theorem vF.exit {id:Nat}:vF E (.exit id) fr H (.exit id) fr H :=
 ⟨lR _,gD fun _ _ _ k _ _=>⟨fun _ hk=>.one (qJf hk),fun hn=>⟨k,hn,Steps.refl _ _⟩⟩⟩
theorem vF.seq {a b:Code} (h1:vF E a fr H .normal fr1 H1) (h2:vF E b fr1 H1 e fr' H'):vF E (.seq a b) fr H e fr' H' :=
 qCh h1 h2 (fun hr=>by simpa [zT] using hr) (.code b) (fun _ _ _ _ _ _=>.one tR) (fun _ _ _ _ _ _=>tK _ _ _ _ _ _ _ _)
theorem vF.seqOut {a b:Code} (h1:vF E a fr H e fr' H') (hn:e≠.normal):vF E (.seq a b) fr H e fr' H' :=
 nG h1 (fun hr=>by simp [zT] at hr; exact hr.1) [.code b] (fun _ _ _ _ _ _ _ _ _=>.one tR) (fun _ _ _ _ _ _ _ g=>g.weaken (fun _=>rfl) hn)
theorem vF.condT (he:EOk E) {c:Operand} {a b:Code} (hc:ev E fr c=some (.bool true)) (h1:vF E a fr H e fr' H'):vF E (.cond c a b) fr H e fr' H' :=
 nG h1 (fun hr=>by simp [zT] at hr; exact hr.1) [] (fun tmps _ hf _ _ _ _ _ hr=>.one (qAR (t:=true) (sT (oQ (a:=⟨tmps,[]⟩) he hr hf hc)))) (fun _ _ _ _ _ _ _ g=>g)
theorem vF.condF (he:EOk E) {c:Operand} {a b:Code} (hc:ev E fr c=some (.bool false)) (h1:vF E b fr H e fr' H'):vF E (.cond c a b) fr H e fr' H' :=
 nG h1 (fun hr=>by simp [zT] at hr; exact hr.2) [] (fun tmps _ hf _ _ _ _ _ hr=>.one (qAR (t:=false) (sT (oQ (a:=⟨tmps,[]⟩) he hr hf hc)))) (fun _ _ _ _ _ _ _ g=>g)
theorem vF.blockExit {id:Nat} {b:Code} (h1:vF E b fr H (.exit id) fr' H'):vF E (.block id b) fr H .normal fr' H' :=
 nG h1 (fun hr=>hr) [.inBlock id] (fun _ _ _ _ _ _ _ _ _=>.one dL) (fun _ _ _ _ k _ _ g=>g.1 k (by simp [exitTo]))
theorem vF.block {id:Nat} {b:Code} (h1:vF E b fr H e fr' H') (hn:e≠.exit id):vF E (.block id b) fr H e fr' H':=by
 refine nG h1 (fun hr=>hr) [.inBlock id] (fun _ _ _ _ _ _ _ _ _=>.one dL) (fun m b tmps ds k cs w g=>?_)
 cases e with
 | normal =>
  have g':Steps E.prog _ _:=g
  exact g'.trans (.one qB0)
 | exit id' =>
  refine g.weaken2 (fun id2 e2=>?_) (by simp)
  cases e2
  have:(id == id')=false:=by simpa using fun hh=>hn (by rw [hh])
  simp [exitTo,this]
 | ret=>exact g
theorem vF.loop {b:Code} (h1:vF E b fr H .normal fr1 H1) (h2:vF E (.loop b) fr1 H1 e fr' H'):vF E (.loop b) fr H e fr' H' :=
 qCh h1 h2 (fun hr=>⟨hr,hr⟩) (.inLoop b) (fun _ _ _ _ _ _=>Steps.refl _ _) (fun _ _ _ _ _ _=>.one qDA)
theorem vF.loopOut {b:Code} (h1:vF E b fr H e fr' H') (hn:e≠.normal):vF E (.loop b) fr H e fr' H' :=
 nG h1 (fun hr=>hr) [.inLoop b] (fun _ _ _ _ _ _ _ _ _=>Steps.refl _ _) (fun _ _ _ _ _ _ _ g=>g.weaken (fun _=>rfl) hn)
theorem vF.scope {b:Code} (h1:vF E b fr H e fr' H'):vF E (.scope b) fr H e fr' H':=by
 refine nG h1 (fun hr=>hr) [.inScope b] (fun _ _ _ _ _ _ _ _ _=>.one qF8) (fun m b2 tmps ds k cs w g=>?_)
 by_cases hn:e=.normal
 ·subst hn
  have g':Steps E.prog _ _:=g
  exact g'.trans (.one qBZ)
 exact g.weaken (fun _=>rfl) hn
structure jI where
 f:FuncId
 args:List Value
 H:AH
 v:Value
 H':AH
 rnd:Bool:=false
def jI.cmd (a:jI):Cmd:=match a.rnd with
 | false=>.call a.f a.args
 | true=>.round a.f a.args
def jI.ok (E:Env) (a:jI):Prop:=a.H.next < a.H'.next/\match a.rnd with
 | false=>xB E a.f a.args a.H a.v a.H'
 | true=>wK E a.f a.args a.H a.v a.H'
def oC (E:Env):Nat->List jI->Prop
 | _,[]=>True
 | n,a::l=>a.ok E/\n<=a.H.next/\oC E a.H'.next l
theorem oC.mono:∀ {n m:Nat} {l:List jI},m<=n->oC E n l->oC E m l
 | _,_,[],_,_=>trivial
 | _,_,_::_,h,⟨h1,h2,h3⟩=>⟨h1,lT h h2,h3⟩
theorem oC.later:∀ {n:Nat} {l:List jI},oC E n l->∀ a∈l,n<=a.H.next/\a.ok E
 | _,[],_,_,h=>by cases h
 | n,b::l,⟨h1,h2,h3⟩,a,h=>by
  rcases List.mem_cons.1 h with rfl | h
  ·exact ⟨h2,h1⟩
  have:=oC.later h3 a h
  exact ⟨lT h2 (lT (Nat.le_of_lt h1.1) this.1),this.2⟩
open Classical in
noncomputable def qNf:List jI->Cmd->AH->j8
 | [],_,_=>none
 | a::l,cmd,H=>if cmd=a.cmd/\H=a.H then some (.val a.v,a.H') else qNf l cmd H
theorem qBJ:∀ {n:Nat} {l:List jI},oC E n l->∀ a∈l,qNf l a.cmd a.H=some (.val a.v,a.H')
 | _,[],_,_,h=>by cases h
 | n,b::l,⟨h1,h2,h3⟩,a,h=>by
  rcases List.mem_cons.1 h with rfl | h
  ·simp [qNf]
  have:=oC.later h3 a h
  have hb:b.H.next < b.H'.next:=h1.1
  rw [qNf,if_neg,qBJ h3 a h]
  rintro ⟨_,e⟩
  have:b.H'.next<=b.H.next:=by rw [← e]; exact this.1
  omega
theorem eE:∀ {l:List jI} {cmd:Cmd} {H:AH} {r:Out × AH},qNf l cmd H=some r->∃ a∈l,cmd=a.cmd/\H=a.H/\r=(.val a.v,a.H')
 | [],_,_,_,h=>by cases h
 | a::l,cmd,H,r,h=>by
  rw [qNf] at h
  split at h
  ·rename_i hh
   cases h
   exact ⟨a,List.mem_cons_self,hh.1,hh.2,rfl⟩
  obtain ⟨b,h1,h2⟩:=eE h
  exact ⟨b,mC _ h1,h2⟩
theorem jI.cmd_call {a:jI} {f:FuncId} {args:List Value} (h : .call f args=a.cmd):a.rnd=false/\f=a.f/\args=a.args:=by
 unfold jI.cmd at h
 split at h
 ·rename_i hr; cases h; exact ⟨hr,rfl,rfl⟩
 cases h
theorem jI.cmd_round {a:jI} {f:FuncId} {args:List Value} (h : .round f args=a.cmd):a.rnd=true/\f=a.f/\args=a.args:=by
 unfold jI.cmd at h
 split at h
 ·cases h
 rename_i hr; cases h; exact ⟨hr,rfl,rfl⟩
theorem jI.cmd_code {a:jI} {c:Code} {fr:Fr} (h : .code c fr=a.cmd):False:=by
 unfold jI.cmd at h
 split at h <;> cases h
theorem qNe {n:Nat} {l:List jI} (h:oC E n l):IhOK E (qNf l) where
 up cmd H out H' hh:=by
  obtain ⟨a,h1,_,rfl,h4⟩:=eE hh
  cases h4
  exact Nat.le_of_lt (h.later a h1).2.1
 call f args H v H' hh:=by
  obtain ⟨a,h1,h2,rfl,h4⟩:=eE hh
  obtain ⟨r1,rfl,rfl⟩:=jI.cmd_call h2
  cases h4
  have:=(h.later a h1).2.2
  rw [r1] at this
  exact this
 round l args H v H' hh:=by
  obtain ⟨a,h1,h2,rfl,h4⟩:=eE hh
  obtain ⟨r1,rfl,rfl⟩:=jI.cmd_round h2
  cases h4
  have:=(h.later a h1).2.2
  rw [r1] at this
  exact this
 code c fr H e fr' H' hh:=by
  obtain ⟨a,h1,h2,_⟩:=eE hh
  exact (jI.cmd_code h2).elim
 codev c fr H v H' hh:=by
  obtain ⟨a,h1,h2,_⟩:=eE hh
  exact (jI.cmd_code h2).elim
def qIp (l:List jI) (ih:Cmd->AH->j8):Prop:=∀ a∈l,ih a.cmd a.H=some (.val a.v,a.H')
def qGS (all:List Oper) (i:Nat) (ts:List (Nat × Nat)):Prop:=∀ p∈ts,i<=p.1/\∀ k,k < p.1->gY (yE all) p.1 k=true
theorem qGS.hid {all:List Oper} {i:Nat}:∀ {ts:List (Nat × Nat)},qGS all (i+1) ts->qP all i ts=[]
 | [],_=>rfl
 | p::ts,h=>by
  have h1:=(h p List.mem_cons_self).2 i (h p List.mem_cons_self).1
  obtain ⟨j,b⟩:=p
  have h1:gY (yE all) j i=true:=h1
  rw [qP,h1,Bool.or_true,cond_true]
  exact qGS.hid fun q hq=>h q (mC _ hq)
theorem qGS.less {all:List Oper} {i:Nat} {ts:List (Nat × Nat)} (h:qGS all (i+1) ts):qGS all i ts:=fun p hp=>⟨Nat.le_of_succ_le (h p hp).1,(h p hp).2⟩
theorem qDa {E:Env} {ih:Cmd->AH->j8} {all:Array Oper} {ts:List (Nat × Nat)}:∀ (os:List Oper) (i:Nat) (fr:Fr) (H:AH),zK E ih all false ts os i fr H=zK E ih all false [] os i fr H
 | [],_,_,_=>rfl
 | o::os,i,fr,H=>by simp only [zK,cond_false,qDa os]
def mX (E:Env) (all:Array Oper) (draw:Bool) (os:List Oper) (i:Nat) (fr:Fr) (H:AH) (fr':Fr) (H':AH):Prop :=
 H.next<=H'.next/\∃ l,oC E H.next l/\(∀ a∈l,a.H'.next<=H'.next)/\∃ ts,qGS all.toList i ts/\∀ ih,qIp l ih->zK E ih all draw ts os i fr H=some (fr',H')
theorem vF.region (he:EOk E) {id:Nat} {ops:Array Oper} {draw:Bool} (h:mX E ops draw ops.toList 0 fr H fr' H'):vF E (.region id ops draw) fr H .normal fr' H':=by
 obtain ⟨hn,l,h1,_,ts,_,h3⟩:=h
 refine ⟨hn,?_⟩
 have hrun:=h3 (qNf l) (fun a ha=>qBJ h1 a ha)
 have io:=qNe h1
 intro hr0 σ w tmps n0 B0 hr hf hfree hn0 b ds k cs hk hro hds
 obtain ⟨σ',w',tmps',g1,g2,g3⟩:=l9 he io.call io.round io.up (id:=id) (fun hd=>by simpa [zT,hd] using hr0) b ds k cs hk hro hrun hr hf hfree
 exact ⟨σ',w',tmps',ds,g1,g2,oF hrun,hds.step hr g1,g3⟩
open Classical in
theorem vF.call (he:EOk E) {f:FuncId} {args:List Value} {fn:Func} {c:Code} {v:Value} (hf:E.funcs.get f=some fn) (hb:fn.body=some c)
  (h:vF E c ⟨Nat.max fn.ntmps args.length,false,T.ofList .leaf 0 args⟩ H e fr' H') (he':e=.normal∨e=.ret)
  (hres:(match vL E fr' H' fn.results.toList with | some [v]=>some v | some vs=>some (.tuple ⟨vs⟩) | none=>none)=some v):xB E f args H v H':=by
 let fr0:Fr:=⟨Nat.max fn.ntmps args.length,false,T.ofList .leaf 0 args⟩
 let ih:Cmd->AH->j8:=fun cmd H2=>if cmd=.code c fr0/\H2=H then some (.ex e fr',H') else none
 have inv:∀ {cmd:Cmd} {H2:AH} {r:Out × AH},ih cmd H2=some r->cmd=.code c fr0/\H2=H/\r=(.ex e fr',H'):=by
  intro cmd H2 r hh
  simp only [ih] at hh
  split at hh
  ·rename_i hc; cases hh; exact ⟨hc.1,hc.2,rfl⟩
  cases hh
 have io:IhOK E ih:=by
  refine { up:=?_,call:=?_,round:=?_,code:=?_,codev:=?_ }
  ·intro cmd H2 out H3 hh
   obtain ⟨_,h2,h3⟩:=inv hh
   cases h3
   rw [h2]
   exact h.1
  ·intro f args H v H' hh; cases (inv hh).1
  ·intro f args H v H' hh; cases (inv hh).1
  ·intro c2 fr2 H2 e2 fr3 H3 hh
   obtain ⟨h1,rfl,h3⟩:=inv hh
   cases h1; cases h3
   exact h.2
  intro c2 fr2 H2 v2 H3 hh
  have:=(inv hh).2.2
  cases this
 have hrun:body E ih (.call f args) H=some (.val v,H'):=by
  have hi:ih (.code c fr0) H=some (.ex e fr',H'):=by simp [ih]
  simp only [body,hf,hb]
  have hi':ih (.code c ⟨Nat.max fn.ntmps args.length,false,T.ofList .leaf 0 args⟩) H=some (.ex e fr',H'):=hi
  rw [hi']
  rcases he' with rfl | rfl
  all_goals
   simp only
   split at hres
   ·rename_i v1 hv; cases hres; simp only [hv]
   ·rename_i vs h1 hv
    cases hres
    simp only [hv]
   cases hres
 exact (qJL he io).call _ _ _ _ _ hrun
end
end Go.Am
namespace Go.Am
open Go
inductive SV where
 | v (i:Nat)
 | c (x:Value)
 | loc (b off:Nat)
 | ptr (s i:SV) (sz off:Nat)
 | pp (i off:Nat)
 | agg (cs:List SV)
 | tup (cs:List SV)
 | fn (f:Fn) (first cap:List SV)
 | ifc (t:TypeId) (x:SV)
 | yld (b:Nat)
instance:Inhabited SV:=⟨.v 0⟩
inductive VK where
 | pure
 | full
 | fresh
 | dead
 | ptr
structure VSt where
 k:VK
 one:Bool
inductive Blk where
 | cells (cs:List SV)
 | whole (x:SV) (n:Nat)
 | loop (st pd:Nat)
 | tcells (t:TypeId) (cs:List SV)
structure Pat where
 sts:List VSt
 slots:List (Nat × SV)
 blks:List (Option Blk)
 sav:List (List (Nat × SV)):=[]
structure Mode where
 inp:Pat
 n:Nat
 out:Pat
inductive D where
 | leaf (v:Value)
 | agg (cs:List D)
 | nil
 | sl (el:TypeId) (sz:Nat) (es:List D)
 | tup (cs:List D)
 | ptr (cs:List D) (off:Nat)
 | clo (fn:Fn) (first cap:List D)
 | iface (t:TypeId) (d:D)
 | mode (m:Mode)
 | mp (ks:List Value) (ds:List D)
instance:Inhabited D:=⟨.nil⟩
def D.cells:D->List D
 | .agg cs=>cs
 | d=>[d]
def D.one:D->Bool
 | .agg _ | .tup _=>false
 | _=>true
def D.es:D->List D
 | .sl _ _ es=>es
 | _=>[]
def D.szD:D->Nat
 | .sl _ sz _=>sz
 | _=>0
def gC:Value->Bool
 | .bool _ | .int _ _ | .float _ _ | .complex _ _ _ | .string _=>true
 | .pointer a=>a.isNone
 | .map r=>r.isNone
 | .nilFunc | .nilIface=>true
 | _=>false
abbrev zG:=Nat->Option ABlk
mutual
inductive DR (g:zG):D->Value->Prop
 | leaf {v:Value} (h:gC v=true):DR g (.leaf v) v
 | agg {cs:List D} {vs:List Value} (h:DRs g cs vs) (o:vs.all qQ=true):DR g (.agg cs) (.agg ⟨vs⟩)
 | tup {cs:List D} {vs:List Value} (h:DRs g cs vs):DR g (.tup cs) (.tuple ⟨vs⟩)
 | nil:DR g .nil (.slice none 0 0)
 | sl {el:TypeId} {es:List D} {b o l c sz rt:Nat} {cs vs:List Value} {own:Bool} (hb:g b=some ⟨.cells cs el,rt,own⟩) (ht:take? (cs.drop o) (l * sz)=some vs)
   (hv:DRs g (es.flatMap D.cells) vs) (hl:es.length=l) (hs:∀ e∈es,e.cells.length=sz) (hc:l<=c) (hx:l < z8) (ho:vs.all qQ=true):DR g (.sl el sz es) (.slice (some ⟨b,o,none⟩) l c)
 | ptr {cs:List D} {off b rt:Nat} {vs:List Value} {el:TypeId} {own:Bool} (hb:g b=some ⟨.cells vs el,rt,own⟩) (hv:DRs g cs vs) (ho:vs.all qQ=true):DR g (.ptr cs off) (.pointer (some ⟨b,off,none⟩))
 | clo {fn:Fn} {first cap:List D} {f c:List Value} (hp:pA fn=true) (hf:DRs g first f) (hc:DRs g cap c):DR g (.clo fn first cap) (.func fn ⟨f⟩ ⟨c⟩)
 | iface {t:TypeId} {d:D} {v:Value} (h:DR g d v):DR g (.iface t d) (.iface t v)
 | mp {ks:List Value} {ds:List D} {r rt clock:Nat} {es:List MapEntry} {own:Bool} (hb:g r=some ⟨.map es clock,rt,own⟩) (hk:es.map (·.key)=ks) (hv:DRs g ds (es.map (·.val))):DR g (.mp ks ds) (.map (some r))
inductive DRs (g:zG):List D->List Value->Prop
 | nil:DRs g [] []
 | cons {d:D} {v:Value} {ds:List D} {vs:List Value} (h:DR g d v) (hs:DRs g ds vs):DRs g (d::ds) (v::vs)
end
def zG.le (g g':zG):Prop:=∀ b k,g b=some k->g' b=some k
theorem zG.le_refl (g:zG):zG.le g g:=fun _ _ h=>h
theorem zG.le_trans {g g' g'':zG} (h:zG.le g g') (h':zG.le g' g''):zG.le g g'':=fun b k e=>h' b k (h b k e)
mutual
theorem DR.mono {g g':zG} (hg:zG.le g g'):∀ {d:D} {v:Value},DR g d v->DR g' d v
 | _,_,.leaf h=>.leaf h
 | _,_,.agg h o=>.agg (DRs.mono hg h) o
 | _,_,.tup h=>.tup (DRs.mono hg h)
 | _,_,.nil=>.nil
 | _,_,.sl hb ht hv hl hs hc hx ho=>.sl (hg _ _ hb) ht (DRs.mono hg hv) hl hs hc hx ho
 | _,_,.ptr hb hv ho=>.ptr (hg _ _ hb) (DRs.mono hg hv) ho
 | _,_,.clo hp hf hc=>.clo hp (DRs.mono hg hf) (DRs.mono hg hc)
 | _,_,.iface h=>.iface (DR.mono hg h)
 | _,_,.mp hb hk hv=>.mp (hg _ _ hb) hk (DRs.mono hg hv)
theorem DRs.mono {g g':zG} (hg:zG.le g g'):∀ {ds:List D} {vs:List Value},DRs g ds vs->DRs g' ds vs
 | _,_,.nil=>.nil
 | _,_,.cons h hs=>.cons (DR.mono hg h) (DRs.mono hg hs)
end
section
variable {g g':zG}
theorem DR.one {d:D} {v:Value} (h:DR g d v):qQ v=d.one:=by
 cases h <;> try rfl
 rename_i h; cases v <;> first | rfl | (simp [gC] at h)
theorem DRs.length:∀ {ds:List D} {vs:List Value},DRs g ds vs->vs.length=ds.length
 | _,_,.nil=>rfl
 | _,_,.cons _ hs=>by simp [DRs.length hs]
theorem DRs.append:∀ {a b:List D} {x y:List Value},DRs g a x->DRs g b y->DRs g (a++b) (x++y)
 | _,_,_,_,.nil,h=>h
 | _,_,_,_,.cons h hs,h'=>.cons h (DRs.append hs h')
theorem DRs.get:∀ {ds:List D} {vs:List Value},DRs g ds vs->∀ (i:Nat) (d:D),ds[i]? = some d->∃ v,vs[i]? = some v/\DR g d v
 | _,_,.nil,i,d,h=>by simp at h
 | _,_,.cons h hs,0,d,e=>by simp at e; subst e; exact ⟨_,rfl,h⟩
 | _,_,.cons h hs,i+1,d,e=>by simp at e; simpa using DRs.get hs i d e
theorem DRs.split:∀ {a b:List D} {vs:List Value},DRs g (a++b) vs->∃ x y,vs=x++y/\DRs g a x/\DRs g b y
 | [],b,vs,h=>⟨[],vs,rfl,.nil,h⟩
 | d::a,b,_,.cons h hs=>by
  obtain ⟨x,y,rfl,h1,h2⟩:=DRs.split (a:=a) hs
  exact ⟨_::x,y,rfl,.cons h h1,h2⟩
theorem DRs.drop:∀ (n:Nat) {ds:List D} {vs:List Value},DRs g ds vs->DRs g (ds.drop n) (vs.drop n)
 | 0,_,_,h=>h
 | _+1,_,_,.nil=>.nil
 | n+1,_,_,.cons _ hs=>DRs.drop n hs
theorem DRs.take:∀ (n:Nat) {ds:List D} {vs:List Value},DRs g ds vs->DRs g (ds.take n) (vs.take n)
 | 0,_,_,_=>.nil
 | _+1,_,_,.nil=>.nil
 | n+1,_,_,.cons h hs=>.cons h (DRs.take n hs)
theorem DRs.all_one {ds:List D} {vs:List Value} (h:DRs g ds vs):vs.all qQ=ds.all D.one:=by
 induction ds generalizing vs with
 | nil=>cases h; rfl
 | cons d ds ih=>cases h with
  | cons h hs=>simp [DR.one h,ih hs]
theorem DR.cells {d:D} {v:Value} (h:DR g d v):DRs g d.cells v.cells.toList:=by
 cases h with
 | agg h o=>exact h
 | leaf h =>
  cases v <;> first | exact .cons (.leaf h) .nil | (simp [gC] at h)
 | tup h=>exact .cons (.tup h) .nil
 | nil=>exact .cons .nil .nil
 | sl hb ht hv hl hs hc hx ho=>exact .cons (.sl hb ht hv hl hs hc hx ho) .nil
 | ptr hb hv ho=>exact .cons (.ptr hb hv ho) .nil
 | clo hp hf hc=>exact .cons (.clo hp hf hc) .nil
 | iface h=>exact .cons (.iface h) .nil
 | mp hb hk hv=>exact .cons (.mp hb hk hv) .nil
theorem DR.leaf_inv {x v:Value} (h:DR g (.leaf x) v):v=x/\gC x=true:=by
 cases h; exact ⟨rfl,by assumption⟩
theorem lC:∀ {l:List Value} {n:Nat} {r:List Value},take? l n=some r->r=l.take n/\n<=l.length
 | _,0,r,h=>by
  simp only [take?,oI] at h; subst h; simp
 | [],n+1,r,h=>by simp [take?] at h
 | x::l,n+1,r,h=>by
  simp only [take?,Option.map_eq_some_iff] at h
  obtain ⟨r',h1,rfl⟩:=h
  obtain ⟨rfl,h2⟩:=lC h1
  exact ⟨by simp,by simpa using h2⟩
theorem gH:∀ {l:List Value} {n:Nat},n<=l.length->take? l n=some (l.take n)
 | _,0,_=>by simp [take?]
 | [],n+1,h=>by simp at h
 | x::l,n+1,h=>by
  simp only [take?]
  rw [gH (show n<=l.length by simpa using h)]
  simp
theorem mJ:∀ {es:List D} {sz:Nat},(∀ e∈es,e.cells.length=sz)->(es.flatMap D.cells).length=es.length * sz
 | [],sz,_=>by simp
 | e::es,sz,h=>by
  have:=mJ (es:=es) fun x hx=>h x (mC _ hx)
  simp only [List.flatMap_cons,List.length_append,this,h e List.mem_cons_self,List.length_cons]
  rw [Nat.add_mul]; omega
theorem rH:∀ {es:List D} {sz:Nat},(∀ e∈es,e.cells.length=sz)->∀ i,(es.flatMap D.cells).drop (i * sz)=(es.drop i).flatMap D.cells
 | _,_,_,0=>by simp
 | [],_,_,i+1=>by simp
 | e::es,sz,h,i+1=>by
  have:=rH (es:=es) (fun x hx=>h x (mC _ hx)) i
  simp only [List.flatMap_cons,List.drop_succ_cons]
  rw [← this]
  have he:=h e List.mem_cons_self
  rw [show (i+1) * sz=e.cells.length+i * sz by rw [Nat.add_mul,he]; omega,← List.drop_drop]
  simp
theorem tT:∀ {es:List D} {sz:Nat},(∀ e∈es,e.cells.length=sz)->∀ i,(es.flatMap D.cells).take (i * sz)=(es.take i).flatMap D.cells
 | _,_,_,0=>by simp
 | [],_,_,i+1=>by simp
 | e::es,sz,h,i+1=>by
  have:=tT (es:=es) (fun x hx=>h x (mC _ hx)) i
  simp only [List.flatMap_cons,List.take_succ_cons]
  rw [← this]
  have he:=h e List.mem_cons_self
  rw [show (i+1) * sz=e.cells.length+i * sz by rw [Nat.add_mul,he]; omega,List.take_append]
  simp [List.take_of_length_le]
theorem qP6 {es:List D} {sz:Nat} (h:∀ e∈es,e.cells.length=sz) {i:Nat} {e:D} (hi:es[i]? = some e):((es.flatMap D.cells).drop (i * sz)).take sz=e.cells:=by
 obtain ⟨h1,rfl⟩:=gI hi
 rw [rH h,List.drop_eq_getElem_cons h1,List.flatMap_cons,List.take_append]
 have:=h _ (List.getElem_mem h1)
 rw [this]
 simp [List.take_of_length_le (Nat.le_of_eq this)]
theorem qC8 {l:List Value} {n:Nat} {vs:List Value} (h:take? l n=some vs) {i k:Nat} (hik:i+k<=n):take? (l.drop i) k=some ((vs.drop i).take k):=by
 obtain ⟨rfl,h2⟩:=lC h
 rw [gH (by simp; omega)]
 congr 1
 rw [List.drop_take,List.take_take,Nat.min_eq_left (by omega)]
def Whole (ag:Bool) (size:Nat) (d:D):Prop:=if ag then ∃ cs,d=.agg cs/\cs.length=size else d.one=true/\size=1
theorem qTP {a b c:Nat} (h:a < b):a * c+c<=b * c:=by
 have:(a+1) * c<=b * c:=Nat.mul_le_mul_right c h
 rw [Nat.add_mul] at this; omega
end
end Go.Am
namespace Go.Am
open Go
def T.map {α β:Type} (f:α->β):T α->T β
 | .leaf=>.leaf
 | .node v l r=>.node (match v with | some x=>some (f x) | none=>none) (l.map f) (r.map f)
def s9:Nat->Value->D
 | 0,v=>match v with
  | .slice none _ _=>.nil
  | v=>.leaf v
 | n+1,v=>match v with
  | .slice none _ _=>.nil
  | .agg cs=>.agg (cs.toList.map (s9 n))
  | .tuple cs=>.tup (cs.toList.map (s9 n))
  | .iface t v=>.iface t (s9 n v)
  | v=>.leaf v
abbrev qKo:Value->D:=s9 6
def qBq (s i:Value) (sz off:Nat):Value:=match s,i with
 | .slice (some ⟨b,o,none⟩) _ _,.int _ (.ofNat n)=>.pointer (some ⟨b,o+n * sz+off,none⟩)
 | _,_=>.pointer (some ⟨0,off,none⟩)
def qPb (p:Value) (off:Nat):Value:=match p with
 | .pointer (some ⟨b,o,none⟩)=>.pointer (some ⟨b,o+off,none⟩)
 | _=>.pointer (some ⟨0,off,none⟩)
def qYm (p:D) (off:Nat):D:=match p with
 | .ptr cs o=>.ptr cs (o+off)
 | d=>d
mutual
def SV.val (ve:Nat->Value) (lb:Nat->Nat):SV->Value
 | .v i=>ve i
 | .c x=>x
 | .loc b off=>.pointer (some ⟨lb b,off,none⟩)
 | .ptr s i sz off=>qBq (s.val ve lb) (i.val ve lb) sz off
 | .pp i off=>qPb (ve i) off
 | .agg cs=>.agg ⟨SV.vals ve lb cs⟩
 | .tup cs=>.tuple ⟨SV.vals ve lb cs⟩
 | .fn f a b=>.func f ⟨SV.vals ve lb a⟩ ⟨SV.vals ve lb b⟩
 | .ifc t x=>.iface t (x.val ve lb)
 | .yld b=>.func (.yield (lb b)) #[] #[]
def SV.vals (ve:Nat->Value) (lb:Nat->Nat):List SV->List Value
 | []=>[]
 | x::xs=>x.val ve lb::SV.vals ve lb xs
end
mutual
def SV.d (ρ:Nat->D):SV->D
 | .v i=>ρ i
 | .c x=>qKo x
 | .loc _ _=>.nil
 | .ptr _ _ _ _=>.nil
 | .pp i off=>qYm (ρ i) off
 | .agg cs=>.agg (SV.ds ρ cs)
 | .tup cs=>.tup (SV.ds ρ cs)
 | .fn f a b=>.clo f (SV.ds ρ a) (SV.ds ρ b)
 | .ifc t x=>.iface t (x.d ρ)
 | .yld _=>.nil
def SV.ds (ρ:Nat->D):List SV->List D
 | []=>[]
 | x::xs=>x.d ρ::SV.ds ρ xs
end
inductive TOp where
 | bin (op:BinOp) (t:TypeId) (x y:Operand)
 | isNil (neg:Bool)
 | un (op:UnOp) (t:TypeId)
 | conv (s d:TypeId)
 | chk (ag:Bool) (size:Nat)
 | fld (ag:Bool) (size off:Nat)
 | inr
 | elem (sz:Nat) (ag:Bool) (size off:Nat)
 | len (str:Bool)
 | slc (el sz:Nat) (lo hi:Bool)
 | sub (lo hi:Bool)
 | chr
 | ext (i:Nat)
 | app (el sz bytes:Nat)
 | apps (el bytes:Nat)
 | bld (el:Nat)
 | lit (el sz:Nat)
 | loadp (ag:Bool) (size:Nat)
 | box
 | boxw
 | nn
 | pchk
 | mk (el sz bytes:Nat) (ag:Bool) (z:List Value)
 | set (sz:Nat) (ag:Bool) (size off:Nat)
 | bstr
 | slc0 (el sz:Nat)
 | byt (el:Nat)
 | mm (mx:Bool)
 | lib (F:List D->Option D)
 | mnew
 | mget (t:TypeId) (ok:Bool)
 | mset (t:TypeId)
 | mdel (t:TypeId)
 | mlen
 | nok
 | nch
 | nnx
mutual
def D.toV:D->Option Value
 | .leaf v=>some v
 | .agg cs=>(D.toVs cs).map fun l=>.agg ⟨l⟩
 | .nil=>some (.slice none 0 0)
 | _=>none
def D.toVs:List D->Option (List Value)
 | []=>some []
 | d::ds=>match d.toV,D.toVs ds with
  | some v,some vs=>some (v::vs)
  | _,_=>none
end
def lL (ag:Bool) (size off:Nat) (cs:List D):Option D :=
 bif ag then (bif Nat.ble (off+size) cs.length then some (.agg ((cs.drop off).take size)) else none)
 else match cs[off]? with
  | some d=>bif d.one then some d else none
  | none=>none
def eT (ag:Bool) (size:Nat) (d:D):Option D :=
 bif ag then (match d with | .agg cs=>bif Nat.beq cs.length size then some d else none | _=>none)
 else bif d.one && Nat.beq size 1 then some d else none
def qAx:D->Option Nat
 | .leaf (.int _ (.ofNat n))=>some n
 | _=>none
def lX (d i:D):Option D:=match qAx i with
 | some n=>d.es[n]?
 | none=>none
def fC (v:Option Value):Option D:=match v with
 | some v=>bif gC v then some (.leaf v) else none
 | none=>none
def qJB (E:Env) (s d:TypeId) (v:Value):Option Value:=match v with
 | .string b=>match E.types.get s,E.types.get d with
  | some { desc:=.string,.. },some { desc:=.slice _,.. }=>none
  | _,_=>flat? (qW E.prog (Go.convert s d (.string b)))
 | .pointer _=>none
 | v=>bif zP v then flat? (qW E.prog (Go.convert s d v)) else none
def jN (b:Bool) (d:Nat):List D->Option (Nat × List D)
 | l=>bif b then (match l with
  | x::r=>(qAx x).map fun n=>(n,r)
  | []=>none) else some (d,l)
def pY:D->Option Nat
 | .leaf (.string s)=>some s.size
 | .sl _ _ es=>some es.length
 | .nil=>some 0
 | _=>none
def zD (ag:Bool) (z:List Value):D:=bif ag then .agg (z.map qKo) else match z with
 | v::_=>qKo v
 | []=>.nil
def qCM (cs:List D) (off:Nat) (xs:List D):List D:=cs.take off++(xs++cs.drop (off+xs.length))
def qCN (e:D) (off:Nat) (xs:List D):D:=match e with
 | .agg cs=>.agg (qCM cs off xs)
 | _=>match xs with
  | [x]=>x
  | _=>e
def pT:List D->Option (List UInt8)
 | []=>some []
 | .leaf (.int .u8 b)::r=>(pT r).map (UInt8.ofNat b.toNat :: ·)
 | _=>none
def qSH (mx:Bool):Value->Value->Option Value
 | .int k x,.int _ y=>some (.int k (bif mx then (if x < y then y else x) else (if y < x then y else x)))
 | _,_=>none
def qXy (el:Nat):D->Bool
 | .nil=>true
 | .sl jA sz' es=>Nat.beq jA el && Nat.beq sz' 1 && Nat.ble 1 es.length
 | _=>false
def qCu:TypeDesc->Bool
 | .int _ | .string | .bool=>true
 | _=>false
def aR (kd:TypeDesc) (k:Value):List Value->Nat->Option (Option Nat)
 | [],_=>some none
 | x::r,i=>match Instr.sameNow kd k x with
  | some true=>some (some i)
  | some false=>aR kd k r (i+1)
  | none=>none
def qKx (E:Env) (t:TypeId):Option (TypeDesc × Bool × List Value):=match E.types.get t with
 | some { desc:=.map kt et,.. }=>match qW E.prog (underlying kt),E.types.get et with
  | some kd,some { zero:=some z,agg:=ag,.. }=>bif qCu kd then some (kd,ag,z) else none
  | _,_=>none
 | _=>none
def qFT:D->Option (List Value × List D)
 | .mp ks ds=>some (ks,ds)
 | .leaf (.map none)=>some ([],[])
 | _=>none
def qIZ (E:Env) (t:TypeId) (ok:Bool) (m k:D):Option D:=match qKx E t,qFT m,k with
 | some (kd,ag,z),some (ks,ds),.leaf kv=>match aR kd kv ks 0 with
  | some (some i)=>(ds[i]?).map fun d=>bif ok then .tup [d,.leaf (.bool true)] else d
  | some none=>match nP ag z with
   | some v=>bif zP v then some (bif ok then .tup [qKo v,.leaf (.bool false)] else qKo v) else none
   | none=>none
  | none=>none
 | _,_,_=>none
def qIY (E:Env) (t:TypeId) (m k x:D):Option D:=match qKx E t,m,k with
 | some (kd,_,_),.mp ks ds,.leaf kv=>match aR kd kv ks 0 with
  | some (some i)=>some (.mp (ks.set i kv) (ds.set i x))
  | some none=>some (.mp (ks++[kv]) (ds++[x]))
  | none=>none
 | _,_,_=>none
def qWE (E:Env) (t:TypeId) (m k:D):Option D:=match qKx E t,m,k with
 | some (kd,_,_),.mp ks ds,.leaf kv=>match aR kd kv ks 0 with
  | some (some i)=>some (.mp (ks.eraseIdx i) (ds.eraseIdx i))
  | some none=>some (.mp ks ds)
  | none=>none
 | _,_,_=>none
def qOq (F:ByteArray->Nat->Value):D->D->Option D
 | .leaf (.string s),.leaf (.int .i64 (.ofNat n))=>some (.leaf (F s n))
 | _,_=>none
def TOp.eval (E:Env):TOp->List D->Option D
 | .mm mx,[.leaf u,.leaf v]=>fC (qSH mx u v)
 | .bin op t x y,[a,b]=>match a.toV,b.toV with
  | some u,some v=>fC (rG E op t x y u v)
  | _,_=>none
 | .isNil neg,[d]=>match d with
  | .nil=>some (.leaf (.bool !neg))
  | .sl _ _ _=>some (.leaf (.bool neg))
  | _=>none
 | .un op _,[.leaf v]=>bif zP v then fC (flat? (qW E.prog (Op.unary op v))) else none
 | .conv s d,[.leaf v]=>fC (qJB E s d v)
 | .chk ag size,[d]=>eT ag size d
 | .fld ag size off,[d]=>lL ag size off d.cells
 | .inr,[d,i]=>(lX d i).map fun _=>.leaf (.bool true)
 | .elem sz ag size off,[d,i]=>match lX d i with
  | some e=>bif Nat.beq d.szD sz && Nat.ble (off+(bif ag then size else 1)) sz then (bif ag && Nat.beq off 0 && Nat.beq size sz then eT true size e else lL ag size off e.cells) else none
  | none=>none
 | .len str,[d]=>match str,d with
  | true,.leaf (.string s)=>some (.leaf (goInt s.size))
  | false,.sl _ _ es=>some (.leaf (goInt es.length))
  | false,.nil=>some (.leaf (goInt 0))
  | _,_=>none
 | .slc el sz lo hi,d::r=>match d with
  | .sl jA sz' es=>match jN lo 0 r with
   | some (l,r)=>match jN hi es.length r with
    | some (h,[])=>bif Nat.beq jA el && Nat.beq sz' sz && Nat.ble l h && Nat.ble h es.length then some (.sl el sz ((es.drop l).take (h - l))) else none
    | _=>none
   | none=>none
  | .nil=>match jN lo 0 r with
   | some (0,r)=>match jN hi 0 r with
    | some (0,[])=>some .nil
    | _=>none
   | _=>none
  | _=>none
 | .sub lo hi,.leaf (.string s)::r=>match jN lo 0 r with
  | some (l,r)=>match jN hi s.size r with
   | some (h,[])=>bif Nat.ble l h && Nat.ble h s.size then some (.leaf (.string (s.extract l h))) else none
   | _=>none
  | none=>none
 | .chr,[.leaf (.string s),i]=>match qAx i with
  | some n=>(s.data.toList[n]?).map fun b=>.leaf (.int .u8 b.toNat)
  | none=>none
 | .ext i,[.tup ds]=>ds[i]?
 | .app el sz bytes,[a,b]=>match pY a,b with
  | some n,.nil=>bif Nat.ble (Nat.mul (Nat.add (Nat.mul 4 n) 4000) (Nat.succ bytes)) 100000000000 then some a else none
  | some n,.sl _ sz' es =>
   bif Nat.ble (Nat.mul (Nat.add (Nat.mul 4 (Nat.add n es.length)) 4000) (Nat.succ bytes)) 100000000000 && Nat.beq sz' sz &&
    (match a with | .sl jA sz' _=>Nat.beq jA el && Nat.beq sz' sz | .nil=>true | _=>false) then
    (bif Nat.beq es.length 0 then some a else some (.sl el sz (a.es++es))) else none
  | _,_=>none
 | .lit el sz,ds=>bif ds.all (fun e=>Nat.beq e.cells.length sz) && Nat.ble (Nat.mul ds.length (Nat.succ sz)) 1000000 then some (.sl el sz ds) else none
 | .loadp ag size,[.ptr cs off]=>lL ag size off cs
 | .box,ds=>some (.ptr ds 0)
 | .boxw,[.agg cs]=>some (.ptr cs 0)
 | .nn,[d]=>match d with
  | .clo (.func _) _ _=>some d
  | .ptr _ _=>some d
  | .iface _ _=>some d
  | _=>none
 | .pchk,[d]=>match d with
  | .ptr _ _=>some d
  | _=>none
 | .mk el sz bytes ag z,[d]=>match qAx d with
  | some n=>bif Nat.beq z.length sz && z.all (fun v=>zP v && qQ v) && (ag || Nat.beq sz 1) && Nat.ble (Nat.mul n (Nat.succ (Nat.add bytes sz))) 1000000000 then some (.sl el sz (List.replicate n (zD ag z))) else none
  | none=>none
 | .set sz ag size off,[d,i,x]=>match d,qAx i,eT ag size x with
  | .sl el sz' es,some n,some _=>match es[n]? with
   | some e=>bif Nat.beq sz' sz && Nat.ble (off+size) sz then some (.sl el sz (es.set n (qCN e off x.cells))) else none
   | none=>none
  | _,_,_=>none
 | .bstr,[d]=>match d with
  | .sl _ sz es=>bif Nat.beq sz 1 then (pT es).map fun l=>.leaf (.string ⟨⟨l⟩⟩) else none
  | _=>none
 | .slc0 el sz,[d]=>match d with
  | .nil=>some .nil
  | .sl jA sz' _=>bif Nat.beq jA el && Nat.beq sz' sz then some (.sl el sz []) else none
  | _=>none
 | .apps el bytes,[a,b]=>match b with
  | .leaf (.string s) =>
   bif Nat.ble (Nat.mul (Nat.add (Nat.mul 4 (Nat.add a.es.length s.data.toList.length)) 4000) (Nat.succ bytes)) 100000000000 && qXy el a then
    (bif Nat.beq s.data.toList.length 0 then some a else some (.sl el 1 (a.es++s.data.toList.map fun b=>.leaf (.int .u8 b.toNat)))) else none
  | _=>none
 | .bld el,[a]=>match a with
  | .nil=>some (.leaf (.string .empty))
  | .sl jA sz es=>bif Nat.beq jA el && Nat.beq sz 1 && Nat.ble 1 es.length && Nat.ble es.length 1000000000 then (pT es).map fun l=>.leaf (.string ⟨⟨l⟩⟩) else none
  | _=>none
 | .lib F,ds=>F ds
 | .mnew,[]=>some (.mp [] [])
 | .mget t ok,[m,k]=>qIZ E t ok m k
 | .mset t,[m,k,x]=>qIY E t m k x
 | .mdel t,[m,k]=>qWE E t m k
 | .mlen,[m]=>(qFT m).map fun p=>.leaf (goInt p.1.length)
 | .nok,[s,p]=>qOq (fun s n=>.bool (Nat.ble (n+1) s.size)) s p
 | .nch,[s,p]=>qOq (fun s n=>.int .i32 (Utf8.decode s n).1) s p
 | .nnx,[s,p]=>qOq (fun s n=>goInt ((n+(Utf8.decode s n).2:Nat):Int)) s p
 | .byt el,[d]=>match d with
  | .leaf (.string s)=>bif Nat.ble s.data.toList.length 1000000000 then some (.sl el 1 (s.data.toList.map fun b=>.leaf (.int .u8 b.toNat))) else none
  | _=>none
 | _,_=>none
section
variable {E:Env}
theorem bN {op:BinOp} {t:TypeId} {x y:Operand} {a b:D}:TOp.eval E (.bin op t x y) [a,b]=(match a.toV,b.toV with
  | some u,some v=>fC (rG E op t x y u v)
  | _,_=>none):=rfl
theorem qJo {t:TypeId} {ok:Bool} {m k:D}:TOp.eval E (.mget t ok) [m,k]=qIZ E t ok m k:=rfl
theorem qJm {t:TypeId} {m k x:D}:TOp.eval E (.mset t) [m,k,x]=qIY E t m k x:=rfl
theorem qQl {m:D}:TOp.eval E .mlen [m]=(qFT m).map fun p=>.leaf (goInt p.1.length):=rfl
theorem qNF {s p:D}:TOp.eval E .nok [s,p]=qOq (fun s n=>.bool (Nat.ble (n+1) s.size)) s p:=rfl
theorem qNH {s p:D}:TOp.eval E .nch [s,p]=qOq (fun s n=>.int .i32 (Utf8.decode s n).1) s p:=rfl
theorem qNG {s p:D}:TOp.eval E .nnx [s,p]=qOq (fun s n=>goInt ((n+(Utf8.decode s n).2:Nat):Int)) s p:=rfl
theorem qJn:TOp.eval E .mnew []=some (.mp [] []):=rfl
theorem qNK {neg:Bool} {d:D}:TOp.eval E (.isNil neg) [d]=(match d with
  | .nil=>some (.leaf (.bool !neg))
  | .sl _ _ _=>some (.leaf (.bool neg))
  | _=>none):=rfl
theorem qW2 {op:UnOp} {t:TypeId} {v:Value}:TOp.eval E (.un op t) [.leaf v]=(bif zP v then fC (flat? (qW E.prog (Op.unary op v))) else none):=rfl
theorem qW4 {mx:Bool} {u v:Value}:TOp.eval E (.mm mx) [.leaf u,.leaf v]=fC (qSH mx u v):=rfl
theorem qQm {s d:TypeId} {v:Value}:TOp.eval E (.conv s d) [.leaf v]=fC (qJB E s d v):=rfl
theorem iB {ag:Bool} {size:Nat} {d:D}:TOp.eval E (.chk ag size) [d]=eT ag size d:=rfl
theorem qB6 {ag:Bool} {size off:Nat} {d:D}:TOp.eval E (.fld ag size off) [d]=lL ag size off d.cells:=rfl
theorem qHZ {d i:D}:TOp.eval E .inr [d,i]=(lX d i).map fun _=>.leaf (.bool true):=rfl
theorem sI {sz:Nat} {ag:Bool} {size off:Nat} {d i:D}:TOp.eval E (.elem sz ag size off) [d,i]=(match lX d i with
  | some e=>bif Nat.beq d.szD sz && Nat.ble (off+(bif ag then size else 1)) sz then (bif ag && Nat.beq off 0 && Nat.beq size sz then eT true size e else lL ag size off e.cells) else none
  | none=>none):=rfl
theorem qHY {str:Bool} {d:D}:TOp.eval E (.len str) [d]=(match str,d with
  | true,.leaf (.string s)=>some (.leaf (goInt s.size))
  | false,.sl _ _ es=>some (.leaf (goInt es.length))
  | false,.nil=>some (.leaf (goInt 0))
  | _,_=>none):=rfl
theorem tX {el sz:Nat} {lo hi:Bool} {d:D} {r:List D}:TOp.eval E (.slc el sz lo hi) (d::r)=(match d with
  | .sl jA sz' es=>match jN lo 0 r with
   | some (l,r)=>match jN hi es.length r with
    | some (h,[])=>bif Nat.beq jA el && Nat.beq sz' sz && Nat.ble l h && Nat.ble h es.length then some (.sl el sz ((es.drop l).take (h - l))) else none
    | _=>none
   | none=>none
  | .nil=>match jN lo 0 r with
   | some (0,r)=>match jN hi 0 r with
    | some (0,[])=>some .nil
    | _=>none
   | _=>none
  | _=>none):=rfl
theorem qHW {lo hi:Bool} {s:ByteArray} {r:List D}:TOp.eval E (.sub lo hi) (.leaf (.string s)::r)=(match jN lo 0 r with
  | some (l,r)=>match jN hi s.size r with
   | some (h,[])=>bif Nat.ble l h && Nat.ble h s.size then some (.leaf (.string (s.extract l h))) else none
   | _=>none
  | none=>none):=rfl
theorem qH0 {s:ByteArray} {i:D}:TOp.eval E .chr [.leaf (.string s),i]=(match qAx i with
  | some n=>(s.data.toList[n]?).map fun b=>.leaf (.int .u8 b.toNat)
  | none=>none):=rfl
theorem qNL {i:Nat} {ds:List D}:TOp.eval E (.ext i) [.tup ds]=ds[i]? := rfl
theorem tY {el sz:Nat} {ds:List D}:TOp.eval E (.lit el sz) ds=(bif ds.all (fun e=>Nat.beq e.cells.length sz) && Nat.ble (Nat.mul ds.length (Nat.succ sz)) 1000000 then some (.sl el sz ds) else none):=by
 cases ds with
 | nil=>rfl
 | cons a l=>cases l with
  | nil=>cases a <;> rfl
  | cons b l=>cases l <;> rfl
theorem tZ {el sz bytes:Nat} {a b:D}:TOp.eval E (.app el sz bytes) [a,b]=(match pY a,b with
  | some n,.nil=>bif Nat.ble (Nat.mul (Nat.add (Nat.mul 4 n) 4000) (Nat.succ bytes)) 100000000000 then some a else none
  | some n,.sl _ sz' es =>
   bif Nat.ble (Nat.mul (Nat.add (Nat.mul 4 (Nat.add n es.length)) 4000) (Nat.succ bytes)) 100000000000 && Nat.beq sz' sz &&
    (match a with | .sl jA sz' _=>Nat.beq jA el && Nat.beq sz' sz | .nil=>true | _=>false) then
    (bif Nat.beq es.length 0 then some a else some (.sl el sz (a.es++es))) else none
  | _,_=>none):=rfl
theorem qNJ {ag:Bool} {size off:Nat} {cs:List D}:TOp.eval E (.loadp ag size) [.ptr cs off]=lL ag size off cs:=rfl
theorem qUm {ds:List D}:TOp.eval E .box ds=some (.ptr ds 0):=by
 cases ds with
 | nil=>rfl
 | cons a l=>cases l with
  | nil=>cases a <;> rfl
  | cons b l=>cases l <;> rfl
theorem sJ {cs:List D}:TOp.eval E .boxw [.agg cs]=some (.ptr cs 0):=rfl
theorem qW3 {d:D}:TOp.eval E .nn [d]=(match d with
  | .clo (.func _) _ _=>some d
  | .ptr _ _=>some d
  | .iface _ _=>some d
  | _=>none):=rfl
theorem qNI {el sz bytes:Nat} {ag:Bool} {z:List Value} {d:D}:TOp.eval E (.mk el sz bytes ag z) [d]=(match qAx d with
  | some n=>bif Nat.beq z.length sz && z.all (fun v=>zP v && qQ v) && (ag || Nat.beq sz 1) && Nat.ble (Nat.mul n (Nat.succ (Nat.add bytes sz))) 1000000000 then some (.sl el sz (List.replicate n (zD ag z))) else none
  | none=>none):=rfl
theorem qED {sz size off:Nat} {ag:Bool} {d i x:D}:TOp.eval E (.set sz ag size off) [d,i,x]=(match d,qAx i,eT ag size x with
  | .sl el sz' es,some n,some _=>match es[n]? with
   | some e=>bif Nat.beq sz' sz && Nat.ble (off+size) sz then some (.sl el sz (es.set n (qCN e off x.cells))) else none
   | none=>none
  | _,_,_=>none):=rfl
theorem qHX {d:D}:TOp.eval E .bstr [d]=(match d with
  | .sl _ sz es=>bif Nat.beq sz 1 then (pT es).map fun l=>.leaf (.string ⟨⟨l⟩⟩) else none
  | _=>none):=rfl
theorem qGp {el:Nat} {d:D}:TOp.eval E (.byt el) [d]=(match d with
  | .leaf (.string s)=>bif Nat.ble s.data.toList.length 1000000000 then some (.sl el 1 (s.data.toList.map fun b=>.leaf (.int .u8 b.toNat))) else none
  | _=>none):=rfl
theorem bK {d:D}:TOp.eval E .pchk [d]=(match d with
  | .ptr _ _=>some d
  | _=>none):=rfl
end
structure St where
 sts:List VSt
 slots:T SV
 blks:List (Option Blk)
 sz:Nat
 sav:List (List (Nat × SV)):=[]
def St.n (S:St):Nat:=S.sts.length
def St.pureV (S:St) (i:Nat):Bool:=match S.sts[i]? with
 | some ⟨.pure,_⟩=>true
 | some ⟨.full,_⟩=>true
 | some ⟨.ptr,_⟩=>true
 | _=>false
def St.isPtr (S:St) (i:Nat):Bool:=match S.sts[i]? with
 | some ⟨.ptr,_⟩=>true
 | _=>false
def St.readV (S:St) (i:Nat):Bool:=match S.sts[i]? with
 | some ⟨.dead,_⟩=>false
 | some _=>true
 | none=>false
def St.freshV (S:St) (i:Nat):Bool:=match S.sts[i]? with
 | some ⟨.fresh,_⟩=>true
 | _=>false
def St.oneV (S:St) (i:Nat):Bool:=match S.sts[i]? with
 | some ⟨_,o⟩=>o
 | none=>false
def eR (S:St):SV->Bool
 | .v i=>S.oneV i
 | .c x=>qQ x
 | .agg _ | .tup _=>false
 | _=>true
mutual
def xX (S:St):SV->Bool
 | .v i=>S.pureV i
 | .c x=>zP x
 | .loc _ _=>false
 | .ptr _ _ _ _=>false
 | .pp i _=>S.isPtr i
 | .agg cs=>bB S cs && cs.all (eR S)
 | .tup cs=>bB S cs
 | .fn f a b=>pA f && bB S a && bB S b
 | .ifc _ x=>xX S x
 | .yld _=>false
def bB (S:St):List SV->Bool
 | []=>true
 | x::xs=>xX S x && bB S xs
end
def kL (S:St):SV->Bool
 | .v i=>S.readV i
 | x=>xX S x
def aX:VSt->VSt
 | ⟨.fresh,o⟩=>⟨.pure,o⟩
 | s=>s
def St.freeze (S:St) (i:Nat):St:={ S with sts:=S.sts.modify i aX }
def St.kill (S:St) (i:Nat):St:={ S with sts:=S.sts.modify i fun s=>⟨.dead,s.one⟩ }
mutual
def o9 (S:St):SV->St
 | .v i=>S.freeze i
 | .agg cs=>vR S cs
 | .tup cs=>vR S cs
 | .fn _ a b=>vR (vR S a) b
 | .ifc _ x=>o9 S x
 | _=>S
def vR (S:St):List SV->St
 | []=>S
 | x::xs=>vR (o9 S x) xs
end
def St.put (S:St) (dst:Option Tmp) (x:SV):Option St:=match dst with
 | some d=>bif Nat.ble (d+1) S.sz then some { S with slots:=S.slots.put d (some x) } else none
 | none=>some S
def St.new (S:St) (k:VK) (one:Bool):St:={ S with sts:=S.sts++[⟨k,one⟩] }
def SV.known (i:Nat) (b:Bool):SV->SV
 | .v j=>bif Nat.beq j i then .c (.bool b) else .v j
 | x=>x
def St.known (S:St) (i:Nat) (b:Bool):St:={ S with slots:=S.slots.map (SV.known i b) }
inductive Tgt where
 | fn (f:FuncId)
 | val (x:SV)
 | meth (x:SV) (name:String)
inductive Tree where
 | fail
 | stop (k:Nat) (S:St)
 | ret (xs:List SV)
 | jump (k:Nat) (args:List SV)
 | bind (o:TOp) (args:List SV) (rest:Tree)
 | call (tg:Tgt) (args:List SV) (flat:Nat) (rest:Tree)
 | callM (f:FuncId) (m:Mode) (args:List SV) (rest:Tree)
 | ite (c:SV) (a b:Tree)
abbrev K1:=SV->St->Tree
def rK (S:St):Operand->Option SV
 | .tmp t=>S.slots.get t
 | .const v=>bif zP v then some (.c v) else none
 | .global _=>none
 | .func f=>some (.fn (.func f) [] [])
def cK (S:St):List Operand->Option (List SV)
 | []=>some []
 | x::xs=>match rK S x,cK S xs with
  | some a,some l=>some (a::l)
  | _,_=>none
def jY (o:TOp) (args:List SV) (k:VK) (one:Bool) (S:St) (κ:K1):Tree :=
 bif args.all (kL S) then .bind o args (κ (.v S.n) (S.new k one)) else .fail
def qGN (o:TOp) (args:List SV) (k:VK) (one:Bool) (S:St) (κ:K1):Tree :=
 let S:=vR S args
 bif args.all (xX S) then .bind o args (κ (.v S.n) (S.new k one)) else .fail
def qJg (i:Nat):Nat->Nat->List SV->St->(List SV->St->Tree)->Tree
 | 0,_,acc,S,κ=>κ acc S
 | n+1,k,acc,S,κ=>jY (.fld false 1 k) [.v i] .pure true S fun y S=>qJg i n (k+1) (acc++[y]) S κ
def iD (ag:Bool) (size:Nat) (x:Value):Option (List SV) :=
 let l:=x.cells.toList
 bif zP x && Nat.beq l.length size && (match x with | .agg _=>ag | .tuple _=>false | _=>!ag) then some (l.map .c) else none
def pS (x:SV) (ag:Bool) (size:Nat) (S:St) (κ:List SV->St->Tree):Tree:=match x with
 | .agg cs=>bif ag && Nat.beq cs.length size && cs.all (eR S) then κ cs S else .fail
 | .c v=>match iD ag size v with
  | some l=>κ l S
  | none=>.fail
 | .v i=>bif ag then jY (.chk true size) [.v i] .pure false S fun y S=>match y with
    | .v j=>qJg j size 0 [] S κ
    | _=>.fail
   else bif Nat.beq size 1 then (bif S.oneV i && S.readV i then κ [.v i] S else qGN (.chk false 1) [.v i] .pure true S fun y S=>κ [y] S) else .fail
 | .tup _=>.fail
 | .yld _=>.fail
 | x=>bif !ag && Nat.beq size 1 then κ [x] S else .fail
def wX:List SV->Nat->List SV->Option (List SV)
 | cs,0,[]=>some cs
 | [],0,_::_=>none
 | _::cs,0,v::vs=>(wX cs 0 vs).map (v :: ·)
 | [],_+1,_=>none
 | c::cs,i+1,vs=>(wX cs i vs).map (c :: ·)
def uZ (ag:Bool) (size off:Nat) (cs:List SV):Option SV :=
 bif ag then (bif Nat.ble (off+size) cs.length then some (.agg ((cs.drop off).take size)) else none)
 else cs[off]?
def qCq (E:Env) (S:St) (place:Nat->Option (Nat × Nat × Bool)) (cs:List SV):List (Nat × Operand)->(List SV->St->Tree)->Tree
 | [],κ=>κ cs S
 | (i,x)::r,κ=>match place i,rK S x with
  | some (off,size,ag),some y=>pS y ag size S fun l S=>match wX cs off l with
   | some cs'=>qCq E S place cs' r κ
   | none=>.fail
  | _,_=>.fail
def uC (size:Nat) (ag:Bool) (acc:List SV) (S:St):List (Nat × Operand)->(List SV->St->Tree)->Tree
 | [],κ=>κ acc S
 | (i,x)::r,κ=>match rK S x with
  | some y=>bif Nat.beq i acc.length then (bif kL S y then .bind (.chk ag size) [y] (uC size ag (acc++[y]) (S.new .dead false) r κ) else
    bif kL (o9 S y) y then .bind (.chk ag size) [y] (uC size ag (acc++[y]) ((o9 S y).new .dead false) r κ) else .fail) else .fail
  | none=>.fail
def qN9 (E:Env) (t:TypeId):Bool:=match E.types.get t with
 | some { desc:=.bool,.. } | some { desc:=.int _,.. } | some { desc:=.string,.. }=>true
 | _=>false
def qNr (E:Env) (f:FuncId):Nat:=match E.prog.funcs[f]? with
 | some fn=>match fn.resultTypes.toList with
  | [t]=>bif qN9 E t then 1 else 0
  | ts=>bif ts.all (qN9 E) then 2 else 0
 | none=>0
def qGF (E:Env) (tg:Tgt) (args:List SV) (flat:Nat) (S:St) (κ:K1):Tree :=
 match flat with
 | 0 =>
  let S:=vR S args
  bif args.all (xX S) then .call tg args 0 (κ (.v S.n) (S.new .pure false)) else .fail
 | fl =>
  bif args.all (xX (vR S args)) then .call tg args fl (κ (.v S.n) (S.new .pure (Nat.beq fl 1))) else .fail
def St.boxed (S:St) (b:Nat):St:={ S.new .ptr true with blks:=S.blks.set b none,slots:=S.slots.map fun x=>match x with | .loc b' off=>bif Nat.beq b' b then .pp S.n off else .loc b' off | x=>x }
def qGK:List SV->List SV->St->(List SV->St->Tree)->Tree
 | [],acc,S,κ=>κ acc S
 | .loc b 0::r,acc,S,κ=>match S.blks[b]? with
  | some (some (.cells cs)) =>
   let S:=vR S cs
   bif cs.all (xX S) && cs.all (eR S) then .bind .box cs (qGK r (acc++[.pp S.n 0]) (S.boxed b) κ) else .fail
  | some (some (.whole x _))=>bif xX S x then .bind .boxw [x] (qGK r (acc++[.pp S.n 0]) (S.boxed b) κ) else .fail
  | _=>.fail
 | x::r,acc,S,κ=>qGK r (acc++[x]) S κ
def Pat.st (p:Pat) (sz:Nat):St:={ sts:=p.sts,slots:=p.slots.foldl (fun t (k,x)=>t.put k (some x)) .leaf,blks:=p.blks,sz:=sz,sav:=p.sav }
def qII:Value->Value->Bool
 | .bool a,.bool b=>a == b
 | .int k m,.int k' n=>decide (k=k') && decide (m=n)
 | .string a,.string b=>decide (a=b)
 | .slice none 0 0,.slice none 0 0=>true
 | .pointer none,.pointer none=>true
 | .nilFunc,.nilFunc=>true
 | .nilIface,.nilIface=>true
 | _,_=>false
def qJj (i:Nat):List (Nat × SV)->Option Nat
 | []=>none
 | (t,.v j)::r=>bif Nat.beq i j then some t else qJj i r
 | _::r=>qJj i r
def cellsOf:Option Blk->List SV
 | some (.cells cs)=>cs
 | some (.whole x _)=>[x]
 | some (.loop _ _)=>[]
 | some (.tcells _ cs)=>cs
 | none=>[]
def qWY (i:Nat):SV->SV->Option SV
 | .pp j _,.pp k _=>bif Nat.beq i j then some (.v k) else none
 | .fn _ _ (.pp j _::_),.fn _ _ (.pp k _::_)=>bif Nat.beq i j then some (.v k) else none
 | _,_=>none
def qHM (i:Nat) (t:T SV):List (Nat × SV)->Option SV
 | []=>none
 | (u,x)::r=>match t.get u with
  | some y=>match qWY i x y with
   | some z=>some z
   | none=>qHM i t r
  | none=>qHM i t r
def qAo (i:Nat):List (Option Blk)->List (Option Blk)->Option SV
 | some (.cells cs)::r,some (.cells cs')::r'=>match (cs.zip cs').find? (fun p=>match p.1 with | .v j=>Nat.beq i j | _=>false) with
  | some p=>some p.2
  | none=>qAo i r r'
 | some (.tcells _ cs)::r,some (.tcells _ cs')::r'=>match (cs.zip cs').find? (fun p=>match p.1 with | .v j=>Nat.beq i j | _=>false) with
  | some p=>some p.2
  | none=>qAo i r r'
 | some (.whole x _)::r,some (.whole y _)::r'=>match x with
  | .v j=>bif Nat.beq i j then some y else qAo i r r'
  | _=>qAo i r r'
 | some (.whole x n)::r,some (.cells cs)::r'=>match x with
  | .v j=>bif Nat.beq i j && Nat.beq n cs.length then some (.agg cs) else qAo i r r'
  | _=>qAo i r r'
 | _::r,_::r'=>qAo i r r'
 | _,_=>none
def qNm (t:Nat):List (Nat × SV)->Option SV
 | []=>none
 | (u,x)::r=>bif Nat.beq u t then some x else qNm t r
def qSM (i:Nat):List (List (Nat × SV))->List (List (Nat × SV))->Option SV
 | l::r,l'::r'=>match qJj i l with
  | some t=>qNm t l'
  | none=>qSM i r r'
 | _,_=>none
def qXB (p:Pat) (S:St) (i:Nat):Option SV:=match qJj i p.slots with
 | some t=>S.slots.get t
 | none=>match qAo i p.blks S.blks with
  | some x=>some x
  | none=>match qSM i p.sav S.sav with
   | some x=>some x
   | none=>qHM i S.slots p.slots
def qOa (p:Pat) (S:St):Nat->Nat->Option (List SV)
 | 0,_=>some []
 | n+1,i=>match qXB p S i,qOa p S n (i+1) with
  | some x,some l=>some (x::l)
  | _,_=>none
mutual
def fits (as:List SV):SV->SV->Bool
 | .v i,y=>match as[i]? with
  | some x=>uV x y
  | none=>false
 | .c x,.c y=>qII x y
 | .loc b o,.loc b' o'=>Nat.beq b b' && Nat.beq o o'
 | .pp i o,.pp j o'=>Nat.beq o o' && (match as[i]? with | some (.v k)=>Nat.beq k j | _=>false)
 | .agg cs,.agg cs'=>aY as cs cs'
 | .tup cs,.tup cs'=>aY as cs cs'
 | .fn (.func f) a b,.fn (.func f') a' b'=>Nat.beq f f' && aY as a a' && aY as b b'
 | .ifc t x,.ifc t' y=>Nat.beq t t' && fits as x y
 | .yld b,.yld b'=>Nat.beq b b'
 | _,_=>false
def aY (as:List SV):List SV->List SV->Bool
 | [],[]=>true
 | x::xs,y::ys=>fits as x y && aY as xs ys
 | _,_=>false
def uV:SV->SV->Bool
 | .v i,.v j=>Nat.beq i j
 | .c x,.c y=>qII x y
 | .loc b o,.loc b' o'=>Nat.beq b b' && Nat.beq o o'
 | .pp i o,.pp j o'=>Nat.beq i j && Nat.beq o o'
 | .agg cs,.agg cs'=>fM cs cs'
 | .tup cs,.tup cs'=>fM cs cs'
 | .fn (.func f) a b,.fn (.func f') a' b'=>Nat.beq f f' && fM a a' && fM b b'
 | .ifc t x,.ifc t' y=>Nat.beq t t' && uV x y
 | _,_=>false
def fM:List SV->List SV->Bool
 | [],[]=>true
 | x::xs,y::ys=>uV x y && fM xs ys
 | _,_=>false
end
def tU (as:List SV):Option Blk->Option Blk->Bool
 | none,_=>true
 | some (.cells cs),some (.cells cs')=>aY as cs cs'
 | some (.whole x n),some (.whole y m)=>Nat.beq n m && fits as x y
 | some (.whole x n),some (.cells cs)=>Nat.beq n cs.length && fits as x (.agg cs)
 | some (.loop st pd),some (.loop st' pd')=>Nat.beq st st' && Nat.beq pd pd'
 | some (.tcells t cs),some (.tcells t' cs')=>Nat.beq t t' && aY as cs cs'
 | _,_=>false
def aZ (as:List SV):List (Option Blk)->List (Option Blk)->Bool
 | [],_=>true
 | b::bs,c::cs=>tU as b c && aZ as bs cs
 | _::_,[]=>false
def gP:List VSt->List SV->List SV
 | ⟨.pure,_⟩::r,x::xs=>x::gP r xs
 | ⟨.full,_⟩::r,x::xs=>x::gP r xs
 | ⟨.ptr,_⟩::r,x::xs=>x::gP r xs
 | _::r,_::xs=>gP r xs
 | _,_=>[]
def St.fullV (S:St) (i:Nat):Bool:=match S.sts[i]? with
 | some ⟨.full,_⟩=>true
 | _=>false
def tQ (S:St):SV->Bool
 | .c (.slice none 0 0)=>true
 | .v i=>S.freshV i || S.fullV i
 | _=>false
def qSR (sts:List VSt) (as:List SV) (i j:Nat):Bool:=match sts[i]?,sts[j]?,as[i]?,as[j]? with
 | some ⟨.fresh,_⟩,some ⟨.fresh,_⟩,some (.v a),some (.v b)=>Nat.beq i j || !(Nat.beq a b)
 | _,_,_,_=>true
def qDJ (sts:List VSt) (as:List SV):Bool:=(List.range sts.length).all fun i=>(List.range sts.length).all fun j=>qSR sts as i j
mutual
def qLo (n m:Nat):SV->Bool
 | .v i=>Nat.blt i n
 | .c _=>true
 | .loc b _=>Nat.blt b m
 | .ptr s i _ _=>qLo n m s && qLo n m i
 | .pp i _=>Nat.blt i n
 | .agg cs=>qES n m cs
 | .tup cs=>qES n m cs
 | .fn _ a b=>qES n m a && qES n m b
 | .ifc _ x=>qLo n m x
 | .yld b=>Nat.blt b m
def qES (n m:Nat):List SV->Bool
 | []=>true
 | x::xs=>qLo n m x && qES n m xs
end
def qSV (n m:Nat):Option Blk->Bool
 | none=>true
 | some (.cells cs)=>qES n m cs
 | some (.whole x _)=>qLo n m x
 | some (.loop _ _)=>true
 | some (.tcells _ cs)=>qES n m cs
def fL (S:St):List VSt->List SV->Bool
 | [],[]=>true
 | ⟨k,o⟩::r,x::xs=>(match k with
   | .pure=>xX S x
   | .full=>(match x with | .v i=>(match S.sts[i]? with | some ⟨.full,_⟩=>true | _=>false) | _=>false)
   | .ptr=>(match x with | .v i=>S.isPtr i | _=>false)
   | .fresh=>tQ S x
   | .dead=>!o) && (!o || eR S x) && fL S r xs
 | _,_=>false
def qB2 (n m:Nat) (as:List SV):List (List (Nat × SV))->List (List (Nat × SV))->Bool
 | [],[]=>true
 | l::r,l'::r'=>l.all (fun (t,x)=>qLo n m x && match qNm t l' with | some y=>fits as x y | none=>false) && qB2 n m as r r'
 | _,_=>false
def cE (sz:Nat) (p:Pat) (as:List SV) (S:St):Bool :=
 Nat.beq S.sz sz && p.slots.all (fun (t,x)=>qLo p.sts.length p.blks.length x && (match S.slots.get t with | some y=>fits as x y | none=>false)) && p.blks.all (qSV p.sts.length p.blks.length) &&
   aZ as p.blks S.blks && fL S p.sts as && qDJ p.sts as && qB2 p.sts.length p.blks.length as p.sav S.sav
def qI7 (fin:List SV->Tree) (sz:Nat) (p:Pat) (S:St):Tree:=match qOa p S p.sts.length 0 with
 | none=>.fail
 | some as =>
  let S:=vR S (gP p.sts as)
  bif cE sz p as S then fin as else .fail
def xK (sz:Nat) (p:Pat) (k:Nat) (S:St):Tree:=qI7 (.jump k) sz p S
mutual
def qNj:SV->Bool
 | .loc _ _=>true
 | .ptr _ _ _ _=>true
 | .agg cs=>mI cs
 | .tup cs=>mI cs
 | .fn _ a b=>mI a || mI b
 | .ifc _ x=>qNj x
 | .yld _=>true
 | _=>false
def mI:List SV->Bool
 | []=>false
 | x::xs=>qNj x || mI xs
end
mutual
def qM2:SV->List Nat
 | .loc b _=>[b]
 | .agg cs=>mF cs
 | .tup cs=>mF cs
 | .fn _ a b=>mF a++mF b
 | .ifc _ x=>qM2 x
 | _=>[]
def mF:List SV->List Nat
 | []=>[]
 | x::xs=>qM2 x++mF xs
end
def mV (l:List Nat) (n:Nat):List Nat:=bif l.any (Nat.beq n) then l else l++[n]
def qUK:Option Blk->List SV
 | some (.cells cs)=>cs
 | some (.whole x _)=>[x]
 | some (.loop _ _)=>[]
 | some (.tcells _ cs)=>cs
 | none=>[]
def qH7 (S:St):Nat->List Nat->List Nat
 | 0,l=>l
 | n+1,l=>qH7 S n (l.foldl (fun l b=>(mF (qUK (S.blks[b]?.getD none))).foldl mV l) l)
def qPU (b:Nat):List Nat->Nat->Option Nat
 | [],_=>none
 | c::r,i=>bif Nat.beq c b then some i else qPU b r (i+1)
mutual
def SV.toC (bm:List Nat):SV->Option SV
 | .v i=>some (.v i)
 | .c x=>some (.c x)
 | .loc b o=>match qPU b bm 0 with
  | some k=>some (.loc k o)
  | none=>none
 | .ptr _ _ _ _=>none
 | .pp i o=>some (.pp i o)
 | .agg cs=>match SV.toCs bm cs with
  | some l=>some (.agg l)
  | none=>none
 | .tup cs=>match SV.toCs bm cs with
  | some l=>some (.tup l)
  | none=>none
 | .fn f a b=>match SV.toCs bm a,SV.toCs bm b with
  | some a,some b=>some (.fn f a b)
  | _,_=>none
 | .ifc t x=>match SV.toC bm x with
  | some x=>some (.ifc t x)
  | none=>none
 | .yld _=>none
def SV.toCs (bm:List Nat):List SV->Option (List SV)
 | []=>some []
 | x::xs=>match SV.toC bm x,SV.toCs bm xs with
  | some y,some l=>some (y::l)
  | _,_=>none
end
def Blk.toC (bm:List Nat):Blk->Option Blk
 | .loop _ _=>none
 | .tcells _ _=>none
 | .cells cs=>match SV.toCs bm cs with
  | some l=>some (.cells l)
  | none=>none
 | .whole x n=>match SV.toC bm x with
  | some y=>some (.whole y n)
  | none=>none
def fE (S:St) (bm:List Nat):List Nat->Option (List (Option Blk))
 | []=>some []
 | b::r=>match S.blks[b]?,fE S bm r with
  | some (some x),some l=>match x.toC bm with
   | some y=>some (some y::l)
   | none=>none
  | _,_=>none
def St.forC (S:St) (l:List SV) (bs:List (Option Blk)):St:={ sts:=S.sts,slots:=T.ofList .leaf 0 l,blks:=bs,sz:=l.length }
mutual
def SV.ofC (n:Nat) (bm:List Nat):SV->SV
 | .v i=>.v (Nat.add n i)
 | .c x=>.c x
 | .loc k o=>.loc (bm.getD k 0) o
 | .ptr s i sz off=>.ptr (SV.ofC n bm s) (SV.ofC n bm i) sz off
 | .pp i o=>.pp (Nat.add n i) o
 | .agg cs=>.agg (SV.ofCs n bm cs)
 | .tup cs=>.tup (SV.ofCs n bm cs)
 | .fn f a b=>.fn f (SV.ofCs n bm a) (SV.ofCs n bm b)
 | .ifc t x=>.ifc t (SV.ofC n bm x)
 | .yld b=>.yld (bm.getD b 0)
def SV.ofCs (n:Nat) (bm:List Nat):List SV->List SV
 | []=>[]
 | x::xs=>SV.ofC n bm x::SV.ofCs n bm xs
end
def Blk.ofC (n:Nat) (bm:List Nat):Blk->Blk
 | .loop a b=>.loop a b
 | .tcells t cs=>.tcells t (SV.ofCs n bm cs)
 | .cells cs=>.cells (SV.ofCs n bm cs)
 | .whole x k=>.whole (SV.ofC n bm x) k
def iT (n:Nat) (bm:List Nat):List Nat->List (Option Blk)->List (Option Blk)->List (Option Blk)
 | b::bs,x::xs,l=>iT n bm bs xs (l.set b (x.map (Blk.ofC n bm)))
 | b::bs,[],l=>iT n bm bs [] (l.set b none)
 | [],_,l=>l
def lU (l:List VSt):SV->List VSt
 | .v i=>l.modify i fun s=>match s with | ⟨.fresh,o⟩=>⟨.dead,o⟩ | s=>s
 | _=>l
def St.after (S:St) (m:Mode) (bm:List Nat) (as:List SV):St :=
 { sts:=as.foldl lU S.sts++m.out.sts,slots:=S.slots,blks:=iT S.n bm bm m.out.blks S.blks,sz:=S.sz,sav:=S.sav }
def qIN (m:Mode) (n:Nat) (bm:List Nat):SV:=match m.out.slots with
 | [(_,x)]=>SV.ofC n bm x
 | l=>.tup (SV.ofCs n bm (l.map Prod.snd))
structure Hint where
 name:String
 fresh:List Nat
 spec:List Nat
 res:Bool
 /-- the places of the calls it is meant for; none: all -/
 only:List String:=[]
def qWN:List Hint:=[
 ⟨"slices.Clone[[]uint8,uint8]", [], [], true, []⟩,
 ⟨"slices.Clone[[]byte,byte]", [], [], true, []⟩,
 ⟨"langdoc/wire.varint", [0], [], true, []⟩,
 ⟨"langdoc/langdocref04.PutInt", [], [], true, ["ref.go:22"]⟩,
 ⟨"langdoc/wire.put[uint8]", [0], [2], true, []⟩,
 ⟨"langdoc/wire.put[byte]", [0], [2], true, []⟩,
 ⟨"langdoc/wire.put[int]", [0], [2], true, []⟩,
 ⟨"langdoc/wire.PutText$1", [0], [], true, []⟩,
 ⟨"langdoc/change.changed", [], [1], false, []⟩]
def qHK (E:Env) (f:FuncId):Option Hint:=match E.prog.funcs[f]? with
 | some fn=>qWN.find? fun h=>h.name == fn.name
 | none=>none
def qVh (E:Env) (o:Oper) (f:FuncId) (l:List SV):Bool:=mI l || (match qHK E f with | some h=>h.only.isEmpty || h.only.any (fun p=>p == o.pos) | none=>false)
def qWD (n:Nat) (l:List Nat):Bool:=l.any (Nat.beq n)
mutual
def qQG (S:St):SV->List SV->List VSt->SV × List SV × List VSt
 | .loc k o,as,sts=>(.loc k o,as,sts)
 | .fn f a b,as,sts=>bif mI a || mI b then
   (match qGE S a as sts with
   | (a,as,sts)=>match qGE S b as sts with
    | (b,as,sts)=>(.fn f a b,as,sts))
  else (.v as.length,as++[.fn f a b],sts++[⟨.pure,false⟩])
 | x,as,sts=>(.v as.length,as++[x],sts++[⟨.pure,false⟩])
def qGE (S:St):List SV->List SV->List VSt->List SV × List SV × List VSt
 | [],as,sts=>([],as,sts)
 | x::xs,as,sts=>match qQG S x as sts with
  | (x,as,sts)=>match qGE S xs as sts with
   | (xs,as,sts)=>(x::xs,as,sts)
end
def qSU (S:St) (fr sp:List Nat):Nat->List SV->List SV->List VSt->List SV × List SV × List VSt
 | _,[],as,sts=>([],as,sts)
 | n,x::xs,as,sts=>match (bif qWD n fr && tQ S x then (.v as.length,as++[x],sts++[⟨.fresh,true⟩]) else
   bif qWD n sp then (match x with
    | .fn f a b=>(match qGE S a as sts with
     | (a,as,sts)=>match qGE S b as sts with
      | (b,as,sts)=>(.fn f a b,as,sts))
    | x=>qQG S x as sts)
   else qQG S x as sts:SV × List SV × List VSt) with
  | (x,as,sts)=>match qSU S fr sp (n+1) xs as sts with
   | (xs,as,sts)=>(x::xs,as,sts)
def qSS (S:St):List SV->List SV->List VSt->List SV × List SV × List VSt
 | [],as,sts=>([],as,sts)
 | x::xs,as,sts=>match (bif tQ S x then (.v as.length,as++[x],sts++[⟨.fresh,true⟩]) else qQG S x as sts:SV × List SV × List VSt) with
  | (x,as,sts)=>match qSS S xs as sts with
   | (xs,as,sts)=>(x::xs,as,sts)
def qST (S:St):List (Option Blk)->List SV->List VSt->List (Option Blk) × List SV × List VSt
 | [],as,sts=>([],as,sts)
 | b::bs,as,sts=>match (match b with
   | some (.cells cs)=>(match qSS S cs as sts with | (cs,as,sts)=>(some (.cells cs),as,sts))
   | some (.whole x n)=>(some (.whole (.v as.length) n),as++[x],sts++[⟨.pure,false⟩])
   | some (.loop a b)=>(some (.loop a b),as,sts)
   | some (.tcells t cs)=>(some (.tcells t cs),as,sts)
   | none=>(none,as,sts):Option Blk × List SV × List VSt) with
  | (b,as,sts)=>match qST S bs as sts with
   | (bs,as,sts)=>(b::bs,as,sts)
def qSA (sts:List VSt):List SV->List VSt->List SV × List VSt
 | [],o=>([],o)
 | x::xs,o=>match (match x with
   | .v i=>(.v o.length,o++[sts.getD i ⟨.pure,false⟩])
   | x=>(x,o):SV × List VSt) with
  | (x,o)=>match qSA sts xs o with
   | (xs,o)=>(x::xs,o)
def qSB (sts:List VSt):List (Option Blk)->List VSt->List (Option Blk) × List VSt
 | [],o=>([],o)
 | b::bs,o=>match (match b with
   | some (.cells cs)=>(match qSA sts cs o with | (cs,o)=>(some (.cells cs),o))
   | some (.whole _ n)=>(some (.whole (.v o.length) n),o++[⟨.pure,false⟩])
   | some (.loop a b)=>(some (.loop a b),o)
   | some (.tcells t cs)=>(some (.tcells t cs),o)
   | none=>(none,o):Option Blk × List VSt) with
  | (b,o)=>match qSB sts bs o with
   | (bs,o)=>(b::bs,o)
def qWM (l:List SV):List (Nat × SV):=(List.range l.length).zip l
def qNc (S:St) (h:Option Hint) (nres:Nat) (l:List SV) (bs:List (Option Blk)):Mode × List SV :=
 match qSU S (match h with | some h=>h.fresh | none=>[]) (match h with | some h=>h.spec | none=>[]) 0 l [] [] with
 | (l',as,sts)=>match qST S bs as sts with
  | (bs',as,sts) =>
   let r:=(List.range nres).map SV.v
   match qSB sts bs' (r.map fun _=>match h with | some h=>bif h.res then ⟨.fresh,true⟩ else ⟨.pure,false⟩ | none=>⟨.pure,false⟩) with
   | (ob,ost)=>(⟨⟨sts,qWM l',bs',[]⟩,l.length,⟨ost,qWM r,ob,[]⟩⟩,as)
def tB:List Nat->Bool
 | []=>true
 | b::r=>!(r.any (Nat.beq b)) && tB r
def eC:Option Blk->Bool
 | some (.loop _ _)=>false
 | some (.tcells _ _)=>false
 | _=>true
def qIc (E:Env) (f:FuncId) (l:List SV) (S:St) (κ:K1):Tree :=
 let bm:=qH7 S 3 ((mF l).foldl mV [])
 match E.prog.funcs[f]?,SV.toCs bm l,fE S bm bm with
 | some fn,some l',some bs =>
  match qNc (S.forC l' bs) (qHK E f) fn.resultTypes.size l' bs with
  | (m,as) =>
   let S2:=vR S (gP m.inp.sts as)
   bif tB bm && cE l'.length m.inp as (S2.forC l' bs) && Nat.beq m.n l'.length && m.out.slots.all (fun (_,x)=>qLo m.out.sts.length bm.length x) && m.out.blks.all (qSV m.out.sts.length bm.length) && Nat.ble m.out.blks.length bm.length && m.out.blks.all eC then
    .callM f m as (κ (qIN m S2.n bm) (S2.after m bm as)) else .fail
 | _,_,_=>.fail
def qEJ (a:SV) (S:St) (κ:K1):Tree:=match a with
 | .v i=>jY .pchk [.v i] .ptr true S fun y S=>match y with
  | .v j=>κ (.pp j 0) S
  | _=>.fail
 | a=>κ a S
def qDp (E:Env) (t:TypeId) (a:SV) (S:St) (κ:K1):Tree:=qEJ a S fun a S=>match E.types.get t with
 | none=>.fail
 | some ti=>match a with
  | .loc b off=>match S.blks[b]? with
   | some (some (.cells cs))=>match uZ ti.agg ti.size off cs with
    | some x=>κ x S
    | none=>.fail
   | some (some (.whole x n))=>bif Nat.beq off 0 && Nat.beq ti.size n && ti.agg then (bif kL S x then κ x S else .fail)
     else jY (.fld ti.agg ti.size off) [x] .pure (!ti.agg) S κ
   | _=>.fail
  | .ptr s i sz off=>jY (.elem sz ti.agg ti.size off) [s,i] .pure (!ti.agg) S κ
  | .pp i off=>jY (.loadp ti.agg ti.size) [.pp i off] .pure (!ti.agg) S κ
  | _=>.fail
def St.setBlk (S:St) (b:Nat) (x:Blk):St:={ S with blks:=S.blks.set b (some x) }
def qEa (ti:TI) (b:Nat) (x:SV) (S:St) (κ:K1):Tree:=match x with
 | .v i=>jY (.chk true ti.size) [.v i] .pure false S fun y S=>κ (.tup []) (S.setBlk b (.whole y ti.size))
 | x=>pS x ti.agg ti.size S fun l S=>κ (.tup []) (S.setBlk b (.cells l))
def qHa (E:Env) (t:TypeId) (a x:SV) (S:St) (κ:K1):Tree:=match E.types.get t with
 | none=>.fail
 | some ti=>match a with
  | .loc b off=>match S.blks[b]? with
   | some (some (.cells cs)) =>
    bif ti.agg && Nat.beq off 0 && Nat.beq cs.length ti.size then
     qEa ti b x S κ
    else pS x ti.agg ti.size S fun l S=>match wX cs off l with
     | some cs'=>κ (.tup []) (S.setBlk b (.cells cs'))
     | none=>.fail
   | some (some (.whole y n)) =>
    bif ti.agg && Nat.beq off 0 && Nat.beq n ti.size && kL S y then
     qEa ti b x S κ
    else pS y true n S fun cs S=>pS x ti.agg ti.size S fun l S=>match wX cs off l with
     | some cs'=>κ (.tup []) (S.setBlk b (.cells cs'))
     | none=>.fail
   | _=>.fail
  | _=>.fail
def SV.ren (i n:Nat):SV->SV
 | .v j=>bif Nat.beq j i then .v n else .v j
 | .ptr (.v j) k sz off=>bif Nat.beq j i then .ptr (.v n) k sz off else .ptr (.v j) k sz off
 | x=>x
def St.setted (S:St) (i:Nat):St:={ (S.kill i).new .fresh true with slots:=S.slots.map (SV.ren i S.n) }
mutual
def SV.renD (i n:Nat):SV->SV
 | .v j=>bif Nat.beq j i then .v n else .v j
 | .c x=>.c x
 | .loc b o=>.loc b o
 | .ptr s k sz off=>.ptr (SV.renD i n s) (SV.renD i n k) sz off
 | .pp j o=>.pp j o
 | .agg cs=>.agg (SV.renDs i n cs)
 | .tup cs=>.tup (SV.renDs i n cs)
 | .fn f a b=>.fn f (SV.renDs i n a) (SV.renDs i n b)
 | .ifc t x=>.ifc t (SV.renD i n x)
 | .yld b=>.yld b
def SV.renDs (i n:Nat):List SV->List SV
 | []=>[]
 | x::xs=>SV.renD i n x::SV.renDs i n xs
end
def Blk.renD (i n:Nat):Blk->Blk
 | .cells cs=>.cells (SV.renDs i n cs)
 | .whole x k=>.whole x k
 | .loop a b=>.loop a b
 | .tcells t cs=>.tcells t (SV.renDs i n cs)
def St.mapped (S:St) (i:Nat):St:={ (S.kill i).new .fresh true with slots:=S.slots.map (SV.renD i S.n),blks:=S.blks.map (fun b=>b.map (Blk.renD i S.n)),sav:=S.sav.map (fun l=>l.map (fun (t,x)=>(t,SV.renD i S.n x))) }
def qWF (t:TypeId) (i:Nat) (k x:SV) (S:St) (κ:K1):Tree :=
 let S:=o9 S x
 bif xX S x && kL S k && S.freshV i then .bind (.mset t) [.v i,k,x] (κ (.tup []) (S.mapped i)) else .fail
def qUz (t:TypeId) (i:Nat) (k:SV) (S:St) (κ:K1):Tree:=.fail
def qTu (E:Env) (t:TypeId) (i:Nat) (j:SV) (sz off:Nat) (x:SV) (S:St) (κ:K1):Tree:=match E.types.get t with
 | none=>.fail
 | some ti =>
  let S:=o9 S x
  bif xX S x && kL S j && S.freshV i then .bind (.set sz ti.agg ti.size off) [.v i,j,x] (κ (.tup []) (S.setted i)) else .fail
def qHg:Operand->Operand->Bool
 | .tmp a,.tmp b=>Nat.beq a b
 | .const (.int k a),.const (.int k' b)=>decide (k=k') && decide (a=b)
 | _,_=>false
def oZ (E:Env) (t:TypeId):Option TypeId:=match E.types.get t with
 | some { desc:=.slice e,.. }=>some e
 | _=>none
def sQ (E:Env) (s d:TypeId):Bool:=match oZ E s with
 | some el=>match E.types.get el,E.types.get d with
  | some { desc:=.int .u8,.. },some { desc:=.string,.. }=>true
  | _,_=>false
 | none=>false
def eM (E:Env) (s d:TypeId):Option TypeId:=match E.types.get s,oZ E d with
 | some { desc:=.string,.. },some el=>match E.types.get el with
  | some { desc:=.int .u8,size:=sz,.. }=>bif Nat.beq sz 1 then some el else none
  | _=>none
 | _,_=>none
def iJ:Option Operand->Bool
 | some (.const (.int _ (.ofNat 0)))=>true
 | _=>false
def qBx (E:Env) (op:BinOp) (t:TypeId) (x y:Operand) (neg:Bool):Bool :=
 (oZ E t).isSome && (match rG E op t x y (.slice none 0 0) (.slice none 0 0) with | some (.bool b)=>b == !neg | _=>false) &&
  (match op with | .eql=>!neg | .neq=>neg | _=>false)
def qSL:BinOp->Bool
 | .neq=>true
 | _=>false
def qEs:SV->Bool
 | .c (.slice none 0 0)=>true
 | _=>false
def qUP (E:Env) (ts:List TypeId) (s x:SV) (S:St) (κ:K1):Tree:=match ts with
 | t::xt::_=>match oZ E t,E.types.get xt with
  | some el,some xi=>match E.types.get el,xi.desc with
   | some e,.slice _=>match e.zero with
    | some _ =>
     let go:=fun (S':St)=>bif kL S x && Nat.ble 1 e.size then Tree.bind (.app el e.size e.bytes) [s,x] (κ (.v S.n) (S'.new .fresh true)) else .fail
     match s with
     | .c (.slice none 0 0)=>go S
     | .v i=>match S.sts[i]? with
      | some ⟨.full,_⟩=>go S
      | some ⟨.fresh,_⟩=>(match x with
       | .v j=>bif Nat.beq i j then .fail else go (S.kill i)
       | _=>go (S.kill i))
      | _=>.fail
     | _=>.fail
    | none=>.fail
   | _,_=>.fail
  | _,_=>.fail
 | _=>.fail
def eJ (E:Env) (t:TypeId) (f:Nat):Option (Nat × TI):=match E.types.get t with
 | some { desc:=.struct fs,.. }=>match fs[f]? with
  | some fd=>match E.types.get fd.type with
   | some ti=>some (fd.offset,ti)
   | none=>none
  | none=>none
 | _=>none
def qGJ (E:Env) (b:Builtin) (ts:List TypeId) (args:List SV) (S:St) (κ:K1):Tree:=match b with
 | .len=>match ts,args with
  | t::_,[x]=>match E.types.get t with
   | some { desc:=.string,.. }=>jY (.len true) [x] .pure true S κ
   | some { desc:=.slice _,.. }=>jY (.len false) [x] .pure true S κ
   | some { desc:=.map _ _,.. }=>jY .mlen [x] .pure true S κ
   | _=>.fail
  | _,_=>.fail
 | .delete=>match ts,args with
  | t::_,[.v i,k]=>qUz t i k S κ
  | _,_=>.fail
 | .append=>match args with
  | [s,x]=>qUP E ts s x S κ
  | _=>.fail
 | .min=>match args with
  | [x,y]=>jY (.mm false) [x,y] .pure true S κ
  | _=>.fail
 | .max=>match args with
  | [x,y]=>jY (.mm true) [x,y] .pure true S κ
  | _=>.fail
 | _=>.fail
def qNY:SV->Option Bool
 | .c (.bool b)=>some b
 | _=>none
def vZ (E:Env) (o:Oper) (S:St) (κ:K1):Tree:=match o.op with
 | .move x | .assign x=>match rK S x with
  | some y=>κ y S
  | none=>.fail
 | .pick c a b=>match rK S c with
  | some (.c (.bool true))=>match rK S a with | some y=>κ y S | none=>.fail
  | some (.c (.bool false))=>match rK S b with | some y=>κ y S | none=>.fail
  | some (.v i)=>bif S.pureV i then
    .ite (.v i) (match rK (S.known i true) a with | some y=>κ y (S.known i true) | none=>.fail) (match rK (S.known i false) b with | some y=>κ y (S.known i false) | none=>.fail)
   else .fail
  | _=>.fail
 | .alloc t=>match E.types.get t with
  | some { zero:=some z,.. }=>bif z.all (fun v=>zP v && qQ v) then κ (.loc S.blks.length 0) { S with blks:=S.blks++[some (.cells (z.map .c))] } else .fail
  | _=>.fail
 | .box t x=>match rK S x,E.types.get t with
  | some y,some ti=>match y,ti.agg with
   | .v i,true=>jY (.chk true ti.size) [.v i] .pure false S fun y S=>κ (.loc S.blks.length 0) { S with blks:=S.blks++[some (.whole y ti.size)] }
   | y,ag=>pS y ag ti.size S fun l S=>κ (.loc S.blks.length 0) { S with blks:=S.blks++[some (.cells l)] }
  | _,_=>.fail
 | .build t ps=>match E.types.get t with
  | some { desc:=.struct fs,zero:=some z,agg:=true,.. }=>bif z.all (fun v=>zP v && qQ v) then
    qCq E S (fun i=>match fs[i]? with | some f=>(E.types.get f.type).map fun t=>(f.offset,t.size,t.agg) | none=>none) (z.map .c) ps.toList fun cs S=>κ (.agg cs) S else .fail
  | some { desc:=.array _ elem,zero:=some z,agg:=true,.. }=>bif (E.types.get elem).isSome && z.all (fun v=>zP v && qQ v) then
    qCq E S (fun i=>(E.types.get elem).map fun e=>(Nat.mul i e.size,e.size,e.agg)) (z.map .c) ps.toList fun cs S=>κ (.agg cs) S else .fail
  | _=>.fail
 | .buildSlice t n ps=>match oZ E t with
  | some el=>match E.types.get el with
   | some e=>match e.zero with
    | some z=>bif Nat.beq z.length e.size && Nat.beq n ps.toList.length then
      uC e.size e.agg [] S ps.toList fun l S=>qGN (.lit el e.size) l (bif Nat.beq n 0 then .full else .fresh) true S κ
     else .fail
    | none=>.fail
   | none=>.fail
  | none=>.fail
 | .load t a=>match rK S a with
  | some a=>qDp E t a S κ
  | none=>.fail
 | .store t a x=>match rK S a,rK S x with
  | some (.ptr (.v i) j sz off),some x=>qTu E t i j sz off x S κ
  | some a,some x=>qHa E t a x S κ
  | _,_=>.fail
 | .makeSlice t l c=>match oZ E t,rK S l with
  | some el,some x=>match E.types.get el with
   | some e=>match e.zero with
    | some z=>bif qHg l c && kL S x then .bind (.mk el e.size e.bytes e.agg z) [x] (κ (.v S.n) (S.new .fresh true)) else .fail
    | none=>.fail
   | none=>.fail
  | _,_=>.fail
 | .makeMap _ none=>.bind .mnew [] (κ (.v S.n) (S.new .fresh true))
 | .range t x=>match rK S x,E.types.get t with
  | some y,some { desc:=.string,.. }=>jY (.len true) [y] .pure true S fun _ S=>κ (.loc S.blks.length 0) { S with blks:=S.blks++[some (.tcells 0 [y,.c (.int .i64 0)])] }
  | _,_=>.fail
 | .next it true=>match rK S it with
  | some (.loc b 0)=>match S.blks[b]? with
   | some (some (.tcells 0 [y,p]))=>jY .nok [y,p] .pure true S fun c S=>.ite c
     (jY .nch [y,p] .pure true S fun ch S=>jY .nnx [y,p] .pure true S fun nx S=>κ (.tup [.c (.bool true),p,ch]) (S.setBlk b (.tcells 0 [y,nx])))
     (κ (.tup [.c (.bool false)]) S)
   | _=>.fail
  | _=>.fail
 | .lookup t x k ok=>match rK S x,rK S k with
  | some y,some z=>jY (.mget t ok) [y,z] .pure false S κ
  | _,_=>.fail
 | .mapUpdate t m k x=>match rK S m,rK S k,rK S x with
  | some (.v i),some z,some y=>qWF t i z y S κ
  | _,_,_=>.fail
 | .nilCheck x=>match rK S x with
  | some (.loc b o)=>κ (.loc b o) S
  | some (.fn (.func f) a b)=>κ (.fn (.func f) a b) S
  | some (.ifc t x)=>κ (.ifc t x) S
  | some (.v i)=>jY .nn [.v i] .pure true S κ
  | _=>.fail
 | .binOp op t x y _=>match rK S x,rK S y with
  | some a,some b =>
   bif qEs b && (qBx E op t x y true || qBx E op t x y false) then jY (.isNil (qSL op)) [a] .pure true S κ
   else bif xX S a && xX S b then .bind (.bin op t x y) [a,b] (κ (.v S.n) (S.new .pure true)) else .fail
  | _,_=>.fail
 | .unOp op t x=>match rK S x with
  | some y=>match op,qNY y with
   | .not,some b=>κ (.c (.bool !b)) S
   | _,_=>jY (.un op t) [y] .pure true S κ
  | none=>.fail
 | .convert s d x=>match rK S x with
  | some y=>match eM E s d with
   | some el=>bif kL S y then .bind (.byt el) [y] (κ (.v S.n) (S.new .fresh true)) else .fail
   | none=>bif sQ E s d then jY .bstr [y] .pure true S κ else jY (.conv s d) [y] .pure true S κ
  | none=>.fail
 | .makeInterface t x=>match E.types.get t,rK S x with
  | some { desc:=.interface _,.. },_=>.fail
  | some _,some y=>κ (.ifc t y) S
  | _,_=>.fail
 | .makeFunc fn first cap=>match cK S first.toList,cK S cap.toList with
  | some a,some b=>bif pA fn then qGK b [] S fun b S=>κ (.fn fn a b) S else .fail
  | _,_=>.fail
 | .slice t x lo hi mx=>bif (lo.isNone || iJ lo) && iJ hi && iJ mx then .fail else match rK S x,cK S lo.toList,cK S hi.toList,mx with
  | some y,some l,some h,none=>match E.types.get t with
   | some { desc:=.slice el,.. }=>match E.types.get el with
    | some e=>qGN (.slc el e.size lo.isSome hi.isSome) (y::(l++h)) .pure true S κ
    | none=>.fail
   | some { desc:=.string,.. }=>jY (.sub lo.isSome hi.isSome) (y::(l++h)) .pure true S κ
   | _=>.fail
  | _,_,_,_=>.fail
 | .fieldAddr s x f=>match rK S x,eJ E s f with
  | some y,some (off,ti)=>bif Nat.beq ti.size 0 then .fail else qEJ y S fun y S=>match y with
   | .loc b o=>κ (.loc b (Nat.add o off)) S
   | .ptr s i sz o=>κ (.ptr s i sz (Nat.add o off)) S
   | .pp i o=>κ (.pp i (Nat.add o off)) S
   | _=>.fail
  | _,_=>.fail
 | .field t x f=>match rK S x,eJ E t f with
  | some (.agg cs),some (off,ti)=>match uZ ti.agg ti.size off cs with
   | some y=>κ y S
   | none=>.fail
  | some (.v i),some (off,ti)=>jY (.chk true (match E.types.get t with | some ti=>ti.size | none=>0)) [.v i] .pure false S fun y S=>jY (.fld ti.agg ti.size off) [y] .pure (!ti.agg) S κ
  | _,_=>.fail
 | .indexAddr t x i=>match rK S x,rK S i,oZ E t with
  | some y,some j,some el=>match E.types.get el with
   | some e=>bif kL S y && kL S j then jY .inr [y,j] .pure true S fun _ S=>κ (.ptr y j e.size 0) S else .fail
   | none=>.fail
  | _,_,_=>.fail
 | .index t x i=>match rK S x,rK S i,E.types.get t with
  | some y,some j,some { desc:=.string,.. }=>jY .chr [y,j] .pure true S κ
  | _,_,_=>.fail
 | .extract x i=>match rK S x with
  | some (.tup cs)=>match cs[i]? with
   | some y=>κ y S
   | none=>.fail
  | some (.v j)=>jY (.ext i) [.v j] .pure false S κ
  | _=>.fail
 | .call c=>match cK S c.args.toList with
  | none=>.fail
  | some args=>match c.callee with
   | .builtin b=>qGJ E b c.argTypes.toList args S κ
   | .invoke r name=>match rK S r with
    | some y=>qGF E (.meth y name) (y::args) 0 S κ
    | none=>.fail
   | .value f=>match rK S f with
    | some (.fn (.func g) first cap)=>bif qVh E o g (first++args++cap) then qIc E g (first++args++cap) S κ else qGF E (.fn g) (first++args++cap) (qNr E g) S κ
    | some (.v i)=>qGF E (.val (.v i)) (.v i::args) (match E.types.get o.type with | some { desc:=.bool,.. }=>1 | some { desc:=.int _,.. }=>1 | some { desc:=.string,.. }=>1 | _=>0) S κ
    | _=>.fail
 | _=>.fail
def gG (o:Oper):Bool:=match o.op with
 | .store _ _ _=>true
 | _=>false
def qOc (S:St):List SV->Bool
 | [.v i,_]=>S.freshV i
 | _=>false
def xG (E:Env) (S:St) (o:Oper):Bool:=gG o || match o.op with
 | .mapUpdate _ _ _ _=>true
 | .next _ _=>true
 | .call c=>match c.callee,cK S c.args.toList with
  | .builtin .append,some args=>qOc S args
  | .builtin .delete,_=>true
  | .value f,some args=>match rK S f with
   | some (.fn (.func g) first cap)=>qVh E o g (first++args++cap)
   | _=>false
  | _,_=>false
 | _=>false
def qBQ (all:Array Oper) (o:Oper) (S:St) (yes no:St->Tree):Tree:=match o.guard with
 | none=>yes S
 | some (j,want)=>match all.toList[j]? with
  | some { dst:=some d,.. }=>match S.slots.get d with
   | some (.c (.bool b))=>bif b == want then yes S else no S
   | some (.tup [])=>no S
   | some (.v i)=>bif S.pureV i then .ite (.v i) (bif want then yes (S.known i true) else no (S.known i true)) (bif want then no (S.known i false) else yes (S.known i false)) else .fail
   | _=>.fail
  | _=>.fail
def qFu:Op->Bool
 | .move _ | .assign _ | .pick _ _ _ | .nilCheck _ | .binOp _ _ _ _ _ | .unOp _ _ _ | .fieldAddr _ _ _ | .indexAddr _ _ _ | .extract _ _ | .build _ _=>true
 | _=>false
def qMY (o:Oper):Bool:=qFu o.op || match o.op with
 | .slice _ _ _ _ _=>true
 | _=>false
def dW (all:List Oper) (i0:Nat):List Oper->Nat->Bool
 | [],_=>true
 | _::os,i=>gY (yE all) i0 i && dW all i0 os (i+1)
def aP (all:List Oper) (i0:Nat):List Oper->Nat->Bool
 | [],_=>true
 | o::os,i=>(qMY o && o.guard.isNone && aP all i0 os (i+1)) || dW all i0 (o::os) i
def qBE (all:List Oper) (i:Nat) (o:Oper) (os:List Oper):Bool:=(match o.op with
 | .call c=>(match c.callee,c.args.toList with
  | .builtin .append,[.tmp _,_]=>true
  | _,_=>false)
 | _=>false) && (List.range i).all (fun k=>gY (yE all) i k) && aP all i os (i+1)
def qCQ (E:Env) (all:Array Oper) (draw:Bool):List Oper->Nat->St->(St->Tree)->Tree
 | [],_,S,κ=>κ S
 | o::os,i,S,κ =>
  qBQ all o S
   (fun S=>bif draw && xG E S o && !(xJ all.toList i) && !(qBE all.toList i o os) then .fail else
    vZ E o S fun y S=>match S.put o.dst y with
     | some S=>qCQ E all draw os (i+1) S κ
     | none=>.fail)
   (fun S=>match S.put o.dst (.tup []) with
    | some S=>qCQ E all draw os (i+1) S κ
    | none=>.fail)
def qAv (S:St):List Oper->Nat->List (Nat × Nat)
 | [],_=>[]
 | o::os,i=>match o.op with
  | .store _ (.tmp a) _=>match S.slots.get a with
   | some (.loc b _)=>(i,b)::qAv S os (i+1)
   | _=>qAv S os (i+1)
  | _=>qAv S os (i+1)
def fK (S:St) (o:Oper) (os:List Oper) (bs:List Nat):Bool:=match o.op with
 | .load _ (.tmp a)=>(o::os).all (mD a) && match S.slots.get a with
  | some (.loc b _)=>bs.all (fun c=>!(Nat.beq c b)) && (S.blks[b]?.getD none).isSome
  | some (.ptr (.v k) _ _ _)=>S.pureV k
  | _=>false
 | .alloc _=>match o.dst with
  | some d=>os.all (mD d) && match S.slots.get d with
   | some (.loc b _)=>bs.all (fun c=>!(Nat.beq c b)) && (S.blks[b]?.getD none).isSome
   | _=>false
  | none=>false
 | .store _ (.tmp a) _=>bs.isEmpty && (o::os).all (mD a) && match S.slots.get a with
  | some (.loc b _)=>(S.blks[b]?.getD none).isSome
  | _=>false
 | .buildSlice _ n _=>Nat.ble 1 n && match o.dst with
  | some d=>os.all (mD d) && match S.slots.get d with
   | some (.v k)=>S.freshV k || S.pureV k
   | _=>false
  | none=>false
 | op=>qFu op
def nR (S:St) (all:List Oper):List Oper->Nat->Bool
 | [],_=>true
 | o::os,i=>fK S o os (qP all i (qAv S all 0)) && nR S all os (i+1)
def aB (S:St):List Oper->List (SV × SV)
 | []=>[]
 | o::os=>match o.op with
  | .load _ (.tmp a)=>match S.slots.get a with
   | some (.ptr (.v k) i _ _)=>(.v k,i)::aB S os
   | _=>aB S os
  | _=>aB S os
def dD (S:St):List Oper->List (SV × SV)
 | []=>[]
 | o::os=>match o.op with
  | .buildSlice _ _ _=>match o.dst with
   | some d=>match S.slots.get d with
    | some (.v k)=>bif S.pureV k then (.v k,.c (.int .i64 0))::dD S os else dD S os
    | _=>dD S os
   | none=>dD S os
  | _=>dD S os
def qFv (S:St) (os:List Oper):List (SV × SV):=aB S os++dD S os
def qGB:List (SV × SV)->St->(St->Tree)->Tree
 | [],S,κ=>κ S
 | (s,i)::r,S,κ=>bif xX S s && xX S i then .bind .inr [s,i] (qGB r (S.new .pure true) κ) else .fail
def qWG (ops:List Oper):Bool:=ops.zipIdx.any fun (o,i)=>gG o && !(xJ ops i)
def nl:Code->Nat
 | .seq a b=>nl a+nl b
 | .cond _ a b=>nl a+nl b
 | .block _ b=>nl b
 | .loop b=>nl b+1
 | .scope b=>nl b
 | _=>0
abbrev KC:=AExit->St->Tree
def qJ4 (k:St->Tree) (κ:KC):KC:=fun e S=>match e with
 | .normal=>k S
 | e=>κ e S
def bQ (id:Nat) (κ:KC):KC:=fun e S=>match e with
 | .exit id'=>bif Nat.beq id' id then κ .normal S else κ (.exit id') S
 | e=>κ e S
def sx (E:Env) (J:Nat->St->Tree):Nat->Code->St->KC->Tree
 | at_,.seq a b,S,κ=>sx E J at_ a S (qJ4 (fun S=>sx E J (at_+nl a) b S κ) κ)
 | at_,.cond c a b,S,κ=>match rK S c with
  | some (.c (.bool true))=>sx E J at_ a S κ
  | some (.c (.bool false))=>sx E J (at_+nl a) b S κ
  | some (.v i)=>bif S.pureV i then .ite (.v i) (sx E J at_ a (S.known i true) κ) (sx E J (at_+nl a) b (S.known i false) κ) else .fail
  | _=>.fail
 | at_,.block id b,S,κ=>sx E J at_ b S (bQ id κ)
 | at_,.loop _,S,_=>J at_ S
 | at_,.scope b,S,κ=>sx E J at_ b S κ
 | _,.region _ ops draw,S,κ=>bif draw && qWG ops.toList then qCQ E ops false ops.toList 0 S (fun S=>bif nR S ops.toList ops.toList 0 then qGB (qFv S ops.toList) S (κ .normal) else .fail) else qCQ E ops draw ops.toList 0 S (κ .normal)
 | _,.skip,S,κ=>κ .normal S
 | _,.label _,S,κ=>κ .normal S
 | _,.ret,S,κ=>κ .ret S
 | _,.exit id,S,κ=>κ (.exit id) S
 | _,_,_,_=>.fail
def qEe (E:Env) (S:St) (acc:List SV):List ResultVar->Tree
 | [] =>
  let S:=vR S acc
  bif acc.all (xX S) then .ret acc else .fail
 | .tmp t::r=>match S.slots.get t with
  | some x=>qEe E S (acc++[x]) r
  | none=>.fail
 | .cell a t::r=>match S.slots.get a with
  | some p=>qDp E t p S fun x S=>qEe E S (acc++[x]) r
  | none=>.fail
def qEg (E:Env) (m:Mode) (S:St) (acc:List SV):List ResultVar->Tree
 | []=>qI7 .ret acc.length m.out { S with slots:=T.ofList .leaf 0 acc,sz:=acc.length }
 | .tmp t::r=>match S.slots.get t with
  | some x=>qEg E m S (acc++[x]) r
  | none=>.fail
 | .cell a t::r=>match S.slots.get a with
  | some p=>qDp E t p S fun x S=>qEg E m S (acc++[x]) r
  | none=>.fail
def qEG (E:Env) (m:Mode) (rs:List ResultVar):KC:=fun e S=>match e with
 | .normal=>qEg E m S [] rs
 | .ret=>qEg E m S [] rs
 | .exit _=>.fail
def qDd (E:Env) (J:Nat->St->Tree) (fn:Func) (m:Mode):Tree:=match fn.body with
 | some c=>sx E J 1 c (m.inp.st (Nat.max fn.ntmps m.n)) (qEG E m fn.results.toList)
 | none=>.fail
def uB (E:Env) (rs:List ResultVar):KC:=fun e S=>match e with
 | .normal=>qEe E S [] rs
 | .ret=>qEe E S [] rs
 | .exit _=>.fail
def gK (n sz:Nat):St:={ sts:=List.replicate n ⟨.pure,false⟩,slots:=T.ofList .leaf 0 ((List.range n).map .v),blks:=[],sz:=sz }
def qFl (E:Env) (J:Nat->St->Tree) (fn:Func) (n:Nat):Tree:=match fn.body with
 | some c=>sx E J 1 c (gK n (Nat.max fn.ntmps n)) (uB E fn.results.toList)
 | none=>.fail
def fB (J:Nat->St->Tree) (at_:Nat) (κ:KC):KC:=fun e S=>match e with
 | .normal=>J at_ S
 | e=>κ e S
def jU (E:Env) (P:Nat->St) (J:Nat->St->Tree):Nat->Code->KC->List (Nat × Tree)
 | at_,.seq a b,κ=>jU E P J at_ a (qJ4 (fun S=>sx E J (at_+nl a) b S κ) κ)++jU E P J (at_+nl a) b κ
 | at_,.cond _ a b,κ=>jU E P J at_ a κ++jU E P J (at_+nl a) b κ
 | at_,.block id b,κ=>jU E P J at_ b (bQ id κ)
 | at_,.loop b,κ=>(at_,sx E J (at_+1) b (P at_) (fB J at_ κ))::jU E P J (at_+1) b (fB J at_ κ)
 | at_,.scope b,κ=>jU E P J at_ b κ
 | _,_,_=>[]
inductive Res1 where
 | ret (d:D)
 | jump (k:Nat) (ds:List D)
def kK:List D->D
 | [d]=>d
 | l=>.tup l
def sV:List D->Bool
 | []=>true
 | .leaf _::r=>sV r
 | _::_=>false
def qDC:Nat->D->Bool
 | 0,_=>true
 | 1,.leaf _=>true
 | 1,_=>false
 | _,.tup l=>sV l
 | _,_=>false
def nK:Nat:=1000000000000
def qA5 (E:Env) (tg:Tgt) (ds:List D):Option (FuncId × List D):=match tg with
 | .fn f=>some (f,ds)
 | .val _=>match ds with
  | .clo (.func g) first cap::r=>some (g,first++r++cap)
  | _=>none
 | .meth _ name=>match ds with
  | .iface t d::r=>match E.prog.info? t,E.types.get t with
   | some i,some ti=>match i.methods.find? (·.name == name) with
    | some { path:=p,func:=some (f,ptr),.. }=>bif Nat.beq p.toList.length 0 && qAF ti.desc ptr then some (f,d::r) else none
    | _=>none
   | _,_=>none
  | _=>none
def getD (ρ:List D) (i:Nat):D:=ρ.getD i .nil
def wp (E:Env) (HS:FuncId->List D->D->Prop) (Q:Res1->Prop):Tree->List D->Prop
 | .fail,_=>False
 | .stop _ _,_=>False
 | .ret xs,ρ=>Q (.ret (kK (SV.ds (getD ρ) xs)))
 | .jump k xs,ρ=>Q (.jump k (SV.ds (getD ρ) xs))
 | .bind o xs r,ρ=>match o.eval E (SV.ds (getD ρ) xs) with
  | some d=>wp E HS Q r (ρ++[d])
  | none=>False
 | .call tg xs fl r,ρ=>match qA5 E tg (SV.ds (getD ρ) xs) with
  | some (f,ds)=>∃ d,HS f ds d/\qDC fl d=true/\wp E HS Q r (ρ++[d])
  | none=>False
 | .callM f m xs r,ρ=>∃ ds,HS (Nat.add nK f) (.mode m::SV.ds (getD ρ) xs) (kK ds)/\ds.length=m.out.sts.length/\wp E HS Q r (ρ++ds)
 | .ite c a b,ρ=>match c.d (getD ρ) with
  | .leaf (.bool true)=>wp E HS Q a ρ
  | .leaf (.bool false)=>wp E HS Q b ρ
  | _=>False
def qT4 (E:Env) (HS:FuncId->List D->D->Prop) (Ts:Nat->Tree):Nat->Nat->List D->D->Prop
 | 0,_,_,_=>False
 | n+1,k,ρ,d=>wp E HS (fun r=>match r with | .ret d'=>d'=d | .jump k' ds=>qT4 E HS Ts n k' ds d) (Ts k) ρ
def qK (E:Env) (HS:FuncId->List D->D->Prop) (Ts:Nat->Tree) (k:Nat) (ρ:List D) (d:D):Prop:=∃ n,qT4 E HS Ts n k ρ d
end Go.Am
