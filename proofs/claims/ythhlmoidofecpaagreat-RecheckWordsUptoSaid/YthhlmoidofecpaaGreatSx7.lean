/- Texts that are built up in a builder: writing and reading it, in symbolic runs. Conditions: none. -/
import Derived.Test.YthhlmoidofecpaaGreatSx6
set_option linter.unusedVariables false
set_option linter.unusedSimpArgs false
namespace Go.Am
open Go
structure Bld where
 w:FuncId
 s:FuncId
 t:TypeId
 bt:TypeId
 el:TypeId
 st:TypeId
 by_:Nat
def AH.up (H:AH):AH:={ H with next:=H.next+1 }
section
variable {E:Env} {n0:Lim} {H0:AH} {g0:zF} {S:St} {ρ:List D} {ve:Nat->Value} {lb:Nat->Nat} {g:zF} {fr:Fr} {H:AH} {Q:Res1->Prop} {HS:FuncId->List D->D->Prop} {B:Bld}
end
end Go.Am
namespace Go.Am
open Go
def isPtr (E:Env) (t u:TypeId):Bool:=match E.types.get t,E.types.get u with
 | some { desc:=.pointer u',.. },some ti=>Nat.beq u' u && Nat.ble 1 ti.size
 | _,_=>false
section
variable {E:Env} {fr:Fr} {o:Oper} {H:AH}
end
end Go.Am
namespace Go.Am
open Go
structure Lst where
 f:FuncId
 ex:Option FuncId
 cut:Bool
 G:List D->Option D
structure Gro where
 f:FuncId
 G:List D->Option D
def Lst.xv (Y:Lst):List Value:=match Y.ex with
 | none=>[]
 | some g=>[.func (.func g) #[] #[]]
def qPR:Option FuncId->List SV->Bool
 | none,[]=>true
 | some g,[.fn (.func g') [] []]=>Nat.beq g' g
 | _,_=>false
def qGP:List Lst->FuncId->List SV->Option Lst
 | [],_,_=>none
 | Y::r,g,xs=>bif Nat.beq Y.f g && qPR Y.ex xs then some Y else qGP r g xs
def qGQ:List Gro->FuncId->Option Gro
 | [],_=>none
 | Y::r,g=>bif Nat.beq Y.f g then some Y else qGQ r g
def qPH (Y:Lst) (i:Nat) (S:St) (κ:K1):Tree :=
 bif S.freshV i then .bind (.lib Y.G) [.v i] (bif Y.cut then κ (.v S.n) ((S.kill i).new .fresh true) else κ (.tup []) (S.setted i)) else .fail
def qPV (Y:Gro) (x:SV) (S:St) (κ:K1):Tree :=
 bif yQ S x then .bind (.lib Y.G) [x] (κ (.v S.n) (S.new .fresh true)) else .fail
def qR1 (Ls:List Lst) (Gs:List Gro) (g:FuncId) (args:List SV) (S:St) (κ:K1):Option Tree:=match args with
 | .v i::xs=>match qGP Ls g xs with
  | some Y=>some (qPH Y i S κ)
  | none=>none
 | [.c (.slice none 0 0),x]=>match qGQ Gs g with
  | some Y=>some (qPV Y x S κ)
  | none=>none
 | _=>none
def qOv (E:Env) (Ls:List Lst) (Gs:List Gro):qK0:=fun o S κ=>match o.op with
 | .call c=>match c.callee,l7 S c.args.toList with
  | .value f,some args=>match nW S f with
   | some (.fn (.func g) [] [])=>match qR1 Ls Gs g args S κ with
    | some t=>t
    | none=>jN E o S κ
   | _=>jN E o S κ
  | _,_=>jN E o S κ
 | _=>jN E o S κ
def iV (mx el sz:Nat) (P:D->Bool) (F:List D->List D):List D->Option D
 | [.nil]=>some .nil
 | [.sl v7 sz' es]=>bif Nat.beq v7 el && Nat.beq sz' sz && es.all P && Nat.ble es.length mx then some (.sl el sz (F es)) else none
 | _=>none
def qR7 (el sz bytes:Nat):List D->Option D
 | [.leaf (.int .i64 (.ofNat n))]=>bif Nat.ble (Nat.mul n (Nat.succ (Nat.add bytes sz))) 100000000 then some (bif Nat.beq n 0 then .nil else .sl el sz []) else none
 | _=>none
def qUq:D->List Value
 | .leaf v=>[v]
 | _=>[]
def qLe (e:D):List Value:=e.cells.flatMap qUq
def qHD (es:List D):List Value:=es.flatMap qLe
def qBR (sz:Nat) (e:D):Prop:=∃ ws:List Value,e.cells=ws.map D.leaf/\ws.length=sz/\∀ w∈ws,xN w=true/\qN w=true
theorem qFg:∀ ws:List Value,(ws.map D.leaf).flatMap qUq=ws
 | []=>rfl
 | w::r=>by rw [List.map_cons,List.flatMap_cons,qFg r]; rfl
theorem qBR.lv {sz:Nat} {e:D} (h:qBR sz e):e.cells=(qLe e).map D.leaf/\(qLe e).length=sz/\∀ w∈qLe e,xN w=true/\qN w=true:=by
 obtain ⟨ws,h1,h2,h3⟩:=h
 have:qLe e=ws:=by unfold qLe; rw [h1,qFg]
 rw [this]
 exact ⟨h1,h2,h3⟩
theorem qFf {sz:Nat}:∀ {es:List D},(∀ e∈es,qBR sz e)->es.flatMap D.cells=(qHD es).map D.leaf/\(qHD es).length=es.length * sz/\∀ w∈qHD es,xN w=true/\qN w=true
 | [],_=>⟨rfl,by simp [qHD],fun _ h=>by cases h⟩
 | e::r,h=>by
  obtain ⟨a1,a2,a3⟩:=(h e List.mem_cons_self).lv
  obtain ⟨b1,b2,b3⟩:=qFf fun x hx=>h x (mC _ hx)
  have e1:qHD (e::r)=qLe e++qHD r:=rfl
  refine ⟨?_,?_,?_⟩
  ·rw [List.flatMap_cons,a1,b1,e1,List.map_append]
  ·rw [e1,List.length_append,a2,b2,List.length_cons,Nat.succ_mul]; omega
  intro w hw
  rw [e1,List.mem_append] at hw
  exact hw.elim (a3 w) (b3 w)
theorem qDB {g:zF}:∀ {ws vs:List Value},DRs g (ws.map D.leaf) vs->vs=ws
 | [],vs,h=>by cases h; rfl
 | w::r,vs,h=>by
  cases h with
  | cons ha hs=>rw [ha.leaf_inv.1,qDB hs]
theorem qDC {g:zF}:∀ {ws:List Value},(∀ w∈ws,xN w=true)->DRs g (ws.map D.leaf) ws
 | [],_=>.nil
 | w::r,h=>.cons (.leaf (h w List.mem_cons_self)) (qDC fun x hx=>h x (mC _ hx))
structure LstOK (E:Env) (Y:Lst) (el sz:Nat) (P:D->Bool) (F:List D->List D) (mx:Nat:=1000000000):Prop where
 ff:∃ fn,E.funcs.get Y.f=some fn
 G:Y.G=iV mx el sz P F
 flat:∀ e,P e=true->qBR sz e
 mem:∀ es,(∀ e∈es,P e=true)->∀ e∈F es,P e=true
 len:∀ es,(∀ e∈es,P e=true)->(F es).length<=es.length/\(Y.cut=false->(F es).length=es.length)
 no:∀ {H:AH} {v:Value},(v=.slice none 0 0∨∃ a,v=.slice (some a) 0 0)->jL E Y.f (v::Y.xv) H (bif Y.cut then v else .tuple #[]) H
 ok:∀ {H:AH} {B rt:Nat} {cs:List Value} {es:List D},H.blocks.get B=some ⟨.cells cs el,rt,true⟩->take? cs (es.length * sz)=some (qHD es)->(∀ e∈es,P e=true)->es.length<=mx ->
  ∃ (r:List Value) (H':AH),jL E Y.f (.slice (some ⟨B,0,none⟩) es.length zG::Y.xv) H (bif Y.cut then .slice (some ⟨B,0,none⟩) (F es).length zG else .tuple #[]) H' /\
   take? r ((F es).length * sz)=some (qHD (F es))/\H'.blocks.get B=some ⟨.cells r el,rt,true⟩/\(∀ b,b≠B->H'.blocks.get b=H.blocks.get b)/\H'.next=H.next/\Nat.min (Nat.min H.low H.next) rt<=H'.low
structure GroOK (E:Env) (Y:Gro) (el sz bytes:Nat):Prop where
 ff:∃ fn,E.funcs.get Y.f=some fn
 G:Y.G=qR7 el sz bytes
 ok:∀ {H:AH} {n:Nat},n * (bytes+sz+1)<=100000000->∃ (v:Value) (H':AH),jL E Y.f [.slice none 0 0,goInt n] H v H'/\H.next<=H'.next/\(∀ b,b < H.next->H'.blocks.get b=H.blocks.get b)/\(WF H->WF H')/\Nat.min H.low H.next<=H'.low /\
  ((n=0/\v=.slice none 0 0)∨(n≠0/\∃ (B rt:Nat) (cs:List Value),H.next<=B/\H.next<=rt/\v=.slice (some ⟨B,0,none⟩) 0 zG/\H'.blocks.get B=some ⟨.cells cs el,rt,true⟩))
section
variable {E:Env} {n0:Lim} {H0:AH} {g0:zF} {S:St} {ρ:List D} {ve:Nat->Value} {lb:Nat->Nat} {g:zF} {fr:Fr} {H:AH} {Q:Res1->Prop} {HS:FuncId->List D->D->Prop} {Y:Lst} {el sz:Nat} {P:D->Bool} {F:List D->List D} {mx:Nat}
theorem qHh {i:Nat} {d:D} {H':AH} (hi:i < S.n) (k3:SR n0 H0 g0 ((S.kill i).new .fresh true) (ρ++[d]) (bK ve S.n (ve i)) lb g fr H'):SR n0 H0 g0 (S.setted i) (ρ++[d]) (bK ve S.n (ve i)) lb g fr H':=by
 refine { k3 with slots:=?_ }
 intro tt y hy
 have hy':(S.slots.map (SV.ren i S.n)).get tt=some y:=hy
 rw [Go.Am.T.get_map] at hy'
 simp only [Option.map_eq_some_iff] at hy'
 obtain ⟨y0,hy0,rfl⟩:=hy'
 obtain ⟨p1,p2⟩:=k3.slots tt y0 hy0
 refine ⟨qJj p1 (by show S.n < ((S.kill i).new .fresh true).n; rw [wH,nR]; omega),?_⟩
 rw [qGi (by rw [vW,sX hi])]
 exact p2
theorem qPG (hY:LstOK E Y el sz P F mx) (h:SR n0 H0 g0 S ρ ve lb g fr H) {o:Oper} {κ:K1} {i:Nat} (ha:jD E fr o H=some (.enter Y.f (ve i::Y.xv),H)) (hw:wp E HS Q (qPH Y i S κ) ρ):aJ E HS Q n0 H0 g0 fr H o κ:=by
 unfold qPH at hw
 obtain ⟨c3,hw2⟩:=jP hw
 simp only [wp] at hw2
 split at hw2
 case h_2=>cases hw2
 rename_i d hd
 rw [qFy,hY.G] at hd
 simp only [SV.ds] at hd
 obtain ⟨of,hst⟩:=zV.1 c3
 have hi:i < S.n:=qDU c3
 have hv:=(h.vars i _ hst).2
 have fin:∀ {H':AH} {d:D} {v:Value},(Y.cut=false->v=ve i)->gY g H'.blocks.get n0 d v->d.one=true->SR n0 H0 g0 (S.kill i) ρ ve lb g fr H'->(∀ B,jO v=some B->jO (ve i)=some B) ->
   jL E Y.f (ve i::Y.xv) H (bif Y.cut then v else .tuple #[]) H'->H.next<=H'.next->wp E HS Q (bif Y.cut then κ (.v S.n) ((S.kill i).new .fresh true) else κ (.tup []) (S.setted i)) (ρ++[d])->aJ E HS Q n0 H0 g0 fr H o κ:=by
  intro H' d v hcv hfr hone k2 hown hcall hnx hw
  have k3:=k2.newFresh (d:=d) (v:=v) hfr hone (fun B hB=>h.sepFG i B c3 (hown B hB)) (fun B c hB hc e=>h.sepX c i hc c3 (by rw [e]; exact hown B hB))
   (fun B jj hB hf hoj=>by obtain ⟨a1,a2⟩:=xR hf; exact a2 (h.sepF jj i B a1 c3 hoj (hown B hB)))
  rw [nR] at k3
  cases hcut:Y.cut with
  | true =>
   rw [hcut] at hw hcall
   refine ⟨.v S.n,_,_,_,_,_,_,k3.raise,?_,hw,?_⟩
   ·show S.n < _
    rw [wH,nR]; omega
   have:(SV.v S.n).val (bK ve S.n v) lb=v:=by simp only [SV.val,vW]
   rw [this]
   exact .of_call ha hcall.raise (Nat.lt_succ_of_le hnx)
  | false =>
   have hcv:=hcv hcut
   subst hcv
   rw [hcut] at hw hcall
   have k4:=qHh hi k3
   exact ⟨.tup [],_,_,_,_,_,_,k4.raise,trivial,hw,.of_call ha hcall.raise (Nat.lt_succ_of_le hnx)⟩
 rcases hv with qn | ⟨B,l,cs,vs,v7,rt,sz2,es2,qo⟩
 ·
  -- no elements
  have hno:ve i=.slice none 0 0∨∃ a,ve i=.slice (some a) 0 0:=by
   rcases qn with ⟨h1,_⟩ | ⟨_,h1⟩
   ·exact .inl h1
   exact .inr h1
  have hdd:d=getD ρ i:=by
   rcases qn.sl with hz | ⟨_,_,hz⟩
   ·simp only [SV.d,hz,iV] at hd
    rw [hz]; exact (Option.some.inj hd).symm
   simp only [SV.d,hz,iV] at hd
   obtain ⟨hc,hd⟩:=zM hd
   simp only [vF] at hc
   have e1:=vU hc.1.1.1
   have e2:=vU hc.1.1.2
   have e3:F []=[]:=List.length_eq_zero_iff.1 (Nat.le_zero.1 (hY.len [] (fun _ q=>by cases q)).1)
   rw [e3] at hd
   rw [hz,e1,e2]; exact (Option.some.inj hd).symm
  subst hdd
  exact fin (fun _=>rfl) (.inl qn) qn.one (h.killed i) (fun B hB=>hB) (hY.no hno) (lR _) hw2
 have hqd:getD ρ i=.sl v7 sz2 es2:=qo.d
 simp only [SV.d,hqd,iV] at hd
 obtain ⟨hc,hd2⟩:=zM hd
 clear hd
 simp only [vF,List.all_eq_true] at hc
 have e1:=(vU hc.1.1.1).symm
 have e2:=(vU hc.1.1.2).symm
 have hP:=hc.1.2
 have hbd:=lB hc.2
 subst e1 e2
 have hd:=Option.some.inj hd2
 have hown:jO (ve i)=some B:=by rw [qo.v]; simp [jO]
 obtain ⟨c1,c2,c4⟩:=qFf (sz:=sz) (es:=es2) fun e he=>hY.flat e (hP e he)
 have hvs:=qo.r
 rw [c1] at hvs
 have hvs:=qDB hvs
 have ht:=qo.t
 rw [hvs,← qo.n] at ht
 obtain ⟨r,H',k1,k2,k3,k4,k5,k6⟩:=hY.ok qo.b ht hP hbd
 have hFP:∀ e∈F es2,qBR sz e:=fun e he=>hY.flat e (hY.mem es2 hP e he)
 obtain ⟨f1,f2,f3⟩:=qFf hFP
 have hwf:WF H':=fun b k hb=>by
  rw [k5]
  by_cases e:b=B
  ·subst e
   rw [k3] at hb
   cases hb
   exact ⟨(h.wf b _ qo.b).1,(h.wf b _ qo.b).2⟩
  rw [k4 b e] at hb
  exact h.wf b k hb
 have g2:=(h.killed i).heap2 (H':=H') (fun b=>b=B) (fun b _ hb=>k4 b hb) (fun b hb=>by subst hb; exact h.sepFG i b c3 hown)
  (fun b c hb hl e=>by subst hb; exact h.sepX c i hl c3 (by rw [e]; exact hown))
  (fun b jj hb hf hoj=>by subst hb; obtain ⟨a1,a2⟩:=xR hf; exact a2 (h.sepF jj i b a1 c3 hoj hown))
  (fun b hb=>by subst hb; exact qo.rt.2) hwf (Nat.le_of_eq k5.symm)
  (lT (Nat.le_min.2 ⟨Nat.le_min.2 ⟨h.low,lT (Nat.min_le_right _ _) h.base.1⟩,lT (Nat.min_le_right _ _) qo.rt.1⟩) k6)
 have hx:=qo.x
 have hn:=qo.n
 have hle:=(hY.len es2 hP).1
 rw [qo.v] at hown
 refine fin (H':=H') (v:=.slice (some ⟨B,0,none⟩) (F es2).length zG) (fun hcut=>?_) ?_ ?_ g2 (fun B' hB'=>?_) ?_ (Nat.le_of_eq k5.symm) hw2
 ·rw [qo.v,(hY.len es2 hP).2 hcut,hn]
 ·rw [← hd]
  refine .inr ⟨B,_,r,qHD (F es2),el,rt,sz,F es2,rfl,rfl,k3,qo.rt,k2,?_,rfl,fun e he=>?_,by omega,?_⟩
  ·rw [f1]; exact qDC fun w hw=>(f3 w hw).1
  ·obtain ⟨q1,q2,_⟩:=(hFP e he).lv
   rw [q1,List.length_map,q2]
  rw [List.all_eq_true]; exact fun w hw=>(f3 w hw).2
 ·rw [← hd]; rfl
 ·rw [qo.v]
  simp only [jO,lR,if_true,oI] at hB' ⊢
  exact hB'
 rw [qo.v,← hn]; exact k1
theorem qPU {Y:Gro} {bytes:Nat} (hY:GroOK E Y el sz bytes) (h:SR n0 H0 g0 S ρ ve lb g fr H) {o:Oper} {κ:K1} {x:SV} (ha:jD E fr o H=some (.enter Y.f [.slice none 0 0,x.val ve lb],H)) (hw:wp E HS Q (qPV Y x S κ) ρ):aJ E HS Q n0 H0 g0 fr H o κ:=by
 unfold qPV at hw
 obtain ⟨c3,hw2⟩:=jP hw
 have hr:=z7 h.toSM c3
 simp only [wp] at hw2
 split at hw2
 case h_2=>cases hw2
 rename_i d hd
 rw [qFy,hY.G] at hd
 simp only [SV.ds] at hd
 generalize x.d (getD ρ)=dx at hd hr
 unfold qR7 at hd
 split at hd
 case h_2=>cases hd
 rename_i n heq
 cases heq
 obtain ⟨hc,hd2⟩:=zM hd
 clear hd
 have hd:=Option.some.inj hd2
 have hle:n * (bytes+sz+1)<=100000000:=lB hc
 have hv:=(hr.dr (by intro _ _ _ e; cases e)).leaf_inv.1
 rw [hv] at ha
 obtain ⟨v,H',k1,k2,k3,k4,k5,k6⟩:=hY.ok (H:=H) hle
 have g2:=h.heap (H':=H') k3 (k4 h.wf) k2 (lT (Nat.le_min.2 ⟨h.low,lT (Nat.min_le_right _ _) h.base.1⟩) k5)
 have fin:gY g H'.blocks.get n0 d v->d.one=true->(∀ B,jO v=some B->H.next<=B)->aJ E HS Q n0 H0 g0 fr H o κ:=by
  intro hfr hone hown
  have k7:=g2.newFresh (d:=d) (v:=v) hfr hone (fun B hB=>by
    cases hg:g B with
    | none=>rfl
    | some k=>have:=qMo h.toSM hg; have:=hown B hB; omega)
   (fun B c hB hc e=>by have:=(xQ h.toSM hc).1; have:=hown B hB; omega)
   (fun B i hB hi hoi=>by have:=(oR h.toSM hi hoi).1; have:=hown B hB; omega)
  refine ⟨.v S.n,_,_,_,_,_,_,k7.raise,?_,hw2,?_⟩
  ·show S.n < _
   rw [wH]; omega
  have:(SV.v S.n).val (bK ve S.n v) lb=v:=by simp only [SV.val,vW]
  rw [this]
  exact .of_call ha k1.raise (Nat.lt_succ_of_le k2)
 rcases k6 with ⟨rfl,rfl⟩ | ⟨h0,B,rt,cs,b1,b2,rfl,b3⟩
 ·have hd:d=.nil:=hd.symm
  subst hd
  exact fin (.inl (.inl ⟨rfl,rfl⟩)) rfl (fun B hB=>by cases hB)
 have hn0:Nat.beq n 0=false:=by
  cases e:Nat.beq n 0 with
  | false=>rfl
  | true=>exact absurd (vU e) h0
 rw [hn0] at hd
 have hd:d=.sl el sz []:=hd.symm
 subst hd
 refine fin (.inr ⟨B,0,cs,[],el,rt,sz,[],rfl,rfl,b3,⟨lT h.base.1 b2,fun hk=>by have:=h.base.2 B hk; omega⟩,by rw [Nat.zero_mul,take?],.nil,rfl,(fun _ q=>by cases q),by unfold zG; omega,rfl⟩) rfl (fun B' hB'=>?_)
 simp only [jO,lR,if_true,oI] at hB'
 subst hB'
 exact b1
theorem qKj {Ls:List Lst} {g:FuncId} {xs:List SV} (h:qGP Ls g xs=some Y):Y∈Ls/\Y.f=g/\SV.vals ve lb xs=Y.xv:=by
 induction Ls with
 | nil=>cases h
 | cons Z r ih =>
  unfold qGP at h
  cases hc:Nat.beq Z.f g && qPR Z.ex xs with
  | false =>
   rw [hc] at h
   obtain ⟨h1,h2⟩:=ih h
   exact ⟨mC _ h1,h2⟩
  | true =>
   rw [hc] at h
   cases h
   simp only [vF] at hc
   refine ⟨List.mem_cons_self,vU hc.1,?_⟩
   have h2:=hc.2
   unfold qPR at h2
   unfold Lst.xv
   split at h2
   ·rename_i e; rw [e]; rfl
   ·rename_i e; rw [e,vU h2]; rfl
   cases h2
theorem qKk {Gs:List Gro} {g:FuncId} {Y:Gro} (h:qGQ Gs g=some Y):Y∈Gs/\Y.f=g:=by
 induction Gs with
 | nil=>cases h
 | cons Z r ih =>
  unfold qGQ at h
  cases hc:Nat.beq Z.f g with
  | false =>
   rw [hc] at h
   obtain ⟨h1,h2⟩:=ih h
   exact ⟨mC _ h1,h2⟩
  | true =>
   rw [hc] at h
   cases h
   exact ⟨List.mem_cons_self,vU hc⟩
def qQu (E:Env) (Ls:List Lst) (Gs:List Gro):Prop:=(∀ Y∈Ls,∃ el sz P F mx,LstOK E Y el sz P F mx)/\∀ Y∈Gs,∃ el sz bytes,GroOK E Y el sz bytes
theorem qPw {Ls:List Lst} {Gs:List Gro} (hL:qQu E Ls Gs) {o:Oper} {κ:K1} (h:SR n0 H0 g0 S ρ ve lb g fr H) (hw:wp E (Holds E) Q (qOv E Ls Gs o S κ) ρ):aJ E (Holds E) Q n0 H0 g0 fr H o κ:=by
 have plain:wp E (Holds E) Q (jN E o S κ) ρ->aJ E (Holds E) Q n0 H0 g0 fr H o κ:=fun hw=>(aT h hw).toR
 unfold qOv at hw
 split at hw
 ·rename_i c ho
  split at hw
  case h_2=>exact plain hw
  rename_i f args hcal hargs
  obtain ⟨ab,ae⟩:=lU (E:=E) h hargs
  split at hw
  case h_2=>exact plain hw
  rename_i gg hfv
  obtain ⟨fb,fe⟩:=z9 (E:=E) h hfv
  simp only [SV.val] at fe
  have enter:(∃ fn,E.funcs.get gg=some fn)->jD E fr o H=some (.enter gg (SV.vals ve lb args),H):=by
   intro ⟨fn,hfn⟩
   unfold jD; rw [ho]
   simp only [oA,ae,hcal,fe,pQ,hfn,SV.vals,List.append_nil,List.nil_append]
  split at hw
  case h_2=>exact plain hw
  rename_i t ht
  unfold qR1 at ht
  split at ht
  ·rename_i i xs
   split at ht
   case h_2=>cases ht
   rename_i Y hY
   cases ht
   obtain ⟨y1,y2,y3⟩:=qKj (ve:=ve) (lb:=lb) hY
   obtain ⟨el,sz,P,F,mx,hO⟩:=hL.1 Y y1
   subst y2
   have hent:=enter hO.ff
   simp only [SV.vals,SV.val,y3] at hent
   exact qPG hO h hent hw
  ·rename_i x
   split at ht
   case h_2=>cases ht
   rename_i Y hY
   cases ht
   obtain ⟨y1,y2⟩:=qKk hY
   obtain ⟨el,sz,bytes,hO⟩:=hL.2 Y y1
   subst y2
   have hent:=enter hO.ff
   simp only [SV.vals,SV.val] at hent
   exact qPU hO h hent hw
  cases ht
 exact plain hw
theorem qHN (he:EOk E) {Ls:List Lst} {Gs:List Gro} (hL:qQu E Ls Gs) {f:FuncId} {fn:Func} {c:Code} (hf:E.funcs.get f=some fn) (hb:fn.body=some c) {pats:Nat->Pat} {szs:Nat->Nat} {Ts:Nat->Tree} {ds:List D} {d:D} {n:Nat} (hn:ds.length=n)
  (h0:qBW E (fun k S=>g9 (szs k) (pats k) k S) (qOv E Ls Gs) qJE 1 c (kB n (Nat.max fn.ntmps n)) (eJ E fn.results.toList)=Ts 0)
  (hT:∀ x∈xJ E (fun k=>(pats k).st (szs k)) (fun k S=>g9 (szs k) (pats k) k S) (qOv E Ls Gs) qJE (fun _ _ _ _=>[]) 1 c (eJ E fn.results.toList),Ts x.1=x.2)
  (hgo:qH E (Holds E) Ts 0 ds d) (hlt:f < qAZ:=by decide):Holds E f ds d:=by
 refine .inl ⟨hlt,⟨fn,hf⟩,fun H g args hwf hm hd=>?_⟩
 have hlen:args.length=n:=by rw [hd.length,hn]
 have hs:=qC5 (sz:=Nat.max fn.ntmps n) hwf hm hd hlen
 obtain ⟨m,hgo⟩:=hgo
 cases m with
 | zero=>cases hgo
 | succ m =>
  have hgo':wp E (Holds E) (Qf E Ts d m) (Ts 0) ds:=hgo
  rw [← h0] at hgo'
  have hO:qM5 E (Lim.of H.next) H g (Qf E Ts d) (qOv E Ls Gs):=fun m o S ρ ve lb g fr H κ h hw=>qPw hL h hw
  have hR:qCP E (Lim.of H.next) H g (Qf E Ts d) (fun k S=>g9 (szs k) (pats k) k S) (qOv E Ls Gs) qJE 1 c (eJ E fn.results.toList):=fun _ _ _ _ _ _ _ _ _ _ _ _ _ _ _ _ hw=>by cases hw
  have hj:=qBu (n0:=Lim.of H.next) (H0:=H) (g0:=g) (d:=d) he hO hR rfl hT (fun k κ b hp=>Nat.zero_le _) m
  obtain ⟨e,fr1,H1,hx,m1,_,S1,ρ1,ve1,lb1,g1,h1,hw⟩:=mL he hO hR hj c 1 _ .root m (lR _) _ _ _ _ _ _ _ hs hgo'
  obtain ⟨he',v,g',hv,hdr,hm',hwf',hnx,hk,hlow,hgk⟩:=qGT (d:=d) (fun d' hd'=>hd') e S1 ρ1 ve1 lb1 g1 fr1 H1 h1 hw
  rw [← hlen] at hx
  have hcall:=vG.call he hf hb hx he' hv
  let g2:zF:=fun b=>if b < H.next then g b else g' b
  have hg2:zF.le g' g2:=by
   intro b k hb
   simp only [g2]
   split
   ·rename_i hlt; rw [← hgk b hlt]; exact hb
   exact hb
  refine ⟨v,{ H1 with next:=H1.next+1 },g2,hcall.raise,Nat.lt_succ_of_le hnx,fun b k hb=>⟨(hwf' b k hb).1,Nat.lt_succ_of_lt (hwf' b k hb).2⟩,hk,hlow,?_,?_,?_,hdr.mono hg2⟩
  ·intro b k hb
   simp only [g2]
   rw [if_pos (hwf b k (hm b k hb)).2]
   exact hb
  ·intro b k hb
   simp only [g2] at hb
   split at hb
   ·rename_i hlt
    rw [← hgk b hlt] at hb
    exact hm' b k hb
   exact hm' b k hb
  intro b hb
  simp only [g2]
  rw [if_pos hb]
end
end Go.Am
