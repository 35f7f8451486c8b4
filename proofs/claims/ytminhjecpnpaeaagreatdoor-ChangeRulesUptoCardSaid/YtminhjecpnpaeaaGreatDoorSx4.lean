/- Regions whose order is drawn: runs in the text's order, carried over. Conditions: none. -/
import Derived.Test.YtminhjecpnpaeaaGreatDoorSx5
set_option linter.unusedVariables false
set_option linter.unusedSimpArgs false
namespace Go.Am
open Go
structure Heq (N:Nat) (H H2:AH):Prop where
 get:∀b,H2.blocks.get b=H.blocks.get b
 next:H2.next=H.next
 low:∀L,L<=N->L<=H.low->L<=H2.low
 le:N<=H.next
section
variable{E:Env}{ih:Cmd->AH->j9}{fr:Fr}{o:Oper}{N:Nat}
theorem qHA{x:Option Value}{H H1:AH}{v:Value}(h:vT E fr o H=one H x)(he:wW E ih fr o H=some (v,H1)):x=some v/\H1=H:=by
 cases x with
 |none=>simp only[wW,vL,h,one,Option.map_none]at he;cases he
 |some u=>simp only[wW,vL,h,one,Option.map_some,oI,Prod.mk.injEq]at he;exact⟨by rw[he.1],he.2.symm⟩
theorem qEC{ts:List (Nat×Nat)}{all:List Oper}{i:Nat}{H H2:AH}{v:Value}(h:vL E ih fr o (zR H2 (qJ all i ts))=some (v,zR H2 (qJ all i ts)))(x:Heq N H H2):∃y,pE E ih ts all i fr o H2=some (v,y)/\Heq N H y:=by
 refine⟨jK H2 (zR H2 (qJ all i ts)) (qJ all i ts),?_,?_,x.next,?_,x.le⟩
 ·have c:Nat.ble H2.next (zR H2 (qJ all i ts)).low=true:=bL (lR _);have e:(qJ all i ts).all (λb=>Nat.blt b H2.next||Nat.ble (zR H2 (qJ all i ts)).next b)=true:=by
   rw[List.all_eq_true];intro b _;show(Nat.blt b H2.next||Nat.ble H2.next b)=true;by_cases j:b<H2.next
   ·have:Nat.blt b H2.next=true:=bL j;rw[this,Bool.true_or]
   have:Nat.ble H2.next b=true:=bL (by omega);rw[this,Bool.or_true]
  simp only[pE,h,c,e,Bool.true_or,Bool.and_self,cond_true]
 ·intro b;show(yI _ _ _).get b=_;rw[xZ];show(if _ then H2.blocks.get b else(lK H2.blocks _).get b)=_;rw[yO];split<;>exact x.get b
 intro L c e;refine Nat.le_min.2 ⟨x.low L c e,?_⟩;show L<=H2.next;rw[x.next];exact lT c x.le
theorem qLZ{H H2:AH}{t:TypeId}{b i:Nat}{p:Option Nat}(h:H2.blocks.get b=H.blocks.get b):k9 E H2 t (.pointer (some ⟨b,i,p⟩))=k9 E H t (.pointer (some ⟨b,i,p⟩)):=by
 unfold k9;cases E.types.get t with
 |none=>rfl
 |some x=>cases p with
  |none=>simp only[AH.loads,h]
  |some _=>rfl
theorem rH{all:Array Oper}{draw:Bool}{ts:List (Nat×Nat)}{a:Tmp}:∀(os:List Oper) (i:Nat) {fr fr':Fr} {H H':AH},zM E ih all draw ts os i fr H=some (fr',H')->os.all (lF a)=true->fr'.t.get a=fr.t.get a
 | [],i,fr,fr',H,H',h,_=>by simp only[zM,oI,Prod.mk.injEq]at h;rw[h.1]
 | o::os,i,fr,fr',H,H',h,b=>by
  simp only[List.all_cons,aE]at b;have y:∀{x:Fr} {v:Value},wR fr o.dst v=some x->x.t.get a=fr.t.get a:=by
   intro x v y;have hd:=b.1;unfold wR at y;unfold lF at hd;split at y
   ·rename_i d j;rw[j]at hd;simp only[Bool.not_eq_true']at hd;cases k:Nat.ble (d+1) fr.sz with
    |false=>rw[k]at y;cases y
    |true=>rw[k]at y;simp only[cond_true,oI]at y;subst y;show(fr.t.put d (some v)).get a=_;rw[T.get_put,if_neg];intro e;subst e;rw[Nat.beq_refl]at hd;cases hd
   grind
  simp only[zM]at h;split at h
  ·cases h
  ·split at h
   ·rename_i x c;rw[rH os (i+1) h b.2,y c]
   cases h
  split at h
  ·cases h
  split at h
  ·cases h
  rename_i x c;rw[rH os (i+1) h b.2,y c]
def qFm(v:Option Value):Option Nat:=match v with
 |some (.pointer (some ⟨b,_,_⟩))=>some b
 |_=>none
def qQi(v:Option Value):Option Nat:=match v with
 |some (.slice (some ⟨b,_,none⟩) (_+1) _)=>some b
 |_=>none
def lP(fr':Fr)(ts:List (Nat×Nat))(all:List Oper)(i:Nat)(o:Oper)(os:List Oper):Prop:=match o.op with
 |.load _ (.tmp a)=>(o::os).all (lF a)=true/\∀B,qFm (fr'.t.get a)=some B->B∉qJ all i ts
 |.alloc _=>∃d,o.dst=some d/\os.all (lF d)=true/\∀B,qFm (fr'.t.get d)=some B->B∉qJ all i ts
 |.store _ (.tmp a) _=>qJ all i ts=[]/\(o::os).all (lF a)=true/\∀B,qFm (fr'.t.get a)=some B->(i,B)∈ts
 |.buildSlice _ n _=>1<=n/\∃d,o.dst=some d/\os.all (lF d)=true/\∀B,qQi (fr'.t.get d)=some B->B∉qJ all i ts
 |op=>qGH op=true
def qJC(fr':Fr)(ts:List (Nat×Nat))(all:List Oper):Nat->List Oper->Prop
 |_,[]=>True
 |i,o::os=>lP fr' ts all i o os/\qJC fr' ts all (i+1) os
theorem qPf{ts:List (Nat×Nat)}{all:List Oper}{i:Nat}{H H2:AH}{f:Nat->Value}{x:AObj}(r:∀H,vT E fr o H=some (.val (f H.next),H.new x))(p:H.next∉qJ all i ts)(h:Heq N H H2):∃c,pE E ih ts all i fr o H2=some (f H.next,c)/\Heq N (H.new x) c:=by
 have k:vL E ih fr o (zR H2 (qJ all i ts))=some (f H.next,(zR H2 (qJ all i ts)).new x):=by simp only[vL,r];show some (f H2.next,_)=_;rw[h.next]
 refine⟨jK H2 ((zR H2 (qJ all i ts)).new x) (qJ all i ts),?_,?_,?_,?_,Nat.le_succ_of_le h.le⟩
 ·have j:Nat.ble H2.next ((zR H2 (qJ all i ts)).new x).low=true:=bL (lR _);have l:(qJ all i ts).all (λb=>Nat.blt b H2.next||Nat.ble ((zR H2 (qJ all i ts)).new x).next b)=true:=by
   rw[List.all_eq_true];intro b y;show(Nat.blt b H2.next||Nat.ble (Nat.succ H2.next) b)=true;have q:b≠H2.next:=by rw[h.next];intro e;subst e;exact p y
   by_cases y:b<H2.next
   ·have:Nat.blt b H2.next=true:=bL y;rw[this,Bool.true_or]
   have:Nat.ble (Nat.succ H2.next) b=true:=bL (by omega);rw[this,Bool.or_true]
  simp only[pE,k,j,l,Bool.true_or,Bool.and_self,cond_true]
 ·intro b;show(yI _ _ _).get b=(H.blocks.put H.next _).get b;rw[xZ,T.get_put];show(if _ then H2.blocks.get b else((lK H2.blocks _).put H2.next _).get b)=_;rw[T.get_put,yO,h.next];by_cases y:b∈qJ all i ts
  ·rw[if_pos y,if_neg (λe:b=H.next=>p (by rw[←e];exact y)),h.get]
  rw[if_neg y];by_cases e:b=H.next
  ·rw[if_pos e,if_pos e];show some (⟨x,H2.next,true⟩:ABlk)=some ⟨x,H.next,true⟩;rw[h.next]
  rw[if_neg e,if_neg e,if_neg y,h.get]
 ·show Nat.succ H2.next=Nat.succ H.next;rw[h.next]
 intro L j l;refine Nat.le_min.2 ⟨h.low L j l,?_⟩;show L<=H2.next;rw[h.next];exact lT j h.le
theorem qR5{t:TypeId}{n:Nat}{ps:Array (Nat×Operand)}{v:Value}{H H1:AH}(p:o.op=.buildSlice t n ps)(he:wW E ih fr o H=some (v,H1)):∃(c:Nat) (y:AObj),(∀H,vT E fr o H=some (.val (.slice (some ⟨H.next,0,none⟩) n c),H.new y))/\v=.slice (some ⟨H.next,0,none⟩) n c/\H1=H.new y:=by
 have e:∃(c:Nat) (y:AObj),∀H,vT E fr o H=some (.val (.slice (some ⟨H.next,0,none⟩) n c),H.new y):=by
  have x:(∀H,vT E fr o H=none)->False:=λh=>by simp only[wW,vL,h]at he;cases he
  cases k:parts? E fr ps.toList with
  |none=>exact(x λH=>by simp only[vT,p,k]).elim
  | some l=>
   have h:∀H,vT E fr o H=wX E H t n l:=λH=>by simp only[vT,p,k]
   unfold wX at h;split at h;case h_2=>exact(x h).elim
   split at h;case h_2=>exact(x h).elim
   rename_i sz _ z _ _;cases j:(Nat.beq z.length sz&&Nat.ble (Nat.mul n (Nat.succ sz)) 1000000)with
   |false=>exact(x λH=>by rw[h,j];rfl).elim
   |true=>
    cases b:dU (xG z n) l (λi=>some (Nat.mul i sz,sz))with
    |none=>exact(x λH=>by rw[h,j,b];rfl).elim
    |some q=>exact⟨_,_,λH=>by rw[h,j,b];rfl⟩
 obtain⟨c,y,h⟩:=e;simp only[wW,vL,h,oI,Prod.mk.injEq]at he;exact⟨c,y,h,he.1.symm,he.2.symm⟩
theorem qRR{ts:List (Nat×Nat)}{all:Array Oper}{i:Nat}{os:List Oper}{X fr':Fr}{H H1 H' H2:AH}{v:Value}(he:wW E ih fr o H=some (v,H1))(q:wR fr o.dst v=some X)(hr:zM E ih all false [] os (i+1) X H1=some (fr',H'))(h:lP fr' ts all.toList i o os)(l:Heq N H H2):∃G,pE E ih ts all.toList i fr o H2=some (v,G)/\Heq N H1 G:=by
 have pure:qGH o.op=true->∃G,pE E ih ts all.toList i fr o H2=some (v,G)/\Heq N H1 G:=by intro W;obtain⟨x,O⟩:=qD3 (E:=E) (fr:=fr) W;obtain⟨rfl,rfl⟩:=qHA (O H) he;exact qEC (by simp only[vL,O,one,Option.map_some]) l
 have M:∀a,(o::os).all (lF a)=true->fr'.t.get a=fr.t.get a:=by
  intro a B;have h0:zM E ih all false [] (o::os) i fr H=some (fr',H')∨True:=.inr trivial;have w:=B;simp only[List.all_cons,aE]at w;have R:=rH os (i+1) hr w.2;rw[R];have hd:=w.1;unfold wR at q;unfold lF at hd;split at q
  ·rename_i d hd';rw[hd']at hd;simp only[Bool.not_eq_true']at hd;cases A:Nat.ble (d+1) fr.sz with
   |false=>rw[A]at q;cases q
   |true=>rw[A]at q;simp only[cond_true,oI]at q;subst q;show(fr.t.put d (some v)).get a=_;rw[T.get_put,if_neg];intro e;subst e;rw[Nat.beq_refl]at hd;cases hd
  grind
 cases k:o.op with
 | load t a=>
  cases a with
  | tmp a=>
   unfold lP at h;rw[k]at h;simp only at h;obtain⟨F,C⟩:=h;have W:=M a F;rw[W]at C;cases hv:fr.t.get a with
   |none=>
    have B:vT E fr o H=none:=by simp only[vT,k,ev,hv]
    simp only[wW,vL,B]at he;cases he
   | some u=>
    have w:∀H,vT E fr o H=one H (k9 E H t u):=λH=>by simp only[vT,k,ev,hv]
    obtain⟨O,hH⟩:=qHA (w H) he;subst hH;rw[hv]at C;have hu:∃b j p,u=.pointer (some ⟨b,j,p⟩):=by
     unfold k9 at O;split at O
     ·rename_i b j _;exact⟨b,j,none,rfl⟩
     cases O
    obtain⟨b,j,p,rfl⟩:=hu;refine qEC ?_ l;have hg:(zR H2 (qJ all.toList i ts)).blocks.get b=H1.blocks.get b:=by show(lK H2.blocks _).get b=_;rw[yO,if_neg (C b rfl)];exact l.get b
    simp only[vL,w,qLZ (E:=E) (t:=t) (i:=j) (p:=p) hg,O,one,Option.map_some]
  |const _=>exfalso;unfold lP at h;rw[k]at h;cases h
  |global _=>exfalso;unfold lP at h;rw[k]at h;cases h
  |func _=>exfalso;unfold lP at h;rw[k]at h;cases h
 | alloc t=>
  unfold lP at h;rw[k]at h;simp only at h;obtain⟨d,hd,F,C⟩:=h;have U:∃z,∀H,vT E fr o H=some (.val (.pointer (some ⟨H.next,0,none⟩)),H.new (.cells z t)):=by
   cases U:E.types.get t with
   |none=>
    have B:vT E fr o H=none:=by simp only[vT,k,U]
    simp only[wW,vL,B]at he;cases he
   | some ti=>
    obtain⟨a1,a2,a3,z,a5⟩:=ti;cases z with
    |none=>
     have B:vT E fr o H=none:=by simp only[vT,k,U]
     simp only[wW,vL,B]at he;cases he
    |some z=>exact⟨z,λH=>by simp only[vT,k,U]⟩
  obtain⟨z,B⟩:=U
  ·skip;have e1:v=.pointer (some ⟨H.next,0,none⟩)/\H1=H.new (.cells z t):=by simp only[wW,vL,B,oI,Prod.mk.injEq]at he;exact⟨he.1.symm,he.2.symm⟩
   obtain⟨rfl,rfl⟩:=e1;have Z:H.next∉qJ all.toList i ts:=by
    have R:=rH os (i+1) hr F;refine C _ ?_;rw[R];rw[hd]at q;simp only[wR]at q;cases A:Nat.ble (d+1) fr.sz with
    |false=>rw[A]at q;cases q
    |true=>rw[A]at q;simp only[cond_true,oI]at q;subst q;show qFm ((fr.t.put d _).get d)=_;rw[T.get_put,if_pos rfl];rfl
   have I:vL E ih fr o (zR H2 (qJ all.toList i ts))=some (.pointer (some ⟨H.next,0,none⟩),(zR H2 (qJ all.toList i ts)).new (.cells z t)):=by simp only[vL,B];show some (Value.pointer (some ⟨H2.next,0,none⟩),_)=_;rw[l.next]
   refine⟨jK H2 ((zR H2 (qJ all.toList i ts)).new (.cells z t)) (qJ all.toList i ts),?_,?_,?_,?_,Nat.le_succ_of_le l.le⟩
   ·have F:Nat.ble H2.next ((zR H2 (qJ all.toList i ts)).new (.cells z t)).low=true:=bL (lR _);have C:(qJ all.toList i ts).all (λb=>Nat.blt b H2.next||Nat.ble ((zR H2 (qJ all.toList i ts)).new (.cells z t)).next b)=true:=by
     rw[List.all_eq_true];intro b A;show(Nat.blt b H2.next||Nat.ble (Nat.succ H2.next) b)=true;have hne:b≠H2.next:=by rw[l.next];intro e;subst e;exact Z A
     by_cases A:b<H2.next
     ·have:Nat.blt b H2.next=true:=bL A;rw[this,Bool.true_or]
     have:Nat.ble (Nat.succ H2.next) b=true:=bL (by omega);rw[this,Bool.or_true]
    simp only[pE,I,F,C,Bool.true_or,Bool.and_self,cond_true]
   ·intro b;show(yI _ _ _).get b=(H.blocks.put H.next _).get b;rw[xZ,T.get_put];show(if _ then H2.blocks.get b else((lK H2.blocks _).put H2.next _).get b)=_;rw[T.get_put,yO,l.next];by_cases A:b∈qJ all.toList i ts
    ·rw[if_pos A,if_neg (λe:b=H.next=>Z (by rw[←e];exact A)),l.get]
    rw[if_neg A];by_cases e:b=H.next
    ·rw[if_pos e,if_pos e];show some (⟨AObj.cells z t,H2.next,true⟩:ABlk)=some ⟨.cells z t,H.next,true⟩;rw[l.next]
    rw[if_neg e,if_neg e,if_neg A,l.get]
   ·show Nat.succ H2.next=Nat.succ H.next;rw[l.next]
   intro L F C;refine Nat.le_min.2 ⟨l.low L F C,?_⟩;show L<=H2.next;rw[l.next];exact lT F l.le
 | store t a x=>
  cases a with
  | tmp a=>
   unfold lP at h;rw[k]at h;simp only at h;obtain⟨hW,F,C⟩:=h;have W:=M a F;rw[W]at C;cases hv:fr.t.get a with
   |none=>
    have B:vT E fr o H=none:=by simp only[vT,k,ev,hv]
    simp only[wW,vL,B]at he;cases he
   | some u=>
    cases hy:ev E fr x with
    |none=>
     have B:vT E fr o H=none:=by simp only[vT,k,hv,hy,show ev E fr (.tmp a)=fr.t.get a from rfl]
     simp only[wW,vL,B]at he;cases he
    | some y=>
     have hty:∀cs,y≠.tuple cs:=by
      intro cs e;subst e;have B:vT E fr o H=none:=by simp only[vT,k,hv,hy,show ev E fr (.tmp a)=fr.t.get a from rfl]
      simp only[wW,vL,B]at he;cases he
     have w:∀H,vT E fr o H=(kD E H t u y).map λH'=>(.skip,H'):=λH=>by simp only[vT,k,hv,hy,show ev E fr (.tmp a)=fr.t.get a from rfl]
     cases hs:kD E H t u y with
     |none=>simp only[wW,vL,w,hs,Option.map_none]at he;cases he
     | some Hs=>
      simp only[wW,vL,w,hs,Option.map_some,oI,Prod.mk.injEq]at he;obtain⟨rfl,rfl⟩:=he;rw[hv]at C;unfold kD at hs;split at hs;case h_2=>cases hs
      rename_i ti b j hti;simp only at hs;cases hl:Nat.beq y.cells.toList.length ti.size with
      |false=>rw[hl]at hs;cases hs
      | true=>
       rw[hl]at hs;simp only[cond_true,AH.stores]at hs;split at hs;case h_2=>cases hs
       rename_i cs el r A;cases P:j4 cs j y.cells.toList with
       |none=>rw[P]at hs;cases hs
       | some cs'=>
        rw[P]at hs;simp only[Option.map_some,oI]at hs;subst hs;have hb2:(zR H2 []).blocks.get b=some ⟨.cells cs el,r,true⟩:=by show H2.blocks.get b=_;rw[l.get,A]
        have I:vL E ih fr o (zR H2 (qJ all.toList i ts))=some (.tuple #[],(zR H2 []).write b ⟨.cells cs el,r,true⟩ (.cells cs' el)):=by
         rw[hW];have hsa:kD E (zR H2 []) t (.pointer (some ⟨b,j,none⟩)) y=some ((zR H2 []).write b ⟨.cells cs el,r,true⟩ (.cells cs' el)):=by simp only[kD,hti,hl,cond_true,AH.stores,hb2,P,Option.map_some]
         simp only[vL,w,hsa,Option.map_some]
        have V:=C b rfl;have hst:ts.any (λt=>Nat.beq t.1 i&&xO fr o t.2)=true:=by rw[List.any_eq_true];refine⟨_,V,?_⟩;simp only[Nat.beq_refl,Bool.true_and,xO,k,hv]
        refine⟨jK H2 ((zR H2 []).write b ⟨.cells cs el,r,true⟩ (.cells cs' el)) [],?_,?_,l.next,?_,l.le⟩
        ·rw[hW]at I;simp only[pE,hW,I,hst,List.isEmpty_nil,Bool.true_or,Bool.true_and,Bool.or_true,List.all_nil,Bool.and_self,cond_true]
        ·intro c;show((H2.blocks).put b _).get c=(H.blocks.put b _).get c;rw[T.get_put,T.get_put,l.get]
        intro L F C;have h3:L<=Nat.min H.low r:=C;have h4:=Nat.le_min.1 h3;refine Nat.le_min.2 ⟨l.low L F h4.1,?_⟩;show L<=Nat.min H2.next r;refine Nat.le_min.2 ⟨?_,h4.2⟩;rw[l.next];exact lT F l.le
  |const _=>exfalso;unfold lP at h;rw[k]at h;cases h
  |global _=>exfalso;unfold lP at h;rw[k]at h;cases h
  |func _=>exfalso;unfold lP at h;rw[k]at h;cases h
 | buildSlice t n ps=>
  unfold lP at h;rw[k]at h;simp only at h;obtain⟨hn1,d,hd,F,C⟩:=h;obtain⟨c,ob,B,rfl,rfl⟩:=qR5 k he;have Z:H.next∉qJ all.toList i ts:=by
   have R:=rH os (i+1) hr F;refine C _ ?_;rw[R];rw[hd]at q;simp only[wR]at q;cases A:Nat.ble (d+1) fr.sz with
   |false=>rw[A]at q;cases q
   |true=>rw[A]at q;simp only[cond_true,oI]at q;subst q;show qQi ((fr.t.put d _).get d)=_;rw[T.get_put,if_pos rfl];obtain⟨m,rfl⟩:∃m,n=m+1:=⟨n-1,by omega⟩;rfl
  exact qPf (f:=λb=>.slice (some ⟨b,0,none⟩) n c) B Z l
 |move _=>exact pure (by rw[k];rfl)
 |assign _=>exact pure (by rw[k];rfl)
 |pick _ _ _=>exact pure (by rw[k];rfl)
 |nilCheck _=>exact pure (by rw[k];rfl)
 |binOp _ _ _ _ _=>exact pure (by rw[k];rfl)
 |unOp _ _ _=>exact pure (by rw[k];rfl)
 |fieldAddr _ _ _=>exact pure (by rw[k];rfl)
 |indexAddr _ _ _=>exact pure (by rw[k];rfl)
 |extract _ _=>exact pure (by rw[k];rfl)
 |build _ _=>exact pure (by rw[k];rfl)
 |_=>exfalso;unfold lP at h;rw[k]at h;cases h
theorem qC2{ts:List (Nat×Nat)}{all:Array Oper}{fr':Fr}{H':AH}:∀(os:List Oper) (i:Nat) {fr:Fr} {H H2:AH},zM E ih all false [] os i fr H=some (fr',H')->qJC fr' ts all.toList i os->Heq N H H2->
  ∃x,zM E ih all true ts os i fr H2=some (fr',x)/\Heq N H' x
 | [],i,fr,H,H2,h,_,y=>by
  simp only[zM,oI,Prod.mk.injEq]at h
  obtain⟨rfl,rfl⟩:=h
  exact⟨H2,rfl,y⟩
 | o::os,i,fr,H,H2,h,k,y=>by
  simp only[zM]at h
  split at h
  ·cases h
  ·rename_i j
   split at h
   ·rename_i l b
    obtain⟨x,e,c⟩:=qC2 os (i+1) h k.2 y
    exact⟨x,by simp only[zM,j,b,e],c⟩
   cases h
  rename_i j
  simp only[cond_false]at h
  split at h
  ·cases h
  rename_i v H1 r
  split at h
  ·cases h
  rename_i l b
  obtain⟨u,e,c⟩:=qRR r b h k.1 y
  obtain⟨x,q,p⟩:=qC2 os (i+1) h k.2 c
  exact⟨x,by simp only[zM,j,cond_true,e,b,q],p⟩
end
section
variable{E:Env}{n0:Lim}{H0:AH}{g0:zB}{S:St}{ρ:List D}{ve:Nat->Value}{lb:Nat->Nat}{g:zB}{fr:Fr}{H H2:AH}{Q:Res1->Prop}{o:Oper}
theorem qCz(all:List Oper)(i:Nat)(f:Nat->Nat):∀ts:List (Nat×Nat),qJ all i (ts.map λq=>(q.1,f q.2))=(qJ all i ts).map f
 | []=>rfl
 |(j,b)::ts=>by simp only[List.map_cons,qJ,qCz all i f ts];grind
theorem qJP{a:Tmp}{b off:Nat}{t:TypeId}{x:Operand}(hs:S.slots.get a=some (.loc b off)):∀(os:List Oper) (i k:Nat) (o:Oper),os[k]? = some o->o.op=.store t (.tmp a) x->(i+k,b)∈qBb S os i
 | [],_,_,_,h,_=>by simp at h
 |p::os,i,0,o,h,y=>by simp only[List.getElem?_cons_zero,oI]at h;subst h;simp only[qBb,y,hs,Nat.add_zero];exact List.mem_cons_self
 |p::os,i,k+1,o,h,y=>by have:=qJP hs os (i+1) k o (by simpa using h) y;rw[show i+1+k=i+(k+1) by omega]at this;unfold qBb;grind
theorem qGm{all:List Oper}{b i:Nat}:∀(os:List Oper) (k:Nat),(∀o∈os,∀t a x,o.op=.store t a x->∃d b off y,a=.tmp d/\S.slots.get d=some (.loc b off)/\S.blks[b]? = some (some y))->(i,b)∈qBb S os k->S.live b
 | [],_,_,h=>by cases h
 | o::os,k,c,h=>by
  have ih:=qGm (all:=all) (b:=b) (i:=i) os (k+1) (λo e=>c o (mC _ e));cases e:o.op with
  |store t a x=>
   obtain⟨d,l,off,y,rfl,hd,j⟩:=c o List.mem_cons_self t a x e;simp only[qBb,e,hd]at h;rcases List.mem_cons.1 h with h|h
   ·cases h;exact⟨y,j⟩
   exact ih h
  |_=>simp only[qBb,e]at h;exact ih h
theorem aB{all:List Oper}{i b:Nat}:∀ts:List (Nat×Nat),b∈qJ all i ts->∃j,(j,b)∈ts
 | [],h=>by cases h
 | (j,c)::ts,h=>by
  simp only[qJ]at h;cases x:(Nat.beq j i||rG (kI all) j i)with
  |true=>rw[x]at h;obtain⟨y,e⟩:=aB ts h;grind
  |false=>
   rw[x]at h;rcases List.mem_cons.1 h with rfl|h
   ·grind
   obtain⟨y,e⟩:=aB ts h;grind
theorem bZ{α:Type}{x:Option (Option α)}(h:(x.getD none).isSome=true):∃y,x=some (some y):=by rcases x with _|_|y;all_goals grind
theorem qBO{os:List Oper}{c:List Nat}{t:TypeId}{a x:Operand}(h:iM S o os c=true)(e:o.op=.store t a x):∃d b off y,a=.tmp d/\S.slots.get d=some (.loc b off)/\S.blks[b]? = some (some y)/\c=[]/\(o::os).all (lF d)=true:=by
 unfold iM at h;rw[e]at h;cases a with
 |tmp a=>
  simp only[aE]at h;obtain⟨⟨p,l⟩,h3⟩:=h;split at h3
  ·rename_i b off k;obtain⟨y,j⟩:=bZ h3;grind
  cases h3
 |_=>cases h
theorem qAI{all:List Oper}:∀(os:List Oper) (i:Nat),mY S all os i=true->∀o∈os,∀t a x,o.op=.store t a x->∃d b off y,a=.tmp d/\S.slots.get d=some (.loc b off)/\S.blks[b]? = some (some y)
 | [],_,_,_,h=>by cases h
 |p::os,i,h,o,e=>by
  simp only[mY,aE]at h;intro t a x c;rcases List.mem_cons.1 e with rfl|e
  ·obtain⟨d,b,off,y,l,k,j,_⟩:=qBO h.1 c;grind
  exact qAI os (i+1) h.2 o e t a x c
def qSk(ve:Nat->Value)(lb:Nat->Nat)(g:zB)(s i:SV):Prop:=∀sz off B,qFm (some (qCc (s.val ve lb) (i.val ve lb) sz off))=some B->∃k,g B=some k
theorem qXL{s i:SV}{e:D}(h:SM n0 S ρ ve lb g H)(u:wC S s=true)(A:wC S i=true)(he:bQ (s.d (getD ρ)) (i.d (getD ρ))=some e):qSk ve lb g s i:=by
 intro sz off B y;have p:=jQ h u;have d2:=jQ h A;unfold bQ at he;split at he;case h_2=>cases he
 rename_i n x;have j:∃k,i.val ve lb=.int k (.ofNat n):=by
  unfold dY at x;split at x
  ·rename_i k m w;cases x;rw[w]at d2;exact⟨k,d2.leaf_inv.1⟩
  cases x
 obtain⟨k,z⟩:=j;rw[z]at y;generalize s.d (getD ρ)=G at p he;generalize s.val ve lb=F at p y;cases p<;>first|(simp[D.es]at he;done)|skip
 rename_i el es b o l c q I cs vs own C M hv P r R L O;simp only[qCc,qFm,oI]at y;subst y;exact⟨_,C⟩
theorem qHP:∀(l:List (SV×SV)) {S:St} {ρ:List D} {ve:Nat->Value} {κ:St->Tree},SR E n0 H0 g0 S ρ ve lb g fr H->(∀q∈l,q.1.bd S.n S.blks.length/\q.2.bd S.n S.blks.length)->wp E (Holds E) Q (qHQ l S κ) ρ->
  ∃S' ρ' y,SR E n0 H0 g0 S' ρ' y lb g fr H/\wp E (Holds E) Q (κ S') ρ'/\∀q∈l,qSk ve lb g q.1 q.2
 | [],S,ρ,ve,κ,h,_,x=>⟨S,ρ,ve,h,x,λ_ h=>(by cases h)⟩
 |(s,i)::r,S,ρ,ve,κ,h,p,x=>by
  simp only[qHQ]at x
  obtain⟨j,x⟩:=jC x
  simp only[aE]at j
  simp only[wp]at x
  split at x
  case h_2=>cases x
  rename_i d hd
  simp only[SV.ds,qJj,Option.map_eq_some_iff]at hd
  obtain⟨e,he,rfl⟩:=hd
  have A:=h.new (k:=.pure) (o:=true) (by simp) (d:=.leaf (.bool true)) (v:=.bool true) ⟨λ_=>rfl,.leaf rfl⟩
  have ex:ExtS S ρ ve g (S.new .pure true) (ρ++[.leaf (.bool true)]) (mW ve S.n (.bool true)) g:=wN h.len
  obtain⟨S',ρ',y,z,w,u⟩:=qHP r A (λq c=>⟨ex.bd (p q (mC _ c)).1,ex.bd (p q (mC _ c)).2⟩) x
  refine⟨S',ρ',y,z,w,λq c=>?_⟩
  rcases List.mem_cons.1 c with rfl|c
  ·exact qXL h.toSM j.1 j.2 he
  have:=u q c
  have b:=p q (mC _ c)
  unfold qSk at this ⊢
  rw[ex.val b.1,ex.val b.2]at this
  exact this
theorem s6(h:SR E n0 H0 g0 S ρ ve lb g fr H):∀(os:List Oper),∀q∈s7 S os,q.1.bd S.n S.blks.length/\q.2.bd S.n S.blks.length
 | [],_,x=>by cases x
 | o::os,q,x=>by
  unfold s7 at x;split at x
  ·split at x
   ·rename_i k i _ _ y;rcases List.mem_cons.1 x with rfl|x
    ·exact(h.slots _ _ y).1
    exact s6 h os q x
   exact s6 h os q x
  exact s6 h os q x
theorem qD4{t:TypeId}{a:Tmp}{k sz off:Nat}{i:SV}(hs:S.slots.get a=some (.ptr (.v k) i sz off)):∀(os:List Oper) {o:Oper},o∈os->o.op=.load t (.tmp a)->(.v k,i)∈s7 S os
 | [],_,h,_=>by cases h
 |p::os,o,h,x=>by
  rcases List.mem_cons.1 h with rfl|h
  ·simp only[s7,x,hs];exact List.mem_cons_self
  have:=qD4 hs os h x;unfold s7;grind
theorem bK(h:SR E n0 H0 g0 S ρ ve lb g fr H):∀(os:List Oper),∀q∈dZ S os,q.1.bd S.n S.blks.length/\q.2.bd S.n S.blks.length
 | [],_,x=>by cases x
 | o::os,q,x=>by
  unfold dZ at x;split at x
  ·split at x
   ·split at x
    ·rename_i k y;rw[cond_eq_ite]at x;split at x
     ·rcases List.mem_cons.1 x with rfl|x
      ·exact⟨(h.slots _ _ y).1,trivial⟩
      exact bK h os q x
     exact bK h os q x
    exact bK h os q x
   exact bK h os q x
  exact bK h os q x
theorem qNy(h:SR E n0 H0 g0 S ρ ve lb g fr H)(os:List Oper):∀q∈qGI S os,q.1.bd S.n S.blks.length/\q.2.bd S.n S.blks.length:=λq x=>
 (List.mem_append.1 x).elim (s6 h os q) (bK h os q)
theorem qLF{t:TypeId}{a:Tmp}{k sz off:Nat}{i:SV}(x:S.slots.get a=some (.ptr (.v k) i sz off))(os:List Oper){o:Oper}(h:o∈os)(y:o.op=.load t (.tmp a)):(.v k,i)∈qGI S os:=List.mem_append_left _ (qD4 x os h y)
theorem qEf{t:TypeId}{n k:Nat}{ps:Array (Nat×Operand)}{d:Tmp}(hs:S.slots.get d=some (.v k))(y:S.pureV k=true):∀(os:List Oper) {o:Oper},o∈os->o.op=.buildSlice t n ps->o.dst=some d->(.v k,.c (.int .i64 0))∈dZ S os
 | [],_,h,_,_=>by cases h
 |p::os,o,h,x,hd=>by
  rcases List.mem_cons.1 h with rfl|h
  ·simp only[dZ,x,hd,hs,y,cond_true];exact List.mem_cons_self
  have:=qEf hs y os h x hd;unfold dZ;grind
theorem qGn{all:List Oper}(O:∀q∈qGI S all,qSk ve lb g q.1 q.2)(h:SR E n0 H0 g0 S ρ ve lb g fr H)(L:mY S all all 0=true):∀(os:List Oper) (i:Nat),(∀k o,os[k]? = some o->all[i+k]? = some o)->mY S all os i=true->qJC fr ((qBb S all 0).map λq=>(q.1,lb q.2)) all i os
 | [],_,_,_=>trivial
 | o::os,i,Z,ht=>by
  simp only[mY,aE]at ht;refine⟨?_,qGn O h L os (i+1) (λk p hk=>by have:=Z (k+1) p (by simpa using hk);rw[show i+1+k=i+(k+1) by omega];exact this) ht.2⟩;have M:=qAI all 0 L;have w:∀{b},b∈qJ all i (qBb S all 0)->S.live b:=λ{b} hb=>by obtain⟨j,hj⟩:=aB _ hb;exact qGm (all:=all) all 0 M hj
  have I:∀{bs:List Nat} {b c:Nat},bs.all (λc=>!(Nat.beq c b))=true->c∈bs->c≠b:=by intro bs b c h F e;have:=List.all_eq_true.1 h c F;subst e;simp at this
  have r:=ht.1;unfold lP;rw[qCz];cases G:o.op with
  |store t a x=>obtain⟨d,b,off,y,rfl,hs,X,hb,hd⟩:=qBO r G;refine⟨by rw[hb];rfl,hd,λB u=>?_⟩;have hv:=(h.slots d _ hs).2;simp only[SV.val]at hv;rw[hv]at u;simp only[qFm,oI]at u;subst u;have U:=qJP hs all 0 i o (by have:=Z 0 o rfl;simpa using this) G;grind
  | load t a=>
   unfold iM at r;rw[G]at r;cases a with
   | tmp a=>
    simp only[aE]at r;refine⟨r.1,λB u U=>?_⟩;obtain⟨c,F,rfl⟩:=List.mem_map.1 U;have A:=r.2;split at A
    ·rename_i b off hs;have hv:=(h.slots a _ hs).2;simp only[SV.val]at hv;rw[hv]at u;simp only[qFm,oI]at u;simp only[aE]at A;obtain⟨y,X⟩:=bZ A.2;exact I A.1 F (h.sepL c b (w F) ⟨y,X⟩ u.symm)
    ·rename_i k x1 x2 x3 hs;have hv:=(h.slots a _ hs).2;simp only[SV.val]at hv;rw[hv]at u;have C:o∈all:=by have:=Z 0 o rfl;exact List.mem_of_getElem? this
     obtain⟨kk,P⟩:=O _ (qLF hs all C G) _ _ _ u;have z:=h.sepLG c (w F);rw[P]at z;cases z
    cases A
   |const _=>cases r
   |global _=>cases r
   |func _=>cases r
  |alloc t=>
   unfold iM at r;rw[G]at r;simp only at r ⊢;split at r;case h_2=>cases r
   rename_i d hd;simp only[aE]at r;refine⟨d,hd,r.1,λB u U=>?_⟩;obtain⟨c,F,rfl⟩:=List.mem_map.1 U;have A:=r.2;split at A
   ·rename_i b off hs;have hv:=(h.slots d _ hs).2;simp only[SV.val]at hv;rw[hv]at u;simp only[qFm,oI]at u;simp only[aE]at A;obtain⟨y,X⟩:=bZ A.2;exact I A.1 F (h.sepL c b (w F) ⟨y,X⟩ u.symm)
   cases A
  | buildSlice t n ps=>
   unfold iM at r;rw[G]at r;simp only[aE]at r ⊢;obtain⟨hn,r⟩:=r;split at r;case h_2=>cases r
   rename_i d hd;simp only[aE]at r;refine⟨o9 hn,d,hd,r.1,λB u U=>?_⟩;obtain⟨c,F,rfl⟩:=List.mem_map.1 U;have A:=r.2;split at A;case h_2=>cases A
   rename_i k hs;have hv:=(h.slots d _ hs).2;simp only[SV.val]at hv;rw[hv]at u;rcases Bool.or_eq_true _ _▸A with hf|hp
   ·obtain⟨of,M⟩:=zC.1 hf;have W:kW g H.blocks.get n0 (getD ρ k) (ve k):=(h.vars k _ M).2;rcases W with(⟨W,_⟩|⟨_,ad,W⟩)|⟨B2,l,cs,vs,el,rt,sz,es,qo⟩|⟨B2,es,ck,rt,ks,dd,qo⟩
    rotate_left 3
    ·rw[qo.v]at u;cases u
    ·rw[W]at u;cases u
    ·rw[W]at u;obtain⟨b1,b2,b3⟩:=ad;cases b3<;>cases u
    have V:=h.sepX c k (w F) hf;rw[qo.v]at u V;cases l with
    |zero=>cases u
    |succ l=>simp only[qQi,oI]at u;exact V (by simp[vR,u])
   have C:o∈all:=by have:=Z 0 o rfl;exact List.mem_of_getElem? this
   have hPG:=O _ (List.mem_append_right _ (qEf hs hp all C G hd)) 0 0;have hpv:∃kk,g (lb c)=some kk:=by
    refine hPG (lb c) ?_;simp only[SV.val];unfold qQi at u;split at u
    ·rename_i b x2 l2 c2 R;cases u;have R:=Option.some.inj R;rw[R];rfl
    cases u
   obtain⟨kk,P⟩:=hpv;have z:=h.sepLG c (w F);rw[P]at z;cases z
  |_=>unfold iM at r;rw[G]at r;exact r
theorem qN7(he:EOk E){id:Nat}{ops:Array Oper}{κ:St->Tree}(h:SR E n0 H0 g0 S ρ ve lb g fr H)(j:wp E (Holds E) Q (qDE E ops false ops.toList 0 S (λS=>bif mY S ops.toList ops.toList 0 then qHQ (qGI S ops.toList) S κ else .fail)) ρ):∃S' ρ' u A g' fr' H',SR E n0 H0 g0 S' ρ' u A g' fr' H'/\wp E (Holds E) Q (κ S') ρ'/\zT E (.region id ops true) fr H .normal fr' H':=by obtain⟨S1,V,W,z,g1,O,H1,M,j,Z⟩:=qNG ops.toList 0 h j;obtain⟨P,j⟩:=jC j;obtain⟨S2,ρ2,ve2,U,j,G⟩:=qHP _ M (qNy M _) j;have hT:=qGn G M P ops.toList 0 (λk o I=>by rw[Nat.zero_add];exact I) P;obtain⟨hn,l,f1,f2,X,_,f3⟩:=Z;have x:=f3 (qOu l) (λa ha=>qCx f1 a ha);rw[qDY]at x;obtain⟨H2,c,q⟩:=qC2 (N:=n0.n) ops.toList 0 x hT ⟨λ_=>rfl,rfl,λ_ _ h=>h,h.base.1⟩;refine⟨S2,ρ2,ve2,z,g1,O,H2,U.congr q.get q.next (q.low _ (Nat.min_le_right _ _) U.low),j,?_⟩;have B:=qOt f1;refine⟨by rw[q.next];exact hn,?_⟩;intro F σ w tmps n0 B0 R hf p hn0 b ds k cs I C L;have y:yD σ H.next H2.next:=p;obtain⟨r,w',e,g1,g2,g3⟩:=cE he B.call B.round B.up (id:=id) (λhd=>by simpa[zP,hd]using F) b ds k cs I C c R hf y;exact⟨r,w',e,ds,g1,g2,pH c,L.step R g1,g3⟩
end
end Go.Am
namespace Go.Am
open Go
section
variable{E:Env}{fr fr':Fr}{t:T Value}{o:Oper}{H H1 H':AH}{n d i:Nat}{v:Value}{all:Array Oper}{os:List Oper}
theorem qD1{t:TypeId}{p d:Tmp}(h:qJ5 o=some (t,p,d)):o.op=.load t (.tmp p)/\o.dst=some d/\o.guard=none:=by unfold qJ5 at h;grind
theorem e9{s d:Tmp}(h:qD0 o=some (s,d)):o.op=.move (.tmp s)/\o.dst=some d/\o.guard=none:=by unfold qD0 at h;grind
theorem qLD{a d:Tmp}(h:qNt o=some (a,d)):(∃t x,o.op=.binOp .add t (.tmp a) (.const (.int .i64 (.ofNat 1))) x)/\o.dst=some d/\o.guard=none:=by unfold qNt at h;grind
theorem uX{t:TypeId}{x l d:Tmp}(h:qGF o=some (t,x,l,d)):o.op=.slice t (.tmp x) (some (.tmp l)) none none/\o.dst=some d/\o.guard=none:=by unfold qGF at h;grind
theorem qLC{t:TypeId}{a b d:Tmp}(h:qNs o=some (t,a,b,d)):∃c ts,o.op=.call c/\c.callee=.builtin .copy/\c.args.toList=[.tmp a,.tmp b]/\c.argTypes.toList=t::ts/\o.dst=some d/\o.guard=none:=by unfold qNs at h;grind
def qGc(H:AH):Nat->AH
 |0=>H
 |n+1=>jK (qGc H n) (zR (qGc H n) []) []
theorem qKw(H:AH):∀k,(qGc H k).blocks=H.blocks
 |0=>rfl
 |k+1=>qKw H k
theorem qKv(H:AH):∀k,(qGc H k).next=H.next
 |0=>rfl
 |k+1=>qKv H k
theorem qOl(H:AH):∀k,Nat.min H.low H.next<=(qGc H k).low
 |0=>Nat.min_le_left _ _
 |k+1=>Nat.le_min.2 ⟨qOl H k,by show _<=(qGc H k).next;rw[qKv];exact Nat.min_le_right _ _⟩
theorem qC1{k:Nat}{rd:Bool}(x:vT E ⟨n,rd,t⟩ o (zR (qGc H k) [])=some (.val v,zR (qGc H k) []))(c:o.guard=none)(y:o.dst=some d)(b:Nat.ble (d+1) n=true)(h:yW E all true os (i+1) ⟨n,rd,t.put d (some v)⟩ (qGc H (k+1)) fr' H'):yW E all true (o::os) i ⟨n,rd,t⟩ (qGc H k) fr' H':=
 yW.consD (by simp only[vH,c]) (.of_val (lR _) x) (.inl (lR _)) (by simp only[wR,y,b,cond_true]) h
theorem qKW{t:TypeId}{x:Operand}{b:Nat}{v:Value}{el rt:Nat}{own:Bool}(h:qJq E t=true)(e:o.op=.load t x)(hv:ev E fr x=some (.pointer (some ⟨b,0,none⟩)))(j:H.blocks.get b=some ⟨.cells [v] el,rt,own⟩):vT E fr o H=some (.val v,H):=by
 unfold qJq at h;split at h;case h_2=>cases h
 rename_i c k;simp only[aE,Bool.not_eq_true']at h;unfold vT;rw[e];have l:take? (([v]:List Value).drop 0) c.size=some [v]:=by rw[vE h.2];rfl
 simp only[hv,k9,k,h.1,cond_false,AH.loads,j,one];have y:take? (([v]:List Value).drop 0) 1=some [v]:=rfl;simp only[y,Option.map_some]
theorem qBw{x:Operand}{v:Value}(h:o.op=.move x)(hv:ev E fr x=some v):vT E fr o H=some (.val v,H):=by unfold vT;rw[h];simp only[hv,one,Option.map_some]
theorem qWA{n:Nat}(h:n<qT):IntKind.i64.wrap (n:Int)=(n:Int):=by
 have b:n<9223372036854775808:=h;have y:(n:Int)<9223372036854775808:=by omega
 have x:(n:Int)%2^64=(n:Int):=by omega
 simp only[IntKind.wrap,IntKind.bits,IntKind.signed,x];grind
theorem qVE{t c:TypeId}{x y:Operand}{a:Nat}(h:a+1<qT)(k:o.op=.binOp .add t x y c)(j:ev E fr x=some (goInt a))(e:ev E fr y=some (goInt 1)):vT E fr o H=some (.val (goInt ((a+1:Nat):Int)),H):=by have b:oW E .add t x y (goInt a) (goInt 1)=some (goInt (IntKind.i64.wrap ((a:Int)+1))):=rfl;rw[show((a:Int)+1)=((a+1:Nat):Int) by omega,qWA h]at b;unfold vT;rw[k];simp only[j,e,b,one,Option.map_some]
theorem qPl{ty:TypeId}{x l:Operand}{el b n k rt:Nat}{cs:List Value}{own:Bool}{e:TI}(c:wM E ty=some el)(he:E.types.get el=some e)(j:o.op=.slice ty x (some l) none none)(y:ev E fr x=some (.slice (some ⟨b,0,none⟩) n qT))(q:ev E fr l=some (goInt k))(r:k<=n)(u:H.blocks.get b=some ⟨.cells cs el,rt,own⟩):vT E fr o H=some (.val (.slice (some ⟨b,0+k*e.size,none⟩) (n-k) qT),H):=by obtain⟨h,B,z0,C,A⟩:=xM c;have hle:Nat.ble k n=true:=bL r;have p:nat? (goInt k)=some k:=rfl;have h3:Nat.ble qT qT=true:=bL (lR _);have z:Nat.beq el el=true:=Nat.beq_refl _;have w:Nat.ble n n=true:=bL (lR _);unfold vT;rw[j];simp only[y,Option.toList,rO,q,Option.map_some,List.head?_cons,List.head?_nil,oE,A,kV,p,he,hle,h3,z,w,u,cond_true,Bool.true_or,Bool.and_self,one];rfl
theorem qRS{c:Call}{ty:TypeId}{ts:List TypeId}{x y:Operand}{el b j n rt:Nat}{cs:List Value}{e:TI}(M:wM E ty=some el)(he:E.types.get el=some e)(A:o.op=.call c)(C:c.callee=.builtin .copy)(F:c.args.toList=[x,y])(k:c.argTypes.toList=ty::ts)(z:ev E fr x=some (.slice (some ⟨b,0+(j+1)*e.size,none⟩) (n-(j+1)) qT))(w:ev E fr y=some (.slice (some ⟨b,0+j*e.size,none⟩) (n-j) qT))(W:j+1<=n)(P:H.blocks.get b=some ⟨.cells cs el,rt,true⟩)(V:n*e.size<=cs.length):(n-(j+1)=0/\∃v,vT E fr o H=some (.val v,H))∨(n-(j+1)≠0/\∃v,vT E fr o H=some (.val v,H.write b ⟨.cells cs el,rt,true⟩ (.cells (qDU cs ((j+1)*e.size) ((cs.drop (j*e.size)).take ((n-(j+1))*e.size))) el))):=by
 obtain⟨I,R,z0,U,G⟩:=xM M;have hm:Nat.min (n-j) (n-(j+1))=n-(j+1):=Nat.min_eq_right (by omega);have hle:Nat.ble (n-(j+1)) (n-j)=true:=bL (by omega);by_cases l:n-(j+1)=0
 ·refine .inl ⟨l,goInt 0,?_⟩;have h:Nat.beq 0 0=true:=rfl;have L:Nat.min (n-j) 0=0:=Nat.min_zero _;unfold vT;rw[A];simp only[yL,F,rO,z,w,Option.map_some,C,xR,k,qEH,G,he,qG1,l,L,oR,h,cond_true];rfl
 refine .inr ⟨l,goInt (n-(j+1):Nat),?_⟩;have h:Nat.beq (n-(j+1)) 0=false:=by
  cases O:Nat.beq (n-(j+1)) 0 with
  |false=>rfl
  |true=>exact absurd (vE O) l
 have B:n*e.size=(j+1)*e.size+(n-(j+1))*e.size:=by rw[←Nat.add_mul];congr 1;omega
 have u:(j+1)*e.size=j*e.size+e.size:=Nat.succ_mul _ _;have p:take? (cs.drop (0+j*e.size)) (Nat.mul (n-(j+1)) e.size)=some ((cs.drop (j*e.size)).take ((n-(j+1))*e.size)):=by rw[Nat.zero_add];exact xI (by rw[List.length_drop];show(n-(j+1))*e.size<=_;omega)
 have r:((cs.drop (j*e.size)).take ((n-(j+1))*e.size)).length=(n-(j+1))*e.size:=by rw[List.length_take,List.length_drop];omega
 have q:=dM (cs:=cs) (xs:=(cs.drop (j*e.size)).take ((n-(j+1))*e.size)) (i:=0+(j+1)*e.size) (by rw[r];omega);unfold vT;rw[A];simp only[yL,F,rO,z,w,Option.map_some,C,xR,k,qEH,G,he,qG1,hm,oR,h,hle,cond_true,cond_false,AH.loads,P,p,AH.stores,q];rw[Nat.zero_add]
end
theorem qMi{ds:List Tmp}{t:T SV}{d:Tmp}{x:SV}(h:(aK t ds).get d=some x):d∉ds/\t.get d=some x:=by
 induction ds with
 |nil=>exact⟨by simp,h⟩
 |cons c r ih=>rw[aK,T.get_put]at h;grind
section
variable{E:Env}{n0:Lim}{H0:AH}{g0:zB}{S:St}{ρ:List D}{ve:Nat->Value}{lb:Nat->Nat}{g:zB}{fr fr':Fr}{H:AH}{HS:FuncId->List D->D->Prop}{Q:Res1->Prop}
theorem SR.erased(h:SR E n0 H0 g0 S ρ ve lb g fr H){ds:List Tmp}(y:fr'.sz=fr.sz)(b:fr'.rd=fr.rd)(k:∀t,t∉ds->fr'.t.get t=fr.t.get t):SR E n0 H0 g0 {S with slots:=aK S.slots ds} ρ ve lb g fr' H:=
  { toSM:={len:=h.len,wf:=h.wf,mem:=h.mem,base:=h.base,fix:=h.fix,vars:=h.vars,blks:=h.blks,sepLG:=h.sepLG,sepFG:=h.sepFG,sepL:=h.sepL,sepF:=h.sepF,sepX:=h.sepX}
    sz:=by rw[y];exact h.sz,rd:=by rw[b];exact h.rd
    slots:=λt x j=>by obtain⟨p,l⟩:=qMi (show(aK S.slots ds).get t=some x from j);obtain⟨e,c⟩:=h.slots t x l;exact⟨e,by rw[k t p];exact c⟩
    sav:=h.sav,keep:=h.keep,gk:=h.gk,low:=h.low,tab:=h.tab}
theorem gE{b k:Nat}{x:Option ABlk}(h:H.blocks.get b=x):(zR (qGc H k) []).blocks.get b=x:=by show(qGc H k).blocks.get b=x;rw[qKw,h]
theorem sJ{t:T Value}{d k:Nat}{v:Value}{w:Option Value}(hd:k≠d)(h:t.get k=w):(t.put d (some v)).get k=w:=by rw[T.get_put,if_neg hd];exact h
theorem qPQ{t:T Value}{d:Nat}{v:Value}:(t.put d (some v)).get d=some v:=by rw[T.get_put,if_pos rfl]
theorem qJk{n:Nat}{rd:Bool}{t:T Value}{k:Tmp}{w:Value}(h:t.get k=some w):ev E ⟨n,rd,t⟩ (.tmp k)=some w:=h
theorem pA{o:Oper}{n d:Nat}{rd:Bool}{t:T Value}{v:Value}(h:o.dst=some d)(x:Nat.ble (d+1) n=true):wR ⟨n,rd,t⟩ o.dst v=some ⟨n,rd,t.put d (some v)⟩:=by simp only[wR,h,x,cond_true]
theorem qVG(he:EOk E){id:Nat}{ops:Array Oper}{p:CpP}{κ:St->Tree}(h:SR E n0 H0 g0 S ρ ve lb g fr H)(P:qVH E S ops.toList=some p)(hw:wp E (Holds E) Q (.bind (.cpy p.el p.sz) [.v p.k,p.j] (κ ((S.cpy p).mapped p.k))) ρ):∃S' ρ' ve' lb' g' fr' H',SR E n0 H0 g0 S' ρ' ve' lb' g' fr' H'/\wp E (Holds E) Q (κ S') ρ'/\zT E (.region id ops true) fr H .normal fr' H':=by
 unfold qVH at P;split at P;case h_2=>cases P
 rename_i o0 o1 o2 o3 o4 o5 o6 o7 heq;split at P;case h_2=>cases P
 rename_i t0 p0 d0 s1 d1 a2 d2 t3 x3 l3 d3 r0 r1 r2 r3;split at P;case h_2=>cases P
 rename_i t4 p4 d4 s5 d5 t6 x6 l6 d6 t7 a7 b7 U r4 r5 r6 r7;obtain⟨hc,P⟩:=qW P;rw[aE,aE]at hc;obtain⟨hc,hfen,hcell⟩:=hc;split at P;case h_2=>cases P
 rename_i b j el hs0 hs1 hsl;split at P;case h_2=>cases P
 rename_i k e hblk hel;obtain⟨hkj,P⟩:=qW P;rw[aE]at hkj;obtain⟨V,hrj⟩:=hkj;cases P;unfold qYR at hc;simp only[aE]at hc;obtain⟨⟨z1,z2,z3,z4⟩,⟨z5,z6⟩,⟨z7,z8,z9⟩,⟨z10,z11⟩,⟨z12,z13⟩,hnd,hall⟩:=hc;have z1:=(vE z1).symm;have z2:=(vE z2).symm;have z3:=(vE z3).symm;have z4:=(vE z4).symm;have z5:=(vE z5).symm;have z6:=(vE z6).symm;have z7:=(vE z7).symm;have z8:=(vE z8).symm;have z9:=(vE z9).symm;have z10:=(vE z10).symm;have z11:=(vE z11).symm;have z12:=(vE z12).symm;have z13:=(vE z13).symm;subst z1 z2 z3 z4 z5 z6 z7 z8 z9 z10 z11 z12 z13;obtain⟨u0,v0,w0⟩:=qD1 r0;obtain⟨u1,v1,w1⟩:=e9 r1;obtain⟨⟨ty2,yt2,u2⟩,v2,w2⟩:=qLD r2;obtain⟨u3,v3,w3⟩:=uX r3;obtain⟨u4,v4,w4⟩:=qD1 r4;obtain⟨u5,v5,w5⟩:=e9 r5;obtain⟨u6,v6,w6⟩:=uX r6;obtain⟨c7,ts7,u7,y7,ya7,yt7,v7,w7⟩:=qLC r7;simp only[wp]at hw;split at hw;case h_2=>cases hw
 rename_i d hd;simp only[SV.ds,qO6]at hd;split at hd;case h_2=>cases hd
 rename_i zS sz' es A hdk hdj;obtain⟨I,hd2⟩:=qW hd;clear hd;have hd:=Option.some.inj hd2;clear hd2;simp only[aE]at I;have e1:=vE I.1.1;have e2:=vE I.1.2;have hnl:=o9 I.2;subst e1 e2;have hjr:=zE h.toSM hrj;rw[hdj]at hjr;have hjv:j.val ve lb=goInt A:=(hjr.dr rfl).leaf_inv.1;have hp0:fr.t.get p0=some (.pointer (some ⟨lb b,0,none⟩)):=(h.slots _ _ hs0).2;have hs1v:fr.t.get s1=some (goInt A):=by rw[(h.slots _ _ hs1).2,hjv]
 obtain⟨of,hst⟩:=zC.1 V;have hv:=(h.vars k _ hst).2;have R:getD ρ k=.sl zS e.size es:=hdk;rcases hv with qn|⟨B,l,cs,vs,elx,rt,sz2,es2,C⟩|⟨B,es2,clock,rt,ks,dds,C⟩
 rotate_left 2
 ·have X:=C.d;rw[R]at X;cases X
 ·exfalso;rcases qn.sl with L|⟨_,_,L⟩
  ·rw[R]at L;cases L
  rw[R]at L;cases L;simp at hnl
 have X:=C.d;rw[R]at X;cases X;have u:vR (ve k)=some B:=by rw[C.v];simp[vR]
 obtain⟨t1,t2⟩:=jF C.t;have hlen:es.length=l:=C.n;obtain⟨elb,rtb,csb,hbb,_,hbc⟩:=(h.blks b _ hblk).2.cells rfl;have hbc:csb=[ve k]:=hbc;subst hbc;rw[C.v]at hbb;have G:∀(a:Nat),a∈[p0,s1,d0,d1,d2,d3,d4,d5,d6,U]->Nat.ble (a+1) fr.sz=true:=λa ha=>by rw[h.sz];grind
 have O:∀(x y a c:Nat),[p0,s1,d0,d1,d2,d3,d4,d5,d6,U][x]? = some a->[p0,s1,d0,d1,d2,d3,d4,d5,d6,U][y]? = some c->x≠y->a≠c:=λx y a c h1 h2 h3 e=>h3 (fD hnd x y a h1 (by rw[h2,e]));have hcap:l<qT:=C.x;have hnj:A+1<=l:=by rw[←hlen];exact hnl
 have hln:l*e.size<=cs.length:=t2;let c1:T Value:=fr.t.put d0 (some (.slice (some ⟨B,0,none⟩) l qT));let c2:T Value:=c1.put d1 (some (goInt A));let c3:T Value:=c2.put d2 (some (goInt ((A+1:Nat):Int)));let c4:T Value:=c3.put d3 (some (.slice (some ⟨B,0+(A+1)*e.size,none⟩) (l-(A+1)) qT));let c5:T Value:=c4.put d4 (some (.slice (some ⟨B,0,none⟩) l qT));let c6:T Value:=c5.put d5 (some (goInt A));let F:T Value:=c6.put d6 (some (.slice (some ⟨B,0+A*e.size,none⟩) (l-A) qT));have pre:∀{fr2:Fr} {H2:AH},yW E ops true [o7] 7 ⟨fr.sz,fr.rd,F⟩ (qGc H 7) fr2 H2->yW E ops true [o0,o1,o2,o3,o4,o5,o6,o7] 0 fr H fr2 H2:=by intro fr2 H2 hl7;show yW E ops true _ 0 ⟨fr.sz,fr.rd,fr.t⟩ (qGc H 0) fr2 H2;refine qC1 (qKW hcell u0 (qJk hp0) (gE hbb)) w0 v0 (G d0 (by simp)) ?_;refine qC1 (qBw u1 (qJk (sJ (O 1 2 _ _ rfl rfl (by decide)) hs1v))) w1 v1 (G d1 (by simp)) ?_;refine qC1 (qVE (by omega) u2 (qJk qPQ) rfl) w2 v2 (G d2 (by simp)) ?_;refine qC1 (qPl hsl hel u3 (qJk (sJ (O 2 4 _ _ rfl rfl (by decide)) (sJ (O 2 3 _ _ rfl rfl (by decide)) qPQ))) (qJk qPQ) hnj (gE C.b)) w3 v3 (G d3 (by simp)) ?_;refine qC1 (qKW hcell u4 (qJk (sJ (O 0 5 _ _ rfl rfl (by decide)) (sJ (O 0 4 _ _ rfl rfl (by decide)) (sJ (O 0 3 _ _ rfl rfl (by decide)) (sJ (O 0 2 _ _ rfl rfl (by decide)) hp0))))) (gE hbb)) w4 v4 (G d4 (by simp)) ?_;refine qC1 (qBw u5 (qJk (sJ (O 1 6 _ _ rfl rfl (by decide)) (sJ (O 1 5 _ _ rfl rfl (by decide)) (sJ (O 1 4 _ _ rfl rfl (by decide)) (sJ (O 1 3 _ _ rfl rfl (by decide)) (sJ (O 1 2 _ _ rfl rfl (by decide)) hs1v))))))) w5 v5 (G d5 (by simp)) ?_;refine qC1 (qPl hsl hel u6 (qJk (sJ (O 6 7 _ _ rfl rfl (by decide)) qPQ)) (qJk qPQ) (by omega) (gE C.b)) w6 v6 (G d6 (by simp)) ?_;exact hl7
 have g3:ev E ⟨fr.sz,fr.rd,F⟩ (.tmp d3)=some (.slice (some ⟨B,0+(A+1)*e.size,none⟩) (l-(A+1)) qT):=qJk (sJ (O 5 8 _ _ rfl rfl (by decide)) (sJ (O 5 7 _ _ rfl rfl (by decide)) (sJ (O 5 6 _ _ rfl rfl (by decide)) qPQ)));have g6:ev E ⟨fr.sz,fr.rd,F⟩ (.tmp d6)=some (.slice (some ⟨B,0+A*e.size,none⟩) (l-A) qT):=qJk qPQ;have W:∀(w:Value) (t:Tmp),t∉[d0,d1,d2,d3,d4,d5,d6,U]->(F.put U (some w)).get t=fr.t.get t:=by intro w t ht;simp only[List.mem_cons,List.mem_nil_iff,or_false,not_or]at ht;obtain⟨q0,q1,q2,q3,q4,q5,q6,q7⟩:=ht;exact sJ q7 (sJ q6 (sJ q5 (sJ q4 (sJ q3 (sJ q2 (sJ q1 (sJ q0 rfl)))))))
 have hlow:Nat.min H0.low n0.n<=(qGc H 7).low:=lT (Nat.le_min.2 ⟨h.low,lT (Nat.min_le_right _ _) h.base.1⟩) (qOl H 7);rcases qRS (fr:=⟨fr.sz,fr.rd,F⟩) (H:=zR (qGc H 7) []) hsl hel u7 y7 ya7 yt7 g3 g6 hnj (gE C.b) hln with⟨m0,w,hx⟩|⟨m1,w,hx⟩
 ·
  -- nothing is moved
  have q:SR E n0 H0 g0 (S.cpy ⟨k,j,zS,e.size,[d0,d1,d2,d3,d4,d5,d6,U]⟩) ρ ve lb g ⟨fr.sz,fr.rd,F.put U (some w)⟩ H:=h.erased rfl rfl (W w);have hes:eJ es A=es:=by unfold eJ;rw[hlen,m0,List.take_zero,List.append_nil,List.take_of_length_le (by omega)]
  rw[hes]at hd;have k1:=q.killed k;have k3:=k1.newFresh (d:=d) (v:=ve k) (by rw[←hd];exact .inr (.inl ⟨B,l,cs,vs,zS,rt,e.size,es,{C with d:=rfl}⟩)) (by rw[←hd];rfl) (λB' z=>by rw[u]at z;cases z;exact h.sepFG k B V u) (λB' c z hc e=>by rw[u]at z;cases z;exact q.sepX c k hc V (by rw[e];exact u)) (λB' jj z hf hoj=>by rw[u]at z;cases z;obtain⟨a1,a2⟩:=jE hf;exact a2 (q.sepF jj k B a1 V hoj u));rw[oO]at k3;have k4:=nI (i:=k) (show(S.cpy ⟨k,j,zS,e.size,[d0,d1,d2,d3,d4,d5,d6,U]⟩).freshV k=true from V) k3;refine⟨_,_,_,_,_,_,qGc H 8,k4.congr (λb=>by rw[qKw]) (qKv H 8) (lT (Nat.le_min.2 ⟨h.low,lT (Nat.min_le_right _ _) h.base.1⟩) (qOl H 8)),hw,zT.region he ?_⟩;rw[heq];refine pre (yW.consD (by simp only[vH,w7]) (.of_val (lR _) hx) (.inl (lR _)) (pA v7 (G U (by simp))) ?_);exact .nil
 -- the elements are moved
 have zb:=qKw H 7;have zn:=qKv H 7
 clear_value F
 generalize qGc H 7=Z at *;have q:SR E n0 H0 g0 (S.cpy ⟨k,j,zS,e.size,[d0,d1,d2,d3,d4,d5,d6,U]⟩) ρ ve lb g ⟨fr.sz,fr.rd,F.put U (some w)⟩ H:=h.erased rfl rfl (W w);have hmul:l*e.size=(A+1)*e.size+(l-(A+1))*e.size:=by rw[←Nat.add_mul];congr 1;omega
 have hmul2:(A+1)*e.size=A*e.size+e.size:=Nat.succ_mul _ _;generalize hxs:(cs.drop (A*e.size)).take ((l-(A+1))*e.size)=xs at hx;have hxl:xs.length=(l-(A+1))*e.size:=by rw[←hxs,List.length_take,List.length_drop];omega
 have hxv:xs=(vs.drop (A*e.size)).take ((l-(A+1))*e.size):=by
  rw[←hxs,t1,List.drop_take,List.take_take]
  congr 1
  rw[Nat.min_eq_left];omega
 generalize hr:qDU cs ((A+1)*e.size) xs=r at hx;have hrl:take? r (l*e.size)=some (vs.take ((A+1)*e.size)++xs):=by
  have hlr:l*e.size<=r.length:=by rw[←hr];simp only[qDU,List.length_append,List.length_take,List.length_drop];omega
  rw[xI hlr,←hr,qBS (by rw[hxl];omega) hln,←t1];unfold qDU;rw[List.drop_of_length_le (by rw[hxl,t1,List.length_take];omega),List.append_nil]
 have hdrs:DRs g ((eJ es A).flatMap D.cells) (vs.take ((A+1)*e.size)++xs):=by unfold eJ;rw[List.flatMap_append,←gU C.s,←gU (λe' M=>C.s e' (List.mem_of_mem_drop M)),←kP C.s,hlen,hxv];exact(C.r.take _).append ((C.r.drop _).take _)
 have hone:(vs.take ((A+1)*e.size)++xs).all qE=true:=by
  have h0:=C.o;rw[List.all_eq_true]at h0 ⊢;intro v hv;rcases List.mem_append.1 hv with hv|hv
  ·exact h0 v (List.mem_of_mem_take hv)
  rw[hxv]at hv;exact h0 v (List.mem_of_mem_drop (List.mem_of_mem_take hv))
 have hn2:(eJ es A).length=l:=by unfold eJ;rw[List.length_append,List.length_take,List.length_take,List.length_drop,hlen];omega
 have hs2:∀e'∈eJ es A,e'.cells.length=e.size:=by
  intro e' M;unfold eJ at M;rcases List.mem_append.1 M with M|M
  ·exact C.s e' (List.mem_of_mem_take M)
  exact C.s e' (List.mem_of_mem_drop (List.mem_of_mem_take M))
 have hb:H.blocks.get B=some ⟨.cells cs zS,rt,true⟩:=C.b;have k1:=q.killed k
 have k2:=k1.heap2 (H':=H.write B ⟨.cells cs zS,rt,true⟩ (.cells r zS)) (λb=>b=B) (λb _ hb=>by rw[AH.get_write,if_neg hb]) (λb hb=>by subst hb;exact h.sepFG k b V u)
  (λb c hb hl e=>by subst hb;exact q.sepX c k hl V (by rw[e];exact u))
  (λb jj hb hf hoj=>by subst hb;obtain⟨a1,a2⟩:=jE hf;exact a2 (q.sepF jj k b a1 V hoj u))
  (λb hb=>by subst hb;exact C.rt.2) (q.wf.write hb _) (lR _) (by show _<=Nat.min H.low rt;exact Nat.le_min.2 ⟨q.low,lT (Nat.min_le_right _ _) C.rt.1⟩)
 have k3:=k2.newFresh (d:=d) (v:=ve k) (by
   rw[←hd]
   exact .inr (.inl ⟨B,l,r,_,zS,rt,e.size,_,C.v,rfl,by rw[AH.get_write,if_pos rfl],C.rt,hrl,hdrs,hn2,hs2,C.x,hone⟩)) (by rw[←hd];rfl)
  (λB' z=>by rw[u]at z;cases z;exact h.sepFG k B V u) (λB' c z hc e=>by rw[u]at z;cases z;exact q.sepX c k hc V (by rw[e];exact u))
  (λB' jj z hf hoj=>by rw[u]at z;cases z;obtain⟨a1,a2⟩:=jE hf;exact a2 (q.sepF jj k B a1 V hoj u))
 rw[oO]at k3;have k4:=nI (i:=k) (show(S.cpy ⟨k,j,zS,e.size,[d0,d1,d2,d3,d4,d5,d6,U]⟩).freshV k=true from V) k3;refine⟨_,_,_,_,_,_,jK (Z) ((zR (Z) []).write B ⟨.cells cs zS,rt,true⟩ (.cells r zS)) [],k4.congr (λb=>?_) (show Z.next=H.next from zn) ?_,hw,zT.region he ?_⟩
 ·show((Z).blocks.put B _).get b=(H.blocks.put B _).get b;rw[T.get_put,T.get_put,zb]
 ·show _<=Nat.min (Z).low (Nat.min (Z).next rt);refine Nat.le_min.2 ⟨hlow,Nat.le_min.2 ⟨?_,lT (Nat.min_le_right _ _) C.rt.1⟩⟩;rw[zn];exact lT (Nat.min_le_right _ _) h.base.1
 rw[heq];have hlast:yW E ops true [o7] 7 ⟨fr.sz,fr.rd,F⟩ (Z) ⟨fr.sz,fr.rd,F.put U (some w)⟩ (jK (Z) ((zR (Z) []).write B ⟨.cells cs zS,rt,true⟩ (.cells r zS)) []):=by
  refine yW.consD (v:=w) (H1:=(zR (Z) []).write B ⟨.cells cs zS,rt,true⟩ (.cells r zS)) (by simp only[vH,w7]) (.of_val ?_ hx) (.inr ?_) (pA v7 (G U (by simp))) ?_
  ·exact lR _
  ·rw[heq];exact hfen
  exact .nil
 exact pre hlast
theorem qIy{o:Oper}{t:TypeId}{a:Tmp}(h:qIz o=some (t,a)):∃c ts,o.op=.call c/\c.callee=.builtin .clear/\c.args.toList=[.tmp a]/\c.argTypes.toList=t::ts/\o.dst=none/\o.guard=none:=by unfold qIz at h;grind
theorem qPm{c:Call}{o:Oper}{ty:TypeId}{ts:List TypeId}{x:Operand}{el b j n rt:Nat}{cs z:List Value}{e:TI}(I:wM E ty=some el)(he:E.types.get el=some e)(u:e.zero=some z)(y:z.length=e.size)(w:o.op=.call c)(B:c.callee=.builtin .clear)(C:c.args.toList=[x])(k:c.argTypes.toList=ty::ts)(p:ev E fr x=some (.slice (some ⟨b,0+j*e.size,none⟩) (n-j) qT))(U:j<=n)(O:H.blocks.get b=some ⟨.cells cs el,rt,true⟩)(M:n*e.size<=cs.length):(n-j=0/\∃v,vT E fr o H=some (.val v,H))∨(n-j≠0/\∃v,vT E fr o H=some (.val v,H.write b ⟨.cells cs el,rt,true⟩ (.cells (qDU cs (j*e.size) (xG z (n-j))) el))):=by
 obtain⟨G,P,z0,R,F⟩:=xM I;obtain⟨W,es,X,V,Z⟩:=e;simp only at u y p M;subst u;by_cases l:n-j=0
 ·refine .inl ⟨l,.tuple #[],?_⟩;have h:Nat.beq 0 0=true:=rfl;unfold vT;rw[w];simp only[yL,C,rO,p,Option.map_some,B,xR,k,qAz,F,he,l,h,cond_true]
 refine .inr ⟨l,.tuple #[],?_⟩;have h:Nat.beq (n-j) 0=false:=by
  cases L:Nat.beq (n-j) 0 with
  |false=>rfl
  |true=>exact absurd (vE L) l
 have A:n*es=j*es+(n-j)*es:=by rw[←Nat.add_mul];congr 1;omega
 have r:(xG z (n-j)).length=(n-j)*es:=by rw[qB6,y]
 have q:=dM (cs:=cs) (xs:=xG z (n-j)) (i:=0+j*es) (by rw[r];omega);unfold vT;rw[w];simp only[yL,C,rO,p,Option.map_some,B,xR,k,qAz,F,he,h,cond_false,AH.stores,O,q];rw[Nat.zero_add]
theorem qVP(he:EOk E){id:Nat}{ops:Array Oper}{p:ClP}{κ:St->Tree}(h:SR E n0 H0 g0 S ρ ve lb g fr H)(I:qVQ E S ops.toList=some p)(hw:wp E (Holds E) Q (.bind (.clr p.el p.sz p.ag p.z) [.v p.k,p.j] (κ ((S.clr p).mapped p.k))) ρ):∃S' ρ' ve' lb' g' fr' H',SR E n0 H0 g0 S' ρ' ve' lb' g' fr' H'/\wp E (Holds E) Q (κ S') ρ'/\zT E (.region id ops false) fr H .normal fr' H':=by
 unfold qVQ at I;split at I;case h_2=>cases I
 rename_i o0 o1 o2 o3 heq;split at I;case h_2=>cases I
 rename_i s0 d0 s1 d1 t2 x2 l2 d2 t3 a3 r0 r1 r2 r3;obtain⟨hc,I⟩:=qW I;simp only[aE]at hc;obtain⟨⟨z1,z2,z3,z4⟩,hnd,hall⟩:=hc;split at I;case h_2=>cases I
 rename_i k j el hs0 hs1 hsl;split at I;case h_2=>cases I
 rename_i e hel;split at I;case h_2=>cases I
 rename_i z hz;obtain⟨hkj,I⟩:=qW I;rw[aE]at hkj;obtain⟨O,hrj⟩:=hkj;cases I;have z1:=(vE z1).symm;have z2:=(vE z2).symm;have z3:=(vE z3).symm;have z4:=(vE z4).symm;subst z1 z2 z3 z4;obtain⟨u0,v0,w0⟩:=e9 r0;obtain⟨u1,v1,w1⟩:=e9 r1;obtain⟨u2,v2,w2⟩:=uX r2;obtain⟨c3,ts3,u3,y3,ya3,yt3,v3,w3⟩:=qIy r3;simp only[wp]at hw;split at hw;case h_2=>cases hw
 rename_i d hd;simp only[SV.ds,qO7]at hd;split at hd;case h_2=>cases hd
 rename_i zS sz' es C hdk hdj;obtain⟨W,hd2⟩:=qW hd;clear hd;have hd:=Option.some.inj hd2;clear hd2;simp only[aE]at W;obtain⟨⟨⟨e1,e2⟩,U,hn1⟩,⟨c1,c2⟩,c3'⟩:=W;have hn1:=o9 hn1;have e1:=vE e1;have e2:=vE e2;have U:=o9 U;have Z:=vE c1;subst e1 e2;have hjr:=zE h.toSM hrj;rw[hdj]at hjr;have hjv:j.val ve lb=goInt C:=(hjr.dr rfl).leaf_inv.1;have hs0v:fr.t.get s0=some (ve k):=(h.slots _ _ hs0).2;have hs1v:fr.t.get s1=some (goInt C):=by rw[(h.slots _ _ hs1).2,hjv]
 obtain⟨of,hst⟩:=zC.1 O;have hv:=(h.vars k _ hst).2;have L:getD ρ k=.sl zS e.size es:=hdk;have hle:∀(a:Nat),a∈[s0,s1,d0,d1,d2]->Nat.ble (a+1) fr.sz=true:=λa ha=>by rw[h.sz];grind
 have ne:∀(x y a c:Nat),[s0,s1,d0,d1,d2][x]? = some a->[s0,s1,d0,d1,d2][y]? = some c->x≠y->a≠c:=λx y a c h1 h2 h3 e=>h3 (fD hnd x y a h1 (by rw[h2,e]));obtain⟨q1,q2⟩:=qSm (g:=g) Z c2 (by simpa using c3');have hone0:z.all qE=true:=by grind
 rcases hv with qn|⟨B,l,cs,vs,elx,rt,sz2,es2,F⟩|⟨B,es2,clock,rt,ks,dds,F⟩
 rotate_left 2
 ·have P:=F.d;rw[L]at P;cases P
 ·exfalso;rcases qn.sl with G|⟨_,_,G⟩
  ·rw[L]at G;cases G
  rw[L]at G;cases G;simp at hn1
 have P:=F.d;rw[L]at P;cases P;have u:vR (ve k)=some B:=by rw[F.v];simp[vR]
 obtain⟨t1,t2⟩:=jF F.t;have hlen:es.length=l:=F.n;rw[hlen]at U hn1;have hln:l*e.size<=cs.length:=t2;let c1':T Value:=fr.t.put d0 (some (.slice (some ⟨B,0,none⟩) l qT));let c2':T Value:=c1'.put d1 (some (goInt C));let M:T Value:=c2'.put d2 (some (.slice (some ⟨B,0+C*e.size,none⟩) (l-C) qT));rw[F.v]at hs0v;have pre:∀{fr2:Fr} {H2:AH},yW E ops false [o3] 3 ⟨fr.sz,fr.rd,M⟩ H fr2 H2->yW E ops false [o0,o1,o2,o3] 0 fr H fr2 H2:=by intro fr2 H2 hl7;refine yW.cons (by simp only[vH,w0]) (.of_val (lR _) (qBw u0 hs0v)) (pA v0 (hle d0 (by simp))) ?_;refine yW.cons (by simp only[vH,w1]) (.of_val (lR _) (qBw u1 (qJk (sJ (ne 1 2 _ _ rfl rfl (by decide)) hs1v)))) (pA v1 (hle d1 (by simp))) ?_;refine yW.cons (by simp only[vH,w2]) (.of_val (lR _) (qPl hsl hel u2 (qJk (sJ (ne 2 3 _ _ rfl rfl (by decide)) qPQ)) (qJk qPQ) U F.b)) (pA v2 (hle d2 (by simp))) ?_;exact hl7
 have slots:∀(t:Tmp),t∉[d0,d1,d2]->M.get t=fr.t.get t:=by intro t ht;simp only[List.mem_cons,List.mem_nil_iff,or_false,not_or]at ht;obtain⟨q0,q1,q2⟩:=ht;exact sJ q2 (sJ q1 (sJ q0 rfl))
 have q:SR E n0 H0 g0 (S.clr ⟨k,j,zS,e.size,e.agg,z,[d0,d1,d2]⟩) ρ ve lb g ⟨fr.sz,fr.rd,M⟩ H:=h.erased rfl rfl slots;have hput:∀v,wR (⟨fr.sz,fr.rd,M⟩:Fr) o3.dst v=some ⟨fr.sz,fr.rd,M⟩:=λv=>by rw[v3];rfl
 have hdn:d.one=true:=by rw[←hd];rfl
 have k1:=q.killed k;rcases qPm (fr:=⟨fr.sz,fr.rd,M⟩) (H:=H) hsl hel hz Z u3 y3 ya3 yt3 (qJk qPQ) U F.b hln with⟨m0,w,hx⟩|⟨m1,w,hx⟩
 ·have hes:es.take C++List.replicate (es.length-C) (zD e.agg z)=es:=by
   grind
  rw[hes]at hd
  have k3:=k1.newFresh (d:=d) (v:=ve k) (by rw[←hd];exact .inr (.inl ⟨B,l,cs,vs,zS,rt,e.size,es,{F with d:=rfl}⟩)) hdn
   (λB' A=>by rw[u]at A;cases A;exact h.sepFG k B O u) (λB' c A hc e=>by rw[u]at A;cases A;exact q.sepX c k hc O (by rw[e];exact u))
   (λB' jj A hf R=>by rw[u]at A;cases A;obtain⟨a1,a2⟩:=jE hf;exact a2 (q.sepF jj k B a1 O R u))
  rw[oO]at k3
  have k4:=nI (i:=k) (show(S.clr ⟨k,j,zS,e.size,e.agg,z,[d0,d1,d2]⟩).freshV k=true from O) k3
  refine⟨_,_,_,_,_,_,H,k4,hw,zT.region he ?_⟩
  rw[heq]
  exact pre (yW.cons (by simp only[vH,w3]) (.of_val (lR _) hx) (hput _) .nil)
 generalize hr:qDU cs (C*e.size) (xG z (l-C))=r at hx;have hmul:l*e.size=C*e.size+(l-C)*e.size:=by rw[←Nat.add_mul];congr 1;omega
 have hxl:(xG z (l-C)).length=(l-C)*e.size:=by rw[qB6,Z]
 have hrl:take? r (l*e.size)=some (vs.take (C*e.size)++xG z (l-C)):=by
  have hlr:l*e.size<=r.length:=by rw[←hr];simp only[qDU,List.length_append,List.length_take,List.length_drop];omega
  rw[xI hlr,←hr,qBS (by rw[hxl];omega) hln,←t1];unfold qDU;rw[List.drop_of_length_le (by rw[hxl,t1,List.length_take];omega),List.append_nil]
 have hdrs:DRs g ((es.take C++List.replicate (es.length-C) (zD e.agg z)).flatMap D.cells) (vs.take (C*e.size)++xG z (l-C)):=by rw[List.flatMap_append,←gU F.s,hlen];exact(F.r.take _).append (qFj (by rw[q1];exact q2) _)
 have hone:(vs.take (C*e.size)++xG z (l-C)).all qE=true:=by rw[List.all_append,qB7 hone0,Bool.and_true];have h0:=F.o;rw[List.all_eq_true]at h0 ⊢;intro v hv;exact h0 v (List.mem_of_mem_take hv)
 have hn2:(es.take C++List.replicate (es.length-C) (zD e.agg z)).length=l:=by rw[List.length_append,List.length_take,List.length_replicate,hlen];omega
 have hs2:∀e'∈es.take C++List.replicate (es.length-C) (zD e.agg z),e'.cells.length=e.size:=by
  intro e' V;rcases List.mem_append.1 V with V|V
  ·exact F.s e' (List.mem_of_mem_take V)
  rw[List.eq_of_mem_replicate V,q1,List.length_map,Z]
 have X:H.blocks.get B=some ⟨.cells cs zS,rt,true⟩:=F.b
 have k2:=k1.heap2 (H':=H.write B ⟨.cells cs zS,rt,true⟩ (.cells r zS)) (λb=>b=B) (λb _ X=>by rw[AH.get_write,if_neg X]) (λb X=>by subst X;exact h.sepFG k b O u)
  (λb c X hl e=>by subst X;exact q.sepX c k hl O (by rw[e];exact u))
  (λb jj X hf R=>by subst X;obtain⟨a1,a2⟩:=jE hf;exact a2 (q.sepF jj k b a1 O R u))
  (λb X=>by subst X;exact F.rt.2) (q.wf.write X _) (lR _) (by show _<=Nat.min H.low rt;exact Nat.le_min.2 ⟨q.low,lT (Nat.min_le_right _ _) F.rt.1⟩)
 have k3:=k2.newFresh (d:=d) (v:=ve k) (by
   rw[←hd]
   exact .inr (.inl ⟨B,l,r,_,zS,rt,e.size,_,F.v,rfl,by rw[AH.get_write,if_pos rfl],F.rt,hrl,hdrs,hn2,hs2,F.x,hone⟩)) hdn
  (λB' A=>by rw[u]at A;cases A;exact h.sepFG k B O u) (λB' c A hc e=>by rw[u]at A;cases A;exact q.sepX c k hc O (by rw[e];exact u))
  (λB' jj A hf R=>by rw[u]at A;cases A;obtain⟨a1,a2⟩:=jE hf;exact a2 (q.sepF jj k B a1 O R u))
 rw[oO]at k3;have k4:=nI (i:=k) (show(S.clr ⟨k,j,zS,e.size,e.agg,z,[d0,d1,d2]⟩).freshV k=true from O) k3;refine⟨_,_,_,_,_,_,_,k4,hw,zT.region he ?_⟩;rw[heq];refine pre (yW.cons (H1:=H.write B ⟨.cells cs zS,rt,true⟩ (.cells r zS)) (by simp only[vH,w3]) (.of_val ?_ hx) (hput _) .nil);exact lR _
end
end Go.Am
namespace Go.Am
open Go
theorem vU.raise{E:Env}{f:FuncId}{args:List Value}{H H':AH}{v:Value}(h:vU E f args H v H'):vU E f args H v {H' with next:=H'.next+1}:=by
 intro σ w x j hv l cs;obtain⟨e,w',fr,⟨y,v',g1,g2,s⟩,g4⟩:=h σ w x j hv (λb q p=>l b q (Nat.lt_succ_of_lt p)) cs;have st:Step E σ H w y {H' with next:=H'.next+1} w':=by
  refine⟨⟨s.hr.objs,s.hr.sep,s.hr.glob,λb k c=>?_⟩,Nat.le_succ_of_le s.next,λb c=>?_,s.size,s.low,s.tape,s.os,s.output,s.frame,s.origin,s.old,s.keep,s.born⟩
  ·exact⟨(s.hr.wf b k c).1,Nat.lt_succ_of_lt (s.hr.wf b k c).2⟩
  refine s.ext b ?_;grind
 grind
abbrev pB:=AExit->Fr->AH->Prop
def Fin(E:Env)(c:Code)(K:pB)(fr:Fr)(H:AH):Prop:=∃e h H1,zT E c fr H e h H1/\K e h H1
def qNo(E:Env)(b:Code)(K:pB):pB:=λe fr H=>match e with
 |.normal=>Fin E b K fr H
 |e=>K e fr H
def bA(id:Nat)(K:pB):pB:=λe fr H=>match e with
 |.exit h=>if h=id then K .normal fr H else K (.exit h) fr H
 |e=>K e fr H
def qJW(E:Env)(b:Code)(K:pB):pB:=λe fr H=>match e with
 |.normal=>Fin E (.loop b) K fr H
 |e=>K e fr H
section
variable{E:Env}{fr:Fr}{H:AH}{K:pB}
theorem qKJ{a b:Code}(h:Fin E a (qNo E b K) fr H):Fin E (.seq a b) K fr H:=by
 obtain⟨e,x,H1,c,y⟩:=h;cases e with
 |normal=>obtain⟨l,j,H2,h3,k⟩:=y;exact⟨l,j,H2,c.seq h3,k⟩
 |exit id=>exact⟨_,x,H1,c.seqOut (by simp),y⟩
 |ret=>exact⟨_,x,H1,c.seqOut (by simp),y⟩
theorem qEA{id:Nat}{b:Code}(h:Fin E b (bA id K) fr H):Fin E (.block id b) K fr H:=by
 obtain⟨e,x,H1,c,y⟩:=h;cases e with
 |normal=>exact⟨_,x,H1,c.block (by simp),y⟩
 |exit j=>
  simp only[bA]at y;split at y
  ·rename_i e;subst e;exact⟨_,x,H1,c.blockExit,y⟩
  rename_i e;exact⟨_,x,H1,c.block (by simpa using e),y⟩
 |ret=>exact⟨_,x,H1,c.block (by simp),y⟩
theorem qHt{b:Code}(h:Fin E b (qJW E b K) fr H):Fin E (.loop b) K fr H:=by
 obtain⟨e,x,H1,c,y⟩:=h;cases e with
 |normal=>obtain⟨l,j,H2,h3,k⟩:=y;exact⟨l,j,H2,c.loop h3,k⟩
 |exit id=>exact⟨_,x,H1,c.loopOut (by simp),y⟩
 |ret=>exact⟨_,x,H1,c.loopOut (by simp),y⟩
theorem qEz{b:Code}(h:Fin E b K fr H):Fin E (.scope b) K fr H:=by obtain⟨e,x,H1,c,y⟩:=h;exact⟨e,x,H1,c.scope,y⟩
end
inductive Ctx (E:Env) (J:Nat->St->Tree) (c0:Code) (κ0:KC) (K0:pB):Nat->Code->KC->pB->Prop
 |root:Ctx E J c0 κ0 K0 1 c0 κ0 K0
 |seqL {n:Nat} {a b:Code} {κ:KC} {K:pB} (h:Ctx E J c0 κ0 K0 n (.seq a b) κ K):Ctx E J c0 κ0 K0 n a (qLu (λS=>sx E J (n+nl a) b S κ) κ) (qNo E b K)
 |seqR {n:Nat} {a b:Code} {κ:KC} {K:pB} (h:Ctx E J c0 κ0 K0 n (.seq a b) κ K):Ctx E J c0 κ0 K0 (n+nl a) b κ K
 |condL {n:Nat} {c:Operand} {a b:Code} {κ:KC} {K:pB} (h:Ctx E J c0 κ0 K0 n (.cond c a b) κ K):Ctx E J c0 κ0 K0 n a κ K
 |condR {n:Nat} {c:Operand} {a b:Code} {κ:KC} {K:pB} (h:Ctx E J c0 κ0 K0 n (.cond c a b) κ K):Ctx E J c0 κ0 K0 (n+nl a) b κ K
 |block {n id:Nat} {b:Code} {κ:KC} {K:pB} (h:Ctx E J c0 κ0 K0 n (.block id b) κ K):Ctx E J c0 κ0 K0 n b (cR id κ) (bA id K)
 |loop {n:Nat} {b:Code} {κ:KC} {K:pB} (h:Ctx E J c0 κ0 K0 n (.loop b) κ K):Ctx E J c0 κ0 K0 (n+1) b (iF J n κ) (qJW E b K)
 |scope {n:Nat} {b:Code} {κ:KC} {K:pB} (h:Ctx E J c0 κ0 K0 n (.scope b) κ K):Ctx E J c0 κ0 K0 n b κ K
section
variable{E:Env}{n0:Lim}{H0:AH}{g0:zB}{Q:Res1->Prop}{J:Nat->St->Tree}{c0:Code}{κ0:KC}{K0:pB}
def qIa(E:Env)(n0:Lim)(H0:AH)(g0:zB)(Q:Res1->Prop)(κ:KC)(K:pB):Prop:=
 ∀e S ρ ve lb g fr H,SR E n0 H0 g0 S ρ ve lb g fr H->wp E (Holds E) Q (κ e S) ρ->K e fr H
def qPM(E:Env)(n0:Lim)(H0:AH)(g0:zB)(Q:Res1->Prop)(J:Nat->St->Tree)(c0:Code)(κ0:KC)(K0:pB):Prop:=
 ∀k b κ K,Ctx E J c0 κ0 K0 k (.loop b) κ K->∀S ρ ve lb g fr H,SR E n0 H0 g0 S ρ ve lb g fr H->wp E (Holds E) Q (J k S) ρ->Fin E (.loop b) K fr H
theorem dL(he:EOk E)(R:qPM E n0 H0 g0 Q J c0 κ0 K0):∀(c:Code) (n:Nat) (κ:KC) (K:pB),Ctx E J c0 κ0 K0 n c κ K->qIa E n0 H0 g0 Q κ K->
  ∀S ρ ve lb g fr H,SR E n0 H0 g0 S ρ ve lb g fr H->wp E (Holds E) Q (sx E J n c S κ) ρ->Fin E c K fr H
 |.seq a b,n,κ,K,j,y,S,ρ,ve,lb,g,fr,H,h,x=>by
  refine qKJ (dL he R a n _ _ j.seqL ?_ S ρ ve lb g fr H h x)
  intro e M r u w L k H1 I q
  cases e with
  |normal=>exact dL he R b _ κ K j.seqR y M r u w L k H1 I q
  |exit id=>exact y _ M r u w L k H1 I q
  |ret=>exact y _ M r u w L k H1 I q
 | .cond c a b,n,κ,K,j,y,S,ρ,ve,lb,g,fr,H,h,x=>by
  simp only[sx]at x
  have T:∀S',SR E n0 H0 g0 S' ρ ve lb g fr H->ev E fr c=some (.bool true)->wp E (Holds E) Q (sx E J n a S' κ) ρ->Fin E (.cond c a b) K fr H:=by
   intro S' U hv x
   obtain⟨e,k,H1,C,B⟩:=dL he R a n κ K j.condL y S' ρ ve lb g fr H U x
   exact⟨e,k,H1,C.condT he hv,B⟩
  have F:∀S',SR E n0 H0 g0 S' ρ ve lb g fr H->ev E fr c=some (.bool false)->wp E (Holds E) Q (sx E J (n+nl a) b S' κ) ρ->Fin E (.cond c a b) K fr H:=by
   intro S' U hv x
   obtain⟨e,k,H1,C,B⟩:=dL he R b (n+nl a) κ K j.condR y S' ρ ve lb g fr H U x
   exact⟨e,k,H1,C.condF he hv,B⟩
  split at x
  ·rename_i hv;exact T S h (zJ (E:=E) h hv).2 x
  ·rename_i hv;exact F S h (zJ (E:=E) h hv).2 x
  ·rename_i i hv
   obtain⟨G,x⟩:=jC x
   obtain⟨t,hd,x⟩:=qBq x
   have P:=(zJ (E:=E) h hv).2
   simp only[SV.val,uK h.toSM G hd]at P
   cases t with
   |true=>exact T _ (mB h G hd) P x
   |false=>exact F _ (mB h G hd) P x
  cases x
 | .block id b,n,κ,K,j,y,S,ρ,ve,lb,g,fr,H,h,x=>by
  refine qEA (dL he R b n _ _ j.block ?_ S ρ ve lb g fr H h x)
  intro e M r u w L k H1 I q
  cases e with
  |normal=>exact y _ M r u w L k H1 I q
  |ret=>exact y _ M r u w L k H1 I q
  | exit V=>
   simp only[cR,qY]at q
   simp only[bA]
   split
   ·rename_i e;rw[if_pos e]at q
    exact y _ M r u w L k H1 I q
   rename_i e;rw[if_neg e]at q
   exact y _ M r u w L k H1 I q
 |.loop b,n,κ,K,j,y,S,ρ,ve,lb,g,fr,H,h,x=>R n b κ K j S ρ ve lb g fr H h x
 |.scope b,n,κ,K,j,y,S,ρ,ve,lb,g,fr,H,h,x=>qEz (dL he R b n κ K j.scope y S ρ ve lb g fr H h x)
 | .region id ops draw,n,κ,K,j,y,S,ρ,ve,lb,g,fr,H,h,x=>by
  simp only[sx]at x
  split at x
  ·rename_i p G
   obtain⟨j,G⟩:=qW G
   simp only[aE]at j
   obtain⟨S',ρ',z,A,g',fr',H',C,B,O⟩:=qVG he (id:=id) (κ:=κ .normal) h G x
   rw[j.1]
   exact⟨_,fr',H',O,y _ S' ρ' z A g' fr' H' C B⟩
  split at x
  ·rename_i p G
   obtain⟨j,G⟩:=qW G
   simp only[aE,Bool.not_eq_true']at j
   obtain⟨S',ρ',z,A,g',fr',H',C,B,O⟩:=qVP he (id:=id) (κ:=κ .normal) h G x
   rw[j.1]
   exact⟨_,fr',H',O,y _ S' ρ' z A g' fr' H' C B⟩
  rw[cond_eq_ite]at x
  split at x
  ·rename_i j
   simp only[aE]at j
   obtain⟨S',ρ',z,A,g',fr',H',C,B,O⟩:=qN7 he (id:=id) h x
   rw[j.1]
   exact⟨_,fr',H',O,y _ S' ρ' z A g' fr' H' C B⟩
  obtain⟨S',ρ',z,A,g',fr',H',C,B,O⟩:=qNG ops.toList 0 h x
  exact⟨_,fr',H',.region he O,y _ S' ρ' z A g' fr' H' C B⟩
 |.skip,n,κ,K,j,y,S,ρ,ve,lb,g,fr,H,h,x=>⟨_,fr,H,.skip,y _ S ρ ve lb g fr H h x⟩
 |.label l,n,κ,K,j,y,S,ρ,ve,lb,g,fr,H,h,x=>⟨_,fr,H,.label,y _ S ρ ve lb g fr H h x⟩
 |.ret,n,κ,K,j,y,S,ρ,ve,lb,g,fr,H,h,x=>⟨_,fr,H,.ret,y _ S ρ ve lb g fr H h x⟩
 |.exit id,n,κ,K,j,y,S,ρ,ve,lb,g,fr,H,h,x=>⟨_,fr,H,.exit,y _ S ρ ve lb g fr H h x⟩
 |.rangeFunc _ _ _ _,n,κ,K,j,y,S,ρ,ve,lb,g,fr,H,h,x=>by cases x
 |.goto _,n,κ,K,j,y,S,ρ,ve,lb,g,fr,H,h,x=>by cases x
 |.refuse _,n,κ,K,j,y,S,ρ,ve,lb,g,fr,H,h,x=>by cases x
theorem qQZ(he:EOk E)(u:qPM E n0 H0 g0 Q J c0 κ0 K0)(z:qIa E n0 H0 g0 Q κ0 K0){n:Nat}{c:Code}{κ:KC}{K:pB}(r:Ctx E J c0 κ0 K0 n c κ K):qIa E n0 H0 g0 Q κ K:=by
 induction r with
 |root=>exact z
 |@seqL n a b κ K r ih=>
  intro e q x y j p k H1 l h;cases e with
  |normal=>exact dL he u b _ κ K r.seqR ih q x y j p k H1 l h
  |exit id=>exact ih _ q x y j p k H1 l h
  |ret=>exact ih _ q x y j p k H1 l h
 |seqR r ih=>exact ih
 |condL r ih=>exact ih
 |condR r ih=>exact ih
 | @block n id b κ K r ih=>
  intro e q x y j p k H1 l h;cases e with
  |normal=>exact ih _ q x y j p k H1 l h
  |ret=>exact ih _ q x y j p k H1 l h
  |exit w=>
   simp only[cR,qY]at h;simp only[bA];split
   ·rename_i e;rw[if_pos e]at h;exact ih _ q x y j p k H1 l h
   rename_i e;rw[if_neg e]at h;exact ih _ q x y j p k H1 l h
 |@loop n b κ K r ih=>
  intro e q x y j p k H1 l h;cases e with
  |normal=>exact u n b κ K r q x y j p k H1 l h
  |exit id=>exact ih _ q x y j p k H1 l h
  |ret=>exact ih _ q x y j p k H1 l h
 |scope r ih=>exact ih
theorem qOy{P:Nat->St}{n:Nat}{c:Code}{κ:KC}{K:pB}(y:Ctx E J c0 κ0 K0 n c κ K):∀x∈jR E P J n c κ,x∈jR E P J 1 c0 κ0:=by
 induction y with
 |root=>exact λx h=>h
 |seqL y ih=>exact λx h=>ih x (by simp only[jR];exact List.mem_append_left _ h)
 |seqR y ih=>exact λx h=>ih x (by simp only[jR];exact List.mem_append_right _ h)
 |condL y ih=>exact λx h=>ih x (by simp only[jR];exact List.mem_append_left _ h)
 |condR y ih=>exact λx h=>ih x (by simp only[jR];exact List.mem_append_right _ h)
 |block y ih=>exact λx h=>ih x (by simp only[jR];exact h)
 |loop y ih=>exact λx h=>ih x (by simp only[jR];exact mC _ h)
 |scope y ih=>exact λx h=>ih x (by simp only[jR];exact h)
theorem qCv(he:EOk E){pats:Nat->Pat}{sz:Nat}{j:Nat->Tree}{d:D}(z:J=λk S=>jN sz (pats k) k S)(A:∀x∈jR E (λk=>(pats k).st sz) J 1 c0 κ0,j x.1=x.2)(B:∀Q:Res1->Prop,(∀d',Q (.ret d')->d'=d)->qIa E n0 H0 g0 Q κ0 K0)(w:∀k,n0.F.length<=(pats k).blks.length):
  ∀n,qPM E n0 H0 g0 (λr=>match r with|.ret d'=>d'=d|.jump k' ds=>qU7 E (Holds E) j n k' ds d) J c0 κ0 K0
 |0=>by
  intro k b κ K p S ρ ve lb g fr H h l
  rw[z]at l
  obtain⟨ds,y,g',_,q⟩:=qBp h l (w _)
  cases q
 | n+1=>by
  have ih:=qCv he z A B w n
  intro k b κ K p S ρ ve lb g fr H h l
  have c:=l
  rw[z]at c
  obtain⟨ds,y,g',C,q⟩:=qBp h c (w _)
  have u:j k=sx E J (k+1) b ((pats k).st sz) (iF J k κ):=by
   have:=qOy (P:=λk=>(pats k).st sz) p (k,sx E J (k+1) b ((pats k).st sz) (iF J k κ)) (by simp only[jR];exact List.mem_cons_self)
   exact A _ this
  have e:wp E (Holds E) (λr=>match r with|.ret d'=>d'=d|.jump k' ds=>qU7 E (Holds E) j n k' ds d) (j k) ds:=q
  rw[u]at e
  refine qHt (dL he ih b (k+1) _ _ p.loop (qQZ he ih (B _ λd' hd=>hd) p.loop) _ ds y lb g' fr H C e)
end
end Go.Am
namespace Go.Am
open Go
section
variable{E:Env}{n0:Lim}{H0:AH}{g0:zB}{Q:Res1->Prop}{HS:FuncId->List D->D->Prop}
theorem qFe:∀(rs:List ResultVar) (acc:List SV) {S:St} {ρ:List D} {ve:Nat->Value} {lb:Nat->Nat} {g:zB} {fr:Fr} {H:AH},SR E n0 H0 g0 S ρ ve lb g fr H->SV.bds S.n S.blks.length acc->wp E HS Q (qFf E S acc rs) ρ->
  ∃S' ρ' c g' vs ds,SR E n0 H0 g0 S' ρ' c lb g' fr H/\vI E fr H rs=some vs/\DRs g' ds (SV.vals ve lb acc++vs)/\Q (.ret (xN ds))
 | [],acc,S,ρ,ve,lb,g,fr,H,h,j,b=>by
  simp only[qFf]at b
  obtain⟨g1,G,r⟩:=xC acc h
  obtain⟨q,b⟩:=jC b
  rw[List.all_eq_true]at q
  exact⟨_,ρ,ve,g1,[],_,r,rfl,by rw[List.append_nil];exact lC r.toSM q,b⟩
 | .tmp t::rs,acc,S,ρ,ve,lb,g,fr,H,h,j,b=>by
  simp only[qFf]at b
  split at b
  ·rename_i x L
   obtain⟨C,B⟩:=h.slots t x L
   obtain⟨S',ρ',c,g',vs,ds,A,z,e,w⟩:=qFe rs (acc++[x]) h (by
    rw[SV.bds_iff]at j ⊢
    intro u hu
    rcases List.mem_append.1 hu with hu|hu
    ·exact j u hu
    simp only[List.mem_singleton]at hu;subst hu;exact C) b
   refine⟨S',ρ',c,g',x.val ve lb::vs,ds,A,by simp only[vI,B,z,Option.map_some],?_,w⟩
   rw[yH]at e
   simpa[SV.vals]using e
  cases b
 | .cell a t::rs,acc,S,ρ,ve,lb,g,fr,H,h,j,b=>by
  simp only[qFf]at b
  split at b
  ·rename_i p q
   obtain⟨C,B⟩:=h.slots a p q
   obtain⟨y,M,I,k,g1,G,r,F,s1,s2⟩:=qBl h C b
   obtain⟨S',ρ',c,g',vs,ds,A,z,e,w⟩:=qFe rs (acc++[y]) r (by
    have l:=G.bds j
    rw[SV.bds_iff]at l ⊢
    intro u hu
    rcases List.mem_append.1 hu with hu|hu
    ·exact l u hu
    simp only[List.mem_singleton]at hu;subst hu;exact s1) F
   refine⟨S',ρ',c,g',y.val k lb::vs,ds,A,by simp only[vI,B,Option.bind_some,s2,z,Option.map_some],?_,w⟩
   rw[yH]at e
   have:SV.vals k lb acc=SV.vals ve lb acc:=SV.vals_congr G.ve (λ_ _=>rfl) j
   rw[this]at e
   simpa[SV.vals]using e
  cases b
def qPP(E:Env)(H0:AH)(g0:zB)(rs:List ResultVar)(d:D):pB:=λe fr H=>(e=.normal∨e=.ret)/\
 ∃v g',(match vI E fr H rs with|some [v]=>some v|some vs=>some (.tuple ⟨vs⟩)|none=>none)=some v/\DR g' d v/\zB.le g' H.blocks.get/\WF H/\H0.next<=H.next/\(∀b,b<H0.next->H.blocks.get b=H0.blocks.get b)/\Nat.min H0.low H0.next<=H.low/\(∀b,b<H0.next->g' b=g0 b)
theorem qKR{rs:List ResultVar}{d:D}(B:∀d',Q (.ret d')->d'=d):qIa E (Lim.of H0.next) H0 g0 Q (uD E rs) (qPP E H0 g0 rs d):=by
 intro e S ρ ve lb g fr H h k
 have main:wp E (Holds E) Q (qFf E S [] rs) ρ->∃v g',(match vI E fr H rs with|some [v]=>some v|some vs=>some (.tuple ⟨vs⟩)|none=>none)=some v/\DR g' d v/\zB.le g' H.blocks.get/\WF H/\H0.next<=H.next/\(∀b,b<H0.next->H.blocks.get b=H0.blocks.get b)/\
  Nat.min H0.low H0.next<=H.low/\(∀b,b<H0.next->g' b=g0 b):=by
  intro k
  obtain⟨S',ρ',q,g',vs,ds,j,w,p,u⟩:=qFe rs [] h trivial k
  have:=B _ u
  subst this
  simp only[SV.vals,List.nil_append]at p
  have c:∀v,(match some vs with|some [v]=>some v|some vs=>some (Value.tuple ⟨vs⟩)|none=>none)=some v->DR g' (xN ds) v->∃v g',(match vI E fr H rs with|some [v]=>some v|some vs=>some (Value.tuple ⟨vs⟩)|none=>none)=some v/\DR g' (xN ds) v/\zB.le g' H.blocks.get/\WF H/\H0.next<=H.next/\(∀b,b<H0.next->H.blocks.get b=H0.blocks.get b)/\Nat.min H0.low H0.next<=H.low/\(∀b,b<H0.next->g' b=g0 b):=λv e hd=>⟨v,g',by rw[w];exact e,hd,j.mem,j.wf,j.base.1,j.keep,j.low,j.gk⟩
  match ds,vs,p with
  | [],_,.nil=>exact c _ rfl (.tup .nil)
  | [x],_,.cons l .nil=>exact c _ rfl l
  |x::y::r,_,.cons l (.cons z A)=>exact c _ rfl (.tup (.cons l (.cons z A)))
 cases e with
 |normal=>exact⟨.inl rfl,main k⟩
 |ret=>exact⟨.inr rfl,main k⟩
 |exit id=>cases k
theorem qGt{H:AH}{g:zB}{args:List Value}{ds:List D}(A:WF H)(G:zB.le g H.blocks.get)(q:qJF E g)(hd:DRs g ds args){n sz:Nat}(F:args.length=n):SR E (Lim.of H.next) H g (oD n sz) ds (λi=>args.getD i (.bool false)) (λ_=>0) g ⟨sz,false,T.ofList .leaf 0 args⟩ H:=by
 have I:ds.length=n:=by rw[←hd.length,F]
 have c:∀i,(oD n sz).freshV i=false:=by
  intro i;cases O:(oD n sz).freshV i with
  |false=>rfl
  |true=>obtain⟨o,h⟩:=zC.1 O;simp only[oD,List.getElem?_replicate]at h;split at h<;>cases h
 have y:∀b,¬(oD n sz).live b:=by rintro b ⟨x,h⟩;simp[oD]at h
 refine { len:=by simp[oD,I],wf:=A,mem:=G,base:=Lim.of_base _,fix:=⟨Nat.zero_le _,λk a L=>by simp[Lim.of]at L⟩,vars:=?_,blks:=?_,sepLG:=λb u=>absurd u (y b),sepFG:=?_,sepL:=λa b P=>absurd P (y a),sepF:=?_,sepX:=λb i u=>absurd u (y b),
          sz:=rfl,rd:=rfl,slots:=?_,sav:=.nil,keep:=λ_ _=>rfl,low:=Nat.min_le_left _ _,gk:=λ_ _=>rfl,tab:=q}
 ·intro i s w;simp only[oD,List.getElem?_replicate]at w;split at w
  ·rename_i l;cases w;refine⟨λe=>(by cases e),?_⟩;have r:i<ds.length:=by omega
   obtain⟨v,C,z⟩:=hd.get i ds[i] (List.getElem?_eq_getElem r);simp only[getD,List.getD_eq_getElem?_getD,List.getElem?_eq_getElem r,Option.getD_some,C];exact z
  ·cases w
 ·intro b x u;exact absurd ⟨x,u⟩ (y b)
 ·intro i B l;rw[c i]at l;cases l
 ·intro i j B l;rw[c i]at l;cases l
 ·intro t x p;simp only[oD,gP,List.length_map,List.length_range]at p;rw[gP];split at p
  ·rename_i R;simp only[List.getElem?_map,Option.map_eq_some_iff]at p;obtain⟨j,M,rfl⟩:=p;obtain⟨C,z⟩:=gI M;simp at C z;subst z;refine⟨?_,?_⟩
   ·show t<(oD n sz).n;simp[oD,St.n];omega
   ·rw[if_pos (by omega)];simp only[Nat.sub_zero,SV.val,List.getD_eq_getElem?_getD];rw[List.getElem?_eq_getElem (by omega)];rfl
  ·simp[T.get]at p
theorem rT:∀(T:Tree) (ρ:List D),wp E HS Q T ρ->∃r,Q r/\∀y:Res1->Prop,y r->wp E HS y T ρ
 |.fail,_,h=>by cases h
 |.stop _ _,_,h=>by cases h
 |.ret xs,ρ,h=>⟨_,h,λ_ x=>x⟩
 |.jump k xs,ρ,h=>⟨_,h,λ_ x=>x⟩
 |.bind o xs r,ρ,h=>by
  simp only[wp]at h;split at h
  ·rename_i d hd;obtain⟨e,l,j⟩:=rT r _ h;exact⟨e,l,λy x=>by simp only[wp,hd];exact j y x⟩
  cases h
 |.call u xs w r,ρ,h=>by
  simp only[wp]at h;split at h
  ·rename_i f ds hd;obtain⟨d,l,j,h3⟩:=h;obtain⟨e,q,p⟩:=rT r _ h3;exact⟨e,q,λy x=>by simp only[wp,hd];exact⟨d,l,j,p y x⟩⟩
  cases h
 |.callM f m xs r,ρ,h=>by simp only[wp]at h;obtain⟨ds,l,j,h3⟩:=h;obtain⟨e,q,p⟩:=rT r _ h3;exact⟨e,q,λy x=>by simp only[wp];exact⟨ds,l,j,p y x⟩⟩
 |.ite c a b,ρ,h=>by
  simp only[wp]at h;split at h
  ·rename_i hd;obtain⟨e,l,j⟩:=rT a _ h;exact⟨e,l,λy x=>by simp only[wp,hd];exact j y x⟩
  ·rename_i hd;obtain⟨e,l,j⟩:=rT b _ h;exact⟨e,l,λy x=>by simp only[wp,hd];exact j y x⟩
  cases h
theorem qX.step{x:Nat->Tree}{k:Nat}{ρ:List D}{d:D}(h:wp E HS (λr=>match r with|.ret d'=>d'=d|.jump k' ds=>qX E HS x k' ds d) (x k) ρ):qX E HS x k ρ d:=by
 obtain⟨r,b,y⟩:=rT _ _ h;cases r with
 |ret d'=>exact⟨1,y _ b⟩
 |jump k' ds=>obtain⟨n,c⟩:=b;exact⟨n+1,y _ c⟩
theorem qL4(he:EOk E){f:FuncId}{fn:Func}{c:Code}(W:E.funcs.get f=some fn)(h:fn.body=some c){pats:Nat->Pat}{I:Nat->Tree}{ds:List D}{d:D}{n:Nat}(Z:ds.length=n)(h0:qGB E (λk S=>jN (Nat.max fn.ntmps n) (pats k) k S) fn n=I 0)(hT:∀x∈jR E (λk=>(pats k).st (Nat.max fn.ntmps n)) (λk S=>jN (Nat.max fn.ntmps n) (pats k) k S) 1 c (uD E fn.results.toList),I x.1=x.2)(j:qX E (Holds E) I 0 ds d):qJG E f ds d:=by
 refine⟨⟨fn,W⟩,λH g G w V z hd=>?_⟩;have p:G.length=n:=by rw[hd.length,Z]
 have X:=qGt (sz:=Nat.max fn.ntmps n) w V z hd p;obtain⟨m,j⟩:=j;cases m with
 |zero=>cases j
 | succ m=>
  have y:wp E (Holds E) (λr=>match r with|.ret d'=>d'=d|.jump k' ds=>qU7 E (Holds E) I m k' ds d) (I 0) ds:=j;rw[←h0]at y;simp only[qGB,h]at y;have C:∀Q:Res1->Prop,(∀d',Q (.ret d')->d'=d)->qIa E (Lim.of H.next) H g Q (uD E fn.results.toList) (qPP E H g fn.results.toList d):=λQ hQ=>qKR hQ;have hj:=qCv (n0:=Lim.of H.next) (H0:=H) (g0:=g) (c0:=c) (κ0:=uD E fn.results.toList) (K0:=qPP E H g fn.results.toList d) he rfl hT C (λ_=>Nat.zero_le _) m;obtain⟨e,fr1,H1,U,O,v,g',hv,P,A,l,L,hk,B,F⟩:=dL he hj c 1 _ _ .root (C _ λd' R=>R) _ _ _ _ _ _ _ X y;rw[←p]at U;have u:=zT.call he W h U O hv;let g2:zB:=λb=>if b<H.next then g b else g' b;have M:zB.le g' g2:=by
   intro b k h;simp only[g2];split
   ·rename_i q;rw[←F b q];exact h
   exact h
  refine⟨v,{H1 with next:=H1.next+1},g2,u.raise,Nat.lt_succ_of_le L,λb k h=>⟨(l b k h).1,Nat.lt_succ_of_lt (l b k h).2⟩,hk,B,?_,?_,?_,P.mono M⟩
  ·intro b k h;simp only[g2];rw[if_pos (w b k (V b k h)).2];exact h
  ·intro b k h;simp only[g2]at h;split at h
   ·rename_i q;rw[←F b q]at h;exact A b k h
   exact A b k h
  intro b h;simp only[g2];rw[if_pos h]
theorem qHc(he:EOk E){f:FuncId}{fn:Func}{c:Code}(j:E.funcs.get f=some fn)(l:fn.body=some c){pats:Nat->Pat}{b:Nat->Tree}{ds:List D}{d:D}{n:Nat}(e:ds.length=n)(q:qGB E (λk S=>jN (Nat.max fn.ntmps n) (pats k) k S) fn n=b 0)(p:∀x∈jR E (λk=>(pats k).st (Nat.max fn.ntmps n)) (λk S=>jN (Nat.max fn.ntmps n) (pats k) k S) 1 c (uD E fn.results.toList),b x.1=x.2)(y:qX E (Holds E) b 0 ds d)(h:f<gM:=by decide):Holds E f ds d:=.inl ⟨h,qL4 he j l e q p y⟩
def qWm(E:Env)(L:Lim)(H0:AH)(g0:zB)(m:Mode)(rs:List ResultVar)(d:D):pB:=λe fr H=>(e=.normal∨e=.ret)/\
 ∃vs ve lb g' ds,vI E fr H rs=some vs/\d=xN ds/\ds.length=m.out.sts.length/\SM L (m.out.st 0) ds ve lb g' H/\(∀t x,(m.out.st 0).slots.get t=some x->x.bd (m.out.st 0).n (m.out.st 0).blks.length/\vs[t]? = some (x.val ve lb))/\(∀b,L.K b->H.blocks.get b=H0.blocks.get b)/\(∀b,L.K b->g' b=g0 b)/\Nat.min H0.low L.n<=H.low
theorem qFg{m:Mode}:∀(rs:List ResultVar) (acc:List SV) {S:St} {ρ:List D} {ve:Nat->Value} {lb:Nat->Nat} {g:zB} {fr:Fr} {H:AH},SR E n0 H0 g0 S ρ ve lb g fr H->SV.bds S.n S.blks.length acc->n0.F.length<=m.out.blks.length->wp E HS Q (qFh E m S acc rs) ρ->
  ∃b e g' vs ds,vI E fr H rs=some vs/\SR E n0 H0 g0 (m.out.st (SV.vals ve lb acc++vs).length) ds b e g' ⟨(SV.vals ve lb acc++vs).length,n0.rd,T.ofList .leaf 0 (SV.vals ve lb acc++vs)⟩ H/\Q (.ret (xN ds))/\ds.length=m.out.sts.length
 | [],acc,S,ρ,ve,lb,g,fr,H,h,j,w,c=>by
  simp only[qFh]at c
  have R:(SV.vals ve lb acc).length=acc.length:=by rw[SV.vals_map,List.length_map]
  have I:SR E n0 H0 g0 {S with slots:=T.ofList .leaf 0 acc,sz:=acc.length} ρ ve lb g ⟨acc.length,n0.rd,T.ofList .leaf 0 (SV.vals ve lb acc)⟩ H:=by
   refine {h with sz:=rfl,rd:=rfl,slots:=?_}
   intro t x k
   have k:(T.ofList .leaf 0 acc).get t=some x:=k
   rw[dW]at k
   rw[SV.bds_iff]at j
   refine⟨j x (List.mem_of_getElem? k),?_⟩
   show(T.ofList .leaf 0 (SV.vals ve lb acc)).get t=_
   rw[rI,SV.vals_map,List.getElem?_map,k];rfl
  obtain⟨az,b,g',L,c⟩:=qG9 I c w
  refine⟨b,lb,g',[],_,rfl,?_,c,L.len⟩
  rw[List.append_nil,R]
  exact L
 | .tmp t::rs,acc,S,ρ,ve,lb,g,fr,H,h,j,w,c=>by
  simp only[qFh]at c
  split at c
  ·rename_i x k
   obtain⟨F,C⟩:=h.slots t x k
   obtain⟨b,e,g',vs,ds,B,l,A,z⟩:=qFg rs (acc++[x]) h (by
    rw[SV.bds_iff]at j ⊢
    intro u hu
    rcases List.mem_append.1 hu with hu|hu
    ·exact j u hu
    simp only[List.mem_singleton]at hu;subst hu;exact F) w c
   refine⟨b,e,g',x.val ve lb::vs,ds,by simp only[vI,C,B,Option.map_some],?_,A,z⟩
   rw[yH]at l
   simpa[SV.vals]using l
  cases c
 | .cell a t::rs,acc,S,ρ,ve,lb,g,fr,H,h,j,w,c=>by
  simp only[qFh]at c
  split at c
  ·rename_i p P
   obtain⟨F,C⟩:=h.slots a p P
   obtain⟨y,U,O,q,g1,M,I,G,s1,s2⟩:=qBl h F c
   obtain⟨b,e,g',vs,ds,B,l,A,z⟩:=qFg rs (acc++[y]) I (by
    have r:=M.bds j
    rw[SV.bds_iff]at r ⊢
    intro u hu
    rcases List.mem_append.1 hu with hu|hu
    ·exact r u hu
    simp only[List.mem_singleton]at hu;subst hu;exact s1) w G
   refine⟨b,e,g',y.val q lb::vs,ds,by simp only[vI,C,Option.bind_some,s2,B,Option.map_some],?_,A,z⟩
   rw[yH]at l
   have:SV.vals q lb acc=SV.vals ve lb acc:=SV.vals_congr M.ve (λ_ _=>rfl) j
   rw[this]at l
   simpa[SV.vals]using l
  cases c
theorem qKQ{m:Mode}{rs:List ResultVar}{d:D}(z:∀d',Q (.ret d')->d'=d)(A:n0.F.length<=m.out.blks.length):qIa E n0 H0 g0 Q (eH E m rs) (qWm E n0 H0 g0 m rs d):=by
 intro e S ρ ve lb g fr H h c
 have main:wp E (Holds E) Q (qFh E m S [] rs) ρ->∃vs ve lb g' ds,vI E fr H rs=some vs/\d=xN ds/\ds.length=m.out.sts.length/\SM n0 (m.out.st 0) ds ve lb g' H/\(∀t x,(m.out.st 0).slots.get t=some x->x.bd (m.out.st 0).n (m.out.st 0).blks.length/\vs[t]? = some (x.val ve lb))/\
  (∀b,n0.K b->H.blocks.get b=H0.blocks.get b)/\(∀b,n0.K b->g' b=g0 b)/\Nat.min H0.low n0.n<=H.low:=by
  intro c
  obtain⟨j,k,g',vs,ds,r,y,p,l⟩:=qFg rs [] h trivial A c
  refine⟨vs,j,k,g',ds,r,(z _ p).symm,l,{y.toSM with},?_,y.keep,y.gk,y.low⟩
  intro t x w
  obtain⟨u,q⟩:=y.slots t x w
  refine⟨u,?_⟩
  simp only[SV.vals,List.nil_append]at q
  rw[rI]at q
  exact q
 cases e with
 |normal=>exact⟨.inl rfl,main c⟩
 |ret=>exact⟨.inr rfl,main c⟩
 |exit id=>cases c
def fH:Nat->List (Nat×SV)->Bool
 |_,[]=>true
 |n,(t,_)::r=>Nat.beq t n&&fH (n+1) r
theorem qEr:∀(l:List (Nat×SV)) (n:Nat) (y:T SV),fH n l=true->∀(i:Nat) (x:SV),(l.map Prod.snd)[i]? = some x->(l.foldl (λt (p:Nat×SV)=>t.put p.1 (some p.2)) y).get (n+i)=some x:=by
 have keep:∀(l:List (Nat×SV)) (n:Nat) (y:T SV),fH n l=true->∀j,j<n->(l.foldl (λt (p:Nat×SV)=>t.put p.1 (some p.2)) y).get j=y.get j:=by
  intro l;induction l with
  |nil=>intro n y _ j _;rfl
  |cons p l ih=>intro n y h j c;simp only[fH,aE]at h;have e:=vE h.1;rw[List.foldl_cons,ih (n+1) _ h.2 j (by omega),T.get_put,if_neg (by omega)]
 intro l;induction l with
 |nil=>intro n y _ i x b;simp at b
 |cons p l ih=>
  intro n y h i x b;simp only[fH,aE]at h;have e:=vE h.1;cases i with
  |zero=>simp at b;rw[List.foldl_cons,keep l (n+1) _ h.2 (n+0) (by omega),T.get_put,if_pos (by omega),b]
  |succ i=>have:=ih (n+1) (y.put p.1 (some p.2)) h.2 i x (by simpa using b);rw[List.foldl_cons,show n+(i+1)=n+1+i by omega];exact this
theorem qE0{ve:Nat->Value}{lb:Nat->Nat}:∀(xs:List SV) (vs:List Value),vs.length=xs.length->(∀(i:Nat) (x:SV),xs[i]? = some x->vs[i]? = some (x.val ve lb))->vs=SV.vals ve lb xs
 | [],[],_,_=>rfl
 | [],_::_,h,_=>by simp at h
 |_::_,[],h,_=>by simp at h
 |x::xs,v::vs,h,b=>by
  have c:=b 0 x rfl;simp at c;simp only[SV.vals,c]
  congr 1
  exact qE0 xs vs (by simpa using h) λi y e=>by simpa using b (i+1) y (by simpa using e)
theorem m9:∀{rs:List ResultVar} {fr:Fr} {H:AH} {vs:List Value},vI E fr H rs=some vs->vs.length=rs.length
 | [],_,_,_,h=>by simp only[vI,oI]at h;subst h;rfl
 |.tmp t::rs,fr,H,vs,h=>by
  simp only[vI]at h;split at h
  ·simp only[Option.map_eq_some_iff]at h;obtain⟨l,x,rfl⟩:=h;simp[m9 x]
  cases h
 |.cell a t::rs,fr,H,vs,h=>by
  simp only[vI]at h;split at h
  ·simp only[Option.map_eq_some_iff]at h;obtain⟨l,x,rfl⟩:=h;simp[m9 x]
  cases h
theorem SM.raise{L:Lim}{S:St}{ρ:List D}{ve:Nat->Value}{lb:Nat->Nat}{g:zB}{H:AH}(h:SM L S ρ ve lb g H):SM L S ρ ve lb g {H with next:=H.next+1}:=
 {h with wf:=λb k x=>⟨(h.wf b k x).1,Nat.lt_succ_of_lt (h.wf b k x).2⟩,base:=h.base.mono (Nat.le_succ _)}
theorem SM.relb{L:Lim}{S:St}{ρ:List D}{ve:Nat->Value}{lb y:Nat->Nat}{g:zB}{H:AH}(h:SM L S ρ ve lb g H)(e:∀b,b<S.blks.length->y b=lb b):SM {L with F:=[]} S ρ ve y g H:=by
 have el:∀{b},S.live b->y b=lb b:=λc=>e _ (qBn c);refine {len:=h.len,wf:=h.wf,mem:=h.mem,base:=h.base,fix:=⟨Nat.zero_le _,λk a G=>by simp at G⟩,vars:=?_,blks:=?_,sepLG:=λb c=>by rw[el c];exact h.sepLG b c,sepFG:=h.sepFG,sepL:=λa b r c=>by rw[el r,el c];exact h.sepL a b r c,sepF:=h.sepF,sepX:=λb i c=>by rw[el c];exact h.sepX b i c}
 ·intro i s C;have:=h.vars i s C;obtain⟨k,M⟩:=s;refine⟨this.1,?_⟩;have u:=this.2;cases k<;>try exact u
  rcases u with q|⟨B,l,cs,vs,el,rt,sz,es,q⟩|⟨B,es,ck,rt,A,I,q⟩
  ·exact .inl q
  ·exact .inr (.inl ⟨B,l,cs,vs,el,rt,sz,es,{q with rt:=q.rt}⟩)
  exact .inr (.inr ⟨B,es,ck,rt,A,I,{q with rt:=q.rt}⟩)
 intro b x p;obtain⟨j,z⟩:=h.blks b x p;have c:y b=lb b:=el ⟨x,p⟩;refine⟨j,?_⟩;have:nC L (getD ρ) ve y H.blocks.get (y b) x:=z.congr (by rw[c]) c λ_ w=>w.congr (λ_ _=>rfl) e (λ_ _=>rfl) j;cases x<;>exact this
def qCn(m:Mode)(h:Nat):Bool:=Nat.beq m.out.blks.length m.inp.blks.length&&fH 0 m.out.slots&&Nat.beq m.out.slots.length h
theorem bN(he:EOk E){f:FuncId}{fn:Func}{c:Code}(hf:E.funcs.get f=some fn)(z:fn.body=some c){pats:Nat->Pat}{X:Nat->Tree}{m:Mode}{ds:List D}{d:D}(hm:qCn m fn.results.toList.length=true)(hP:∀k,m.inp.blks.length<=(pats k).blks.length)(h0:qB2 E (λk S=>jN (Nat.max fn.ntmps m.n) (pats k) k S) fn m=X 0)(hT:∀x∈jR E (λk=>(pats k).st (Nat.max fn.ntmps m.n)) (λk S=>jN (Nat.max fn.ntmps m.n) (pats k) k S) 1 c (eH E m fn.results.toList),X x.1=x.2)(y:qX E (Holds E) X 0 ds d)(hd:∃j,d=xN j/\j.length=m.out.sts.length):Holds E (Nat.add gM f) (.mode m::ds) d:=by
 refine .inr ⟨f,m,ds,rfl,rfl,⟨fn,hf⟩,?_⟩;obtain⟨W,P,O⟩:=hd;refine⟨W,P,O,λL H g ve lb l u G U=>?_⟩;simp only[qCn,aE]at hm;obtain⟨⟨m1,m2⟩,m3⟩:=hm;have m1:=vE m1;have m3:=vE m3;have V:L.F.length=m.inp.blks.length:=by rw[U];simp
 obtain⟨n,y⟩:=y;cases n with
 |zero=>cases y
 | succ n=>
  have h:wp E (Holds E) (λr=>match r with|.ret d'=>d'=d|.jump k' ds=>qU7 E (Holds E) X n k' ds d) (X 0) ds:=y;rw[←h0]at h;simp only[qB2,z]at h;have hs:SR E L H g (m.inp.st (Nat.max fn.ntmps m.n)) ds ve lb g ⟨Nat.max fn.ntmps m.n,false,T.ofList .leaf 0 l⟩ H:={u with sz:=rfl,rd:=u.rd,slots:=u.slots};have F:∀Q:Res1->Prop,(∀d',Q (.ret d')->d'=d)->qIa E L H g Q (eH E m fn.results.toList) (qWm E L H g m fn.results.toList d):=λQ hQ=>qKQ hQ (by rw[V,m1];exact lR _);have hj:=qCv (n0:=L) (H0:=H) (g0:=g) (c0:=c) (κ0:=eH E m fn.results.toList) (K0:=qWm E L H g m fn.results.toList d) he rfl hT F (λk=>by rw[V];exact hP k) n;obtain⟨e,fr1,H1,A,he',vs,p,Z,g',j,hv,hdd,M,B,hsl,hk,hgk,C⟩:=dL he hj c 1 _ _ .root (F _ λd' hd'=>hd') _ _ _ _ _ _ _ hs h;have R:W=j:=qB4 (P.symm.trans hdd) (by rw[O,M]);subst R;have I:∀b,b<(m.out.st 0).blks.length->lb b=Z b:=by
   intro b z;have z:b<m.inp.blks.length:=by rw[←m1];exact z
   refine(B.fix.2 b (lb b) ?_).symm;rw[U,List.getElem?_map,List.getElem?_range z];rfl
  have q:vs=SV.vals p lb (m.out.slots.map Prod.snd):=by refine qE0 _ _ (by rw[m9 hv,List.length_map,m3]) λi x A=>?_;have hg:=qEr m.out.slots 0 .leaf m2 i x A;rw[Nat.zero_add]at hg;obtain⟨q1,q2⟩:=hsl i x hg;rw[q2,SV.val_congr (λ_ _=>rfl) I q1]
  rw[←G]at A;have w:vU E f l H (qIv m p lb) H1:=by
   refine zT.call he hf z A he' ?_;rw[hv,q];unfold qIv;generalize m.out.slots=sl
   match sl with
   | []=>rfl
   | [(_,_)]=>rfl
   |_::_::_=>rfl
  refine⟨_,{H1 with next:=H1.next+1},g',p,w.raise,Nat.lt_succ_of_le A.1,(B.relb I).raise,hk,hgk,C,rfl⟩
end
end Go.Am
