/- Regions whose order is drawn: runs in the text's order, carried over. Conditions: none. -/
import Derived.Test.YtpbmnkajhedaiaaGreatSx5
set_option linter.all false
namespace Go.Am
open Go
structure Heq (N:Nat) (H H2:AH):Prop where
 get:∀b,H2.blocks.get b=H.blocks.get b
 next:H2.next=H.next
 low:∀L,L<=N->L<=H.low->L<=H2.low
 le:N<=H.next
section
variable{E:Env}{ih:Cmd->AH->gV}{fr:Fr}{o:Oper}{N:Nat}
theorem qG8{x:Option Value}{H H1:AH}{v:Value}(h:v9 E fr o H=one H x)(he:kC E ih fr o H=some (v,H1)):x=some v/\H1=H:=by
 cases x with
 |none=>simp only[kC,vS,h,one,Option.map_none]at he;cases he
 |some u=>simp only[kC,vS,h,one,Option.map_some,oI,Prod.mk.injEq]at he;exact⟨by rw[he.1],he.2.symm⟩
theorem qEv{ts:List (Nat×Nat)}{all:List Oper}{i:Nat}{H H2:AH}{v:Value}(h:vS E ih fr o (vA H2 (qJ all i ts))=some (v,vA H2 (qJ all i ts)))(x:Heq N H H2):∃y,oP E ih ts all i fr o H2=some (v,y)/\Heq N H y:=by
 refine⟨jK H2 (vA H2 (qJ all i ts)) (qJ all i ts),?_,?_,x.next,?_,x.le⟩
 ·have c:Nat.ble H2.next (vA H2 (qJ all i ts)).low=true:=bL (vE _);have e:(qJ all i ts).all (λb=>Nat.blt b H2.next||Nat.ble (vA H2 (qJ all i ts)).next b)=true:=by
   rw[List.all_eq_true];intro b _;show(Nat.blt b H2.next||Nat.ble H2.next b)=true;by_cases j:b<H2.next
   ·have:Nat.blt b H2.next=true:=bL j;rw[this,Bool.true_or]
   have:Nat.ble H2.next b=true:=bL (by omega);rw[this,Bool.or_true]
  simp only[oP,h,c,e,Bool.true_or,Bool.and_self,cond_true]
 ·intro b;show(yG _ _ _).get b=_;rw[wF];show(if _ then H2.blocks.get b else(lG H2.blocks _).get b)=_;rw[yK];split<;>exact x.get b
 intro L c e;refine Nat.le_min.2 ⟨x.low L c e,?_⟩;show L<=H2.next;rw[x.next];exact lT c x.le
theorem qLI{H H2:AH}{t:TypeId}{b i:Nat}{p:Option Nat}(h:H2.blocks.get b=H.blocks.get b):rC E H2 t (.pointer (some ⟨b,i,p⟩))=rC E H t (.pointer (some ⟨b,i,p⟩)):=by
 unfold rC;cases E.types.get t with
 |none=>rfl
 |some x=>cases p with
  |none=>simp only[AH.loads,h]
  |some _=>rfl
theorem pM{all:Array Oper}{draw:Bool}{ts:List (Nat×Nat)}{a:Tmp}:∀(os:List Oper) (i:Nat) {fr fr':Fr} {H H':AH},vF E ih all draw ts os i fr H=some (fr',H')->os.all (mZ a)=true->fr'.t.get a=fr.t.get a
 | [],i,fr,fr',H,H',h,_=>by simp only[vF,oI,Prod.mk.injEq]at h;rw[h.1]
 | o::os,i,fr,fr',H,H',h,hn=>by
  simp only[List.all_cons,zR]at hn;have y:∀{x:Fr} {v:Value},yC fr o.dst v=some x->x.t.get a=fr.t.get a:=by
   intro x v y;have hd:=hn.1;unfold yC at y;unfold mZ at hd;split at y
   ·rename_i d c;rw[c]at hd;simp only[Bool.not_eq_true']at hd;cases j:Nat.ble (d+1) fr.sz with
    |false=>rw[j]at y;cases y
    |true=>rw[j]at y;simp only[cond_true,oI]at y;subst y;show(fr.t.put d (some v)).get a=_;rw[T.get_put,if_neg];intro e;subst e;rw[Nat.beq_refl]at hd;cases hd
   grind
  simp only[vF]at h;split at h
  ·cases h
  ·split at h
   ·rename_i x b;rw[pM os (i+1) h hn.2,y b]
   cases h
  split at h
  ·cases h
  split at h
  ·cases h
  rename_i x b;rw[pM os (i+1) h hn.2,y b]
def qE6(v:Option Value):Option Nat:=match v with
 |some (.pointer (some ⟨b,_,_⟩))=>some b
 |_=>none
def qRd(v:Option Value):Option Nat:=match v with
 |some (.slice (some ⟨b,_,none⟩) (_+1) _)=>some b
 |_=>none
def lM(fr':Fr)(ts:List (Nat×Nat))(all:List Oper)(i:Nat)(o:Oper)(os:List Oper):Prop:=match o.op with
 |.load _ (.tmp a)=>(o::os).all (mZ a)=true/\∀B,qE6 (fr'.t.get a)=some B->B∉qJ all i ts
 |.alloc _=>∃d,o.dst=some d/\os.all (mZ d)=true/\∀B,qE6 (fr'.t.get d)=some B->B∉qJ all i ts
 |.store _ (.tmp a) _=>qJ all i ts=[]/\(o::os).all (mZ a)=true/\∀B,qE6 (fr'.t.get a)=some B->(i,B)∈ts
 |.buildSlice _ n _=>1<=n/\∃d,o.dst=some d/\os.all (mZ d)=true/\∀B,qRd (fr'.t.get d)=some B->B∉qJ all i ts
 |op=>qGk op=true
def qJl(fr':Fr)(ts:List (Nat×Nat))(all:List Oper):Nat->List Oper->Prop
 |_,[]=>True
 |i,o::os=>lM fr' ts all i o os/\qJl fr' ts all (i+1) os
theorem qQc{ts:List (Nat×Nat)}{all:List Oper}{i:Nat}{H H2:AH}{f:Nat->Value}{x:AObj}(r:∀H,v9 E fr o H=some (.val (f H.next),H.new x))(p:H.next∉qJ all i ts)(h:Heq N H H2):∃c,oP E ih ts all i fr o H2=some (f H.next,c)/\Heq N (H.new x) c:=by
 have k:vS E ih fr o (vA H2 (qJ all i ts))=some (f H.next,(vA H2 (qJ all i ts)).new x):=by simp only[vS,r];show some (f H2.next,_)=_;rw[h.next]
 refine⟨jK H2 ((vA H2 (qJ all i ts)).new x) (qJ all i ts),?_,?_,?_,?_,Nat.le_succ_of_le h.le⟩
 ·have j:Nat.ble H2.next ((vA H2 (qJ all i ts)).new x).low=true:=bL (vE _);have l:(qJ all i ts).all (λb=>Nat.blt b H2.next||Nat.ble ((vA H2 (qJ all i ts)).new x).next b)=true:=by
   rw[List.all_eq_true];intro b y;show(Nat.blt b H2.next||Nat.ble (Nat.succ H2.next) b)=true;have q:b≠H2.next:=by rw[h.next];intro e;subst e;exact p y
   by_cases y:b<H2.next
   ·have:Nat.blt b H2.next=true:=bL y;rw[this,Bool.true_or]
   have:Nat.ble (Nat.succ H2.next) b=true:=bL (by omega);rw[this,Bool.or_true]
  simp only[oP,k,j,l,Bool.true_or,Bool.and_self,cond_true]
 ·intro b;show(yG _ _ _).get b=(H.blocks.put H.next _).get b;rw[wF,T.get_put];show(if _ then H2.blocks.get b else((lG H2.blocks _).put H2.next _).get b)=_;rw[T.get_put,yK,h.next];by_cases y:b∈qJ all i ts
  ·rw[if_pos y,if_neg (λe:b=H.next=>p (by rw[←e];exact y)),h.get]
  rw[if_neg y];by_cases e:b=H.next
  ·rw[if_pos e,if_pos e];show some (⟨x,H2.next,true⟩:ABlk)=some ⟨x,H.next,true⟩;rw[h.next]
  rw[if_neg e,if_neg e,if_neg y,h.get]
 ·show Nat.succ H2.next=Nat.succ H.next;rw[h.next]
 intro L j l;refine Nat.le_min.2 ⟨h.low L j l,?_⟩;show L<=H2.next;rw[h.next];exact lT j h.le
theorem qSU{t:TypeId}{n:Nat}{ps:Array (Nat×Operand)}{v:Value}{H H1:AH}(k:o.op=.buildSlice t n ps)(he:kC E ih fr o H=some (v,H1)):∃(c:Nat) (y:AObj),(∀H,v9 E fr o H=some (.val (.slice (some ⟨H.next,0,none⟩) n c),H.new y))/\v=.slice (some ⟨H.next,0,none⟩) n c/\H1=H.new y:=by
 have key:∃(c:Nat) (y:AObj),∀H,v9 E fr o H=some (.val (.slice (some ⟨H.next,0,none⟩) n c),H.new y):=by
  have x:(∀H,v9 E fr o H=none)->False:=λh=>by simp only[kC,vS,h]at he;cases he
  cases j:parts? E fr ps.toList with
  |none=>exact(x λH=>by simp only[v9,k,j]).elim
  | some l=>
   have h:∀H,v9 E fr o H=kE E H t n l:=λH=>by simp only[v9,k,j]
   unfold kE at h;split at h;case h_2=>exact(x h).elim
   split at h;case h_2=>exact(x h).elim
   rename_i sz _ z _ _;cases e:(Nat.beq z.length sz&&Nat.ble (Nat.mul n (Nat.succ sz)) 1000000)with
   |false=>exact(x λH=>by rw[h,e];rfl).elim
   |true=>
    cases b:dN (xM z n) l (λi=>some (Nat.mul i sz,sz))with
    |none=>exact(x λH=>by rw[h,e,b];rfl).elim
    |some q=>exact⟨_,_,λH=>by rw[h,e,b];rfl⟩
 obtain⟨c,y,h⟩:=key;simp only[kC,vS,h,oI,Prod.mk.injEq]at he;exact⟨c,y,h,he.1.symm,he.2.symm⟩
theorem qSG{ts:List (Nat×Nat)}{all:Array Oper}{i:Nat}{os:List Oper}{W fr':Fr}{H H1 H' H2:AH}{v:Value}(he:kC E ih fr o H=some (v,H1))(q:yC fr o.dst v=some W)(hr:vF E ih all false [] os (i+1) W H1=some (fr',H'))(h:lM fr' ts all.toList i o os)(l:Heq N H H2):∃G,oP E ih ts all.toList i fr o H2=some (v,G)/\Heq N H1 G:=by
 have pure:qGk o.op=true->∃G,oP E ih ts all.toList i fr o H2=some (v,G)/\Heq N H1 G:=by intro V;obtain⟨x,O⟩:=qDW (E:=E) (fr:=fr) V;obtain⟨rfl,rfl⟩:=qG8 (O H) he;exact qEv (by simp only[vS,O,one,Option.map_some]) l
 have M:∀a,(o::os).all (mZ a)=true->fr'.t.get a=fr.t.get a:=by
  intro a B;have h0:vF E ih all false [] (o::os) i fr H=some (fr',H')∨True:=.inr trivial;have w:=B;simp only[List.all_cons,zR]at w;have P:=pM os (i+1) hr w.2;rw[P];have hd:=w.1;unfold yC at q;unfold mZ at hd;split at q
  ·rename_i d hd';rw[hd']at hd;simp only[Bool.not_eq_true']at hd;cases A:Nat.ble (d+1) fr.sz with
   |false=>rw[A]at q;cases q
   |true=>rw[A]at q;simp only[cond_true,oI]at q;subst q;show(fr.t.put d (some v)).get a=_;rw[T.get_put,if_neg];intro e;subst e;rw[Nat.beq_refl]at hd;cases hd
  grind
 cases k:o.op with
 | load t a=>
  cases a with
  | tmp a=>
   unfold lM at h;rw[k]at h;simp only at h;obtain⟨F,C⟩:=h;have V:=M a F;rw[V]at C;cases hv:fr.t.get a with
   |none=>
    have B:v9 E fr o H=none:=by simp only[v9,k,ev,hv]
    simp only[kC,vS,B]at he;cases he
   | some u=>
    have w:∀H,v9 E fr o H=one H (rC E H t u):=λH=>by simp only[v9,k,ev,hv]
    obtain⟨O,hH⟩:=qG8 (w H) he;subst hH;rw[hv]at C;have hu:∃b j p,u=.pointer (some ⟨b,j,p⟩):=by
     unfold rC at O;split at O
     ·rename_i b j _;exact⟨b,j,none,rfl⟩
     cases O
    obtain⟨b,j,p,rfl⟩:=hu;refine qEv ?_ l;have hg:(vA H2 (qJ all.toList i ts)).blocks.get b=H1.blocks.get b:=by show(lG H2.blocks _).get b=_;rw[yK,if_neg (C b rfl)];exact l.get b
    simp only[vS,w,qLI (E:=E) (t:=t) (i:=j) (p:=p) hg,O,one,Option.map_some]
  |const _=>exfalso;unfold lM at h;rw[k]at h;cases h
  |global _=>exfalso;unfold lM at h;rw[k]at h;cases h
  |func _=>exfalso;unfold lM at h;rw[k]at h;cases h
 | alloc t=>
  unfold lM at h;rw[k]at h;simp only at h;obtain⟨d,hd,F,C⟩:=h;have R:∃z,∀H,v9 E fr o H=some (.val (.pointer (some ⟨H.next,0,none⟩)),H.new (.cells z t)):=by
   cases R:E.types.get t with
   |none=>
    have B:v9 E fr o H=none:=by simp only[v9,k,R]
    simp only[kC,vS,B]at he;cases he
   | some Z=>
    obtain⟨a1,a2,a3,z,a5⟩:=Z;cases z with
    |none=>
     have B:v9 E fr o H=none:=by simp only[v9,k,R]
     simp only[kC,vS,B]at he;cases he
    |some z=>exact⟨z,λH=>by simp only[v9,k,R]⟩
  obtain⟨z,B⟩:=R
  ·skip;have e1:v=.pointer (some ⟨H.next,0,none⟩)/\H1=H.new (.cells z t):=by simp only[kC,vS,B,oI,Prod.mk.injEq]at he;exact⟨he.1.symm,he.2.symm⟩
   obtain⟨rfl,rfl⟩:=e1;have X:H.next∉qJ all.toList i ts:=by
    have P:=pM os (i+1) hr F;refine C _ ?_;rw[P];rw[hd]at q;simp only[yC]at q;cases A:Nat.ble (d+1) fr.sz with
    |false=>rw[A]at q;cases q
    |true=>rw[A]at q;simp only[cond_true,oI]at q;subst q;show qE6 ((fr.t.put d _).get d)=_;rw[T.get_put,if_pos rfl];rfl
   have I:vS E ih fr o (vA H2 (qJ all.toList i ts))=some (.pointer (some ⟨H.next,0,none⟩),(vA H2 (qJ all.toList i ts)).new (.cells z t)):=by simp only[vS,B];show some (Value.pointer (some ⟨H2.next,0,none⟩),_)=_;rw[l.next]
   refine⟨jK H2 ((vA H2 (qJ all.toList i ts)).new (.cells z t)) (qJ all.toList i ts),?_,?_,?_,?_,Nat.le_succ_of_le l.le⟩
   ·have F:Nat.ble H2.next ((vA H2 (qJ all.toList i ts)).new (.cells z t)).low=true:=bL (vE _);have C:(qJ all.toList i ts).all (λb=>Nat.blt b H2.next||Nat.ble ((vA H2 (qJ all.toList i ts)).new (.cells z t)).next b)=true:=by
     rw[List.all_eq_true];intro b A;show(Nat.blt b H2.next||Nat.ble (Nat.succ H2.next) b)=true;have hne:b≠H2.next:=by rw[l.next];intro e;subst e;exact X A
     by_cases A:b<H2.next
     ·have:Nat.blt b H2.next=true:=bL A;rw[this,Bool.true_or]
     have:Nat.ble (Nat.succ H2.next) b=true:=bL (by omega);rw[this,Bool.or_true]
    simp only[oP,I,F,C,Bool.true_or,Bool.and_self,cond_true]
   ·intro b;show(yG _ _ _).get b=(H.blocks.put H.next _).get b;rw[wF,T.get_put];show(if _ then H2.blocks.get b else((lG H2.blocks _).put H2.next _).get b)=_;rw[T.get_put,yK,l.next];by_cases A:b∈qJ all.toList i ts
    ·rw[if_pos A,if_neg (λe:b=H.next=>X (by rw[←e];exact A)),l.get]
    rw[if_neg A];by_cases e:b=H.next
    ·rw[if_pos e,if_pos e];show some (⟨AObj.cells z t,H2.next,true⟩:ABlk)=some ⟨.cells z t,H.next,true⟩;rw[l.next]
    rw[if_neg e,if_neg e,if_neg A,l.get]
   ·show Nat.succ H2.next=Nat.succ H.next;rw[l.next]
   intro L F C;refine Nat.le_min.2 ⟨l.low L F C,?_⟩;show L<=H2.next;rw[l.next];exact lT F l.le
 | store t a x=>
  cases a with
  | tmp a=>
   unfold lM at h;rw[k]at h;simp only at h;obtain⟨hW,F,C⟩:=h;have V:=M a F;rw[V]at C;cases hv:fr.t.get a with
   |none=>
    have B:v9 E fr o H=none:=by simp only[v9,k,ev,hv]
    simp only[kC,vS,B]at he;cases he
   | some u=>
    cases hy:ev E fr x with
    |none=>
     have B:v9 E fr o H=none:=by simp only[v9,k,hv,hy,show ev E fr (.tmp a)=fr.t.get a from rfl]
     simp only[kC,vS,B]at he;cases he
    | some y=>
     have hty:∀cs,y≠.tuple cs:=by
      intro cs e;subst e;have B:v9 E fr o H=none:=by simp only[v9,k,hv,hy,show ev E fr (.tmp a)=fr.t.get a from rfl]
      simp only[kC,vS,B]at he;cases he
     have w:∀H,v9 E fr o H=(kQ E H t u y).map λH'=>(.skip,H'):=λH=>by simp only[v9,k,hv,hy,show ev E fr (.tmp a)=fr.t.get a from rfl]
     cases hs:kQ E H t u y with
     |none=>simp only[kC,vS,w,hs,Option.map_none]at he;cases he
     | some Hs=>
      simp only[kC,vS,w,hs,Option.map_some,oI,Prod.mk.injEq]at he;obtain⟨rfl,rfl⟩:=he;rw[hv]at C;unfold kQ at hs;split at hs;case h_2=>cases hs
      rename_i Z b j hti;simp only at hs;cases hl:Nat.beq y.cells.toList.length Z.size with
      |false=>rw[hl]at hs;cases hs
      | true=>
       rw[hl]at hs;simp only[cond_true,AH.stores]at hs;split at hs;case h_2=>cases hs
       rename_i cs el r A;cases mJ:xA cs j y.cells.toList with
       |none=>rw[mJ]at hs;cases hs
       | some cs'=>
        rw[mJ]at hs;simp only[Option.map_some,oI]at hs;subst hs;have hb2:(vA H2 []).blocks.get b=some ⟨.cells cs el,r,true⟩:=by show H2.blocks.get b=_;rw[l.get,A]
        have I:vS E ih fr o (vA H2 (qJ all.toList i ts))=some (.tuple #[],(vA H2 []).write b ⟨.cells cs el,r,true⟩ (.cells cs' el)):=by
         rw[hW];have hsa:kQ E (vA H2 []) t (.pointer (some ⟨b,j,none⟩)) y=some ((vA H2 []).write b ⟨.cells cs el,r,true⟩ (.cells cs' el)):=by simp only[kQ,hti,hl,cond_true,AH.stores,hb2,mJ,Option.map_some]
         simp only[vS,w,hsa,Option.map_some]
        have U:=C b rfl;have hst:ts.any (λt=>Nat.beq t.1 i&&xV fr o t.2)=true:=by rw[List.any_eq_true];refine⟨_,U,?_⟩;simp only[Nat.beq_refl,Bool.true_and,xV,k,hv]
        refine⟨jK H2 ((vA H2 []).write b ⟨.cells cs el,r,true⟩ (.cells cs' el)) [],?_,?_,l.next,?_,l.le⟩
        ·rw[hW]at I;simp only[oP,hW,I,hst,List.isEmpty_nil,Bool.true_or,Bool.true_and,Bool.or_true,List.all_nil,Bool.and_self,cond_true]
        ·intro c;show((H2.blocks).put b _).get c=(H.blocks.put b _).get c;rw[T.get_put,T.get_put,l.get]
        intro L F C;have h3:L<=Nat.min H.low r:=C;have h4:=Nat.le_min.1 h3;refine Nat.le_min.2 ⟨l.low L F h4.1,?_⟩;show L<=Nat.min H2.next r;refine Nat.le_min.2 ⟨?_,h4.2⟩;rw[l.next];exact lT F l.le
  |const _=>exfalso;unfold lM at h;rw[k]at h;cases h
  |global _=>exfalso;unfold lM at h;rw[k]at h;cases h
  |func _=>exfalso;unfold lM at h;rw[k]at h;cases h
 | buildSlice t n ps=>
  unfold lM at h;rw[k]at h;simp only at h;obtain⟨hn1,d,hd,F,C⟩:=h;obtain⟨c,ob,B,rfl,rfl⟩:=qSU k he;have X:H.next∉qJ all.toList i ts:=by
   have P:=pM os (i+1) hr F;refine C _ ?_;rw[P];rw[hd]at q;simp only[yC]at q;cases A:Nat.ble (d+1) fr.sz with
   |false=>rw[A]at q;cases q
   |true=>rw[A]at q;simp only[cond_true,oI]at q;subst q;show qRd ((fr.t.put d _).get d)=_;rw[T.get_put,if_pos rfl];obtain⟨m,rfl⟩:∃m,n=m+1:=⟨n-1,by omega⟩;rfl
  exact qQc (f:=λb=>.slice (some ⟨b,0,none⟩) n c) B X l
 |move _=>exact pure (by rw[k];rfl)
 |assign _=>exact pure (by rw[k];rfl)
 |pick _ _ _=>exact pure (by rw[k];rfl)
 |nilCheck _=>exact pure (by rw[k];rfl)
 |binOp _ _ _ _ _=>exact pure (by rw[k];rfl)
 |unOp _ _ _=>exact pure (by rw[k];rfl)
 |fieldAddr _ _ _=>exact pure (by rw[k];rfl)
 |indexAddr _ _ _=>exact pure (by rw[k];rfl)
 |extract _ _=>exact pure (by rw[k];rfl)
 |build _ _=>exact pure (by rw[k];rfl)
 |_=>exfalso;unfold lM at h;rw[k]at h;cases h
theorem qCQ{ts:List (Nat×Nat)}{all:Array Oper}{fr':Fr}{H':AH}:∀(os:List Oper) (i:Nat) {fr:Fr} {H H2:AH},vF E ih all false [] os i fr H=some (fr',H')->qJl fr' ts all.toList i os->Heq N H H2->
  ∃x,vF E ih all true ts os i fr H2=some (fr',x)/\Heq N H' x
 | [],i,fr,H,H2,h,_,y=>by
  simp only[vF,oI,Prod.mk.injEq]at h
  obtain⟨rfl,rfl⟩:=h
  exact⟨H2,rfl,y⟩
 | o::os,i,fr,H,H2,h,ht,y=>by
  simp only[vF]at h
  split at h
  ·cases h
  ·rename_i j
   split at h
   ·rename_i k b
    obtain⟨x,e,c⟩:=qCQ os (i+1) h ht.2 y
    exact⟨x,by simp only[vF,j,b,e],c⟩
   cases h
  rename_i j
  simp only[cond_false]at h
  split at h
  ·cases h
  rename_i v H1 q
  split at h
  ·cases h
  rename_i k b
  obtain⟨r,e,c⟩:=qSG q b h ht.1 y
  obtain⟨x,p,l⟩:=qCQ os (i+1) h ht.2 c
  exact⟨x,by simp only[vF,j,cond_true,e,b,p],l⟩
end
section
variable{E:Env}{n0:Lim}{H0:AH}{g0:zG}{S:St}{ρ:List D}{ve:Nat->Value}{lb:Nat->Nat}{g:zG}{fr:Fr}{H H2:AH}{Q:Res1->Prop}{o:Oper}
theorem qCq(all:List Oper)(i:Nat)(f:Nat->Nat):∀ts:List (Nat×Nat),qJ all i (ts.map λq=>(q.1,f q.2))=(qJ all i ts).map f
 | []=>rfl
 |(j,b)::ts=>by simp only[List.map_cons,qJ,qCq all i f ts];grind
theorem qJC{a:Tmp}{b off:Nat}{t:TypeId}{x:Operand}(hs:S.slots.get a=some (.loc b off)):∀(os:List Oper) (i k:Nat) (o:Oper),os[k]? = some o->o.op=.store t (.tmp a) x->(i+k,b)∈qAX S os i
 | [],_,_,_,h,_=>by simp at h
 |p::os,i,0,o,h,y=>by simp only[List.getElem?_cons_zero,oI]at h;subst h;simp only[qAX,y,hs,Nat.add_zero];exact List.mem_cons_self
 |p::os,i,k+1,o,h,y=>by have:=qJC hs os (i+1) k o (by simpa using h) y;rw[show i+1+k=i+(k+1) by omega]at this;unfold qAX;grind
theorem qF4{all:List Oper}{b i:Nat}:∀(os:List Oper) (k:Nat),(∀o∈os,∀t a x,o.op=.store t a x->∃d b off y,a=.tmp d/\S.slots.get d=some (.loc b off)/\S.blks[b]? = some (some y))->(i,b)∈qAX S os k->S.live b
 | [],_,_,h=>by cases h
 | o::os,k,c,h=>by
  have ih:=qF4 (all:=all) (b:=b) (i:=i) os (k+1) (λo e=>c o (mC _ e));cases e:o.op with
  |store t a x=>
   obtain⟨d,l,off,y,rfl,hd,j⟩:=c o List.mem_cons_self t a x e;simp only[qAX,e,hd]at h;rcases List.mem_cons.1 h with h|h
   ·cases h;exact⟨y,j⟩
   exact ih h
  |_=>simp only[qAX,e]at h;exact ih h
theorem iU{all:List Oper}{i b:Nat}:∀ts:List (Nat×Nat),b∈qJ all i ts->∃j,(j,b)∈ts
 | [],h=>by cases h
 | (j,c)::ts,h=>by
  simp only[qJ]at h;cases x:(Nat.beq j i||pL (yX all) j i)with
  |true=>rw[x]at h;obtain⟨y,e⟩:=iU ts h;grind
  |false=>
   rw[x]at h;rcases List.mem_cons.1 h with rfl|h
   ·grind
   obtain⟨y,e⟩:=iU ts h;grind
theorem bX{α:Type}{x:Option (Option α)}(h:(x.getD none).isSome=true):∃y,x=some (some y):=by rcases x with _|_|y;all_goals grind
theorem qBC{os:List Oper}{e:List Nat}{t:TypeId}{a x:Operand}(h:iI S o os e=true)(j:o.op=.store t a x):∃d b off y,a=.tmp d/\S.slots.get d=some (.loc b off)/\S.blks[b]? = some (some y)/\e=[]/\(o::os).all (mZ d)=true:=by
 unfold iI at h;rw[j]at h;cases a with
 |tmp a=>
  simp only[zR]at h;obtain⟨⟨q,p⟩,c⟩:=h;split at c
  ·rename_i b off l;obtain⟨y,k⟩:=bX c;grind
  cases c
 |_=>cases h
theorem qAy{all:List Oper}:∀(os:List Oper) (i:Nat),mQ S all os i=true->∀o∈os,∀t a x,o.op=.store t a x->∃d b off y,a=.tmp d/\S.slots.get d=some (.loc b off)/\S.blks[b]? = some (some y)
 | [],_,_,_,h=>by cases h
 |p::os,i,h,o,e=>by
  simp only[mQ,zR]at h;intro t a x c;rcases List.mem_cons.1 e with rfl|e
  ·obtain⟨d,b,off,y,l,k,j,_⟩:=qBC h.1 c;grind
  exact qAy os (i+1) h.2 o e t a x c
def qTb(ve:Nat->Value)(lb:Nat->Nat)(g:zG)(s i:SV):Prop:=∀sz off B,qE6 (some (qBY (s.val ve lb) (i.val ve lb) sz off))=some B->∃k,g B=some k
theorem qZF{s i:SV}{e:D}(h:SM n0 S ρ ve lb g H)(w:wH S s=true)(C:wH S i=true)(he:bM (s.d (getD ρ)) (i.d (getD ρ))=some e):qTb ve lb g s i:=by
 intro sz off B y;have p:=jX h w;have q:=jX h C;unfold bM at he;split at he;case h_2=>cases he
 rename_i n x;have j:∃k,i.val ve lb=.int k (.ofNat n):=by
  unfold dS at x;split at x
  ·rename_i k m z;cases x;rw[z]at q;exact⟨k,q.leaf_inv.1⟩
  cases x
 obtain⟨k,A⟩:=j;rw[A]at y;generalize s.d (getD ρ)=I at p he;generalize s.val ve lb=G at p y;cases p<;>first|(simp[D.es]at he;done)|skip
 rename_i el es b o l c r rt cs vs own F M hv P u R L O;simp only[qBY,qE6,oI]at y;subst y;exact⟨_,F⟩
theorem qHm:∀(l:List (SV×SV)) {S:St} {ρ:List D} {ve:Nat->Value} {κ:St->Tree},SR E n0 H0 g0 S ρ ve lb g fr H->(∀q∈l,q.1.bd S.n S.blks.length/\q.2.bd S.n S.blks.length)->wp E (Holds E) Q (qHn l S κ) ρ->
  ∃S' ρ' y,SR E n0 H0 g0 S' ρ' y lb g fr H/\wp E (Holds E) Q (κ S') ρ'/\∀q∈l,qTb ve lb g q.1 q.2
 | [],S,ρ,ve,κ,h,_,x=>⟨S,ρ,ve,h,x,λ_ h=>(by cases h)⟩
 |(s,i)::r,S,ρ,ve,κ,h,p,x=>by
  simp only[qHn]at x
  obtain⟨j,x⟩:=jC x
  simp only[zR]at j
  simp only[wp]at x
  split at x
  case h_2=>cases x
  rename_i d hd
  simp only[SV.ds,qIX,Option.map_eq_some_iff]at hd
  obtain⟨e,he,rfl⟩:=hd
  have A:=h.new (k:=.pure) (o:=true) (by simp) (d:=.leaf (.bool true)) (v:=.bool true) ⟨λ_=>rfl,.leaf rfl⟩
  have ex:ExtS S ρ ve g (S.new .pure true) (ρ++[.leaf (.bool true)]) (mN ve S.n (.bool true)) g:=wQ h.len
  obtain⟨S',ρ',y,z,w,u⟩:=qHm r A (λq c=>⟨ex.bd (p q (mC _ c)).1,ex.bd (p q (mC _ c)).2⟩) x
  refine⟨S',ρ',y,z,w,λq c=>?_⟩
  rcases List.mem_cons.1 c with rfl|c
  ·exact qZF h.toSM j.1 j.2 he
  have:=u q c
  have b:=p q (mC _ c)
  unfold qTb at this ⊢
  rw[ex.val b.1,ex.val b.2]at this
  exact this
theorem sO(h:SR E n0 H0 g0 S ρ ve lb g fr H):∀(os:List Oper),∀q∈sP S os,q.1.bd S.n S.blks.length/\q.2.bd S.n S.blks.length
 | [],_,x=>by cases x
 | o::os,q,x=>by
  unfold sP at x;split at x
  ·split at x
   ·rename_i k i _ _ y;rcases List.mem_cons.1 x with rfl|x
    ·exact(h.slots _ _ y).1
    exact sO h os q x
   exact sO h os q x
  exact sO h os q x
theorem qDX{t:TypeId}{a:Tmp}{k sz off:Nat}{i:SV}(hs:S.slots.get a=some (.ptr (.v k) i sz off)):∀(os:List Oper) {o:Oper},o∈os->o.op=.load t (.tmp a)->(.v k,i)∈sP S os
 | [],_,h,_=>by cases h
 |p::os,o,h,x=>by
  rcases List.mem_cons.1 h with rfl|h
  ·simp only[sP,x,hs];exact List.mem_cons_self
  have:=qDX hs os h x;unfold sP;grind
theorem bH(h:SR E n0 H0 g0 S ρ ve lb g fr H):∀(os:List Oper),∀q∈dV S os,q.1.bd S.n S.blks.length/\q.2.bd S.n S.blks.length
 | [],_,x=>by cases x
 | o::os,q,x=>by
  unfold dV at x;split at x
  ·split at x
   ·split at x
    ·rename_i k y;rw[cond_eq_ite]at x;split at x
     ·rcases List.mem_cons.1 x with rfl|x
      ·exact⟨(h.slots _ _ y).1,trivial⟩
      exact bH h os q x
     exact bH h os q x
    exact bH h os q x
   exact bH h os q x
  exact bH h os q x
theorem qOl(h:SR E n0 H0 g0 S ρ ve lb g fr H)(os:List Oper):∀q∈qGl S os,q.1.bd S.n S.blks.length/\q.2.bd S.n S.blks.length:=λq x=>
 (List.mem_append.1 x).elim (sO h os q) (bH h os q)
theorem qLn{t:TypeId}{a:Tmp}{k sz off:Nat}{i:SV}(x:S.slots.get a=some (.ptr (.v k) i sz off))(os:List Oper){o:Oper}(h:o∈os)(y:o.op=.load t (.tmp a)):(.v k,i)∈qGl S os:=List.mem_append_left _ (qDX x os h y)
theorem qEa{t:TypeId}{n k:Nat}{ps:Array (Nat×Operand)}{d:Tmp}(hs:S.slots.get d=some (.v k))(y:S.pureV k=true):∀(os:List Oper) {o:Oper},o∈os->o.op=.buildSlice t n ps->o.dst=some d->(.v k,.c (.int .i64 0))∈dV S os
 | [],_,h,_,_=>by cases h
 |p::os,o,h,x,hd=>by
  rcases List.mem_cons.1 h with rfl|h
  ·simp only[dV,x,hd,hs,y,cond_true];exact List.mem_cons_self
  have:=qEa hs y os h x hd;unfold dV;grind
theorem qF5{all:List Oper}(O:∀q∈qGl S all,qTb ve lb g q.1 q.2)(h:SR E n0 H0 g0 S ρ ve lb g fr H)(L:mQ S all all 0=true):∀(os:List Oper) (i:Nat),(∀k o,os[k]? = some o->all[i+k]? = some o)->mQ S all os i=true->qJl fr ((qAX S all 0).map λq=>(q.1,lb q.2)) all i os
 | [],_,_,_=>trivial
 | o::os,i,hi,ht=>by
  simp only[mQ,zR]at ht;refine⟨?_,qF5 O h L os (i+1) (λk p hk=>by have:=hi (k+1) p (by simpa using hk);rw[show i+1+k=i+(k+1) by omega];exact this) ht.2⟩;have M:=qAy all 0 L;have w:∀{b},b∈qJ all i (qAX S all 0)->S.live b:=λ{b} hb=>by obtain⟨j,hj⟩:=iU _ hb;exact qF4 (all:=all) all 0 M hj
  have I:∀{bs:List Nat} {b c:Nat},bs.all (λc=>!(Nat.beq c b))=true->c∈bs->c≠b:=by intro bs b c h F e;have:=List.all_eq_true.1 h c F;subst e;simp at this
  have r:=ht.1;unfold lM;rw[qCq];cases G:o.op with
  |store t a x=>obtain⟨d,b,off,y,rfl,hs,X,hb,hd⟩:=qBC r G;refine⟨by rw[hb];rfl,hd,λB u=>?_⟩;have hv:=(h.slots d _ hs).2;simp only[SV.val]at hv;rw[hv]at u;simp only[qE6,oI]at u;subst u;have U:=qJC hs all 0 i o (by have:=hi 0 o rfl;simpa using this) G;grind
  | load t a=>
   unfold iI at r;rw[G]at r;cases a with
   | tmp a=>
    simp only[zR]at r;refine⟨r.1,λB u U=>?_⟩;obtain⟨c,F,rfl⟩:=List.mem_map.1 U;have A:=r.2;split at A
    ·rename_i b off hs;have hv:=(h.slots a _ hs).2;simp only[SV.val]at hv;rw[hv]at u;simp only[qE6,oI]at u;simp only[zR]at A;obtain⟨y,X⟩:=bX A.2;exact I A.1 F (h.sepL c b (w F) ⟨y,X⟩ u.symm)
    ·rename_i k x1 x2 x3 hs;have hv:=(h.slots a _ hs).2;simp only[SV.val]at hv;rw[hv]at u;have C:o∈all:=by have:=hi 0 o rfl;exact List.mem_of_getElem? this
     obtain⟨kk,P⟩:=O _ (qLn hs all C G) _ _ _ u;have z:=h.sepLG c (w F);rw[P]at z;cases z
    cases A
   |const _=>cases r
   |global _=>cases r
   |func _=>cases r
  |alloc t=>
   unfold iI at r;rw[G]at r;simp only at r ⊢;split at r;case h_2=>cases r
   rename_i d hd;simp only[zR]at r;refine⟨d,hd,r.1,λB u U=>?_⟩;obtain⟨c,F,rfl⟩:=List.mem_map.1 U;have A:=r.2;split at A
   ·rename_i b off hs;have hv:=(h.slots d _ hs).2;simp only[SV.val]at hv;rw[hv]at u;simp only[qE6,oI]at u;simp only[zR]at A;obtain⟨y,X⟩:=bX A.2;exact I A.1 F (h.sepL c b (w F) ⟨y,X⟩ u.symm)
   cases A
  | buildSlice t n ps=>
   unfold iI at r;rw[G]at r;simp only[zR]at r ⊢;obtain⟨hn,r⟩:=r;split at r;case h_2=>cases r
   rename_i d hd;simp only[zR]at r;refine⟨oK hn,d,hd,r.1,λB u U=>?_⟩;obtain⟨c,F,rfl⟩:=List.mem_map.1 U;have A:=r.2;split at A;case h_2=>cases A
   rename_i k hs;have hv:=(h.slots d _ hs).2;simp only[SV.val]at hv;rw[hv]at u;rcases Bool.or_eq_true _ _▸A with hf|hp
   ·obtain⟨of,M⟩:=zL.1 hf;have W:rA g H.blocks.get n0 (getD ρ k) (ve k):=(h.vars k _ M).2;rcases W with(⟨W,_⟩|⟨_,ad,W⟩)|⟨B2,l,cs,vs,el,rt,sz,es,Z⟩|⟨B2,es,ck,rt,ks,dd,Z⟩
    rotate_left 3
    ·rw[Z.v]at u;cases u
    ·rw[W]at u;cases u
    ·rw[W]at u;obtain⟨b1,b2,b3⟩:=ad;cases b3<;>cases u
    have V:=h.sepX c k (w F) hf;rw[Z.v]at u V;cases l with
    |zero=>cases u
    |succ l=>simp only[qRd,oI]at u;exact V (by simp[jB,u])
   have C:o∈all:=by have:=hi 0 o rfl;exact List.mem_of_getElem? this
   have hPG:=O _ (List.mem_append_right _ (qEa hs hp all C G hd)) 0 0;have hpv:∃kk,g (lb c)=some kk:=by
    refine hPG (lb c) ?_;simp only[SV.val];unfold qRd at u;split at u
    ·rename_i b x2 l2 c2 R;cases u;have R:=Option.some.inj R;rw[R];rfl
    cases u
   obtain⟨kk,P⟩:=hpv;have z:=h.sepLG c (w F);rw[P]at z;cases z
  |_=>unfold iI at r;rw[G]at r;exact r
theorem qOZ(he:EOk E){id:Nat}{ops:Array Oper}{κ:St->Tree}(h:SR E n0 H0 g0 S ρ ve lb g fr H)(j:wp E (Holds E) Q (qDw E ops false ops.toList 0 S (λS=>bif mQ S ops.toList ops.toList 0 then qHn (qGl S ops.toList) S κ else .fail)) ρ):∃S' ρ' u A g' fr' H',SR E n0 H0 g0 S' ρ' u A g' fr' H'/\wp E (Holds E) Q (κ S') ρ'/\vC E (.region id ops true) fr H .normal fr' H':=by obtain⟨S1,V,W,z,g1,O,H1,M,j,Z⟩:=qOv ops.toList 0 h j;obtain⟨P,j⟩:=jC j;obtain⟨S2,ρ2,ve2,U,j,G⟩:=qHm _ M (qOl M _) j;have hT:=qF5 G M P ops.toList 0 (λk o I=>by rw[Nat.zero_add];exact I) P;obtain⟨hn,l,f1,f2,X,_,f3⟩:=Z;have x:=f3 (qPg l) (λa ha=>qCo f1 a ha);rw[qDQ]at x;obtain⟨H2,c,q⟩:=qCQ (N:=n0.n) ops.toList 0 x hT ⟨λ_=>rfl,rfl,λ_ _ h=>h,h.base.1⟩;refine⟨S2,ρ2,ve2,z,g1,O,H2,U.congr q.get q.next (q.low _ (Nat.min_le_right _ _) U.low),j,?_⟩;have B:=qPf f1;refine⟨by rw[q.next];exact hn,?_⟩;intro F σ w tmps n0 B0 R hf p hn0 b ds k cs I C L;have y:wV σ H.next H2.next:=p;obtain⟨r,w',e,g1,g2,g3⟩:=bZ he B.call B.round B.up (id:=id) (λhd=>by simpa[vB,hd]using F) b ds k cs I C c R hf y;exact⟨r,w',e,ds,g1,g2,oU c,L.step R g1,g3⟩
end
section
variable{E:Env}{fr fr':Fr}{t:T Value}{o:Oper}{H H1 H':AH}{n d i:Nat}{v:Value}{all:Array Oper}{os:List Oper}
theorem qDU{t:TypeId}{p d:Tmp}(h:qJQ o=some (t,p,d)):o.op=.load t (.tmp p)/\o.dst=some d/\o.guard=none:=by unfold qJQ at h;grind
theorem fB{s d:Tmp}(h:qDT o=some (s,d)):o.op=.move (.tmp s)/\o.dst=some d/\o.guard=none:=by unfold qDT at h;grind
theorem qLl{a d:Tmp}(h:qOi o=some (a,d)):(∃t x,o.op=.binOp .add t (.tmp a) (.const (.int .i64 (.ofNat 1))) x)/\o.dst=some d/\o.guard=none:=by unfold qOi at h;grind
theorem uJ{t:TypeId}{x l d:Tmp}(h:qGj o=some (t,x,l,d)):o.op=.slice t (.tmp x) (some (.tmp l)) none none/\o.dst=some d/\o.guard=none:=by unfold qGj at h;grind
theorem qLk{t:TypeId}{a b d:Tmp}(h:qOh o=some (t,a,b,d)):∃c ts,o.op=.call c/\c.callee=.builtin .copy/\c.args.toList=[.tmp a,.tmp b]/\c.argTypes.toList=t::ts/\o.dst=some d/\o.guard=none:=by unfold qOh at h;grind
def qFU(H:AH):Nat->AH
 |0=>H
 |n+1=>jK (qFU H n) (vA (qFU H n) []) []
theorem qKb(H:AH):∀k,(qFU H k).blocks=H.blocks
 |0=>rfl
 |k+1=>qKb H k
theorem qKa(H:AH):∀k,(qFU H k).next=H.next
 |0=>rfl
 |k+1=>qKa H k
theorem qO9(H:AH):∀k,Nat.min H.low H.next<=(qFU H k).low
 |0=>Nat.min_le_left _ _
 |k+1=>Nat.le_min.2 ⟨qO9 H k,by show _<=(qFU H k).next;rw[qKa];exact Nat.min_le_right _ _⟩
theorem qCP{k:Nat}{rd:Bool}(x:v9 E ⟨n,rd,t⟩ o (vA (qFU H k) [])=some (.val v,vA (qFU H k) []))(b:o.guard=none)(y:o.dst=some d)(hn:Nat.ble (d+1) n=true)(h:yP E all true os (i+1) ⟨n,rd,t.put d (some v)⟩ (qFU H (k+1)) fr' H'):yP E all true (o::os) i ⟨n,rd,t⟩ (qFU H k) fr' H':=
 yP.consD (by simp only[vT,b]) (.of_val (vE _) x) (.inl (vE _)) (by simp only[yC,y,hn,cond_true]) h
theorem qKD{t:TypeId}{x:Operand}{b:Nat}{v:Value}{el rt:Nat}{own:Bool}(ht:qI4 E t=true)(c:o.op=.load t x)(hv:ev E fr x=some (.pointer (some ⟨b,0,none⟩)))(e:H.blocks.get b=some ⟨.cells [v] el,rt,own⟩):v9 E fr o H=some (.val v,H):=by
 unfold qI4 at ht;split at ht;case h_2=>cases ht
 rename_i y j;simp only[zR,Bool.not_eq_true']at ht;unfold v9;rw[c];have k:take? (([v]:List Value).drop 0) y.size=some [v]:=by rw[vP ht.2];rfl
 simp only[hv,rC,j,ht.1,cond_false,AH.loads,e,one];have h:take? (([v]:List Value).drop 0) 1=some [v]:=rfl;simp only[h,Option.map_some]
theorem qBp{x:Operand}{v:Value}(h:o.op=.move x)(hv:ev E fr x=some v):v9 E fr o H=some (.val v,H):=by unfold v9;rw[h];simp only[hv,one,Option.map_some]
theorem qYn{n:Nat}(h:n<zI):IntKind.i64.wrap (n:Int)=(n:Int):=by
 have b:n<9223372036854775808:=h;have y:(n:Int)<9223372036854775808:=by omega
 have x:(n:Int)%2^64=(n:Int):=by omega
 simp only[IntKind.wrap,IntKind.bits,IntKind.signed,x];grind
theorem qXu{t c:TypeId}{x y:Operand}{a:Nat}(h:a+1<zI)(k:o.op=.binOp .add t x y c)(j:ev E fr x=some (goInt a))(e:ev E fr y=some (goInt 1)):v9 E fr o H=some (.val (goInt ((a+1:Nat):Int)),H):=by have b:oL E .add t x y (goInt a) (goInt 1)=some (goInt (IntKind.i64.wrap ((a:Int)+1))):=rfl;rw[show((a:Int)+1)=((a+1:Nat):Int) by omega,qYn h]at b;unfold v9;rw[k];simp only[j,e,b,one,Option.map_some]
theorem qQg{ty:TypeId}{x l:Operand}{el b n k rt:Nat}{cs:List Value}{own:Bool}{e:TI}(c:wO E ty=some el)(he:E.types.get el=some e)(j:o.op=.slice ty x (some l) none none)(y:ev E fr x=some (.slice (some ⟨b,0,none⟩) n zI))(p:ev E fr l=some (goInt k))(q:k<=n)(r:H.blocks.get b=some ⟨.cells cs el,rt,own⟩):v9 E fr o H=some (.val (.slice (some ⟨b,0+k*e.size,none⟩) (n-k) zI),H):=by obtain⟨h,B,z0,C,A⟩:=xT c;have hle:Nat.ble k n=true:=bL q;have hn:nat? (goInt k)=some k:=rfl;have z:Nat.ble zI zI=true:=bL (vE _);have w:Nat.beq el el=true:=Nat.beq_refl _;have u:Nat.ble n n=true:=bL (vE _);unfold v9;rw[j];simp only[y,Option.toList,rV,p,Option.map_some,List.head?_cons,List.head?_nil,oT,A,kX,hn,he,hle,z,w,u,r,cond_true,Bool.true_or,Bool.and_self,one];rfl
theorem qSH{c:Call}{ty:TypeId}{ts:List TypeId}{x y:Operand}{el b j n rt:Nat}{cs:List Value}{e:TI}(L:wO E ty=some el)(he:E.types.get el=some e)(z:o.op=.call c)(B:c.callee=.builtin .copy)(C:c.args.toList=[x,y])(k:c.argTypes.toList=ty::ts)(w:ev E fr x=some (.slice (some ⟨b,0+(j+1)*e.size,none⟩) (n-(j+1)) zI))(u:ev E fr y=some (.slice (some ⟨b,0+j*e.size,none⟩) (n-j) zI))(V:j+1<=n)(O:H.blocks.get b=some ⟨.cells cs el,rt,true⟩)(U:n*e.size<=cs.length):(n-(j+1)=0/\∃v,v9 E fr o H=some (.val v,H))∨(n-(j+1)≠0/\∃v,v9 E fr o H=some (.val v,H.write b ⟨.cells cs el,rt,true⟩ (.cells (qDP cs ((j+1)*e.size) ((cs.drop (j*e.size)).take ((n-(j+1))*e.size))) el))):=by
 obtain⟨G,P,z0,R,F⟩:=xT L;have hm:Nat.min (n-j) (n-(j+1))=n-(j+1):=Nat.min_eq_right (by omega);have hle:Nat.ble (n-(j+1)) (n-j)=true:=bL (by omega);by_cases l:n-(j+1)=0
 ·refine .inl ⟨l,goInt 0,?_⟩;have h:Nat.beq 0 0=true:=rfl;have I:Nat.min (n-j) 0=0:=Nat.min_zero _;unfold v9;rw[z];simp only[kD,C,rV,w,u,Option.map_some,B,xY,k,qEA,F,he,qGE,l,I,oE,h,cond_true];rfl
 refine .inr ⟨l,goInt (n-(j+1):Nat),?_⟩;have h:Nat.beq (n-(j+1)) 0=false:=by
  cases M:Nat.beq (n-(j+1)) 0 with
  |false=>rfl
  |true=>exact absurd (vP M) l
 have A:n*e.size=(j+1)*e.size+(n-(j+1))*e.size:=by rw[←Nat.add_mul];congr 1;omega
 have r:(j+1)*e.size=j*e.size+e.size:=Nat.succ_mul _ _;have p:take? (cs.drop (0+j*e.size)) (Nat.mul (n-(j+1)) e.size)=some ((cs.drop (j*e.size)).take ((n-(j+1))*e.size)):=by rw[Nat.zero_add];exact wZ (by rw[List.length_drop];show(n-(j+1))*e.size<=_;omega)
 have q:((cs.drop (j*e.size)).take ((n-(j+1))*e.size)).length=(n-(j+1))*e.size:=by rw[List.length_take,List.length_drop];omega
 have mJ:=dH (cs:=cs) (xs:=(cs.drop (j*e.size)).take ((n-(j+1))*e.size)) (i:=0+(j+1)*e.size) (by rw[q];omega);unfold v9;rw[z];simp only[kD,C,rV,w,u,Option.map_some,B,xY,k,qEA,F,he,qGE,hm,oE,h,hle,cond_true,cond_false,AH.loads,O,p,AH.stores,mJ];rw[Nat.zero_add]
end
theorem qL3{ds:List Tmp}{t:T SV}{d:Tmp}{x:SV}(h:(aB t ds).get d=some x):d∉ds/\t.get d=some x:=by
 induction ds with
 |nil=>exact⟨by simp,h⟩
 |cons c r ih=>rw[aB,T.get_put]at h;grind
section
variable{E:Env}{n0:Lim}{H0:AH}{g0:zG}{S:St}{ρ:List D}{ve:Nat->Value}{lb:Nat->Nat}{g:zG}{fr fr':Fr}{H:AH}{HS:FuncId->List D->D->Prop}{Q:Res1->Prop}
theorem SR.erased(h:SR E n0 H0 g0 S ρ ve lb g fr H){ds:List Tmp}(y:fr'.sz=fr.sz)(b:fr'.rd=fr.rd)(k:∀t,t∉ds->fr'.t.get t=fr.t.get t):SR E n0 H0 g0 {S with slots:=aB S.slots ds} ρ ve lb g fr' H:=
  { toSM:={len:=h.len,wf:=h.wf,mem:=h.mem,base:=h.base,fix:=h.fix,vars:=h.vars,blks:=h.blks,sepLG:=h.sepLG,sepFG:=h.sepFG,sepL:=h.sepL,sepF:=h.sepF,sepX:=h.sepX}
    sz:=by rw[y];exact h.sz,rd:=by rw[b];exact h.rd
    slots:=λt x j=>by obtain⟨p,l⟩:=qL3 (show(aB S.slots ds).get t=some x from j);obtain⟨e,c⟩:=h.slots t x l;exact⟨e,by rw[k t p];exact c⟩
    sav:=h.sav,keep:=h.keep,gk:=h.gk,low:=h.low,tab:=h.tab}
theorem gE{b k:Nat}{x:Option ABlk}(h:H.blocks.get b=x):(vA (qFU H k) []).blocks.get b=x:=by show(qFU H k).blocks.get b=x;rw[qKb,h]
theorem aU{t:T Value}{d k:Nat}{v:Value}{w:Option Value}(hd:k≠d)(h:t.get k=w):(t.put d (some v)).get k=w:=by rw[T.get_put,if_neg hd];exact h
theorem qQK{t:T Value}{d:Nat}{v:Value}:(t.put d (some v)).get d=some v:=by rw[T.get_put,if_pos rfl]
theorem qIY{n:Nat}{rd:Bool}{t:T Value}{k:Tmp}{w:Value}(h:t.get k=some w):ev E ⟨n,rd,t⟩ (.tmp k)=some w:=h
theorem qOj{o:Oper}{n d:Nat}{rd:Bool}{t:T Value}{v:Value}(h:o.dst=some d)(hn:Nat.ble (d+1) n=true):yC ⟨n,rd,t⟩ o.dst v=some ⟨n,rd,t.put d (some v)⟩:=by simp only[yC,h,hn,cond_true]
theorem qXv(he:EOk E){id:Nat}{ops:Array Oper}{p:CpP}{κ:St->Tree}(h:SR E n0 H0 g0 S ρ ve lb g fr H)(P:qXw E S ops.toList=some p)(hw:wp E (Holds E) Q (.bind (.cpy p.el p.sz) [.v p.k,p.j] (κ ((S.cpy p).mapped p.k))) ρ):∃S' ρ' ve' lb' g' fr' H',SR E n0 H0 g0 S' ρ' ve' lb' g' fr' H'/\wp E (Holds E) Q (κ S') ρ'/\vC E (.region id ops true) fr H .normal fr' H':=by
 unfold qXw at P;split at P;case h_2=>cases P
 rename_i o0 o1 o2 o3 o4 o5 o6 o7 heq;split at P;case h_2=>cases P
 rename_i t0 p0 d0 s1 d1 a2 d2 t3 x3 l3 d3 r0 r1 r2 r3;split at P;case h_2=>cases P
 rename_i t4 p4 d4 s5 d5 t6 x6 l6 d6 t7 a7 b7 U r4 r5 r6 r7;obtain⟨hc,P⟩:=qX P;rw[zR,zR]at hc;obtain⟨hc,hfen,hcell⟩:=hc;split at P;case h_2=>cases P
 rename_i b j el hs0 hs1 hsl;split at P;case h_2=>cases P
 rename_i k e hblk hel;obtain⟨hkj,P⟩:=qX P;rw[zR]at hkj;obtain⟨V,hrj⟩:=hkj;cases P;unfold zA4 at hc;simp only[zR]at hc;obtain⟨⟨z1,z2,z3,z4⟩,⟨z5,z6⟩,⟨z7,z8,z9⟩,⟨z10,z11⟩,⟨z12,z13⟩,hnd,hall⟩:=hc;have z1:=(vP z1).symm;have z2:=(vP z2).symm;have z3:=(vP z3).symm;have z4:=(vP z4).symm;have z5:=(vP z5).symm;have z6:=(vP z6).symm;have z7:=(vP z7).symm;have z8:=(vP z8).symm;have z9:=(vP z9).symm;have z10:=(vP z10).symm;have z11:=(vP z11).symm;have z12:=(vP z12).symm;have z13:=(vP z13).symm;subst z1 z2 z3 z4 z5 z6 z7 z8 z9 z10 z11 z12 z13;obtain⟨u0,v0,w0⟩:=qDU r0;obtain⟨u1,v1,w1⟩:=fB r1;obtain⟨⟨ty2,yt2,u2⟩,v2,w2⟩:=qLl r2;obtain⟨u3,v3,w3⟩:=uJ r3;obtain⟨u4,v4,w4⟩:=qDU r4;obtain⟨u5,v5,w5⟩:=fB r5;obtain⟨u6,v6,w6⟩:=uJ r6;obtain⟨c7,ts7,u7,y7,ya7,yt7,v7,w7⟩:=qLk r7;simp only[wp]at hw;split at hw;case h_2=>cases hw
 rename_i d hd;simp only[SV.ds,qPG]at hd;split at hd;case h_2=>cases hd
 rename_i vK sz' es A hdk hdj;obtain⟨I,hd2⟩:=qX hd;clear hd;have hd:=Option.some.inj hd2;clear hd2;simp only[zR]at I;have e1:=vP I.1.1;have e2:=vP I.1.2;have hnl:=oK I.2;subst e1 e2;have hjr:=zH h.toSM hrj;rw[hdj]at hjr;have hjv:j.val ve lb=goInt A:=(hjr.dr rfl).leaf_inv.1;have hp0:fr.t.get p0=some (.pointer (some ⟨lb b,0,none⟩)):=(h.slots _ _ hs0).2;have hs1v:fr.t.get s1=some (goInt A):=by rw[(h.slots _ _ hs1).2,hjv]
 obtain⟨of,hst⟩:=zL.1 V;have hv:=(h.vars k _ hst).2;have R:getD ρ k=.sl vK e.size es:=hdk;rcases hv with qn|⟨B,l,cs,vs,elx,rt,sz2,es2,C⟩|⟨B,es2,clock,rt,ks,dds,C⟩
 rotate_left 2
 ·have X:=C.d;rw[R]at X;cases X
 ·exfalso;rcases qn.sl with L|⟨_,_,L⟩
  ·rw[R]at L;cases L
  rw[R]at L;cases L;simp at hnl
 have X:=C.d;rw[R]at X;cases X;have u:jB (ve k)=some B:=by rw[C.v];simp[jB]
 obtain⟨t1,t2⟩:=kG C.t;have hlen:es.length=l:=C.n;obtain⟨elb,rtb,csb,hbb,_,hbc⟩:=(h.blks b _ hblk).2.cells rfl;have hbc:csb=[ve k]:=hbc;subst hbc;rw[C.v]at hbb;have G:∀(a:Nat),a∈[p0,s1,d0,d1,d2,d3,d4,d5,d6,U]->Nat.ble (a+1) fr.sz=true:=λa ha=>by rw[h.sz];grind
 have O:∀(x y a c:Nat),[p0,s1,d0,d1,d2,d3,d4,d5,d6,U][x]? = some a->[p0,s1,d0,d1,d2,d3,d4,d5,d6,U][y]? = some c->x≠y->a≠c:=λx y a c h1 h2 h3 e=>h3 (fF hnd x y a h1 (by rw[h2,e]));have hcap:l<zI:=C.x;have hnj:A+1<=l:=by rw[←hlen];exact hnl
 have hln:l*e.size<=cs.length:=t2;let c1:T Value:=fr.t.put d0 (some (.slice (some ⟨B,0,none⟩) l zI));let c2:T Value:=c1.put d1 (some (goInt A));let c3:T Value:=c2.put d2 (some (goInt ((A+1:Nat):Int)));let c4:T Value:=c3.put d3 (some (.slice (some ⟨B,0+(A+1)*e.size,none⟩) (l-(A+1)) zI));let c5:T Value:=c4.put d4 (some (.slice (some ⟨B,0,none⟩) l zI));let c6:T Value:=c5.put d5 (some (goInt A));let F:T Value:=c6.put d6 (some (.slice (some ⟨B,0+A*e.size,none⟩) (l-A) zI));have pre:∀{fr2:Fr} {H2:AH},yP E ops true [o7] 7 ⟨fr.sz,fr.rd,F⟩ (qFU H 7) fr2 H2->yP E ops true [o0,o1,o2,o3,o4,o5,o6,o7] 0 fr H fr2 H2:=by intro fr2 H2 hl7;show yP E ops true _ 0 ⟨fr.sz,fr.rd,fr.t⟩ (qFU H 0) fr2 H2;refine qCP (qKD hcell u0 (qIY hp0) (gE hbb)) w0 v0 (G d0 (by simp)) ?_;refine qCP (qBp u1 (qIY (aU (O 1 2 _ _ rfl rfl (by decide)) hs1v))) w1 v1 (G d1 (by simp)) ?_;refine qCP (qXu (by omega) u2 (qIY qQK) rfl) w2 v2 (G d2 (by simp)) ?_;refine qCP (qQg hsl hel u3 (qIY (aU (O 2 4 _ _ rfl rfl (by decide)) (aU (O 2 3 _ _ rfl rfl (by decide)) qQK))) (qIY qQK) hnj (gE C.b)) w3 v3 (G d3 (by simp)) ?_;refine qCP (qKD hcell u4 (qIY (aU (O 0 5 _ _ rfl rfl (by decide)) (aU (O 0 4 _ _ rfl rfl (by decide)) (aU (O 0 3 _ _ rfl rfl (by decide)) (aU (O 0 2 _ _ rfl rfl (by decide)) hp0))))) (gE hbb)) w4 v4 (G d4 (by simp)) ?_;refine qCP (qBp u5 (qIY (aU (O 1 6 _ _ rfl rfl (by decide)) (aU (O 1 5 _ _ rfl rfl (by decide)) (aU (O 1 4 _ _ rfl rfl (by decide)) (aU (O 1 3 _ _ rfl rfl (by decide)) (aU (O 1 2 _ _ rfl rfl (by decide)) hs1v))))))) w5 v5 (G d5 (by simp)) ?_;refine qCP (qQg hsl hel u6 (qIY (aU (O 6 7 _ _ rfl rfl (by decide)) qQK)) (qIY qQK) (by omega) (gE C.b)) w6 v6 (G d6 (by simp)) ?_;exact hl7
 have g3:ev E ⟨fr.sz,fr.rd,F⟩ (.tmp d3)=some (.slice (some ⟨B,0+(A+1)*e.size,none⟩) (l-(A+1)) zI):=qIY (aU (O 5 8 _ _ rfl rfl (by decide)) (aU (O 5 7 _ _ rfl rfl (by decide)) (aU (O 5 6 _ _ rfl rfl (by decide)) qQK)));have g6:ev E ⟨fr.sz,fr.rd,F⟩ (.tmp d6)=some (.slice (some ⟨B,0+A*e.size,none⟩) (l-A) zI):=qIY qQK;have W:∀(w:Value) (t:Tmp),t∉[d0,d1,d2,d3,d4,d5,d6,U]->(F.put U (some w)).get t=fr.t.get t:=by intro w t ht;simp only[List.mem_cons,List.mem_nil_iff,or_false,not_or]at ht;obtain⟨q0,q1,q2,q3,q4,q5,q6,q7⟩:=ht;exact aU q7 (aU q6 (aU q5 (aU q4 (aU q3 (aU q2 (aU q1 (aU q0 rfl)))))))
 have hlow:Nat.min H0.low n0.n<=(qFU H 7).low:=lT (Nat.le_min.2 ⟨h.low,lT (Nat.min_le_right _ _) h.base.1⟩) (qO9 H 7);rcases qSH (fr:=⟨fr.sz,fr.rd,F⟩) (H:=vA (qFU H 7) []) hsl hel u7 y7 ya7 yt7 g3 g6 hnj (gE C.b) hln with⟨m0,w,hx⟩|⟨m1,w,hx⟩
 ·
  -- nothing is moved
  have q:SR E n0 H0 g0 (S.cpy ⟨k,j,vK,e.size,[d0,d1,d2,d3,d4,d5,d6,U]⟩) ρ ve lb g ⟨fr.sz,fr.rd,F.put U (some w)⟩ H:=h.erased rfl rfl (W w);have hes:eF es A=es:=by unfold eF;rw[hlen,m0,List.take_zero,List.append_nil,List.take_of_length_le (by omega)]
  rw[hes]at hd;have k1:=q.killed k;have k3:=k1.newFresh (d:=d) (v:=ve k) (by rw[←hd];exact .inr (.inl ⟨B,l,cs,vs,vK,rt,e.size,es,{C with d:=rfl}⟩)) (by rw[←hd];rfl) (λB' z=>by rw[u]at z;cases z;exact h.sepFG k B V u) (λB' c z hc e=>by rw[u]at z;cases z;exact q.sepX c k hc V (by rw[e];exact u)) (λB' jj z hf hoj=>by rw[u]at z;cases z;obtain⟨a1,a2⟩:=jF hf;exact a2 (q.sepF jj k B a1 V hoj u));rw[oD]at k3;have k4:=rQ (i:=k) (show(S.cpy ⟨k,j,vK,e.size,[d0,d1,d2,d3,d4,d5,d6,U]⟩).freshV k=true from V) k3;refine⟨_,_,_,_,_,_,qFU H 8,k4.congr (λb=>by rw[qKb]) (qKa H 8) (lT (Nat.le_min.2 ⟨h.low,lT (Nat.min_le_right _ _) h.base.1⟩) (qO9 H 8)),hw,vC.region he ?_⟩;rw[heq];refine pre (yP.consD (by simp only[vT,w7]) (.of_val (vE _) hx) (.inl (vE _)) (qOj v7 (G U (by simp))) ?_);exact .nil
 -- the elements are moved
 have zb:=qKb H 7;have zn:=qKa H 7
 clear_value F
 generalize qFU H 7=Z at *;have q:SR E n0 H0 g0 (S.cpy ⟨k,j,vK,e.size,[d0,d1,d2,d3,d4,d5,d6,U]⟩) ρ ve lb g ⟨fr.sz,fr.rd,F.put U (some w)⟩ H:=h.erased rfl rfl (W w);have hmul:l*e.size=(A+1)*e.size+(l-(A+1))*e.size:=by rw[←Nat.add_mul];congr 1;omega
 have hmul2:(A+1)*e.size=A*e.size+e.size:=Nat.succ_mul _ _;generalize hxs:(cs.drop (A*e.size)).take ((l-(A+1))*e.size)=xs at hx;have hxl:xs.length=(l-(A+1))*e.size:=by rw[←hxs,List.length_take,List.length_drop];omega
 have hxv:xs=(vs.drop (A*e.size)).take ((l-(A+1))*e.size):=by
  rw[←hxs,t1,List.drop_take,List.take_take]
  congr 1
  rw[Nat.min_eq_left];omega
 generalize hr:qDP cs ((A+1)*e.size) xs=r at hx;have hrl:take? r (l*e.size)=some (vs.take ((A+1)*e.size)++xs):=by
  have hlr:l*e.size<=r.length:=by rw[←hr];simp only[qDP,List.length_append,List.length_take,List.length_drop];omega
  rw[wZ hlr,←hr,qBI (by rw[hxl];omega) hln,←t1];unfold qDP;rw[List.drop_of_length_le (by rw[hxl,t1,List.length_take];omega),List.append_nil]
 have hdrs:DRs g ((eF es A).flatMap D.cells) (vs.take ((A+1)*e.size)++xs):=by unfold eF;rw[List.flatMap_append,←rT C.s,←rT (λe' M=>C.s e' (List.mem_of_mem_drop M)),←o9 C.s,hlen,hxv];exact(C.r.take _).append ((C.r.drop _).take _)
 have hone:(vs.take ((A+1)*e.size)++xs).all qH=true:=by
  have h0:=C.o;rw[List.all_eq_true]at h0 ⊢;intro v hv;rcases List.mem_append.1 hv with hv|hv
  ·exact h0 v (List.mem_of_mem_take hv)
  rw[hxv]at hv;exact h0 v (List.mem_of_mem_drop (List.mem_of_mem_take hv))
 have hn2:(eF es A).length=l:=by unfold eF;rw[List.length_append,List.length_take,List.length_take,List.length_drop,hlen];omega
 have hs2:∀e'∈eF es A,e'.cells.length=e.size:=by
  intro e' M;unfold eF at M;rcases List.mem_append.1 M with M|M
  ·exact C.s e' (List.mem_of_mem_take M)
  exact C.s e' (List.mem_of_mem_drop (List.mem_of_mem_take M))
 have hb:H.blocks.get B=some ⟨.cells cs vK,rt,true⟩:=C.b;have k1:=q.killed k
 have k2:=k1.heap2 (H':=H.write B ⟨.cells cs vK,rt,true⟩ (.cells r vK)) (λb=>b=B) (λb _ hb=>by rw[AH.get_write,if_neg hb]) (λb hb=>by subst hb;exact h.sepFG k b V u)
  (λb c hb hl e=>by subst hb;exact q.sepX c k hl V (by rw[e];exact u))
  (λb jj hb hf hoj=>by subst hb;obtain⟨a1,a2⟩:=jF hf;exact a2 (q.sepF jj k b a1 V hoj u))
  (λb hb=>by subst hb;exact C.rt.2) (q.wf.write hb _) (vE _) (by show _<=Nat.min H.low rt;exact Nat.le_min.2 ⟨q.low,lT (Nat.min_le_right _ _) C.rt.1⟩)
 have k3:=k2.newFresh (d:=d) (v:=ve k) (by
   rw[←hd]
   exact .inr (.inl ⟨B,l,r,_,vK,rt,e.size,_,C.v,rfl,by rw[AH.get_write,if_pos rfl],C.rt,hrl,hdrs,hn2,hs2,C.x,hone⟩)) (by rw[←hd];rfl)
  (λB' z=>by rw[u]at z;cases z;exact h.sepFG k B V u) (λB' c z hc e=>by rw[u]at z;cases z;exact q.sepX c k hc V (by rw[e];exact u))
  (λB' jj z hf hoj=>by rw[u]at z;cases z;obtain⟨a1,a2⟩:=jF hf;exact a2 (q.sepF jj k B a1 V hoj u))
 rw[oD]at k3;have k4:=rQ (i:=k) (show(S.cpy ⟨k,j,vK,e.size,[d0,d1,d2,d3,d4,d5,d6,U]⟩).freshV k=true from V) k3;refine⟨_,_,_,_,_,_,jK (Z) ((vA (Z) []).write B ⟨.cells cs vK,rt,true⟩ (.cells r vK)) [],k4.congr (λb=>?_) (show Z.next=H.next from zn) ?_,hw,vC.region he ?_⟩
 ·show((Z).blocks.put B _).get b=(H.blocks.put B _).get b;rw[T.get_put,T.get_put,zb]
 ·show _<=Nat.min (Z).low (Nat.min (Z).next rt);refine Nat.le_min.2 ⟨hlow,Nat.le_min.2 ⟨?_,lT (Nat.min_le_right _ _) C.rt.1⟩⟩;rw[zn];exact lT (Nat.min_le_right _ _) h.base.1
 rw[heq];have hlast:yP E ops true [o7] 7 ⟨fr.sz,fr.rd,F⟩ (Z) ⟨fr.sz,fr.rd,F.put U (some w)⟩ (jK (Z) ((vA (Z) []).write B ⟨.cells cs vK,rt,true⟩ (.cells r vK)) []):=by
  refine yP.consD (v:=w) (H1:=(vA (Z) []).write B ⟨.cells cs vK,rt,true⟩ (.cells r vK)) (by simp only[vT,w7]) (.of_val ?_ hx) (.inr ?_) (qOj v7 (G U (by simp))) ?_
  ·exact vE _
  ·rw[heq];exact hfen
  exact .nil
 exact pre hlast
theorem qIh{o:Oper}{t:TypeId}{a:Tmp}(h:qIi o=some (t,a)):∃c ts,o.op=.call c/\c.callee=.builtin .clear/\c.args.toList=[.tmp a]/\c.argTypes.toList=t::ts/\o.dst=none/\o.guard=none:=by unfold qIi at h;grind
theorem qQh{c:Call}{o:Oper}{ty:TypeId}{ts:List TypeId}{x:Operand}{el b j n rt:Nat}{cs z:List Value}{e:TI}(G:wO E ty=some el)(he:E.types.get el=some e)(r:e.zero=some z)(y:z.length=e.size)(u:o.op=.call c)(A:c.callee=.builtin .clear)(B:c.args.toList=[x])(k:c.argTypes.toList=ty::ts)(p:ev E fr x=some (.slice (some ⟨b,0+j*e.size,none⟩) (n-j) zI))(R:j<=n)(M:H.blocks.get b=some ⟨.cells cs el,rt,true⟩)(L:n*e.size<=cs.length):(n-j=0/\∃v,v9 E fr o H=some (.val v,H))∨(n-j≠0/\∃v,v9 E fr o H=some (.val v,H.write b ⟨.cells cs el,rt,true⟩ (.cells (qDP cs (j*e.size) (xM z (n-j))) el))):=by
 obtain⟨F,O,z0,P,C⟩:=xT G;obtain⟨V,es,W,U,X⟩:=e;simp only at r y p L;subst r;by_cases l:n-j=0
 ·refine .inl ⟨l,.tuple #[],?_⟩;have h:Nat.beq 0 0=true:=rfl;unfold v9;rw[u];simp only[kD,B,rV,p,Option.map_some,A,xY,k,qAm,C,he,l,h,cond_true]
 refine .inr ⟨l,.tuple #[],?_⟩;have h:Nat.beq (n-j) 0=false:=by
  cases I:Nat.beq (n-j) 0 with
  |false=>rfl
  |true=>exact absurd (vP I) l
 have w:n*es=j*es+(n-j)*es:=by rw[←Nat.add_mul];congr 1;omega
 have q:(xM z (n-j)).length=(n-j)*es:=by rw[qBS,y]
 have mJ:=dH (cs:=cs) (xs:=xM z (n-j)) (i:=0+j*es) (by rw[q];omega);unfold v9;rw[u];simp only[kD,B,rV,p,Option.map_some,A,xY,k,qAm,C,he,h,cond_false,AH.stores,M,mJ];rw[Nat.zero_add]
theorem qXE(he:EOk E){id:Nat}{ops:Array Oper}{p:ClP}{κ:St->Tree}(h:SR E n0 H0 g0 S ρ ve lb g fr H)(I:qXF E S ops.toList=some p)(hw:wp E (Holds E) Q (.bind (.clr p.el p.sz p.ag p.z) [.v p.k,p.j] (κ ((S.clr p).mapped p.k))) ρ):∃S' ρ' ve' lb' g' fr' H',SR E n0 H0 g0 S' ρ' ve' lb' g' fr' H'/\wp E (Holds E) Q (κ S') ρ'/\vC E (.region id ops false) fr H .normal fr' H':=by
 unfold qXF at I;split at I;case h_2=>cases I
 rename_i o0 o1 o2 o3 heq;split at I;case h_2=>cases I
 rename_i s0 d0 s1 d1 t2 x2 l2 d2 t3 a3 r0 r1 r2 r3;obtain⟨hc,I⟩:=qX I;simp only[zR]at hc;obtain⟨⟨z1,z2,z3,z4⟩,hnd,hall⟩:=hc;split at I;case h_2=>cases I
 rename_i k j el hs0 hs1 hsl;split at I;case h_2=>cases I
 rename_i e hel;split at I;case h_2=>cases I
 rename_i z hz;obtain⟨hkj,I⟩:=qX I;rw[zR]at hkj;obtain⟨O,hrj⟩:=hkj;cases I;have z1:=(vP z1).symm;have z2:=(vP z2).symm;have z3:=(vP z3).symm;have z4:=(vP z4).symm;subst z1 z2 z3 z4;obtain⟨u0,v0,w0⟩:=fB r0;obtain⟨u1,v1,w1⟩:=fB r1;obtain⟨u2,v2,w2⟩:=uJ r2;obtain⟨c3,ts3,u3,y3,ya3,yt3,v3,w3⟩:=qIh r3;simp only[wp]at hw;split at hw;case h_2=>cases hw
 rename_i d hd;simp only[SV.ds,qPH]at hd;split at hd;case h_2=>cases hd
 rename_i vK sz' es C hdk hdj;obtain⟨W,hd2⟩:=qX hd;clear hd;have hd:=Option.some.inj hd2;clear hd2;simp only[zR]at W;obtain⟨⟨⟨e1,e2⟩,U,hn1⟩,⟨c1,c2⟩,c3'⟩:=W;have hn1:=oK hn1;have e1:=vP e1;have e2:=vP e2;have U:=oK U;have Z:=vP c1;subst e1 e2;have hjr:=zH h.toSM hrj;rw[hdj]at hjr;have hjv:j.val ve lb=goInt C:=(hjr.dr rfl).leaf_inv.1;have hs0v:fr.t.get s0=some (ve k):=(h.slots _ _ hs0).2;have hs1v:fr.t.get s1=some (goInt C):=by rw[(h.slots _ _ hs1).2,hjv]
 obtain⟨of,hst⟩:=zL.1 O;have hv:=(h.vars k _ hst).2;have L:getD ρ k=.sl vK e.size es:=hdk;have hle:∀(a:Nat),a∈[s0,s1,d0,d1,d2]->Nat.ble (a+1) fr.sz=true:=λa ha=>by rw[h.sz];grind
 have ne:∀(x y a c:Nat),[s0,s1,d0,d1,d2][x]? = some a->[s0,s1,d0,d1,d2][y]? = some c->x≠y->a≠c:=λx y a c h1 h2 h3 e=>h3 (fF hnd x y a h1 (by rw[h2,e]));obtain⟨q1,q2⟩:=qTd (g:=g) Z c2 (by simpa using c3');have hone0:z.all qH=true:=by grind
 rcases hv with qn|⟨B,l,cs,vs,elx,rt,sz2,es2,F⟩|⟨B,es2,clock,rt,ks,dds,F⟩
 rotate_left 2
 ·have P:=F.d;rw[L]at P;cases P
 ·exfalso;rcases qn.sl with G|⟨_,_,G⟩
  ·rw[L]at G;cases G
  rw[L]at G;cases G;simp at hn1
 have P:=F.d;rw[L]at P;cases P;have u:jB (ve k)=some B:=by rw[F.v];simp[jB]
 obtain⟨t1,t2⟩:=kG F.t;have hlen:es.length=l:=F.n;rw[hlen]at U hn1;have hln:l*e.size<=cs.length:=t2;let c1':T Value:=fr.t.put d0 (some (.slice (some ⟨B,0,none⟩) l zI));let c2':T Value:=c1'.put d1 (some (goInt C));let M:T Value:=c2'.put d2 (some (.slice (some ⟨B,0+C*e.size,none⟩) (l-C) zI));rw[F.v]at hs0v;have pre:∀{fr2:Fr} {H2:AH},yP E ops false [o3] 3 ⟨fr.sz,fr.rd,M⟩ H fr2 H2->yP E ops false [o0,o1,o2,o3] 0 fr H fr2 H2:=by intro fr2 H2 hl7;refine yP.cons (by simp only[vT,w0]) (.of_val (vE _) (qBp u0 hs0v)) (qOj v0 (hle d0 (by simp))) ?_;refine yP.cons (by simp only[vT,w1]) (.of_val (vE _) (qBp u1 (qIY (aU (ne 1 2 _ _ rfl rfl (by decide)) hs1v)))) (qOj v1 (hle d1 (by simp))) ?_;refine yP.cons (by simp only[vT,w2]) (.of_val (vE _) (qQg hsl hel u2 (qIY (aU (ne 2 3 _ _ rfl rfl (by decide)) qQK)) (qIY qQK) U F.b)) (qOj v2 (hle d2 (by simp))) ?_;exact hl7
 have slots:∀(t:Tmp),t∉[d0,d1,d2]->M.get t=fr.t.get t:=by intro t ht;simp only[List.mem_cons,List.mem_nil_iff,or_false,not_or]at ht;obtain⟨q0,q1,q2⟩:=ht;exact aU q2 (aU q1 (aU q0 rfl))
 have q:SR E n0 H0 g0 (S.clr ⟨k,j,vK,e.size,e.agg,z,[d0,d1,d2]⟩) ρ ve lb g ⟨fr.sz,fr.rd,M⟩ H:=h.erased rfl rfl slots;have hput:∀v,yC (⟨fr.sz,fr.rd,M⟩:Fr) o3.dst v=some ⟨fr.sz,fr.rd,M⟩:=λv=>by rw[v3];rfl
 have hdn:d.one=true:=by rw[←hd];rfl
 have k1:=q.killed k;rcases qQh (fr:=⟨fr.sz,fr.rd,M⟩) (H:=H) hsl hel hz Z u3 y3 ya3 yt3 (qIY qQK) U F.b hln with⟨m0,w,hx⟩|⟨m1,w,hx⟩
 ·have hes:es.take C++List.replicate (es.length-C) (zD e.agg z)=es:=by
   grind
  rw[hes]at hd
  have k3:=k1.newFresh (d:=d) (v:=ve k) (by rw[←hd];exact .inr (.inl ⟨B,l,cs,vs,vK,rt,e.size,es,{F with d:=rfl}⟩)) hdn
   (λB' A=>by rw[u]at A;cases A;exact h.sepFG k B O u) (λB' c A hc e=>by rw[u]at A;cases A;exact q.sepX c k hc O (by rw[e];exact u))
   (λB' jj A hf R=>by rw[u]at A;cases A;obtain⟨a1,a2⟩:=jF hf;exact a2 (q.sepF jj k B a1 O R u))
  rw[oD]at k3
  have k4:=rQ (i:=k) (show(S.clr ⟨k,j,vK,e.size,e.agg,z,[d0,d1,d2]⟩).freshV k=true from O) k3
  refine⟨_,_,_,_,_,_,H,k4,hw,vC.region he ?_⟩
  rw[heq]
  exact pre (yP.cons (by simp only[vT,w3]) (.of_val (vE _) hx) (hput _) .nil)
 generalize hr:qDP cs (C*e.size) (xM z (l-C))=r at hx;have hmul:l*e.size=C*e.size+(l-C)*e.size:=by rw[←Nat.add_mul];congr 1;omega
 have hxl:(xM z (l-C)).length=(l-C)*e.size:=by rw[qBS,Z]
 have hrl:take? r (l*e.size)=some (vs.take (C*e.size)++xM z (l-C)):=by
  have hlr:l*e.size<=r.length:=by rw[←hr];simp only[qDP,List.length_append,List.length_take,List.length_drop];omega
  rw[wZ hlr,←hr,qBI (by rw[hxl];omega) hln,←t1];unfold qDP;rw[List.drop_of_length_le (by rw[hxl,t1,List.length_take];omega),List.append_nil]
 have hdrs:DRs g ((es.take C++List.replicate (es.length-C) (zD e.agg z)).flatMap D.cells) (vs.take (C*e.size)++xM z (l-C)):=by rw[List.flatMap_append,←rT F.s,hlen];exact(F.r.take _).append (qE4 (by rw[q1];exact q2) _)
 have hone:(vs.take (C*e.size)++xM z (l-C)).all qH=true:=by rw[List.all_append,qBT hone0,Bool.and_true];have h0:=F.o;rw[List.all_eq_true]at h0 ⊢;intro v hv;exact h0 v (List.mem_of_mem_take hv)
 have hn2:(es.take C++List.replicate (es.length-C) (zD e.agg z)).length=l:=by rw[List.length_append,List.length_take,List.length_replicate,hlen];omega
 have hs2:∀e'∈es.take C++List.replicate (es.length-C) (zD e.agg z),e'.cells.length=e.size:=by
  intro e' V;rcases List.mem_append.1 V with V|V
  ·exact F.s e' (List.mem_of_mem_take V)
  rw[List.eq_of_mem_replicate V,q1,List.length_map,Z]
 have X:H.blocks.get B=some ⟨.cells cs vK,rt,true⟩:=F.b
 have k2:=k1.heap2 (H':=H.write B ⟨.cells cs vK,rt,true⟩ (.cells r vK)) (λb=>b=B) (λb _ X=>by rw[AH.get_write,if_neg X]) (λb X=>by subst X;exact h.sepFG k b O u)
  (λb c X hl e=>by subst X;exact q.sepX c k hl O (by rw[e];exact u))
  (λb jj X hf R=>by subst X;obtain⟨a1,a2⟩:=jF hf;exact a2 (q.sepF jj k b a1 O R u))
  (λb X=>by subst X;exact F.rt.2) (q.wf.write X _) (vE _) (by show _<=Nat.min H.low rt;exact Nat.le_min.2 ⟨q.low,lT (Nat.min_le_right _ _) F.rt.1⟩)
 have k3:=k2.newFresh (d:=d) (v:=ve k) (by
   rw[←hd]
   exact .inr (.inl ⟨B,l,r,_,vK,rt,e.size,_,F.v,rfl,by rw[AH.get_write,if_pos rfl],F.rt,hrl,hdrs,hn2,hs2,F.x,hone⟩)) hdn
  (λB' A=>by rw[u]at A;cases A;exact h.sepFG k B O u) (λB' c A hc e=>by rw[u]at A;cases A;exact q.sepX c k hc O (by rw[e];exact u))
  (λB' jj A hf R=>by rw[u]at A;cases A;obtain⟨a1,a2⟩:=jF hf;exact a2 (q.sepF jj k B a1 O R u))
 rw[oD]at k3;have k4:=rQ (i:=k) (show(S.clr ⟨k,j,vK,e.size,e.agg,z,[d0,d1,d2]⟩).freshV k=true from O) k3;refine⟨_,_,_,_,_,_,_,k4,hw,vC.region he ?_⟩;rw[heq];refine pre (yP.cons (H1:=H.write B ⟨.cells cs vK,rt,true⟩ (.cells r vK)) (by simp only[vT,w3]) (.of_val ?_ hx) (hput _) .nil);exact vE _
end
theorem jV.raise{E:Env}{f:FuncId}{args:List Value}{H H':AH}{v:Value}(h:jV E f args H v H'):jV E f args H v {H' with next:=H'.next+1}:=by
 intro σ w x j hv l cs;obtain⟨e,w',fr,⟨y,v',g1,g2,s⟩,g4⟩:=h σ w x j hv (λb q p=>l b q (Nat.lt_succ_of_lt p)) cs;have st:Step E σ H w y {H' with next:=H'.next+1} w':=by
  refine⟨⟨s.hr.objs,s.hr.sep,s.hr.glob,λb k c=>?_⟩,Nat.le_succ_of_le s.next,λb c=>?_,s.size,s.low,s.tape,s.os,s.output,s.frame,s.origin,s.old,s.keep,s.born⟩
  ·exact⟨(s.hr.wf b k c).1,Nat.lt_succ_of_lt (s.hr.wf b k c).2⟩
  refine s.ext b ?_;grind
 grind
abbrev oN:=AExit->Fr->AH->Prop
def Fin(E:Env)(c:Code)(K:oN)(fr:Fr)(H:AH):Prop:=∃e h H1,vC E c fr H e h H1/\K e h H1
def qOd(E:Env)(b:Code)(K:oN):oN:=λe fr H=>match e with
 |.normal=>Fin E b K fr H
 |e=>K e fr H
def l9(id:Nat)(K:oN):oN:=λe fr H=>match e with
 |.exit h=>if h=id then K .normal fr H else K (.exit h) fr H
 |e=>K e fr H
def qJI(E:Env)(b:Code)(K:oN):oN:=λe fr H=>match e with
 |.normal=>Fin E (.loop b) K fr H
 |e=>K e fr H
section
variable{E:Env}{fr:Fr}{H:AH}{K:oN}
theorem qKp{a b:Code}(h:Fin E a (qOd E b K) fr H):Fin E (.seq a b) K fr H:=by
 obtain⟨e,x,H1,c,y⟩:=h;cases e with
 |normal=>obtain⟨p,j,H2,l,k⟩:=y;exact⟨p,j,H2,c.seq l,k⟩
 |exit id=>exact⟨_,x,H1,c.seqOut (by simp),y⟩
 |ret=>exact⟨_,x,H1,c.seqOut (by simp),y⟩
theorem qEt{id:Nat}{b:Code}(h:Fin E b (l9 id K) fr H):Fin E (.block id b) K fr H:=by
 obtain⟨e,x,H1,c,y⟩:=h;cases e with
 |normal=>exact⟨_,x,H1,c.block (by simp),y⟩
 |exit j=>
  simp only[l9]at y;split at y
  ·rename_i e;subst e;exact⟨_,x,H1,c.blockExit,y⟩
  rename_i e;exact⟨_,x,H1,c.block (by simpa using e),y⟩
 |ret=>exact⟨_,x,H1,c.block (by simp),y⟩
theorem qG4{b:Code}(h:Fin E b (qJI E b K) fr H):Fin E (.loop b) K fr H:=by
 obtain⟨e,x,H1,c,y⟩:=h;cases e with
 |normal=>obtain⟨p,j,H2,l,k⟩:=y;exact⟨p,j,H2,c.loop l,k⟩
 |exit id=>exact⟨_,x,H1,c.loopOut (by simp),y⟩
 |ret=>exact⟨_,x,H1,c.loopOut (by simp),y⟩
theorem qEs{b:Code}(h:Fin E b K fr H):Fin E (.scope b) K fr H:=by obtain⟨e,x,H1,c,y⟩:=h;exact⟨e,x,H1,c.scope,y⟩
end
inductive Ctx (E:Env) (J:Nat->St->Tree) (c0:Code) (κ0:KC) (K0:oN):Nat->Code->KC->oN->Prop
 |root:Ctx E J c0 κ0 K0 1 c0 κ0 K0
 |seqL {n:Nat} {a b:Code} {κ:KC} {K:oN} (h:Ctx E J c0 κ0 K0 n (.seq a b) κ K):Ctx E J c0 κ0 K0 n a (qK9 (λS=>sx E J (n+nl a) b S κ) κ) (qOd E b K)
 |seqR {n:Nat} {a b:Code} {κ:KC} {K:oN} (h:Ctx E J c0 κ0 K0 n (.seq a b) κ K):Ctx E J c0 κ0 K0 (n+nl a) b κ K
 |condL {n:Nat} {c:Operand} {a b:Code} {κ:KC} {K:oN} (h:Ctx E J c0 κ0 K0 n (.cond c a b) κ K):Ctx E J c0 κ0 K0 n a κ K
 |condR {n:Nat} {c:Operand} {a b:Code} {κ:KC} {K:oN} (h:Ctx E J c0 κ0 K0 n (.cond c a b) κ K):Ctx E J c0 κ0 K0 (n+nl a) b κ K
 |block {n id:Nat} {b:Code} {κ:KC} {K:oN} (h:Ctx E J c0 κ0 K0 n (.block id b) κ K):Ctx E J c0 κ0 K0 n b (cP id κ) (l9 id K)
 |loop {n:Nat} {b:Code} {κ:KC} {K:oN} (h:Ctx E J c0 κ0 K0 n (.loop b) κ K):Ctx E J c0 κ0 K0 (n+1) b (iB J n κ) (qJI E b K)
 |scope {n:Nat} {b:Code} {κ:KC} {K:oN} (h:Ctx E J c0 κ0 K0 n (.scope b) κ K):Ctx E J c0 κ0 K0 n b κ K
section
variable{E:Env}{n0:Lim}{H0:AH}{g0:zG}{Q:Res1->Prop}{J:Nat->St->Tree}{c0:Code}{κ0:KC}{K0:oN}
def qHJ(E:Env)(n0:Lim)(H0:AH)(g0:zG)(Q:Res1->Prop)(κ:KC)(K:oN):Prop:=
 ∀e S ρ ve lb g fr H,SR E n0 H0 g0 S ρ ve lb g fr H->wp E (Holds E) Q (κ e S) ρ->K e fr H
def qQF(E:Env)(n0:Lim)(H0:AH)(g0:zG)(Q:Res1->Prop)(J:Nat->St->Tree)(c0:Code)(κ0:KC)(K0:oN):Prop:=
 ∀k b κ K,Ctx E J c0 κ0 K0 k (.loop b) κ K->∀S ρ ve lb g fr H,SR E n0 H0 g0 S ρ ve lb g fr H->wp E (Holds E) Q (J k S) ρ->Fin E (.loop b) K fr H
theorem dG(he:EOk E)(R:qQF E n0 H0 g0 Q J c0 κ0 K0):∀(c:Code) (n:Nat) (κ:KC) (K:oN),Ctx E J c0 κ0 K0 n c κ K->qHJ E n0 H0 g0 Q κ K->
  ∀S ρ ve lb g fr H,SR E n0 H0 g0 S ρ ve lb g fr H->wp E (Holds E) Q (sx E J n c S κ) ρ->Fin E c K fr H
 |.seq a b,n,κ,K,j,y,S,ρ,ve,lb,g,fr,H,h,x=>by
  refine qKp (dG he R a n _ _ j.seqL ?_ S ρ ve lb g fr H h x)
  intro e M r u w L k H1 I q
  cases e with
  |normal=>exact dG he R b _ κ K j.seqR y M r u w L k H1 I q
  |exit id=>exact y _ M r u w L k H1 I q
  |ret=>exact y _ M r u w L k H1 I q
 | .cond c a b,n,κ,K,j,y,S,ρ,ve,lb,g,fr,H,h,x=>by
  simp only[sx]at x
  have T:∀S',SR E n0 H0 g0 S' ρ ve lb g fr H->ev E fr c=some (.bool true)->wp E (Holds E) Q (sx E J n a S' κ) ρ->Fin E (.cond c a b) K fr H:=by
   intro S' U hv x
   obtain⟨e,k,H1,C,B⟩:=dG he R a n κ K j.condL y S' ρ ve lb g fr H U x
   exact⟨e,k,H1,C.condT he hv,B⟩
  have F:∀S',SR E n0 H0 g0 S' ρ ve lb g fr H->ev E fr c=some (.bool false)->wp E (Holds E) Q (sx E J (n+nl a) b S' κ) ρ->Fin E (.cond c a b) K fr H:=by
   intro S' U hv x
   obtain⟨e,k,H1,C,B⟩:=dG he R b (n+nl a) κ K j.condR y S' ρ ve lb g fr H U x
   exact⟨e,k,H1,C.condF he hv,B⟩
  split at x
  ·rename_i hv;exact T S h (zQ (E:=E) h hv).2 x
  ·rename_i hv;exact F S h (zQ (E:=E) h hv).2 x
  ·rename_i i hv
   obtain⟨G,x⟩:=jC x
   obtain⟨t,hd,x⟩:=qBh x
   have P:=(zQ (E:=E) h hv).2
   simp only[SV.val,tV h.toSM G hd]at P
   cases t with
   |true=>exact T _ (nQ h G hd) P x
   |false=>exact F _ (nQ h G hd) P x
  cases x
 | .block id b,n,κ,K,j,y,S,ρ,ve,lb,g,fr,H,h,x=>by
  refine qEt (dG he R b n _ _ j.block ?_ S ρ ve lb g fr H h x)
  intro e M r u w L k H1 I q
  cases e with
  |normal=>exact y _ M r u w L k H1 I q
  |ret=>exact y _ M r u w L k H1 I q
  | exit V=>
   simp only[cP,qZ]at q
   simp only[l9]
   split
   ·rename_i e;rw[if_pos e]at q
    exact y _ M r u w L k H1 I q
   rename_i e;rw[if_neg e]at q
   exact y _ M r u w L k H1 I q
 |.loop b,n,κ,K,j,y,S,ρ,ve,lb,g,fr,H,h,x=>R n b κ K j S ρ ve lb g fr H h x
 |.scope b,n,κ,K,j,y,S,ρ,ve,lb,g,fr,H,h,x=>qEs (dG he R b n κ K j.scope y S ρ ve lb g fr H h x)
 | .region id ops draw,n,κ,K,j,y,S,ρ,ve,lb,g,fr,H,h,x=>by
  simp only[sx]at x
  split at x
  ·rename_i p G
   obtain⟨j,G⟩:=qX G
   simp only[zR]at j
   obtain⟨S',ρ',z,A,g',fr',H',C,B,O⟩:=qXv he (id:=id) (κ:=κ .normal) h G x
   rw[j.1]
   exact⟨_,fr',H',O,y _ S' ρ' z A g' fr' H' C B⟩
  split at x
  ·rename_i p G
   obtain⟨j,G⟩:=qX G
   simp only[zR,Bool.not_eq_true']at j
   obtain⟨S',ρ',z,A,g',fr',H',C,B,O⟩:=qXE he (id:=id) (κ:=κ .normal) h G x
   rw[j.1]
   exact⟨_,fr',H',O,y _ S' ρ' z A g' fr' H' C B⟩
  rw[cond_eq_ite]at x
  split at x
  ·rename_i j
   simp only[zR]at j
   obtain⟨S',ρ',z,A,g',fr',H',C,B,O⟩:=qOZ he (id:=id) h x
   rw[j.1]
   exact⟨_,fr',H',O,y _ S' ρ' z A g' fr' H' C B⟩
  obtain⟨S',ρ',z,A,g',fr',H',C,B,O⟩:=qOv ops.toList 0 h x
  exact⟨_,fr',H',.region he O,y _ S' ρ' z A g' fr' H' C B⟩
 |.skip,n,κ,K,j,y,S,ρ,ve,lb,g,fr,H,h,x=>⟨_,fr,H,.skip,y _ S ρ ve lb g fr H h x⟩
 |.label l,n,κ,K,j,y,S,ρ,ve,lb,g,fr,H,h,x=>⟨_,fr,H,.label,y _ S ρ ve lb g fr H h x⟩
 |.ret,n,κ,K,j,y,S,ρ,ve,lb,g,fr,H,h,x=>⟨_,fr,H,.ret,y _ S ρ ve lb g fr H h x⟩
 |.exit id,n,κ,K,j,y,S,ρ,ve,lb,g,fr,H,h,x=>⟨_,fr,H,.exit,y _ S ρ ve lb g fr H h x⟩
 |.rangeFunc _ _ _ _,n,κ,K,j,y,S,ρ,ve,lb,g,fr,H,h,x=>by cases x
 |.goto _,n,κ,K,j,y,S,ρ,ve,lb,g,fr,H,h,x=>by cases x
 |.refuse _,n,κ,K,j,y,S,ρ,ve,lb,g,fr,H,h,x=>by cases x
theorem qR2(he:EOk E)(u:qQF E n0 H0 g0 Q J c0 κ0 K0)(z:qHJ E n0 H0 g0 Q κ0 K0){n:Nat}{c:Code}{κ:KC}{K:oN}(r:Ctx E J c0 κ0 K0 n c κ K):qHJ E n0 H0 g0 Q κ K:=by
 induction r with
 |root=>exact z
 |@seqL n a b κ K r ih=>
  intro e q x y j p k H1 l h;cases e with
  |normal=>exact dG he u b _ κ K r.seqR ih q x y j p k H1 l h
  |exit id=>exact ih _ q x y j p k H1 l h
  |ret=>exact ih _ q x y j p k H1 l h
 |seqR r ih=>exact ih
 |condL r ih=>exact ih
 |condR r ih=>exact ih
 | @block n id b κ K r ih=>
  intro e q x y j p k H1 l h;cases e with
  |normal=>exact ih _ q x y j p k H1 l h
  |ret=>exact ih _ q x y j p k H1 l h
  |exit w=>
   simp only[cP,qZ]at h;simp only[l9];split
   ·rename_i e;rw[if_pos e]at h;exact ih _ q x y j p k H1 l h
   rename_i e;rw[if_neg e]at h;exact ih _ q x y j p k H1 l h
 |@loop n b κ K r ih=>
  intro e q x y j p k H1 l h;cases e with
  |normal=>exact u n b κ K r q x y j p k H1 l h
  |exit id=>exact ih _ q x y j p k H1 l h
  |ret=>exact ih _ q x y j p k H1 l h
 |scope r ih=>exact ih
theorem qPj{P:Nat->St}{n:Nat}{c:Code}{κ:KC}{K:oN}(y:Ctx E J c0 κ0 K0 n c κ K):∀x∈xB E P J n c κ,x∈xB E P J 1 c0 κ0:=by
 induction y with
 |root=>exact λx h=>h
 |seqL y ih=>exact λx h=>ih x (by simp only[xB];exact List.mem_append_left _ h)
 |seqR y ih=>exact λx h=>ih x (by simp only[xB];exact List.mem_append_right _ h)
 |condL y ih=>exact λx h=>ih x (by simp only[xB];exact List.mem_append_left _ h)
 |condR y ih=>exact λx h=>ih x (by simp only[xB];exact List.mem_append_right _ h)
 |block y ih=>exact λx h=>ih x (by simp only[xB];exact h)
 |loop y ih=>exact λx h=>ih x (by simp only[xB];exact mC _ h)
 |scope y ih=>exact λx h=>ih x (by simp only[xB];exact h)
theorem qCk(he:EOk E){pats:Nat->Pat}{sz:Nat}{l:Nat->Tree}{d:D}(A:J=λk S=>jI sz (pats k) k S)(B:∀x∈xB E (λk=>(pats k).st sz) J 1 c0 κ0,l x.1=x.2)(C:∀Q:Res1->Prop,(∀y,Q (.ret y)->y=d)->qHJ E n0 H0 g0 Q κ0 K0)(z:∀k,n0.F.length<=(pats k).blks.length):
  ∀n,qQF E n0 H0 g0 (λr=>match r with|.ret y=>y=d|.jump k' ds=>qW7 E (Holds E) l n k' ds d) J c0 κ0 K0
 |0=>by
  intro k b κ K q S ρ ve lb g fr H h p
  rw[A]at p
  obtain⟨ds,c,g',_,u⟩:=qBg h p (z _)
  cases u
 | n+1=>by
  have ih:=qCk he A B C z n
  intro k b κ K q S ρ ve lb g fr H h p
  have e:=p
  rw[A]at e
  obtain⟨ds,c,g',F,u⟩:=qBg h e (z _)
  have w:l k=sx E J (k+1) b ((pats k).st sz) (iB J k κ):=by
   have:=qPj (P:=λk=>(pats k).st sz) q (k,sx E J (k+1) b ((pats k).st sz) (iB J k κ)) (by simp only[xB];exact List.mem_cons_self)
   exact B _ this
  have j:wp E (Holds E) (λr=>match r with|.ret y=>y=d|.jump k' ds=>qW7 E (Holds E) l n k' ds d) (l k) ds:=u
  rw[w]at j
  refine qG4 (dG he ih b (k+1) _ _ q.loop (qR2 he ih (C _ λy hd=>hd) q.loop) _ ds c lb g' fr H F j)
end
section
variable{E:Env}{n0:Lim}{H0:AH}{g0:zG}{Q:Res1->Prop}{HS:FuncId->List D->D->Prop}
theorem qEZ:∀(e:List ResultVar) (acc:List SV) {S:St} {ρ:List D} {ve:Nat->Value} {lb:Nat->Nat} {g:zG} {fr:Fr} {H:AH},SR E n0 H0 g0 S ρ ve lb g fr H->SV.bds S.n S.blks.length acc->wp E HS Q (qE0 E S acc e) ρ->
  ∃S' ρ' c g' vs ds,SR E n0 H0 g0 S' ρ' c lb g' fr H/\v8 E fr H e=some vs/\DRs g' ds (SV.vals ve lb acc++vs)/\Q (.ret (gZ ds))
 | [],acc,S,ρ,ve,lb,g,fr,H,h,k,b=>by
  simp only[qE0]at b
  obtain⟨g1,I,w⟩:=xF acc h
  obtain⟨r,b⟩:=jC b
  rw[List.all_eq_true]at r
  exact⟨_,ρ,ve,g1,[],_,w,rfl,by rw[List.append_nil];exact mV w.toSM r,b⟩
 | .tmp t::e,acc,S,ρ,ve,lb,g,fr,H,h,k,b=>by
  simp only[qE0]at b
  split at b
  ·rename_i x M
   obtain⟨F,C⟩:=h.slots t x M
   obtain⟨S',ρ',c,g',vs,ds,B,A,j,z⟩:=qEZ e (acc++[x]) h (by
    rw[SV.bds_iff]at k ⊢
    intro u hu
    rcases List.mem_append.1 hu with hu|hu
    ·exact k u hu
    simp only[List.mem_singleton]at hu;subst hu;exact F) b
   refine⟨S',ρ',c,g',x.val ve lb::vs,ds,B,by simp only[v8,C,A,Option.map_some],?_,z⟩
   rw[yS]at j
   simpa[SV.vals]using j
  cases b
 | .cell a t::e,acc,S,ρ,ve,lb,g,fr,H,h,k,b=>by
  simp only[qE0]at b
  split at b
  ·rename_i p r
   obtain⟨F,C⟩:=h.slots a p r
   obtain⟨y,O,L,l,g1,I,w,G,s1,s2⟩:=qBb h F b
   obtain⟨S',ρ',c,g',vs,ds,B,A,j,z⟩:=qEZ e (acc++[y]) w (by
    have q:=I.bds k
    rw[SV.bds_iff]at q ⊢
    intro u hu
    rcases List.mem_append.1 hu with hu|hu
    ·exact q u hu
    simp only[List.mem_singleton]at hu;subst hu;exact s1) G
   refine⟨S',ρ',c,g',y.val l lb::vs,ds,B,by simp only[v8,C,Option.bind_some,s2,A,Option.map_some],?_,z⟩
   rw[yS]at j
   have:SV.vals l lb acc=SV.vals ve lb acc:=SV.vals_congr I.ve (λ_ _=>rfl) k
   rw[this]at j
   simpa[SV.vals]using j
  cases b
def qQI(E:Env)(H0:AH)(g0:zG)(h:List ResultVar)(d:D):oN:=λe fr H=>(e=.normal∨e=.ret)/\
 ∃v g',(match v8 E fr H h with|some [v]=>some v|some vs=>some (.tuple ⟨vs⟩)|none=>none)=some v/\DR g' d v/\zG.le g' H.blocks.get/\WF H/\H0.next<=H.next/\(∀b,b<H0.next->H.blocks.get b=H0.blocks.get b)/\Nat.min H0.low H0.next<=H.low/\(∀b,b<H0.next->g' b=g0 b)
theorem qFC{rs:List ResultVar}{d:D}(C:∀q,Q (.ret q)->q=d):qHJ E (Lim.of H0.next) H0 g0 Q (mK E rs) (qQI E H0 g0 rs d):=by
 intro e S ρ ve lb g fr H h k
 have main:wp E (Holds E) Q (qE0 E S [] rs) ρ->∃v g',(match v8 E fr H rs with|some [v]=>some v|some vs=>some (.tuple ⟨vs⟩)|none=>none)=some v/\DR g' d v/\zG.le g' H.blocks.get/\WF H/\H0.next<=H.next/\(∀b,b<H0.next->H.blocks.get b=H0.blocks.get b)/\
  Nat.min H0.low H0.next<=H.low/\(∀b,b<H0.next->g' b=g0 b):=by
  intro k
  obtain⟨S',ρ',u,g',vs,ds,j,z,p,w⟩:=qEZ rs [] h trivial k
  have:=C _ w
  subst this
  simp only[SV.vals,List.nil_append]at p
  have c:∀v,(match some vs with|some [v]=>some v|some vs=>some (Value.tuple ⟨vs⟩)|none=>none)=some v->DR g' (gZ ds) v->∃v g',(match v8 E fr H rs with|some [v]=>some v|some vs=>some (Value.tuple ⟨vs⟩)|none=>none)=some v/\DR g' (gZ ds) v/\zG.le g' H.blocks.get/\WF H/\H0.next<=H.next/\(∀b,b<H0.next->H.blocks.get b=H0.blocks.get b)/\Nat.min H0.low H0.next<=H.low/\(∀b,b<H0.next->g' b=g0 b):=λv e hd=>⟨v,g',by rw[z];exact e,hd,j.mem,j.wf,j.base.1,j.keep,j.low,j.gk⟩
  match ds,vs,p with
  | [],_,.nil=>exact c _ rfl (.tup .nil)
  | [x],_,.cons l .nil=>exact c _ rfl l
  |x::y::r,_,.cons l (.cons A B)=>exact c _ rfl (.tup (.cons l (.cons A B)))
 cases e with
 |normal=>exact⟨.inl rfl,main k⟩
 |ret=>exact⟨.inr rfl,main k⟩
 |exit id=>cases k
theorem qBE{H:AH}{g:zG}{args:List Value}{ds:List D}(A:WF H)(F:zG.le g H.blocks.get)(q:qHK E g)(hd:DRs g ds args){n sz:Nat}(hn:args.length=n):SR E (Lim.of H.next) H g (yL n sz) ds (λi=>args.getD i (.bool false)) (λ_=>0) g ⟨sz,false,T.ofList .leaf 0 args⟩ H:=by
 have G:ds.length=n:=by rw[←hd.length,hn]
 have c:∀i,(yL n sz).freshV i=false:=by
  intro i;cases M:(yL n sz).freshV i with
  |false=>rfl
  |true=>obtain⟨o,h⟩:=zL.1 M;simp only[yL,List.getElem?_replicate]at h;split at h<;>cases h
 have y:∀b,¬(yL n sz).live b:=by rintro b ⟨x,h⟩;simp[yL]at h
 refine { len:=by simp[yL,G],wf:=A,mem:=F,base:=Lim.of_base _,fix:=⟨Nat.zero_le _,λk a I=>by simp[Lim.of]at I⟩,vars:=?_,blks:=?_,sepLG:=λb u=>absurd u (y b),sepFG:=?_,sepL:=λa b O=>absurd O (y a),sepF:=?_,sepX:=λb i u=>absurd u (y b),
          sz:=rfl,rd:=rfl,slots:=?_,sav:=.nil,keep:=λ_ _=>rfl,low:=Nat.min_le_left _ _,gk:=λ_ _=>rfl,tab:=q}
 ·intro i s w;simp only[yL,List.getElem?_replicate]at w;split at w
  ·rename_i l;cases w;refine⟨λe=>(by cases e),?_⟩;have r:i<ds.length:=by omega
   obtain⟨v,C,z⟩:=hd.get i ds[i] (List.getElem?_eq_getElem r);simp only[getD,List.getD_eq_getElem?_getD,List.getElem?_eq_getElem r,Option.getD_some,C];exact z
  ·cases w
 ·intro b x u;exact absurd ⟨x,u⟩ (y b)
 ·intro i B l;rw[c i]at l;cases l
 ·intro i j B l;rw[c i]at l;cases l
 ·intro t x p;simp only[yL,gM,List.length_map,List.length_range]at p;rw[gM];split at p
  ·rename_i P;simp only[List.getElem?_map,Option.map_eq_some_iff]at p;obtain⟨j,L,rfl⟩:=p;obtain⟨C,z⟩:=gI L;simp at C z;subst z;refine⟨?_,?_⟩
   ·show t<(yL n sz).n;simp[yL,St.n];omega
   ·rw[if_pos (by omega)];simp only[Nat.sub_zero,SV.val,List.getD_eq_getElem?_getD];rw[List.getElem?_eq_getElem (by omega)];rfl
  ·simp[T.get]at p
theorem lN:∀(T:Tree) (ρ:List D),wp E HS Q T ρ->∃r,Q r/\∀y:Res1->Prop,y r->wp E HS y T ρ
 |.fail,_,h=>by cases h
 |.stop _ _,_,h=>by cases h
 |.ret xs,ρ,h=>⟨_,h,λ_ x=>x⟩
 |.jump k xs,ρ,h=>⟨_,h,λ_ x=>x⟩
 |.bind o xs r,ρ,h=>by
  simp only[wp]at h;split at h
  ·rename_i d hd;obtain⟨e,l,j⟩:=lN r _ h;exact⟨e,l,λy x=>by simp only[wp,hd];exact j y x⟩
  cases h
 |.call w xs z r,ρ,h=>by
  simp only[wp]at h;split at h
  ·rename_i f ds hd;obtain⟨d,l,j,u⟩:=h;obtain⟨e,q,p⟩:=lN r _ u;exact⟨e,q,λy x=>by simp only[wp,hd];exact⟨d,l,j,p y x⟩⟩
  cases h
 |.callM f m xs r,ρ,h=>by simp only[wp]at h;obtain⟨ds,l,j,u⟩:=h;obtain⟨e,q,p⟩:=lN r _ u;exact⟨e,q,λy x=>by simp only[wp];exact⟨ds,l,j,p y x⟩⟩
 |.ite c a b,ρ,h=>by
  simp only[wp]at h;split at h
  ·rename_i hd;obtain⟨e,l,j⟩:=lN a _ h;exact⟨e,l,λy x=>by simp only[wp,hd];exact j y x⟩
  ·rename_i hd;obtain⟨e,l,j⟩:=lN b _ h;exact⟨e,l,λy x=>by simp only[wp,hd];exact j y x⟩
  cases h
theorem qE.step{x:Nat->Tree}{k:Nat}{ρ:List D}{d:D}(h:wp E HS (λr=>match r with|.ret c=>c=d|.jump k' ds=>qE E HS x k' ds d) (x k) ρ):qE E HS x k ρ d:=by
 obtain⟨r,b,y⟩:=lN _ _ h;cases r with
 |ret c=>exact⟨1,y _ b⟩
 |jump k' ds=>obtain⟨n,hn⟩:=b;exact⟨n+1,y _ hn⟩
theorem qLQ(he:EOk E){f:FuncId}{fn:Func}{c:Code}(X:E.funcs.get f=some fn)(h:fn.body=some c){pats:Nat->Pat}{L:Nat->Tree}{ds:List D}{d:D}{n:Nat}(hn:ds.length=n)(h0:qGc E (λk S=>jI (Nat.max fn.ntmps n) (pats k) k S) fn n=L 0)(hT:∀x∈xB E (λk=>(pats k).st (Nat.max fn.ntmps n)) (λk S=>jI (Nat.max fn.ntmps n) (pats k) k S) 1 c (mK E fn.results.toList),L x.1=x.2)(j:qE E (Holds E) L 0 ds d):qFS E f ds d:=by
 refine⟨⟨fn,X⟩,λH g I w W z hd=>?_⟩;have p:I.length=n:=by rw[hd.length,hn]
 have Z:=qBE (sz:=Nat.max fn.ntmps n) w W z hd p;obtain⟨m,j⟩:=j;cases m with
 |zero=>cases j
 | succ m=>
  have y:wp E (Holds E) (λr=>match r with|.ret G=>G=d|.jump k' ds=>qW7 E (Holds E) L m k' ds d) (L 0) ds:=j;rw[←h0]at y;simp only[qGc,h]at y;have C:∀Q:Res1->Prop,(∀G,Q (.ret G)->G=d)->qHJ E (Lim.of H.next) H g Q (mK E fn.results.toList) (qQI E H g fn.results.toList d):=λQ hQ=>qFC hQ;have hj:=qCk (n0:=Lim.of H.next) (H0:=H) (g0:=g) (c0:=c) (κ0:=mK E fn.results.toList) (K0:=qQI E H g fn.results.toList d) he rfl hT C (λ_=>Nat.zero_le _) m;obtain⟨e,fr1,H1,V,P,v,g',hv,R,A,l,M,hk,B,F⟩:=dG he hj c 1 _ _ .root (C _ λG U=>U) _ _ _ _ _ _ _ Z y;rw[←p]at V;have u:=vC.call he X h V P hv;let g2:zG:=λb=>if b<H.next then g b else g' b;have O:zG.le g' g2:=by
   intro b k h;simp only[g2];split
   ·rename_i q;rw[←F b q];exact h
   exact h
  refine⟨v,{H1 with next:=H1.next+1},g2,u.raise,Nat.lt_succ_of_le M,λb k h=>⟨(l b k h).1,Nat.lt_succ_of_lt (l b k h).2⟩,hk,B,?_,?_,?_,R.mono O⟩
  ·intro b k h;simp only[g2];rw[if_pos (w b k (W b k h)).2];exact h
  ·intro b k h;simp only[g2]at h;split at h
   ·rename_i q;rw[←F b q]at h;exact A b k h
   exact A b k h
  intro b h;simp only[g2];rw[if_pos h]
theorem qGO(he:EOk E){f:FuncId}{fn:Func}{c:Code}(j:E.funcs.get f=some fn)(l:fn.body=some c){pats:Nat->Pat}{b:Nat->Tree}{ds:List D}{d:D}{n:Nat}(e:ds.length=n)(q:qGc E (λk S=>jI (Nat.max fn.ntmps n) (pats k) k S) fn n=b 0)(p:∀x∈xB E (λk=>(pats k).st (Nat.max fn.ntmps n)) (λk S=>jI (Nat.max fn.ntmps n) (pats k) k S) 1 c (mK E fn.results.toList),b x.1=x.2)(y:qE E (Holds E) b 0 ds d)(h:f<cQ:=by decide):Holds E f ds d:=.inl ⟨h,qLQ he j l e q p y⟩
def qX6(E:Env)(L:Lim)(H0:AH)(g0:zG)(m:Mode)(h:List ResultVar)(d:D):oN:=λe fr H=>(e=.normal∨e=.ret)/\
 ∃vs ve lb g' ds,v8 E fr H h=some vs/\d=gZ ds/\ds.length=m.out.sts.length/\SM L (m.out.st 0) ds ve lb g' H/\(∀t x,(m.out.st 0).slots.get t=some x->x.bd (m.out.st 0).n (m.out.st 0).blks.length/\vs[t]? = some (x.val ve lb))/\(∀b,L.K b->H.blocks.get b=H0.blocks.get b)/\(∀b,L.K b->g' b=g0 b)/\Nat.min H0.low L.n<=H.low
theorem qE1{m:Mode}:∀(l:List ResultVar) (acc:List SV) {S:St} {ρ:List D} {ve:Nat->Value} {lb:Nat->Nat} {g:zG} {fr:Fr} {H:AH},SR E n0 H0 g0 S ρ ve lb g fr H->SV.bds S.n S.blks.length acc->n0.F.length<=m.out.blks.length->wp E HS Q (qE2 E m S acc l) ρ->
  ∃b e g' vs ds,v8 E fr H l=some vs/\SR E n0 H0 g0 (m.out.st (SV.vals ve lb acc++vs).length) ds b e g' ⟨(SV.vals ve lb acc++vs).length,n0.rd,T.ofList .leaf 0 (SV.vals ve lb acc++vs)⟩ H/\Q (.ret (gZ ds))/\ds.length=m.out.sts.length
 | [],acc,S,ρ,ve,lb,g,fr,H,h,j,z,c=>by
  simp only[qE2]at c
  have U:(SV.vals ve lb acc).length=acc.length:=by rw[SV.vals_map,List.length_map]
  have L:SR E n0 H0 g0 {S with slots:=T.ofList .leaf 0 acc,sz:=acc.length} ρ ve lb g ⟨acc.length,n0.rd,T.ofList .leaf 0 (SV.vals ve lb acc)⟩ H:=by
   refine {h with sz:=rfl,rd:=rfl,slots:=?_}
   intro t x k
   have k:(T.ofList .leaf 0 acc).get t=some x:=k
   rw[dQ]at k
   rw[SV.bds_iff]at j
   refine⟨j x (List.mem_of_getElem? k),?_⟩
   show(T.ofList .leaf 0 (SV.vals ve lb acc)).get t=_
   rw[mX,SV.vals_map,List.getElem?_map,k];rfl
  obtain⟨azq,b,g',M,c⟩:=qGM L c z
  refine⟨b,lb,g',[],_,rfl,?_,c,M.len⟩
  rw[List.append_nil,U]
  exact M
 | .tmp t::l,acc,S,ρ,ve,lb,g,fr,H,h,j,z,c=>by
  simp only[qE2]at c
  split at c
  ·rename_i x k
   obtain⟨G,F⟩:=h.slots t x k
   obtain⟨b,e,g',vs,ds,C,q,B,A⟩:=qE1 l (acc++[x]) h (by
    rw[SV.bds_iff]at j ⊢
    intro u hu
    rcases List.mem_append.1 hu with hu|hu
    ·exact j u hu
    simp only[List.mem_singleton]at hu;subst hu;exact G) z c
   refine⟨b,e,g',x.val ve lb::vs,ds,by simp only[v8,F,C,Option.map_some],?_,B,A⟩
   rw[yS]at q
   simpa[SV.vals]using q
  cases c
 | .cell a t::l,acc,S,ρ,ve,lb,g,fr,H,h,j,z,c=>by
  simp only[qE2]at c
  split at c
  ·rename_i p R
   obtain⟨G,F⟩:=h.slots a p R
   obtain⟨y,V,P,r,g1,O,L,I,s1,s2⟩:=qBb h G c
   obtain⟨b,e,g',vs,ds,C,q,B,A⟩:=qE1 l (acc++[y]) L (by
    have w:=O.bds j
    rw[SV.bds_iff]at w ⊢
    intro u hu
    rcases List.mem_append.1 hu with hu|hu
    ·exact w u hu
    simp only[List.mem_singleton]at hu;subst hu;exact s1) z I
   refine⟨b,e,g',y.val r lb::vs,ds,by simp only[v8,F,Option.bind_some,s2,C,Option.map_some],?_,B,A⟩
   rw[yS]at q
   have:SV.vals r lb acc=SV.vals ve lb acc:=SV.vals_congr O.ve (λ_ _=>rfl) j
   rw[this]at q
   simpa[SV.vals]using q
  cases c
theorem qSy{m:Mode}{rs:List ResultVar}{d:D}(A:∀l,Q (.ret l)->l=d)(B:n0.F.length<=m.out.blks.length):qHJ E n0 H0 g0 Q (qHc E m rs) (qX6 E n0 H0 g0 m rs d):=by
 intro e S ρ ve lb g fr H h c
 have main:wp E (Holds E) Q (qE2 E m S [] rs) ρ->∃vs ve lb g' ds,v8 E fr H rs=some vs/\d=gZ ds/\ds.length=m.out.sts.length/\SM n0 (m.out.st 0) ds ve lb g' H/\(∀t x,(m.out.st 0).slots.get t=some x->x.bd (m.out.st 0).n (m.out.st 0).blks.length/\vs[t]? = some (x.val ve lb))/\
  (∀b,n0.K b->H.blocks.get b=H0.blocks.get b)/\(∀b,n0.K b->g' b=g0 b)/\Nat.min H0.low n0.n<=H.low:=by
  intro c
  obtain⟨j,k,g',vs,ds,u,y,r,p⟩:=qE1 rs [] h trivial B c
  refine⟨vs,j,k,g',ds,u,(A _ r).symm,p,{y.toSM with},?_,y.keep,y.gk,y.low⟩
  intro t x z
  obtain⟨w,q⟩:=y.slots t x z
  refine⟨w,?_⟩
  simp only[SV.vals,List.nil_append]at q
  rw[mX]at q
  exact q
 cases e with
 |normal=>exact⟨.inl rfl,main c⟩
 |ret=>exact⟨.inr rfl,main c⟩
 |exit id=>cases c
def fI:Nat->List (Nat×SV)->Bool
 |_,[]=>true
 |n,(t,_)::r=>Nat.beq t n&&fI (n+1) r
theorem qLV:∀(l:List (Nat×SV)) (n:Nat) (y:T SV),fI n l=true->∀(i:Nat) (x:SV),(l.map Prod.snd)[i]? = some x->(l.foldl (λt (p:Nat×SV)=>t.put p.1 (some p.2)) y).get (n+i)=some x:=by
 have keep:∀(l:List (Nat×SV)) (n:Nat) (y:T SV),fI n l=true->∀j,j<n->(l.foldl (λt (p:Nat×SV)=>t.put p.1 (some p.2)) y).get j=y.get j:=by
  intro l;induction l with
  |nil=>intro n y _ j _;rfl
  |cons p l ih=>intro n y h j c;simp only[fI,zR]at h;have e:=vP h.1;rw[List.foldl_cons,ih (n+1) _ h.2 j (by omega),T.get_put,if_neg (by omega)]
 intro l;induction l with
 |nil=>intro n y _ i x b;simp at b
 |cons p l ih=>
  intro n y h i x b;simp only[fI,zR]at h;have e:=vP h.1;cases i with
  |zero=>simp at b;rw[List.foldl_cons,keep l (n+1) _ h.2 (n+0) (by omega),T.get_put,if_pos (by omega),b]
  |succ i=>have:=ih (n+1) (y.put p.1 (some p.2)) h.2 i x (by simpa using b);rw[List.foldl_cons,show n+(i+1)=n+1+i by omega];exact this
theorem qJx{ve:Nat->Value}{lb:Nat->Nat}:∀(xs:List SV) (vs:List Value),vs.length=xs.length->(∀(i:Nat) (x:SV),xs[i]? = some x->vs[i]? = some (x.val ve lb))->vs=SV.vals ve lb xs
 | [],[],_,_=>rfl
 | [],_::_,h,_=>by simp at h
 |_::_,[],h,_=>by simp at h
 |x::xs,v::vs,h,b=>by
  have c:=b 0 x rfl;simp at c;simp only[SV.vals,c]
  congr 1
  exact qJx xs vs (by simpa using h) λi y e=>by simpa using b (i+1) y (by simpa using e)
theorem dK:∀{rs:List ResultVar} {fr:Fr} {H:AH} {vs:List Value},v8 E fr H rs=some vs->vs.length=rs.length
 | [],_,_,_,h=>by simp only[v8,oI]at h;subst h;rfl
 |.tmp t::rs,fr,H,vs,h=>by
  simp only[v8]at h;split at h
  ·simp only[Option.map_eq_some_iff]at h;obtain⟨l,x,rfl⟩:=h;simp[dK x]
  cases h
 |.cell a t::rs,fr,H,vs,h=>by
  simp only[v8]at h;split at h
  ·simp only[Option.map_eq_some_iff]at h;obtain⟨l,x,rfl⟩:=h;simp[dK x]
  cases h
theorem SM.raise{L:Lim}{S:St}{ρ:List D}{ve:Nat->Value}{lb:Nat->Nat}{g:zG}{H:AH}(h:SM L S ρ ve lb g H):SM L S ρ ve lb g {H with next:=H.next+1}:=
 {h with wf:=λb k x=>⟨(h.wf b k x).1,Nat.lt_succ_of_lt (h.wf b k x).2⟩,base:=h.base.mono (Nat.le_succ _)}
theorem SM.relb{L:Lim}{S:St}{ρ:List D}{ve:Nat->Value}{lb y:Nat->Nat}{g:zG}{H:AH}(h:SM L S ρ ve lb g H)(e:∀b,b<S.blks.length->y b=lb b):SM {L with F:=[]} S ρ ve y g H:=by
 have el:∀{b},S.live b->y b=lb b:=λc=>e _ (qBe c);refine {len:=h.len,wf:=h.wf,mem:=h.mem,base:=h.base,fix:=⟨Nat.zero_le _,λk a G=>by simp at G⟩,vars:=?_,blks:=?_,sepLG:=λb c=>by rw[el c];exact h.sepLG b c,sepFG:=h.sepFG,sepL:=λa b r c=>by rw[el r,el c];exact h.sepL a b r c,sepF:=h.sepF,sepX:=λb i c=>by rw[el c];exact h.sepX b i c}
 ·intro i s C;have:=h.vars i s C;obtain⟨k,M⟩:=s;refine⟨this.1,?_⟩;have u:=this.2;cases k<;>try exact u
  rcases u with q|⟨B,l,cs,vs,el,rt,sz,es,q⟩|⟨B,es,ck,rt,A,I,q⟩
  ·exact .inl q
  ·exact .inr (.inl ⟨B,l,cs,vs,el,rt,sz,es,{q with rt:=q.rt}⟩)
  exact .inr (.inr ⟨B,es,ck,rt,A,I,{q with rt:=q.rt}⟩)
 intro b x p;obtain⟨j,z⟩:=h.blks b x p;have c:y b=lb b:=el ⟨x,p⟩;refine⟨j,?_⟩;have:rE L (getD ρ) ve y H.blocks.get (y b) x:=z.congr (by rw[c]) c λ_ w=>w.congr (λ_ _=>rfl) e (λ_ _=>rfl) j;cases x<;>exact this
def qIs(m:Mode)(h:Nat):Bool:=Nat.beq m.out.blks.length m.inp.blks.length&&fI 0 m.out.slots&&Nat.beq m.out.slots.length h
theorem uY(he:EOk E){f:FuncId}{fn:Func}{c:Code}(hf:E.funcs.get f=some fn)(z:fn.body=some c){pats:Nat->Pat}{Z:Nat->Tree}{m:Mode}{ds:List D}{d:D}(hm:qIs m fn.results.toList.length=true)(hP:∀k,m.inp.blks.length<=(pats k).blks.length)(h0:qGd E (λk S=>jI (Nat.max fn.ntmps m.n) (pats k) k S) fn m=Z 0)(hT:∀x∈xB E (λk=>(pats k).st (Nat.max fn.ntmps m.n)) (λk S=>jI (Nat.max fn.ntmps m.n) (pats k) k S) 1 c (qHc E m fn.results.toList),Z x.1=x.2)(y:qE E (Holds E) Z 0 ds d)(hd:∃j,d=gZ j/\j.length=m.out.sts.length):Holds E (Nat.add cQ f) (.mode m::ds) d:=by
 refine .inr ⟨f,m,ds,rfl,rfl,⟨fn,hf⟩,?_⟩;obtain⟨W,P,O⟩:=hd;refine⟨W,P,O,λL H g ve lb l u G U=>?_⟩;simp only[qIs,zR]at hm;obtain⟨⟨m1,m2⟩,m3⟩:=hm;have m1:=vP m1;have m3:=vP m3;have V:L.F.length=m.inp.blks.length:=by rw[U];simp
 obtain⟨n,y⟩:=y;cases n with
 |zero=>cases y
 | succ n=>
  have h:wp E (Holds E) (λr=>match r with|.ret X=>X=d|.jump k' ds=>qW7 E (Holds E) Z n k' ds d) (Z 0) ds:=y;rw[←h0]at h;simp only[qGd,z]at h;have hs:SR E L H g (m.inp.st (Nat.max fn.ntmps m.n)) ds ve lb g ⟨Nat.max fn.ntmps m.n,false,T.ofList .leaf 0 l⟩ H:={u with sz:=rfl,rd:=u.rd,slots:=u.slots};have F:∀Q:Res1->Prop,(∀X,Q (.ret X)->X=d)->qHJ E L H g Q (qHc E m fn.results.toList) (qX6 E L H g m fn.results.toList d):=λQ hQ=>qSy hQ (by rw[V,m1];exact vE _);have hj:=qCk (n0:=L) (H0:=H) (g0:=g) (c0:=c) (κ0:=qHc E m fn.results.toList) (K0:=qX6 E L H g m fn.results.toList d) he rfl hT F (λk=>by rw[V];exact hP k) n;obtain⟨e,fr1,H1,A,he',vs,p,lb',g',j,hv,hdd,M,B,hsl,hk,hgk,C⟩:=dG he hj c 1 _ _ .root (F _ λX hd'=>hd') _ _ _ _ _ _ _ hs h;have R:W=j:=qGe (P.symm.trans hdd) (by rw[O,M]);subst R;have I:∀b,b<(m.out.st 0).blks.length->lb b=lb' b:=by
   intro b z;have z:b<m.inp.blks.length:=by rw[←m1];exact z
   refine(B.fix.2 b (lb b) ?_).symm;rw[U,List.getElem?_map,List.getElem?_range z];rfl
  have q:vs=SV.vals p lb (m.out.slots.map Prod.snd):=by refine qJx _ _ (by rw[dK hv,List.length_map,m3]) λi x A=>?_;have hg:=qLV m.out.slots 0 .leaf m2 i x A;rw[Nat.zero_add]at hg;obtain⟨q1,q2⟩:=hsl i x hg;rw[q2,SV.val_congr (λ_ _=>rfl) I q1]
  rw[←G]at A;have w:jV E f l H (qRp m p lb) H1:=by
   refine vC.call he hf z A he' ?_;rw[hv,q];unfold qRp;generalize m.out.slots=sl
   match sl with
   | []=>rfl
   | [(_,_)]=>rfl
   |_::_::_=>rfl
  refine⟨_,{H1 with next:=H1.next+1},g',p,w.raise,Nat.lt_succ_of_le A.1,(B.relb I).raise,hk,hgk,C,rfl⟩
end
end Go.Am
