/- A region whose order is drawn: one operation more, in any order. Conditions: none. -/
import Derived.Test.YtocbbgmhkhallaaGreatDoorAm5
set_option linter.unusedVariables false
set_option linter.unusedSimpArgs false
namespace Go.Am
open Go
abbrev ak:=@List.getElem?_eq_getElem
abbrev bj:=@Nat.beq_refl
abbrev ej:=@List.cons_append
abbrev gg:=@Option.getD_some
abbrev gq:=@Go.Steps.refl
abbrev jn:=@List.mem_filterMap
abbrev jq:=@List.nodup_nil
abbrev ju:=@Nat.lt_trichotomy
abbrev jz:=@List.range'_succ
variable{fr fr':Fr}{i:Nat}{o:Oper}{v:LQ}{w':LP}
section
variable{E:Env}{ih:Cmd->AH->xM}{ts:List (Nat×Nat)}{ops:LF}{da:Nat->Fr}{Hs:Nat->AH}{σ0 σ:vO}{w0 w:LP}{t:Nat}{S:Nat->Prop}{tmps:LD}
theorem qKn{d:Option Tmp}(h:yI fr d v=some fr'):fr'.sz=fr.sz:=by unfold yI at h;grind
theorem Trace.sz(y:Trace E ih ts ops da Hs):∀{i:Nat},i<=ops.size->(da i).sz=(da 0).sz
 |0,_=>rfl
 |i+1,h=>by
  rw[←y.sz (i:=i) (by omega)];obtain⟨o,_,x⟩:=y.step i (by omega);rcases x with x|⟨v,Q,x,_⟩
  ·exact qKn x.2.1
  exact qKn x.2.2.2
theorem Inv.apart(B:TF E ih ts ops da Hs)(x:Inv E ih ts ops da Hs σ0 w0 t S σ w tmps)(F:¬S i)(p:i<ops.size)(h:∀a,Anc ops.toList a i->S a)(g:xW ops.toList i=false){j:Nat}(q:qBu E ih ts ops da Hs j)(y:j≠i)(C:(t<=j/\j<i)∨(i<j/\j<t)):NF ts Hs j/\∀A,(j,A)∈ts->A∈qV ops.toList i ts:=by
 refine iQ B p q y g ?_;cases u:rO (kS ops.toList) j i with
 |false=>rfl
 |true=>
  rcases C with⟨z,r⟩|⟨z,r⟩
  ·exact absurd (h j ((bR u).1 r)) (x.a2 j z q)
  exact absurd (x.down j i (x.a1 j r q) ((bR u).2 (by omega))) F
theorem Inv.content(hu:rX ih)(G:Trace E ih ts ops da Hs)(F:TF E ih ts ops da Hs)(z:Inv E ih ts ops da Hs σ0 w0 t S σ w tmps)(N:¬S i)(L:i<ops.size)(g:∀a,Anc ops.toList a i->S a)(K:xW ops.toList i=false){b:Nat}{k:ABlk}(I:(Hs i).blocks.get b=some k)(V:b∉qV ops.toList i ts):rV Hs ops.size t b=some k:=by
 have x:∀i j,i<=j->j<=ops.size->(Hs i).next<=(Hs j).next:=λi j C y=>G.ni hu C y;have B:=(F.wf i (by omega) b k I).2;have A:∀j,qBu E ih ts ops da Hs j->j≠i->((t<=j/\j<i)∨(i<j/\j<t))->NF ts Hs j/\(j,b)∉ts:=by intro j u C y;obtain⟨X,W⟩:=z.apart F N L g K u C y;grind
 have r:=z.rn;by_cases J:t<=i
 ·by_cases p:b<(Hs t).next
  ·rw[o9 p,←kO hu G F p J (by omega) (λj C y u=>A j u (by omega) (.inl ⟨C,y⟩)),I]
  obtain⟨q,U,Q,O,M⟩:=qB2 (Hs:=Hs) (n:=ops.size) (ops.size-t) t (by omega) (by omega) (bp B (x i ops.size (by omega) (vP _)));have R:q<i:=by
   rcases ir q i with h|h
   ·exact h
   have:=x i q h (by omega);omega
  rw[uN x Q O M (q-t) t (by omega),←kO hu G F M (show q+1<=i by omega) (by omega) (λj C y u=>A j u (by omega) (.inl ⟨by omega,y⟩)),I]
 have p:b<(Hs t).next:=bp B (x i t (by omega) r);rw[o9 p,kO hu G F B (show i<=t by omega) r (λj C y u=>?_),I];by_cases e:j=i
 ·subst e;exact absurd (z.a1 j y u) N
 exact A j u e (.inr ⟨by omega,y⟩)
theorem Inv.view(hu:rX ih)(F:Trace E ih ts ops da Hs)(C:TF E ih ts ops da Hs)(inv:Inv E ih ts ops da Hs σ0 w0 t S σ w tmps)(G:¬S i)(A:i<ops.size)(x:∀a,Anc ops.toList a i->S a)(z:xW ops.toList i=false):HR E σ (vI (Hs i) (qV ops.toList i ts)) w:=by
 have g:∀b k,(vI (Hs i) (qV ops.toList i ts)).blocks.get b=some k->(Hs i).blocks.get b=some k/\rV Hs ops.size t b=some k:=by
  intro b k h;rw[show(vI (Hs i) (qV ops.toList i ts)).blocks=lW (Hs i).blocks (qV ops.toList i ts)from rfl,yZ]at h;split at h
  ·cases h
  rename_i I;exact⟨h,inv.content hu F C G A x z h I⟩
 exact⟨λb k L B=>inv.kq b k L (g b k B).2,λq p j y u r K J=>inv.sep q p j y u r (g _ _ K).2 (g _ _ J).2,inv.la,λb k B=>C.wf i (by omega) b k (g b k B).1⟩
theorem Inv.done(y:Inv E ih ts ops da Hs σ0 w0 t S σ w tmps)(g:i<ops.size)(h:∀a,Anc ops.toList a i->S a):(∀j a,(S j∨j=i)->Anc ops.toList a j->(S a∨a=i))/\∀j,(S j∨j=i)->j<ops.size:=by
 refine⟨λj a x p=>?_,λj x=>?_⟩
 ·rcases x with x|rfl
  ·exact .inl (y.down j a x p)
  exact .inl (h a p)
 rcases x with x|rfl
 ·exact y.slt j x
 exact g
theorem Inv.nu(h:Inv E ih ts ops da Hs σ0 w0 t S σ w tmps){b:Nat}{k:ABlk}{L:Loc}(y:rV Hs ops.size t b=some k)(x:σ b=some L):L.hS<w.heap.size:=by obtain⟨o,g,_⟩:=h.kq b k L y x;grind
theorem Inv.pure(hreg:b9 ops.toList=true)(hu:rX ih)(tr:Trace E ih ts ops da Hs)(tf:TF E ih ts ops da Hs)(hfree0:yU σ0 (Hs 0).next (Hs ops.size).next)(x:Inv E ih ts ops da Hs σ0 w0 t S σ w tmps)(hi:¬S i)(F:i<ops.size)(u:∀a,Anc ops.toList a i->S a)(hnb:xW ops.toList i=false)(ho:ops[i]? = some o){v':LQ}{Q:AH}(hrun:qIq E ih (qV ops.toList i ts) ops (da i) (Hs i) (da (i+1)) (Hs (i+1)) o v Q)(hp:(Hs i).next<=Q.low)(hWn:∀b∈qV ops.toList i ts,b<(Hs i).next∨Q.next<=b){σ':vO}(st:Step E σ (vI (Hs i) (qV ops.toList i ts)) w σ' Q w')(hv:VR σ' v v'):Inv E ih ts ops da Hs σ0 w0 t (λj=>S j∨j=i) σ' w' (oG tmps o.dst v'):=by
 have g:∀i j,i<=j->j<=ops.size->(Hs i).next<=(Hs j).next:=λi j h1 h2=>tr.ni hu h1 h2;obtain⟨h1,h2,h3,h4⟩:=hrun;have eQ:Q.next=(Hs (i+1)).next:=by rw[h3];rfl
 have I:=x.view hu tr tf hi F u hnb;have p1:=st.p1 I hp;have p3:=st.p3 I hp;have W:¬qBu E ih ts ops da Hs i:=by rintro⟨o',v2,Q2,ho2,hr2,hn2⟩;rw[ho]at ho2;cases ho2;have:=h2.symm.trans hr2.2.1;cases this;exact hn2 hp
 have O:yU σ (Hs i).next Q.next:=λb K G=>x.free i F hi b K (by omega);have hle:vO.le σ σ':=st.le O;have hnext:=tr.next hu F;have q:∀b k,(Hs i).next<=b->b<(Hs (i+1)).next->rV Hs ops.size t b=some k->Q.blocks.get b=some k:=by
  intro b k K G R;have Z:rV Hs ops.size t b=(Hs (i+1)).blocks.get b:=by
   by_cases hti:t<=i
   ·exact uN g F K G (i-t) t (by omega)
   ·have hbt:b<(Hs t).next:=bp G (g (i+1) t (by omega) x.rn);rw[o9 hbt];refine kO hu tr tf G (by omega) x.rn λj q1 q2 hj=>?_;obtain⟨g3,g4⟩:=x.apart tf hi F u hnb hj (by omega) (.inr ⟨by omega,q2⟩);grind
  rw[Z,h3]at R;have:(yV Q.blocks (Hs i).blocks (qV ops.toList i ts)).get b=some k:=R;rw[wS]at this;grind
 have p:∀b,¬((Hs i).next<=b/\b<(Hs (i+1)).next)->σ' b=σ b:=by intro b J;exact st.ext b (by show b<(Hs i).next∨Q.next<=b;omega)
 obtain⟨X,hslt⟩:=x.done F u;obtain⟨hsl,hsz⟩:=cO hreg tr x.down ho hi hle x.qx (tr.sz (by omega)) x.af h4 hv
 refine { rn:=x.rn,a1:=λj K G=>.inl (x.a1 j K G),a2:=?_,a3:=x.a3,down:=X,slt:=hslt,kq:=?_,sep:=?_,la:=st.hr.la,free:=?_,ext:=?_,qx:=hsz,af:=hsl,
          size:=lT x.size st.size,tape:=st.tape.trans x.tape,os:=st.os.trans x.os,output:=⟨st.output.1.trans x.output.1,λe=>lT (x.output.2 e) (st.output.2 e)⟩,frame:=?_,origin:=?_}
 ·rintro j K G (g3|rfl)
  ·exact x.a2 j K G g3
  ·exact W G
 ·intro b k L R V;by_cases J:(Hs i).next<=b/\b<(Hs (i+1)).next
  ·exact st.hr.kq b k L (q b k J.1 J.2 R) V
  ·rw[p b J]at V;obtain⟨o',K,G⟩:=x.kq b k L R V;exact⟨o',by rw[p1 _ (x.nu R V)];exact K,G.mono hle⟩
 ·intro r y C z N M c1 c2 own s1 s2 hne;by_cases U:(Hs i).next<=r/\r<(Hs (i+1)).next
  ·have q1:=q r C U.1 U.2 c1;by_cases A:(Hs i).next<=y/\y<(Hs (i+1)).next
   ·exact st.hr.sep r y C z N M q1 (q y z A.1 A.2 c2) own s1 s2 hne
   ·rw[p y A]at s2;have:=p3 r C N U.1 q1 s1;have:=x.nu c2 s2;omega
  ·rw[p r U]at s1;by_cases A:(Hs i).next<=y/\y<(Hs (i+1)).next
   ·have:=p3 y z M A.1 (q y z A.1 A.2 c2) s2;have:=x.nu c1 s1;omega
   ·rw[p y A]at s2;exact x.sep r y C z N M c1 c2 own s1 s2 hne
 ·intro j hj hnj b K G;have hji:j≠i:=λe=>hnj (.inr e);have:¬((Hs i).next<=b/\b<(Hs (i+1)).next):=by
   rintro⟨q1,q2⟩;by_cases hlt2:j<i
   ·have:=g (j+1) i (by omega) (by omega);omega
   ·have:=g (i+1) j (by omega) (by omega);omega
  rw[p b this];exact x.free j hj (λh=>hnj (.inl h)) b K G
 ·intro b J;have:¬((Hs i).next<=b/\b<(Hs (i+1)).next):=by rintro⟨q1,q2⟩;have:=g 0 i (by omega) (by omega);have:=g (i+1) ops.size (by omega) (vP _);omega
  rw[p b this];exact x.ext b J
 ·intro B hB hx;rw[p1 B (bp hB x.size)];exact x.frame B hB hx
 ·intro b k L R own V;by_cases J:(Hs i).next<=b/\b<(Hs (i+1)).next
  ·have:=p3 b k L J.1 (q b k J.1 J.2 R) V;exact .inl (lT x.size this)
  ·rw[p b J]at V;exact x.origin b k L R own V
theorem Inv.skip(u:b9 ops.toList=true)(J:Trace E ih ts ops da Hs)(inv:Inv E ih ts ops da Hs σ0 w0 t S σ w tmps)(N:¬S i)(I:i<ops.size)(x:∀a,Anc ops.toList a i->S a)(K:ops[i]? = some o)(r:qIp ops (da i) (Hs i) (da (i+1)) (Hs (i+1)) o):Inv E ih ts ops da Hs σ0 w0 t (λj=>S j∨j=i) σ w (oG tmps o.dst undef):=by
 obtain⟨Q,O,h3⟩:=r;have y:¬qBu E ih ts ops da Hs i:=by rintro⟨U,v2,V,z,F,L⟩;rw[K]at z;cases z;exact absurd (Q.symm.trans F.1) (by simp)
 obtain⟨g,q⟩:=inv.done I x;obtain⟨C,B⟩:=cO u J inv.down K N (vO.le_refl σ) inv.qx (J.sz (by omega)) inv.af O (v':=undef) (.tuple .nil);refine {inv with a1:=λj A p=>.inl (inv.a1 j A p),a2:=?_,down:=g,slt:=q,free:=?_,qx:=B,af:=C}
 ·rintro j A p (R|rfl)
  ·exact inv.a2 j A p R
  exact y p
 exact λj M G b A p=>inv.free j M (λh=>G (.inl h)) b A p
theorem qMN(he:EOk E){H Q:AH}{a:Act}(r:iI o.op=true)(h:jA E ih fr o H=some (v,Q))(g:∀x∈o.op.operands.toList,∀v,ev E fr x=some v->VR σ v (a.eval x)):Q=H/\∃v',(execOp a.eval o).run E.prog w=.ok (.value v') w/\VR σ v v':=by
 unfold jA jH at h;cases y:o.op<;>rw[y]at r<;>simp only[iI]at r<;>try(cases r;done)
 all_goals simp only[y,Op.operands]at g
 all_goals simp only[execOp,y]
 ·rename_i x;rw[y]at h;simp only[one]at h;cases hv:ev E fr x with
  |none=>rw[hv]at h;simp at h
  |some p=>rw[hv]at h;simp at h;obtain⟨rfl,rfl⟩:=h;exact⟨rfl,_,rfl,g _ (by simp) _ hv⟩
 ·rename_i x;rw[y]at h;simp only[one]at h;cases hv:ev E fr x with
  |none=>rw[hv]at h;simp at h
  |some p=>rw[hv]at h;simp at h;obtain⟨rfl,rfl⟩:=h;exact⟨rfl,_,rfl,g _ (by simp) _ hv⟩
 rename_i x i;rw[y]at h;simp only[one]at h;cases hv:ev E fr x with
 |none=>rw[hv]at h;simp at h
 | some p=>
  rw[hv]at h;cases p with
  | tuple vs=>
   simp only at h;cases q:vs.toList[i]? with
   |none=>rw[q]at h;simp at h
   |some u=>
    rw[q]at h;simp at h;obtain⟨rfl,rfl⟩:=h;have j:=g _ (by simp) _ hv;generalize G:a.eval x=F at j;cases j with
    |leaf A=>simp[v8]at A
    |tuple z=>obtain⟨v',C,B⟩:=z.get _ _ q;refine⟨rfl,v',?_,B⟩;simp only[Instr.extract,ft,C,ax,au,ah]
  |_=>simp at h
theorem Inv.blind(r:b9 ops.toList=true)(I:Trace E ih ts ops da Hs)(K:TF E ih ts ops da Hs)(inv:Inv E ih ts ops da Hs σ0 w0 t S σ w tmps)(N:¬S i)(z:i<ops.size)(x:∀a,Anc ops.toList a i->S a)(L:ops[i]? = some o)(J:xW ops.toList i=true){v':LQ}(u:yI (da i) o.dst v=some (da (i+1)))(hv:VR σ v v'):Inv E ih ts ops da Hs σ0 w0 t (λj=>S j∨j=i) σ w (oG tmps o.dst v'):=by
 have y:¬qBu E ih ts ops da Hs i:=λA=>by rw[K.nb i z A]at J;cases J
 obtain⟨g,q⟩:=inv.done z x;obtain⟨F,C⟩:=cO r I inv.down L N (vO.le_refl σ) inv.qx (I.sz (by omega)) inv.af u (v':=v') hv;refine {inv with a1:=λj B p=>.inl (inv.a1 j B p),a2:=?_,down:=g,slt:=q,free:=?_,qx:=C,af:=F}
 ·rintro j B p (O|rfl)
  ·exact inv.a2 j B p O
  exact y p
 exact λj M G b B p=>inv.free j M (λh=>G (.inl h)) b B p
theorem qAq(P:Nat->Prop)(n:Nat):∀(d t:Nat),t+d=n->∃q,t<=q/\q<=n/\(q=n∨P q)/\∀j,t<=j->j<q->¬P j
 |0,t,e=>⟨n,by omega,vP _,.inl rfl,λj y x=>by omega⟩
 |d+1,t,e=>by
  by_cases h:P t
  ·grind
  obtain⟨q,y,x,h3,g⟩:=qAq P n d (t+1) (by omega);grind
theorem Inv.bar(hreg:b9 ops.toList=true)(hu:rX ih)(tr:Trace E ih ts ops da Hs)(tf:TF E ih ts ops da Hs)(x:Inv E ih ts ops da Hs σ0 w0 t S σ w tmps)(hi:¬S i)(hlt:i<ops.size)(F:∀a,Anc ops.toList a i->S a)(hnb:xW ops.toList i=false)(ho:ops[i]? = some o){v':LQ}{Q:AH}(hrun:qIq E ih (qV ops.toList i ts) ops (da i) (Hs i) (da (i+1)) (Hs (i+1)) o v Q)(hp:¬(Hs i).next<=Q.low){σ':vO}(st:Step E σ (vI (Hs i) (qV ops.toList i ts)) w σ' Q w')(hv:VR σ' v v'):∃t',Inv E ih ts ops da Hs σ0 w0 t' (λj=>S j∨j=i) σ' w' (oG tmps o.dst v'):=by
 have y:∀i j,i<=j->j<=ops.size->(Hs i).next<=(Hs j).next:=λi j h1 h2=>tr.ni hu h1 h2;have hbar:qBu E ih ts ops da Hs i:=⟨o,v,Q,ho,hrun,hp⟩;have hit:i=t:=by
  rcases ju i t with h|h|h
  ·exact absurd (x.a1 i h hbar) hi
  ·exact h
  ·have htb:qBu E ih ts ops da Hs t:=x.a3.resolve_left (by omega);have:=qMO tf hbar htb (by omega);exact absurd (F t ((bR this).1 h)) (x.a2 t (vP _) htb)
 subst hit;have hview:=x.view hu tr tf hi hlt F hnb;obtain⟨h1,h2,h3,h4⟩:=hrun;have hW:qV ops.toList i ts=[]:=(tf.bars i hlt hbar).1;rw[hW]at h2 h3 st hview;have eQ:Q.next=(Hs (i+1)).next:=by rw[h3];rfl
 have eB:∀b,(Hs (i+1)).blocks.get b=Q.blocks.get b:=by intro b;rw[h3];rfl
 have eV:∀b,(vI (Hs i) []).blocks.get b=(Hs i).blocks.get b:=λb=>rfl;have hfreei:yU σ (Hs i).next Q.next:=λb C u=>x.free i hlt hi b C (by omega);have hle:vO.le σ σ':=st.le hfreei;have p:∀b,¬((Hs i).next<=b/\b<(Hs (i+1)).next)->σ' b=σ b:=by intro b G;exact st.ext b (by show b<(Hs i).next∨Q.next<=b;omega)
 have hnext:=tr.next hu hlt;obtain⟨t',q1,q2,q3,q4⟩:=qAq (qBu E ih ts ops da Hs) ops.size (ops.size-(i+1)) (i+1) (by omega);have K:∀b,b<(Hs (i+1)).next->rV Hs ops.size t' b=Q.blocks.get b:=by intro b G;rw[o9 (bp G (y (i+1) t' q1 q2)),kO hu tr tf G q1 q2 (λj C u hj=>absurd hj (q4 j C u)),eB]
 have A:∀b,¬b<(Hs (i+1)).next->rV Hs ops.size t' b=rV Hs ops.size i b:=by
  intro b G;by_cases hbn:b<(Hs ops.size).next
  ·obtain⟨q,C,u,g3,g4⟩:=qB2 (Hs:=Hs) (n:=ops.size) (ops.size-(i+1)) (i+1) (by omega) (by omega) hbn;rw[uN y u g3 g4 (q-i) i (by omega)];by_cases hqt:t'<=q
   ·exact uN y u g3 g4 (q-t') t' (by omega)
   ·rw[o9 (bp g4 (y (q+1) t' (by omega) q2))];exact kO hu tr tf g4 (by omega) q2 (λj X k2 hj=>absurd hj (q4 j (by omega) k2))
  ·rw[iG y (by omega) (ops.size-t') t' (by omega),iG y (by omega) (ops.size-i) i (by omega)]
 have z:∀b,b<(Hs i).next->rV Hs ops.size i b=(Hs i).blocks.get b:=λb G=>o9 G;obtain⟨hdown,hslt⟩:=x.done hlt F;obtain⟨hsl,hsz⟩:=cO hreg tr x.down ho hi hle x.qx (tr.sz (by omega)) x.af h4 hv;have pend:∀b k L,¬b<(Hs (i+1)).next->rV Hs ops.size i b=some k->σ b=some L->w'.heap[L.hS]? = w.heap[L.hS]? :=by intro b k L G Z hs;refine st.frame _ (x.nu Z hs) λI X L1 C u g3 _=>?_;have hb1:=(tf.wf i (by omega) I X C).2;exact x.sep I b X k L1 L (by rw[z I hb1];exact C) Z u g3 hs (by omega)
 have from':∀I X L1,Q.blocks.get I=some X->σ' I=some L1->∀b2 k2 L2,¬b2<(Hs (i+1)).next->rV Hs ops.size i b2=some k2->σ b2=some L2->(X.own=true∨k2.own=true)->L1.hS≠L2.hS:=by
  intro I X L1 C u b2 k2 L2 N hc2 hs2 J;have hb1:=(st.hr.wf I X C).2;by_cases hold1:I<(Hs i).next
  ·obtain⟨k0,e1,e2,e3⟩:=st.kp I X C hold1;rw[p I (by omega)]at u;have c1:rV Hs ops.size i I=some k0:=by rw[z I hold1];exact e1
   rcases J with J|J
   ·exact x.sep I b2 k0 k2 L1 L2 c1 hc2 (by rw[e3];exact J) u hs2 (by omega)
   ·exact λe=>x.sep b2 I k2 k0 L2 L1 hc2 c1 J hs2 u (by omega) e.symm
  ·have hown1:=(st.born I X C (by show(Hs i).next<=I;omega)).2;rcases st.origin I X L1 C hown1 u with h|⟨b0,k0,L0,e1,e2,e3,e4,_⟩
   ·have:=x.nu hc2 hs2;omega
   ·have hb0:=(tf.wf i (by omega) b0 k0 e1).2;have:=x.sep b0 b2 k0 k2 L0 L2 (by rw[z b0 hb0];exact e1) hc2 e2 e3 hs2 (by omega);omega
 refine⟨t',?_⟩
 refine { rn:=q2,a1:=?_,a2:=?_,a3:=q3,down:=hdown,slt:=hslt,kq:=?_,sep:=?_,la:=st.hr.la,free:=?_,ext:=?_,qx:=hsz,af:=hsl,
          size:=lT x.size st.size,tape:=st.tape.trans x.tape,os:=st.os.trans x.os,output:=⟨st.output.1.trans x.output.1,λe=>lT (x.output.2 e) (st.output.2 e)⟩,frame:=?_,origin:=?_}
 ·intro j C u;rcases ju j i with h|h|h
  ·exact .inl (x.a1 j h u)
  ·exact .inr h
  ·exact absurd u (q4 j (by omega) C)
 ·rintro j C u (g3|rfl)
  ·exact x.a2 j (by omega) u g3
  ·omega
 ·intro b k L Z hs;by_cases G:b<(Hs (i+1)).next
  ·rw[K b G]at Z;exact st.hr.kq b k L Z hs
  ·rw[A b G]at Z;rw[p b (by omega)]at hs;obtain⟨o',C,u⟩:=x.kq b k L Z hs;exact⟨o',by rw[pend b k L G Z hs];exact C,u.mono hle⟩
 ·intro r g R O W V c1 c2 own s1 s2 hne;by_cases hb1:r<(Hs (i+1)).next
  ·rw[K r hb1]at c1;by_cases N:g<(Hs (i+1)).next
   ·rw[K g N]at c2;exact st.hr.sep r g R O W V c1 c2 own s1 s2 hne
   ·rw[A g N]at c2;rw[p g (by omega)]at s2;exact from' r R W c1 s1 g O V N c2 s2 (.inl own)
  ·rw[A r hb1]at c1;rw[p r (by omega)]at s1;by_cases N:g<(Hs (i+1)).next
   ·rw[K g N]at c2;exact λe=>from' g O V c2 s2 r R W hb1 c1 s1 (.inr own) e.symm
   ·rw[A g N]at c2;rw[p g (by omega)]at s2;exact x.sep r g R O W V c1 c2 own s1 s2 hne
 ·intro j hj hnj b C u;have hji:j≠i:=λe=>hnj (.inr e);have:¬((Hs i).next<=b/\b<(Hs (i+1)).next):=by
   rintro⟨X,k2⟩;by_cases hlt2:j<i
   ·have:=y (j+1) i (by omega) (by omega);omega
   ·have:=y (i+1) j (by omega) (by omega);omega
  rw[p b this];exact x.free j hj (λh=>hnj (.inl h)) b C u
 ·intro b G;have:¬((Hs i).next<=b/\b<(Hs (i+1)).next):=by rintro⟨X,k2⟩;have:=y 0 i (by omega) (by omega);have:=y (i+1) ops.size (by omega) (vP _);omega
  rw[p b this];exact x.ext b G
 ·intro B hB hx;rw [st.frame B (bp hB x.size) ?_]
  ·exact x.frame B hB hx
  ·intro b k L C u g3 g4 e;have G:=(tf.wf i (by omega) b k C).2;rcases x.origin b k L (by rw[z b G];exact C) u g3 with h|⟨M,U,L₀,e1,e2,e3,e4,e5⟩
   ·omega
   · have hlow:(Hs ops.size).low<=(Hs (i+1)).low:=by
       have:∀d j,j+d=ops.size->(Hs ops.size).low<=(Hs j).low:=by
         intro d
         induction d with
         | zero => intro j e;have:j=ops.size:=by omega
                   subst this;exact vP _
         |succ d IH=>intro j e;exact lT (IH (j+1) (by omega)) (tf.low j (by omega))
       exact this (ops.size-(i+1)) (i+1) (by omega)
     have hq:(Hs (i+1)).low<=Q.low:=by rw[h3];exact bq _ _
     exact hx M U L₀ e1 e2 e3 (by omega) (by omega)
 ·intro b k L Z own hs;by_cases G:b<(Hs (i+1)).next
  ·rw[K b G]at Z;rcases st.origin b k L Z own hs with h|⟨M,U,L₀,e1,e2,e3,e4,e5⟩
   ·exact .inl (lT x.size h)
   ·have hb0:=(tf.wf i (by omega) M U e1).2;rcases x.origin M U L₀ (by rw[z M hb0];exact e1) e2 e3 with h|⟨b',k',L',f1,f2,f3,f4,f5⟩
    ·exact .inl (by omega)
    ·exact .inr ⟨b',k',L',f1,f2,f3,by omega,by omega⟩
  ·rw[A b G]at Z;rw[p b (by omega)]at hs;exact x.origin b k L Z own hs
end
section
variable{E:Env}{ih:Cmd->AH->xM}{ts:List (Nat×Nat)}{ops:LF}{da:Nat->Fr}{Hs:Nat->AH}{σ0 σ:vO}{w0 w:LP}{t:Nat}{S:Nat->Prop}{tmps:LD}
def qQb(h:Array Bool):LI
 |0=>0
 |n+1=>qQb h n+(if h.getD n false=true then 0 else 1)
theorem qQa(h:Array Bool):∀n,qQb h n<=n
 |0=>vP _
 |n+1=>by have:=qQa h n;simp only[qQb];split<;>omega
theorem qHx(x:Array Bool)(y:i<x.size)(j:Nat):(x.setIfInBounds i true).getD j false=if j=i then true else x.getD j false:=by
 by_cases e:j=i
 ·subst e;simp[y]
 have:¬i=j:=λh=>e h.symm;simp_all
theorem qLh(h:Array Bool){i:Nat}(x:i<h.size)(y:h.getD i false=false):∀n,qQb (h.setIfInBounds i true) n+(if i<n then 1 else 0)=qQb h n
 |0=>by simp[qQb]
 |n+1=>by have g:=qLh h x y n;simp only[qQb,qHx h x n];grind
theorem qH2(x:Array Bool):∀n,qQb x n=0->∀j,j<n->x.getD j false=true
 |0,_,j,y=>by omega
 |n+1,h,j,y=>by
  simp only[qQb]at h;by_cases e:j=n
  ·grind
  exact qH2 x n (by omega) j (by omega)
theorem qAX{p:Nat}(h:p∈eH o):∃e∈o.after,e.on=p/\Region.binds .any e=true:=by unfold eH at h;simp only[jn]at h;obtain⟨e,he,x⟩:=h;refine⟨e,by simpa using he,?_⟩;unfold Region.binds;grind
theorem qHp(r:Trace E ih ts ops da Hs)(x:Tmp):∀m,m<=ops.size->∃j,j<=m/\(j=0∨∃p,j=p+1/\m8 ops p x)/\(∀p,p<m->m8 ops p x->p+1<=j)/\(da j).t.get x=(da m).t.get x:=by
 intro m;induction m with
 |zero=>intro _;exact⟨0,vP _,.inl rfl,λp h=>by omega,rfl⟩
 | succ m F=>
  intro G;obtain⟨j,I,C,h3,B⟩:=F (by omega);by_cases u:m8 ops m x
  ·grind
  refine⟨j,by omega,C,λp h A=>?_,?_⟩
  ·grind
  rw[B];obtain⟨q,z,y⟩:=r.step m (by omega);have g:q.dst≠some x:=λe=>u ⟨q,z,e⟩;have h:∃v,yI (da m) q.dst v=some (da (m+1)):=by
   rcases y with y|⟨v,Q,y,_⟩
   ·exact⟨_,y.2.1⟩
   exact⟨_,y.2.2.2⟩
  obtain⟨v,h⟩:=h;unfold yI at h;cases hd:q.dst with
  |none=>rw[hd]at h;rw[←du h]
  |some d=>
   rw[hd]at h g;simp only[jD]at h;split at h;case isFalse=>cases h
   rw[←du h];simp only[T.ch];grind
theorem Inv.start(hu:rX ih)(U:Trace E ih ts ops da Hs)(Z:TF E ih ts ops da Hs)(K:HR E σ0 (Hs 0) w0)(u:sO σ0 (da 0) tmps)(g:yU σ0 (Hs 0).next (Hs ops.size).next):∃t,Inv E ih ts ops da Hs σ0 w0 t (λ_=>False) σ0 w0 tmps:=by
 have y:∀i j,i<=j->j<=ops.size->(Hs i).next<=(Hs j).next:=λi j R Q=>U.ni hu R Q;obtain⟨t,_,J,q3,W⟩:=qAq (qBu E ih ts ops da Hs) ops.size ops.size 0 (by omega);have I:∀b k L,rV Hs ops.size t b=some k->σ0 b=some L->(Hs 0).blocks.get b=some k:=by
  intro b k L p hs;by_cases X:b<(Hs 0).next
  ·rw[o9 (bp X (y 0 t (by omega) J)),kO hu U Z X (by omega) J (λj A z O=>absurd O (W j A z))]at p;exact p
  ·by_cases hn:b<(Hs ops.size).next
   ·rw[g b (by omega) hn]at hs;cases hs
   ·rw[iG y (by omega) (ops.size-t) t (by omega)]at p;cases p
 refine⟨t,?_⟩
 refine { rn:=J,a1:=λj A z=>W j (by omega) A z,a2:=λ_ _ _ h=>h,a3:=q3,down:=λ_ _ h _=>h,slt:=λ_ h=>h.elim,
          kq:=λb k L p hs=>K.kq b k L (I b k L p hs) hs,sep:=λC B r q G F R Q M s1 V N=>K.sep C B r q G F (I _ _ _ R s1) (I _ _ _ Q V) M s1 V N,la:=K.la,
          free:=λj O _ b A z=>g b (lT (y 0 j (by omega) (by omega)) A) (bp z (y (j+1) ops.size (by omega) (vP _))),ext:=λ_ _=>rfl,qx:=u.1,
          af:=?_,size:=vP _,tape:=rfl,os:=rfl,output:=⟨rfl,λ_=>vP _⟩,frame:=λ_ _ _=>rfl,
          origin:=λb k L p M hs=>.inr ⟨b,k,L,I b k L p hs,M,hs,rfl,rfl⟩}
 intro j x v O hl hv;rcases hl.1 with rfl|⟨m,_,hm,_⟩
 ·exact u.2 x v hv
 ·exact hm.elim
theorem Inv.finish(hu:rX ih)(K:Trace E ih ts ops da Hs)(O:TF E ih ts ops da Hs)(y:∀j,j<ops.size->S j)(inv:Inv E ih ts ops da Hs σ0 w0 t S σ w tmps){I:vO}{wh:LP}(sh:Step E σ0 (Hs 0) w0 I (Hs ops.size) wh):Step E σ0 (Hs 0) w0 σ (Hs ops.size) w/\sO σ (da ops.size) tmps:=by
 have Q:t=ops.size:=by
  rcases inv.a3 with h|h
  ·exact h
  ·exact absurd (y t (qDy h)) (inv.a2 t (vP _) h)
 subst Q;have u:=O.wf ops.size (vP _);have G:∀b k,(Hs ops.size).blocks.get b=some k->rV Hs ops.size ops.size b=some k:=by intro b k g;rw[o9 (u b k g).2];exact g
 refine ⟨{ hr:=⟨λb k L g=>inv.kq b k L (G b k g),λB A r q F C J z=>inv.sep B A r q F C (G _ _ J) (G _ _ z),inv.la,u⟩,
           next:=sh.next,ext:=inv.ext,size:=inv.size,low:=sh.low,tape:=inv.tape,os:=inv.os,output:=inv.output,frame:=inv.frame,
           origin:=λb k L g=>inv.origin b k L (G b k g),kp:=sh.kp,hN:=sh.hN,born:=sh.born},?_,?_⟩
 ·rw[inv.qx,K.sz (vP _)]
 ·intro x v hv;obtain⟨j,J,z,h3,R⟩:=qHp K x ops.size (vP _);refine inv.af j x v J ⟨?_,λm U M=>h3 m (qOZ M) M⟩ (by rw[R];exact hv);rcases z with z|⟨p,rfl,N⟩
  ·exact .inl z
  ·exact .inr ⟨p,rfl,y p (qOZ N),N⟩
theorem qLI(he:EOk E)(hc:∀f args H v H',ih (.call f args) H=some (.val v,H')->xK E f args H v H')(hro:∀l args H v H',ih (.round l args) H=some (.val v,H')->yF E l args H v H')(hu:rX ih)(B:b9 ops.toList=true)(tr:Trace E ih ts ops da Hs)(tf:TF E ih ts ops da Hs)(U:yU σ0 (Hs 0).next (Hs ops.size).next)(b:Frame)(ds:List Deferred)(k:List Item)(cs:List Frame):∀(u q:Nat) (listed:Array Bool) (t:Nat) (σ:vO) (w:LP) (tmps:LD),listed.size=ops.size->qQb listed ops.size<=u->Inv E ih ts ops da Hs σ0 w0 t (λj=>listed.getD j false=true) σ w tmps->∃t' S' σ' w' y,(∀j,j<ops.size->S' j)/\Inv E ih ts ops da Hs σ0 w0 t' S' σ' w' y/\Steps E.prog (lone (Fm b tmps ds (.inRegion ops (Region.linearise.go .any ops u q listed [])::k)) cs w) (lone (Fm b y ds (.inRegion ops []::k)) cs w'):=by
 intro u;induction u with
 |zero=>intro q listed t σ w tmps hsz hcnt inv;exact⟨t,_,σ,w,tmps,λj hj=>qH2 listed ops.size (by omega) j hj,inv,gq _ _⟩
 | succ u IH=>
  intro q listed t σ w tmps hsz hcnt inv;simp only[Region.linearise.go];have hrs:((List.range ops.size).filter λi=>!listed.getD i true&&((ops[i]?).map (·.after.all λe=>!Region.binds .any e||listed.getD e.on false)).getD false)=Region.ready .any ops listed:=rfl;rw[hrs];split
  ·rename_i i hi;rw[linearise_go_acc];have hmem:i∈Region.ready .any ops listed:=be hi;rw[mem_ready]at hmem;obtain⟨hnl,o,N,X⟩:=hmem;have A:i<ops.size:=(cu.1 N).1;have Z:listed.getD i false=false:=by
    have:i<listed.size:=by omega
    simp[Array.getD,this]at hnl ⊢;exact hnl
   have I:¬(listed.getD i false=true):=by rw[Z];simp
   have ho':ops.toList[i]? = some o:=by simpa using N
   have p:∀a,Anc ops.toList a i->listed.getD a false=true:=by
    intro a ha;cases ha with
    |sj h hp=>rw[ho']at h;cases h;obtain⟨e,h1,h2,h3⟩:=qAX hp;rw[←h2];exact X e h1 h3
    |trans h hp ha=>rw[ho']at h;cases h;obtain⟨e,h1,h2,h3⟩:=qAX hp;have:=X e h1 h3;rw[h2]at this;exact inv.down _ a this ha
   have hSeq:(λj=>listed.getD j false=true∨j=i)=λj=>(listed.setIfInBounds i true).getD j false=true:=by
    funext j;rw[qHx listed (by omega)];by_cases e:j=i
    ·simp[e]
    simp[e]
   have hcnt':qQb (listed.setIfInBounds i true) ops.size<=u:=by have:=qLh listed (i:=i) (by omega) Z ops.size;rw[bo A]at this;omega
   have F:∀x∈lS ops.toList o,∀v,(da i).t.get x=some v->VR σ v (tmps.getD x undef):=by intro x K v hv;obtain⟨j,h1,h2,h3⟩:=qIJ B tr inv.down inv.slt N I p K;exact inv.af j x v (by omega) h2 (by rw[h3];exact hv)
   have M:∀j want,o.guard=some (j,want)->∀d,((ops[j]?).bind (·.dst))=some d->∀v,(da i).t.get d=some v->VR σ v (tmps.getD d undef):=by intro j want hg d hd v hv;refine F d ?_ v hv;unfold lS;rw[hg];simp[hd]
   have W:∀(t1:Nat) (σ1:vO) (w1:LP) (C:LD),Inv E ih ts ops da Hs σ0 w0 t1 (λj=>listed.getD j false=true∨j=i) σ1 w1 C->
     Steps E.prog (lone (Fm b tmps ds (.inRegion ops (i::Region.linearise.go .any ops u (q/(Region.ready .any ops listed).length) (listed.setIfInBounds i true) [])::k)) cs w)
      (lone (Fm b C ds (.inRegion ops (Region.linearise.go .any ops u (q/(Region.ready .any ops listed).length) (listed.setIfInBounds i true) [])::k)) cs w1)->
     ∃ t' S' σ' w' y,(∀j,j<ops.size->S' j)/\Inv E ih ts ops da Hs σ0 w0 t' S' σ' w' y/\
      Steps E.prog (lone (Fm b tmps ds (.inRegion ops (i::Region.linearise.go .any ops u (q/(Region.ready .any ops listed).length) (listed.setIfInBounds i true) [])::k)) cs w)
       (lone (Fm b y ds (.inRegion ops []::k)) cs w'):=by
    intro t1 σ1 w1 C inv1 hst
    rw[hSeq]at inv1
    obtain⟨t',S',σ',w',y,g1,g2,g3⟩:=IH (q/(Region.ready .any ops listed).length) (listed.setIfInBounds i true) t1 σ1 w1 C (by simp[hsz]) hcnt' inv1
    exact⟨t',S',σ',w',y,g1,g2,hst.trans g3⟩
   show∃t' S' σ' w' y,_/\_/\Steps E.prog (lone (Fm b tmps ds (.inRegion ops ([i].reverse++_)::k)) cs w) _;simp only[List.reverse_cons,List.reverse_nil,df,ej];obtain⟨o2,ho2,K⟩:=tr.step i A;rw[N]at ho2;cases ho2;rcases K with K|⟨v,Q,K,hpure⟩
   ·refine W t σ w (oG tmps o.dst undef) (inv.skip B tr I A p N K) (.one (qCU N ?_));exact mB K.1 M
   have hwt:=mB (tmps:=tmps) K.1 M;have hevv:(∃w':LP,HR E σ ⟨.leaf,0,0⟩ w')->∀x∈o.op.operands.toList,∀v,ev E (da i) x=some v->VR σ v (Act.eval ⟨tmps,[]⟩ x):=λhex=>by
    obtain⟨w1,z⟩:=hex;exact λx hxo v hv=>by
     cases x with
     |tmp d=>refine F d ?_ v hv;unfold lS qIE;simp only[bh,jn];exact .inl (.inr ⟨.tmp d,hxo,rfl⟩)
     |const c=>
      simp only[ev]at hv;cases J:zP c with
      |true=>rw[J,ai]at hv;cases hv;exact xJ _ _ J
      |false=>rw[J,bc]at hv;cases hv
     |global g=>exact rA (a:=⟨tmps,[]⟩) (fr:=⟨tmps.size,false,.leaf⟩) he z ⟨rfl,λt v h=>by simp[T.get]at h⟩ (x:=.global g) (by simpa[ev]using hv)
     |func f=>exact rA (a:=⟨tmps,[]⟩) (fr:=⟨tmps.size,false,.leaf⟩) he z ⟨rfl,λt v h=>by simp[T.get]at h⟩ (x:=.func f) (by simpa[ev]using hv)
   have h0:HR E σ ⟨.leaf,0,0⟩ w:=⟨λb k L R=>by simp[T.get]at R,λb₁ b₂ k₁ k₂ L₁ L₂ R=>by simp[T.get]at R,inv.la,λb k R=>by simp[T.get]at R⟩;cases O:xW ops.toList i with
   |true=>
    have hbo:iI o.op=true:=by simpa[xW,ho']using O
    obtain⟨_,v',r1,r2⟩:=qMN (w:=w) he hbo K.2.1 (hevv ⟨w,h0⟩);have hd:∀c,o.op≠.defer c:=by intro c e;rw[e]at hbo;cases hbo
    refine W t σ w (oG tmps o.dst v') (inv.blind B tr tf I A p N O K.2.2.2 r2) (.one (ct ?_));rw[qPv N hwt hd,←oD N];simp[stepG.apply,r1]
   | false=>
    have z:=inv.view hu tr tf I A p O;have eQ:Q.next=(Hs (i+1)).next:=by rw[K.2.2.1];rfl
    obtain⟨σ',w',v',g1,g2,g3⟩:=qC1 he hc hro (λf args H v H' h=>hu _ _ _ _ h) (λf args H v H' h=>hu _ _ _ _ h) (ops:=ops) (i:=i) (tmps:=tmps) K.2.1 z
     (λc q1 q2=>inv.free i A I c q1 (by omega))
     (λx hxo v hv=>by
      cases x with
      |tmp d=>refine F d ?_ v hv;unfold lS qIE;simp only[bh,jn];exact .inl (.inr ⟨.tmp d,hxo,rfl⟩)
      |const c=>
       simp only[ev]at hv;cases J:zP c with
       |true=>rw[J,ai]at hv;cases hv;exact xJ _ _ J
       |false=>rw[J,bc]at hv;cases hv
      |global g=>exact rA (a:=⟨tmps,[]⟩) (fr:=⟨tmps.size,false,.leaf⟩) he z ⟨rfl,λt v h=>by simp[T.get]at h⟩ (x:=.global g) (by simpa[ev]using hv)
      |func f=>exact rA (a:=⟨tmps,[]⟩) (fr:=⟨tmps.size,false,.leaf⟩) he z ⟨rfl,λt v h=>by simp[T.get]at h⟩ (x:=.func f) (by simpa[ev]using hv))
     N hwt b ds (Region.linearise.go .any ops u (q/(Region.ready .any ops listed).length) (listed.setIfInBounds i true) []) k cs
    by_cases hp:(Hs i).next<=Q.low
    ·exact W t σ' w' _ (inv.pure B hu tr tf U I A p O N K hp hpure.2 g2 g1) g3
    obtain⟨t1,inv1⟩:=inv.bar B hu tr tf I A p O N K hp g2 g1;exact W t1 σ' w' _ inv1 g3
  rename_i G;refine⟨t,_,σ,w,tmps,?_,inv,gq _ _⟩;have V:Region.ready .any ops listed=[]:=by
   cases hr:Region.ready .any ops listed with
   |nil=>rfl
   |cons x l=>rw[hr]at G;have hlt:q%(x::l).length<(x::l).length:=Nat.mod_lt _ (by simp);rw[ak hlt]at G;cases G
  intro j;induction j using Nat.strongRecOn with
  | _ j IHj=>
   intro hj;cases hl:listed.getD j false with
   |true=>rfl
   | false=>
    exfalso;have hm:j∈Region.ready .any ops listed:=by
     rw[mem_ready];have hjl:j<listed.size:=by omega
     refine⟨by simp[Array.getD,hjl]at hl ⊢;exact hl,ops[j],by simp[hj],λe he R=>?_⟩;have hpred:e.on∈eH ops[j]:=by
      unfold eH;simp only[jn];refine⟨e,by simpa using he,?_⟩;unfold Region.binds at R;split at R
      ·simp at R
      ·simp at R
      rename_i h1 h2;split
      ·rename_i r hg;exact absurd hg (h1 r)
      ·rename_i r hg;exact absurd hg (h2 r)
      rfl
     have hlt:=qIQ B (i:=j) (by simp[hj]) hpred;exact IHj e.on hlt (by omega)
    rw[V]at hm;simp at hm
end
variable{ops:LF}{tmps:LD}
section
variable{E:Env}{ih:Cmd->AH->xM}{σ σ':vO}{H H':AH}{w w':LP}
theorem fR{d:Option Tmp}(h:yI fr d v=some fr'):fr'.rd=fr.rd:=by
 unfold yI at h;cases d with
 |none=>rw[←du h]
 |some d=>
  simp only[jD]at h;split at h;case isFalse=>cases h
  rw[←du h]
theorem pO{all:LF}{draw:Bool}{ts:List (Nat×Nat)}:∀{os:LB} {i:Nat} {fr fr':Fr} {H H':AH},zY E ih all draw ts os i fr H=some (fr',H')->fr'.rd=fr.rd
 | [],i,fr,fr',H,H',h=>by simp[zY]at h;rw[h.1]
 | o::os,i,fr,fr',H,H',h=>by
  simp only[zY]at h;split at h
  ·cases h
  ·split at h
   ·rename_i x;rw[pO h,fR x]
   cases h
  split at h
  ·cases h
  split at h
  ·cases h
  rename_i x;rw[pO h,fR x]
theorem tD(he:EOk E)(Q:∀f args H v H',ih (.call f args) H=some (.val v,H')->xK E f args H v H')(A:∀l args H v H',ih (.round l args) H=some (.val v,H')->yF E l args H v H')(hu:rX ih){ops:LF}{ts:List (Nat×Nat)}(b:Frame)(ds:List Deferred)(k:List Item)(cs:List Frame)(O:qBk b cs):
  ∀ (q G:LB) (rest:LC) (i:Nat) (fr fr':Fr) (H H':AH) (σ:vO) (w:LP) (tmps:LD),ops.toList.drop i=q++G->zY E ih ops false ts q i fr H=some (fr',H')->HR E σ H w->sO σ fr tmps->yU σ H.next H'.next->(fr.rd=false->b.roundOf=none)->
   ∃σ' w' y,Step E σ H w σ' H' w'/\sO σ' fr' y/\
    Steps E.prog (lone (Fm b tmps ds (.inRegion ops (List.range' i q.length++rest)::k)) cs w) (lone (Fm b y ds (.inRegion ops rest::k)) cs w')
 | [],G,rest,i,fr,fr',H,H',σ,w,tmps,hd,h,hr,B,g,r=>by
  simp[zY]at h
  obtain⟨rfl,rfl⟩:=h
  exact⟨σ,w,tmps,Step.refl hr,B,gq _ _⟩
 | o::q,G,rest,i,fr,fr',H,H',σ,w,tmps,hd,h,hr,B,g,r=>by
  have V:ops[i]? = some o:=by
   have:=congrArg (·[0]?) hd
   simpa using this
  have K:ops.toList.drop (i+1)=q++G:=by
   have:=congrArg (List.drop 1) hd
   rw[gj]at this
   simpa using this
  have u:List.range' i (o::q).length++rest=i::(List.range' (i+1) q.length++rest):=by simp[jz]
  rw[u]
  simp only[zY]at h
  split at h
  ·cases h
  ·rename_i N
   split at h
   ·rename_i F J
    obtain⟨σ',w',y,U,C,R⟩:=tD he Q A hu b ds k cs O q G rest (i+1) F fr' H H' σ w (oG tmps o.dst undef) K h hr (cR B J (.tuple .nil)) g (by rw[fR J];exact r)
    exact⟨σ',w',y,U,C,.head (qCU V (mB N (λj I _ d _ v hv=>B.2 d v hv))) R⟩
   cases h
  rename_i N
  simp only[bc]at h
  split at h
  ·cases h
  rename_i v H1 Z
  split at h
  ·cases h
  rename_i F J
  have X:=qHP hu Z
  have W:=kZ hu h
  have p:yU σ H.next H1.next:=λc q1 q2=>g c q1 (by omega)
  obtain⟨M,w1,v',U,C,R⟩:=qMv he Q A (λf args H v H' h=>hu _ _ _ _ h) (λf args H v H' h=>hu _ _ _ _ h) (ops:=ops) (i:=i) (tmps:=tmps) Z hr p
   (λx _ v hv=>rA (a:=⟨tmps,[]⟩) he hr B hv) V (mB N (λj I _ d _ v hv=>B.2 d v hv)) b ds (List.range' (i+1) q.length++rest) k cs O r
  obtain⟨L,w2,z,k1,k2,k3⟩:=tD he Q A hu b ds k cs O q G rest (i+1) F fr' H1 H' M w1 (oG tmps o.dst v') K h C.hr (cR (B.mono (C.le p)) J U) (g.split C.ext C.next) (by rw[fR J];exact r)
  exact⟨L,w2,z,C.trans k1,k2,R.trans k3⟩
theorem cP(he:EOk E)(F:∀f args H v H',ih (.call f args) H=some (.val v,H')->xK E f args H v H')(r:∀l args H v H',ih (.round l args) H=some (.val v,H')->yF E l args H v H')(hu:rX ih){draw:Bool}{id:Nat}(g:draw=true->b9 ops.toList=true)(b:Frame)(ds:List Deferred)(k:List Item)(cs:List Frame)(V:qBk b cs)(C:fr.rd=false->b.roundOf=none){ts:List (Nat×Nat)}(h:zY E ih ops draw ts ops.toList 0 fr H=some (fr',H'))(O:HR E σ H w)(A:sO σ fr tmps)(y:yU σ H.next H'.next):∃σ' w' x,Step E σ H w σ' H' w'/\sO σ' fr' x/\Steps E.prog (lone (Fm b tmps ds (.code (.region id ops draw)::k)) cs w) (lone (Fm b x ds k) cs w'):=by
 cases draw with
 |false=>
  obtain⟨σ',w',x,K,J,I⟩:=tD he F r hu b ds k cs V ops.toList [] [] 0 fr fr' H H' σ w tmps (by simp) h O A y C;refine⟨σ',w',x,K,J,.head qEN ?_⟩;have:List.range ops.size=List.range' 0 ops.toList.length++[]:=by rw[List.range_eq_range'];simp
  rw[this];exact I.trans (.one bG)
 |true=>
  have g:=g rfl;obtain⟨da,Hs,e1,Q,Z,e4,e5⟩:=qGK E ih _ ops ops.toList 0 fr fr' H H' (by simp) (cq _) h;have z:Trace E ih ts ops da Hs:=⟨λi X=>e5 i (cq _) X⟩;have L:=Step.drew (n:=w.drawn+1) O (cx _);have q:=L.hr;rw[←Q]at q y;rw[←e1]at A;rw[←e4]at y;obtain⟨B,R,wh,sh⟩:=qGL hu z he F r q A y b;obtain⟨U,p⟩:=Inv.start hu z B q A y;have G:(λ_:Nat=>False)=λj=>(Array.replicate ops.size false).getD j false=true:=by funext j;simp only[eq_iff_iff,false_iff];by_cases W:j<ops.size<;>simp[Array.getD,W]
  rw[G]at p;obtain⟨t',S',σ',w',x,K,J,I⟩:=qLI he F r hu g z B y b ds k cs ops.size (w.tape w.drawn (.order b.fn id)) (Array.replicate ops.size false) U σ _ tmps (by simp) (qQa _ _) p;obtain⟨N,M⟩:=Inv.finish hu z B K J sh;rw[Q,e4]at N;rw[Z]at M;refine⟨σ',w',x,L.trans N,M,.head qCT ?_⟩;have u:Region.schedule (E.prog.follows .mixedOrders) ops (w.tape w.drawn (.order b.fn id))=Region.linearise.go .any ops ops.size (w.tape w.drawn (.order b.fn id)) (Array.replicate ops.size false) []:=by simp only[Region.schedule,he.mixed,fj,dn];rfl
  rw[u];exact I.trans (.one bG)
def qAP(E:Env)(n0:Nat)(σ:vO)(H:AH)(w:LP)(r:Nat):Prop:=
 n0<=r/\w.heap[r]? = some (.deferred (some []))/\∀b k L,H.blocks.get b=some k->σ b=some L->L.hS≠r
def oT(r:Nat):Deferred:={target:=.collected r,args:=#[]}
def uW(E:Env)(n0:Nat)(x:List Deferred)(σ:vO)(H:AH)(w:LP)(ds:List Deferred):Prop:=
 ∃h:LC,ds=h.map oT++x/\h.Nodup/\∀r∈h,qAP E n0 σ H w r
theorem qAP.step{n0 r:Nat}(J:HR E σ H w)(h:qAP E n0 σ H w r)(st:Step E σ H w σ' H' w'):qAP E n0 σ' H' w' r:=by
 obtain⟨B,A,h3⟩:=h;have u:=(cu.1 A).1;refine⟨B,by rw[st.frame r u λb k L p _ y _=>h3 b k L p y];exact A,λb k L p y=>?_⟩;by_cases x:b<H.next
 ·obtain⟨q,z,_,_⟩:=st.kp b k p x;rw[st.ext b (.inl x)]at y;exact h3 b q L z y
 have j:=(st.born b k p (ik x)).2;rcases st.origin b k L p j y with g|⟨G,q,I,z,K,F,C,_⟩
 ·omega
 rw[←C];exact h3 G q I z F
theorem uW.step{n0:Nat}{x ds:List Deferred}(g:HR E σ H w)(h:uW E n0 x σ H w ds)(st:Step E σ H w σ' H' w'):uW E n0 x σ' H' w' ds:=by obtain⟨y,q,p,h3⟩:=h;exact⟨y,q,p,λr j=>(h3 r j).step g st⟩
theorem Step.sw(hr:HR E σ H w)(o:Obj):Step E σ H w σ H (World.push w o):=by
 have s:=Step.refl hr;have g:∀B,B<w.heap.size->(World.push w o).heap[B]? = w.heap[B]? :=λB h=>by rw[oR,bf (Nat.ne_of_lt h)]
 exact { hr:=⟨λb k L j y=>by
           obtain⟨x,q,p⟩:=hr.kq b k L j y
           exact⟨x,by rw[g _ (hr.lt j y)];exact q,p⟩,hr.sep,hr.la,hr.wf⟩,
         next:=s.next,ext:=s.ext,size:=by simp[World.push],low:=s.low,tape:=rfl,os:=rfl,output:=⟨rfl,λ_=>vP _⟩,frame:=λB h _=>g B h,
         origin:=s.origin,kp:=s.kp,hN:=s.hN,born:=s.born}
theorem Step.beside(s:Step E σ H w σ' H' w'){h:LP}(g:h.heap.size=w'.heap.size)(u:h.tape=w'.tape)(p:h.os=w'.os)(y:h.output=w'.output/\(E.laid=[]->w'.drawn<=h.drawn))(A:∀B,B<w.heap.size->h.heap[B]? = w'.heap[B]?)(z:∀b k L,H'.blocks.get b=some k->σ' b=some L->h.heap[L.hS]? = w'.heap[L.hS]?):Step E σ H w σ' H' h:=
  { hr:=⟨λb k L r g=>by
      obtain⟨x,j,q⟩:=s.hr.kq b k L r g
      exact⟨x,by rw[z b k L r g];exact j,q⟩,s.hr.sep,s.hr.la,s.hr.wf⟩,
    next:=s.next,ext:=s.ext,size:=by rw[g];exact s.size,low:=s.low,tape:=u.trans s.tape,os:=p.trans s.os,output:=⟨y.1.trans s.output.1,λe=>lT (s.output.2 e) (y.2 e)⟩,
    frame:=λB j q=>by rw[A B j];exact s.frame B j q,origin:=s.origin,kp:=s.kp,hN:=s.hN,born:=s.born}
end
def Reach(P:LK)(e:AExit)(m:Machine)(b:Frame)(tmps:LD)(ds:List Deferred)(k:List Item)(cs:List Frame)(w:LP):Prop:=
 match e with
 |.normal=>Steps P m (lone (Fm b tmps ds k) cs w)
 |.exit id=>(∀k',exitTo id k=some k'->Steps P m (lone (Fm b tmps ds k') cs w))/\(exitTo id k=none->∃h,exitTo id h=none/\Steps P m (lone (Fm b tmps ds (.code (.exit id)::h)) cs w))
 |.ret=>∃h,Steps P m (lone (Fm b tmps ds (.code .ret::h)) cs w)
variable{P:LK}{b:Frame}{cs:List Frame}{e:AExit}{k:List Item}{m:Machine}
theorem Reach.head{m':Machine}{ds:List Deferred}{w:LP}(h:Steps P m m')(x:Reach P e m' b tmps ds k cs w):Reach P e m b tmps ds k cs w:=by
 cases e with
 |normal=>exact h.trans x
 |exit id=>exact⟨λk' p=>h.trans (x.1 k' p),λj=>let ⟨y,r,q⟩:=x.2 j;⟨y,r,h.trans q⟩⟩
 |ret=>obtain⟨y,g⟩:=x;exact⟨y,h.trans g⟩
def lay(c:Code)(k:List Item):List Item:=match c with
 |.loop b=>.code b::.inLoop b::k
 |c=>.code c::k
theorem qAs(P:LK)(c:Code)(b:Frame)(tmps:LD)(ds:List Deferred)(k:List Item)(cs:List Frame)(w:LP):Steps P (lone (Fm b tmps ds (.code c::k)) cs w) (lone (Fm b tmps ds (lay c k)) cs w):=by cases c<;>first|exact gq _ _|exact .one qSb
def gK(E:Env)(c:Code)(fr:Fr)(H:AH)(e:AExit)(fr':Fr)(H':AH):Prop:=
 vJ c=true->∀(σ:vO) (w:LP) (tmps:LD) (n0:Nat) (y:List Deferred),HR E σ H w->sO σ fr tmps->yU σ H.next H'.next->n0<=w.heap.size->∀(b:Frame) (ds:List Deferred) (k:List Item) (cs:List Frame),qBk b cs->(fr.rd=false->b.roundOf=none)->uW E n0 y σ H w ds->∃σ' w' h x,Step E σ H w σ' H' w'/\sO σ' fr' h/\fr'.rd=fr.rd/\uW E n0 y σ' H' w' x/\Reach E.prog e (lone (Fm b tmps ds (lay c k)) cs w) b h x k cs w'
structure IhOK (E:Env) (ih:Cmd->AH->xM):Prop where
 up:rX ih
 call:∀f args H v H',ih (.call f args) H=some (.val v,H')->xK E f args H v H'
 round:∀l args H v H',ih (.round l args) H=some (.val v,H')->yF E l args H v H'
 code:∀c fr H e fr' H',ih (.code c fr) H=some (.ex e fr',H')->gK E c fr H e fr' H'
 mr:∀c fr H v H',ih (.code c fr) H≠some (.val v,H')
variable{c:Code}{l:Nat}{lo:Loop}{out:Out}
section
variable{E:Env}{ih:Cmd->AH->xM}{σ σ':vO}{H H':AH}{w w':LP}
theorem Reach.weaken{ds:List Deferred}{x:Item}{w:LP}(y:∀id,exitTo id (x::k)=exitTo id k)(he:e≠.normal)(h:Reach P e m b tmps ds (x::k) cs w):Reach P e m b tmps ds k cs w:=by
 cases e with
 |normal=>exact absurd rfl he
 |exit id=>refine⟨λk' j=>h.1 k' (by rw[y];exact j),λg=>h.2 (by rw[y];exact g)⟩
 |ret=>exact h
theorem gK.lay(h:gK E c fr H e fr' H')(j:vJ c=true)(tmps:LD)(n0:Nat)(r:List Deferred)(u:HR E σ H w)(B:sO σ fr tmps)(g:yU σ H.next H'.next)(z:n0<=w.heap.size)(b:Frame)(ds:List Deferred)(k:List Item)(cs:List Frame)(A:qBk b cs)(p:fr.rd=false->b.roundOf=none)(q:uW E n0 r σ H w ds):∃σ' w' x y,Step E σ H w σ' H' w'/\sO σ' fr' x/\fr'.rd=fr.rd/\uW E n0 r σ' H' w' y/\Reach E.prog e (lone (Fm b tmps ds (.code c::k)) cs w) b x y k cs w':=by obtain⟨σ',w',x,y,J,I,G,F,C⟩:=h j σ w tmps n0 r u B g z b ds k cs A p q;exact⟨σ',w',x,y,J,I,G,F,.head (qAs _ _ _ _ _ _ _ _) C⟩
theorem qHD{ds:List Deferred}(y:w.heap[l]? = some (.loop lo))(j:lo.state≠.busy):step P (lone (Fm b tmps ds (.endRangeFunc l::k)) cs w)=.next (lone (Fm b tmps ds ((lo.pending.map Item.code).toList++k)) cs {w with heap:=w.heap.setIfInBounds l (.loop {lo with state:=.exhausted})}):=by
 have x:(lo.state==LoopState.busy)=false:=by cases g:lo.state<;>simp_all
 have h:(Instr.endLoop l).run P w=.ok lo.pending {w with heap:=w.heap.setIfInBounds l (.loop {lo with state:=.exhausted})}:=by simp only[Instr.endLoop,Instr.getLoop,au,jK P y (by simp),ah,ax,x,cz,gl,kP P y (by simp)]
 exact ct (by simp[stepG,stepG.exec,Fm,h])
theorem qG1(he:EOk E)(io:IhOK E ih){f:LM}{params:Array Tmp}{assign body:Code}(h:eF E ih fr f params.toList assign body H=some (out,H')):∃e fr',out=.ex e fr'/\gK E (.rangeFunc f params assign body) fr H e fr' H':=by
 unfold eF at h;split at h;case h_2=>cases h
 rename_i g first cap hrd hev
 split at h;case h_2=>cases h
 rename_i fn v0 H2 hfn hcall;split at h;case h_2=>cases h
 rename_i st pend t ps a bd rt hl;split at h;case isTrue=>cases h
 rename_i hst;have hup1:=io.up _ _ _ _ hcall;have hup1':H.next+1<=H2.next:=hup1
 have main : vJ (.rangeFunc f params assign body)=true->∀(σ:vO) (w:LP) (tmps:LD) (n0:Nat) (B0:List Deferred),HR E σ H w->sO σ fr tmps->yU σ H.next H2.next->n0<=w.heap.size->
     ∀(b:Frame) (ds:List Deferred) (k:List Item) (cs:List Frame),qBk b cs->b.roundOf=none->uW E n0 B0 σ H w ds->
     ∃ σ' w' ds',Step E σ H w σ' (H2.write H.next ⟨.loop st pend t ps a bd,rt,true⟩ (.loop .exhausted pend t ps a bd)) w'/\sO σ' fr tmps/\uW E n0 B0 σ' (H2.write H.next ⟨.loop st pend t ps a bd,rt,true⟩ (.loop .exhausted pend t ps a bd)) w' ds'/\
       (∀c,pend=some c->c=.ret∨∃id,c=.exit id)/\
       Steps E.prog (lone (Fm b tmps ds (.code (.rangeFunc f params assign body)::k)) cs w) (lone (Fm b tmps ds' ((pend.map Item.code).toList++k)) cs w'):=by
   intro hreg σ w tmps n0 B0 hr hf hfree hn0 b ds k cs hk hro hds
   simp only[vJ,aE]at hreg
   have hfv:=rA (a:=⟨tmps,[]⟩) he hr hf hev
   generalize hx:Act.eval ⟨tmps,[]⟩ f=fv at hfv
   cases hfv with
   |leaf h0=>simp[v8]at h0
   | func h0 hf1 hc1=>
     rename_i f0 c0 f1 c1
     let wD:=World.push w (.deferred (some []))
     have sD:Step E σ H w σ H wD:=Step.sw hr _
     have hfree0:σ H.next=none:=hfree H.next (vP _) (by omega)
     let lo:Loop:={state:=.ready,pending:=none,fn:=b.fn,tmps:=tmps,params:=params,assign:=assign,body:=body,defers:=w.heap.size}
     let L:Loc:=⟨wD.heap.size,0,0,0⟩
     have hDs:wD.heap.size=w.heap.size+1:=by simp[wD,World.push]
     have hle1:vO.le σ (σ.add H.next L):=vO.ln hfree0
     have sL:Step E σ H wD (σ.add H.next L) (H.new (.loop .ready none ⟨fr.sz,true,fr.t⟩ params.toList assign body)) (World.push wD (.loop lo)):=
       Step.new sD.hr hfree0 _ _ L rfl ⟨rfl,rfl,rfl,⟨hf.1,λx v hv=>(hf.2 x v hv).mono hle1⟩,rfl,rfl,rfl,hreg.1,hreg.2,rfl,λc hc=>by cases hc⟩
     have s1:=sD.trans sL
     have hmark:uW E n0 B0 (σ.add H.next L) (H.new (.loop .ready none ⟨fr.sz,true,fr.t⟩ params.toList assign body)) (World.push wD (.loop lo)) (oT w.heap.size::ds):=by
       obtain⟨rs,d1,d2,d3⟩:=hds.step hr s1
       have hnew:qAP E n0 (σ.add H.next L) (H.new (.loop .ready none ⟨fr.sz,true,fr.t⟩ params.toList assign body)) (World.push wD (.loop lo)) w.heap.size:=by
         refine⟨hn0,?_,?_⟩
         ·rw[oR,bf (by omega),oR,bo rfl]
         · intro bb kk LL hb hs
           rw[AH.get_new]at hb
           by_cases e:bb=H.next
           · subst e
             rw[vO.g7]at hs;cases hs
             show wD.heap.size≠_;omega
           · rw[bf e]at hb;rw[vO.kn e]at hs
             have:=hr.lt hb hs;omega
       refine⟨w.heap.size::rs,by simp[d1],?_,?_⟩
       · rw [List.nodup_cons]
         refine⟨λhm=>?_,d2⟩
         obtain⟨rs',d1',_,d3'⟩:=hds
         have:rs=rs':=by
           have hinj:∀{l l':LC},l.map oT=l'.map oT->l=l':=by
             intro l
             induction l with
             |nil=>intro l' h;cases l'<;>simp at h ⊢
             | cons x l IH=>
               intro l' h
               cases l' with
               |nil=>simp at h
               | cons y l'=>
                 simp only[fa,List.cons.injEq]at h
                 have hxy:x=y:=by simpa[oT]using h.1
                 rw[hxy,IH h.2]
           exact hinj (List.append_cancel_right (d1.symm.trans d1'))
         rw[this]at hm
         have:=(cu.1 (d3' _ hm).2.1).1
         omega
       · intro r hr'
         simp only[bl]at hr'
         rcases hr' with rfl|hr'
         ·exact hnew
         ·exact d3 r hr'
     have hy:VR (σ.add H.next L) (.func (.yield H.next) #[] #[]) (.func (.yield L.hS) #[] #[]):=VR.yield vO.g7 rfl
     have hargs:VRs (σ.add H.next L) (f0++[.func (.yield H.next) #[] #[]]++c0) (f1++[.func (.yield L.hS) #[] #[]]++c1):=
       ((VRs.mono hle1 hf1).append (.cons hy .nil)).append (VRs.mono hle1 hc1)
     let caller:Frame:=Fm b tmps (oT w.heap.size::ds) (.inRangeFunc L.hS::k)
     obtain⟨e1,w2,fr2,⟨σ2,v',rfl,q1,q2⟩,q3,_,q4⟩:=io.call _ _ _ _ _ hcall (σ.add H.next L) (World.push wD (.loop lo)) _ s1.hr hargs (hfree.split s1.ext s1.next) (caller::cs)
     have s2:=s1.trans q2
     have hstep1:step E.prog (lone (Fm b tmps ds (.code (.rangeFunc f params assign body)::k)) cs w) =
         .next (lone (Frame.enter E.prog g ⟨f1++[.func (.yield L.hS) #[] #[]]++c1⟩ .normal) (caller::cs) (World.push wD (.loop lo))):=by
       have hcat:(⟨f1⟩:LD) ++ #[.func (.yield L.hS) #[] #[]]++⟨c1⟩=⟨f1++[.func (.yield L.hS) #[] #[]]++c1⟩:=by apply fq;simp
       have hen:=iF (w:=World.push wD (.loop lo)) he hfn (⟨f1++[.func (.yield L.hS) #[] #[]]++c1⟩:LD)
       have hevl:(Fm b tmps ds (.code (.rangeFunc f params assign body)::k)).eval f=.func (.func g) ⟨f1⟩ ⟨c1⟩:=by rw[qBO];exact hx
       have hent:(Instr.enterLoop b.fn tmps params assign body none).run E.prog w=.ok (wD.heap.size,[oT w.heap.size]) (World.push wD (.loop lo)):=by
         simp only[Instr.enterLoop,au,jh,ah,ax]
         rfl
       have hevl2:caller.eval f=.func (.func g) ⟨f1⟩ ⟨c1⟩:=by
         have:=qBO b tmps (oT w.heap.size::ds) (.inRangeFunc L.hS::k) f
         rw[hx]at this;exact this
       have hinv:(do let d ←resolve caller.eval {callee:=.value f,args:=#[.const (.func (.yield wD.heap.size) #[] #[])],argTypes:=#[]} 0;invoke d.target d.args:Sem Next).run E.prog (World.push wD (.loop lo)) =
           .ok (.enter g ⟨f1++[.func (.yield L.hS) #[] #[]]++c1⟩) (World.push wD (.loop lo)):=by
         have hca:caller.eval (.const (.func (.yield wD.heap.size) #[] #[]))=.func (.yield wD.heap.size) #[] #[]:=rfl
         simp only[resolve,hevl2,Deferred.ofValue,au,ax,ah,invoke]
         rw[show(#[Operand.const (.func (.yield wD.heap.size) #[] #[])].map caller.eval) = #[.func (.yield L.hS) #[] #[]]from by simp[Frame.eval,L],hcat]
         exact hen
       refine ct ?_
       simp only[stepG,stepG.exec,Fm,hro,Sem.runT_eq,hent,GStep.bare_after]
       have happ:∀(fr':Frame),fr'=caller->(stepG.apply E.prog true fr' cs none (do let d ←resolve fr'.eval {callee:=.value f,args:=#[.const (.func (.yield wD.heap.size) #[] #[])],argTypes:=#[]} 0;invoke d.target d.args) (World.push wD (.loop lo))).bare =
           .go {frame:=Frame.enter E.prog g ⟨f1++[.func (.yield L.hS) #[] #[]]++c1⟩ .normal,callers:=caller::cs,status:=.running,dying:=none} (World.push wD (.loop lo)):=by
         rintro fr' rfl
         simp only[stepG.apply,Sem.runT_eq,dn,hinv,GStep.bare_after]
         rfl
       exact happ _ (by simp[caller,Fm,hro,L])
     have hleL:(σ2 H.next)=some L:=by
       have:=q2.ext H.next (.inl (bw _))
       rw[this];exact vO.g7
     obtain⟨ob,g1,g2⟩:=q2.hr.kq _ _ L hl hleL
     cases ob<;>simp only[m9]at g2
     rename_i lo2
     obtain⟨p0,p1,p2,p3,p4,p5,p6,p7,p8,p9,qQH⟩:=g2
     have hend:=qHD (P:=E.prog) (b:=b) (tmps:=tmps) (ds:=oT w.heap.size::ds) (k:=k) (cs:=cs) g1 (by rw[p1];exact hst)
     have s3:=Step.write q2.hr hl rfl hleL (WSet.setObj (.loop {lo2 with state:=.exhausted}) g1) (x:=.loop .exhausted pend t ps a bd) ⟨p0,rfl,p2,p3,p4,p5,p6,p7,p8,p9,qQH⟩
     refine⟨σ2,_,oT w.heap.size::ds,s2.trans s3,hf.mono (s2.le hfree),(hmark.step s1.hr q2).step q2.hr s3,qQH,?_⟩
     refine .head hstep1 (q3.trans (.head (step_leave_returned q4) ?_))
     have hfin:caller.finish v'=Fm b tmps (oT w.heap.size::ds) (.endRangeFunc L.hS::k):=rfl
     rw[hfin,←p2]
     exact .one hend
 split at h
 ·-- no jump
  cases h;refine⟨.normal,fr,rfl,?_⟩;intro hreg σ w tmps n0 B0 hr hf hfree hn0 b ds k cs hk hro hds;obtain⟨σ',w',ds',g1,g2,g3,_,g5⟩:=main hreg σ w tmps n0 B0 hr hf hfree hn0 b ds k cs hk (hro hrd) hds;exact⟨σ',w',tmps,ds',g1,g2,rfl,g3,g5⟩
 ·-- a jump
  rename_i c;have hout:∃e fr',out=.ex e fr':=by
   cases out with
   |ex e fr'=>exact⟨e,fr',rfl⟩
   |val v=>exact absurd h (io.mr _ _ _ _ _)
  obtain⟨e,fr',rfl⟩:=hout;refine⟨e,fr',rfl,?_⟩;intro hreg σ w tmps n0 B0 hr hf hfree hn0 b ds k cs hk hro hds;have hup2:=io.up _ _ _ _ h;have hup2':H2.next<=H'.next:=hup2;have hfree2:yU σ H.next H2.next:=λc q1 q2=>hfree c q1 (by omega);obtain⟨σ1,w1,ds1,g1,g2,g3,g4,g5⟩:=main hreg σ w tmps n0 B0 hr hf hfree2 hn0 b ds k cs hk (hro hrd) hds;have hcreg:vJ c=true:=by rcases g4 c rfl with rfl|⟨id,rfl⟩<;>rfl
  obtain⟨σ2,w2,tmps2,ds2,k1,k2,k3,k4,k5⟩:=(io.code _ _ _ _ _ _ h).lay hcreg tmps n0 B0 g1.hr g2 (hfree.split g1.ext g1.next) (lT hn0 g1.size) b ds1 k cs hk hro g3;exact⟨σ2,w2,tmps2,ds2,g1.trans k1,k2,k3,k4,.head g5 k5⟩
end
variable{args:LA}
section
variable{E:Env}{ih:Cmd->AH->xM}{σ σ':vO}{H H':AH}{w w':LP}
theorem qIf:∀{ps:List Tmp} {args x:LA} {fr fr':Fr} {tmps:LD},wZ fr ps args=some fr'->sO σ fr tmps->VRs σ args x->
  sO σ fr' ((ps.zip x).foldl (λtmps (t,a)=>tmps.setIfInBounds t a) tmps)/\fr'.rd=fr.rd
 | [],[],_,fr,fr',tmps,h,y,.nil=>by simp[wZ]at h;subst h;exact⟨y,rfl⟩
 | [],_::_,_,fr,fr',tmps,h,y,hv=>by simp[wZ]at h
 |t::ps,[],_,fr,fr',tmps,h,y,hv=>by simp[wZ]at h
 | t::ps,a::args,_::x,fr,fr',tmps,h,y,.cons hv j=>by
  simp only[wZ]at h
  split at h
  ·rename_i r g
   obtain⟨q,p⟩:=qIf h (cR y g hv) j
   exact⟨by simpa[oG]using q,by rw[p,fR g]⟩
  cases h
theorem qDY{ds:List Deferred}(hr:b.roundOf=some l)(x:w.heap[l]? = some (.loop lo))(hs:lo.state=.ready):step P (lone (Fm b tmps ds (.beginRound::k)) cs w)=.next (lone (Fm b tmps ds k) cs {w with heap:=w.heap.setIfInBounds l (.loop {lo with state:=.busy})}):=by
 have h:(Instr.beginRound l).run P w=.ok () {w with heap:=w.heap.setIfInBounds l (.loop {lo with state:=.busy})}:=by simp only[Instr.beginRound,Instr.getLoop,au,jK P x (by simp),ah,ax,kP P x (by simp),hs]
 refine ct ?_;simp only[stepG,stepG.exec,Fm,hr,Option.elim];simp[stepG.apply,h,Frame.finish]
theorem qCV{c:Frame}{ds:List Deferred}(y:b.kind=.normal)(hr:b.roundOf=some l)(g:w.heap[l]? = some (.loop lo))(j:Option Code)(q:(j=none/\k=[])∨(∃x,j=some .ret/\k=.code .ret::x)∨∃id x,j=some (.exit id)/\k=.code (.exit id)::x/\exitTo id x=none):step P (lone (Fm b tmps ds k) (c::cs) w)=.next (lone (c.finish (.bool j.isNone)) cs {w with heap:=w.heap.setIfInBounds l (.loop {lo with state:=if j.isNone then .ready else .done,pending:=j})}):=by
 have h:∀j:Option Code,(Instr.endRound l j).run P w=.ok (.bool j.isNone) {w with heap:=w.heap.setIfInBounds l (.loop {lo with state:=if j.isNone then .ready else .done,pending:=j})}:=by intro j;simp only[Instr.endRound,Instr.getLoop,au,jK P g (by simp),ah,ax,kP P g (by simp)]
 rcases q with⟨rfl,rfl⟩|⟨x,rfl,rfl⟩|⟨id,x,rfl,rfl,p⟩
 ·exact ct (by simp[stepG,stepG.exec,Fm,hr,h,doReturn,y])
 ·exact ct (by simp[stepG,stepG.exec,Fm,hr,h,doReturn,y])
 exact ct (by simp[stepG,stepG.exec,Fm,hr,h,doReturn,y,p])
theorem HR.pj(y:HR E σ H w){L:Loc}{st:LoopState}{pd:Option Code}{t:Fr}{ps:List Tmp}{a b:Code}{rt:Nat}{own:Bool}(g:H.blocks.get l=some ⟨.loop st pd t ps a b,rt,own⟩)(x:σ l=some L):∃lo,w.heap[L.hS]? = some (.loop lo)/\m9 E σ L own (.loop st pd t ps a b) (.loop lo):=by
 obtain⟨o,j,h⟩:=y.kq l _ L g x;cases o;case loop lo=>exact⟨lo,j,h⟩
 all_goals simp only[m9]at h
theorem qGT(io:IhOK E ih)(h:gU E ih l args H=some (out,H')):∃v,out=.val v/\yF E l args H v H':=by
 unfold gU at h;split at h;case h_2=>cases h
 rename_i pd0 t0 M a0 b0 rt0 hl0;split at h;case h_2=>cases h
 rename_i fr G;split at h;case h_2=>cases h
 rename_i fr1 H1 h1;split at h;case h_2=>cases h
 rename_i pd1 t1 ps1 a1 b1 rt1 R;split at h;case h_2=>cases h
 rename_i e fr3 H3 h3;split at h;case h_2=>cases h
 rename_i st3 pd3 t3 qRe a3 b3 rt3 Q;cases h;refine⟨_,rfl,?_⟩;intro σ w y L lo hr hv F hs hw hlen c cs;have hup1:=io.up _ _ _ _ h1;have N:=io.up _ _ _ _ h3;have hup3':H1.next<=H3.next:=N;have p:yU σ H.next H3.next:=F;obtain⟨lo0,w0,g0⟩:=hr.pj hl0 hs;rw[hw]at w0;cases w0;obtain⟨p0,p1,p2,p3,p4,p5,p6,p7,p8,p9,qQH⟩:=g0;obtain⟨hfr,hrd⟩:=qIf G p3 hv;have B:fr.rd=true:=by rw[hrd];exact p9
 let b:Frame:={(default:Frame)with fn:=lo.fn,kind:=.normal,roundOf:=some L.hS};have htm:(lo.params.zip ⟨y⟩).foldl (λtmps (t,a)=>tmps.setIfInBounds t a) lo.tmps=(M.zip y).foldl (λtmps (t,a)=>tmps.setIfInBounds t a) lo.tmps:=by rw[←Array.foldl_toList,Array.toList_zip,p4]
 have A:Frame.round L.hS lo.fn ((lo.params.zip ⟨y⟩).foldl (λtmps (t,a)=>tmps.setIfInBounds t a) lo.tmps) lo.assign lo.body .normal =
   Fm b ((M.zip y).foldl (λtmps (t,a)=>tmps.setIfInBounds t a) lo.tmps) [] [.code a0,.beginRound,.code b0]:=by
  rw[htm,p5,p6];rfl
 rw[A];have V:uW E w.heap.size [] σ H w []:=⟨[],rfl,jq,λr hr=>by simp at hr⟩;have j:yU σ H.next H1.next:=λc q1 q2=>p c q1 (by omega);obtain⟨J,w1,q,X,s1,f1,r1,d1,e1⟩:=(io.code _ _ _ _ _ _ h1).lay p7 _ w.heap.size [] hr hfr j (vP _) b [] [.beginRound,.code b0] (c::cs) (.inl rfl) (λU=>by rw[B]at U;cases U) V;have C:J l=some L:=(s1.le j) l L hs;obtain⟨lo1,K,g1⟩:=s1.hr.pj R C;obtain⟨q0,q1,q2,q3,q4,q5,q6,q7,q8,q9,q10⟩:=g1;have W:=qDY (P:=E.prog) (b:=b) (tmps:=q) (ds:=X) (k:=[.code b0]) (cs:=c::cs) rfl K q1;have s2:=Step.write s1.hr R rfl C (WSet.setObj (.loop {lo1 with state:=.busy}) K) (x:=.loop .busy pd1 t1 ps1 a1 b1) ⟨q0,rfl,q2,q3,q4,q5,q6,q7,q8,q9,q10⟩;have g:yU J H1.next H3.next:=p.split s1.ext s1.next;obtain⟨I,w3,tmps3,ds3,Z,f3,r3,d3,e3⟩:=(io.code _ _ _ _ _ _ h3).lay p8 q w.heap.size [] s2.hr f1 g (lT s1.size s2.size) b X [] (c::cs) (.inl rfl) (λU=>by rw[r1,B]at U;cases U) (d1.step s1.hr s2);have O:I l=some L:=(Z.le g) l L C;obtain⟨lo3,z,g3⟩:=Z.hr.pj Q O;obtain⟨u0,u1,u2,u3,u4,u5,u6,u7,u8,u9,zEZ⟩:=g3;have hjs:∀cc,wO e=some cc->cc=.ret∨∃id,cc=.exit id:=by
  intro cc hc;cases e with
  |normal=>cases hc
  |exit id=>cases hc;exact .inr ⟨id,rfl⟩
  |ret=>cases hc;exact .inl rfl
 have hst:(bif (wO e).isNone then LoopState.ready else .done)=if(wO e).isNone then .ready else .done:=by cases(wO e).isNone<;>rfl
 have s4:=Step.write Z.hr Q rfl O (WSet.setObj (.loop {lo3 with state:=if(wO e).isNone then .ready else .done,pending:=wO e}) z) (x:=.loop (bif (wO e).isNone then .ready else .done) (wO e) t3 qRe a3 b3) ⟨u0,hst.symm,rfl,u3,u4,u5,u6,u7,u8,u9,hjs⟩;refine⟨I,_,.bool (wO e).isNone,.leaf rfl,((s1.trans s2).trans Z).trans s4,?_⟩;have e1':Steps E.prog _ _:=e1;refine e1'.trans (.head W ?_);cases e with
 |normal=>have u:Steps E.prog _ _:=e3;exact u.trans (.one (qCV rfl rfl z none (.inl ⟨rfl,rfl⟩)))
 |ret=>obtain⟨k2,u⟩:=e3;exact u.trans (.one (qCV rfl rfl z (some .ret) (.inr (.inl ⟨k2,rfl,rfl⟩))))
 |exit id=>obtain⟨k2,hk2,u⟩:=e3.2 rfl;exact u.trans (.one (qCV rfl rfl z (some (.exit id)) (.inr (.inr ⟨id,k2,rfl,rfl,hk2⟩))))
theorem qCq:∀(xs:LA) (t:T LQ) (n i:Nat),(T.ofList t n xs).get i=if n<=i/\i<n+xs.length then xs[i-n]? else t.get i
 | [],t,n,i=>by simp only[T.ofList,dg,fx];rw[bf (by omega)]
 |x::xs,t,n,i=>by simp only[T.ofList];rw[qCq xs (t.put n (some x)) (n+1) i,T.ch];grind
theorem qAE{x:LA}(hv:VRs σ args x)(n:Nat):sO σ ⟨Nat.max n args.length,false,T.ofList .leaf 0 args⟩ ((⟨x⟩:LD)++Array.replicate (n-(⟨x⟩:LD).size) undef):=by
 have j:=hv.length;refine⟨?_,λt v h=>?_⟩
 ·have e:Nat.max n args.length=max n args.length:=rfl;simp only[e];simp[j];omega
 rw[qCq]at h;by_cases g:t<args.length
 ·rw[bo (by omega)]at h;obtain⟨v',r,q⟩:=hv.get t v h;have:((⟨x⟩:LD)++Array.replicate (n-(⟨x⟩:LD).size) undef).getD t undef=v':=by
   have y:t<x.length:=by omega
   have h3:((⟨x⟩:LD)++Array.replicate (n-(⟨x⟩:LD).size) undef)[t]? = some v':=by rw[jl (by simpa using y)];simpa using r
   have p:((⟨x⟩:LD)++Array.replicate (n-(⟨x⟩:LD).size) undef).getD t undef=(((⟨x⟩:LD)++Array.replicate (n-(⟨x⟩:LD).size) undef)[t]?).getD undef:=by simp
   rw[p,h3];rfl
  rw[this];exact q
 rw[bf (by omega)]at h;simp[T.get]at h
theorem aK(he:EOk E)(z:HR E σ H w){fr:Fr}{tmps:LD}(j:sO σ fr tmps):∀{rs:List ResultVar} {vs:LA},vV E fr H rs=some vs->
  ∃x,(rs.mapM (λr=>(match r with
   |.tmp t=>pure (tmps.getD t undef)
   |.cell a t=>do loadVar t (←asAddr (tmps.getD a undef)):Sem LQ))).run E.prog w=.ok x w/\VRs σ vs x
 | [],vs,h=>by simp[vV]at h;subst h;exact⟨[],by simp,.nil⟩
 | .tmp t::rs,vs,h=>by
  simp only[vV]at h
  split at h
  ·rename_i v hv
   simp only[aa]at h
   obtain⟨q,B,rfl⟩:=h
   obtain⟨x,J,C⟩:=aK he z j B
   exact⟨_,by simp only[List.mapM_cons,au,ax,ah,J],.cons (j.2 t v hv) C⟩
  cases h
 | .cell a t::rs,vs,h=>by
  simp only[vV]at h
  split at h
  ·rename_i v hv
   simp only[aa]at h
   obtain⟨q,B,rfl⟩:=h
   obtain⟨x,J,C⟩:=aK he z j B
   simp only[iw]at hv
   obtain⟨p,L,g⟩:=hv
   have y:=j.2 a p L
   obtain⟨v',F,K⟩:=qHk he z g y
   obtain⟨A,I⟩:∃A,tmps.getD a undef=.pointer (some A):=by
    generalize tmps.getD a undef=u at y
    unfold gM at g
    split at g
    case h_2=>cases g
    cases y with
    |leaf M=>simp[v8]at M
    |ptr N=>exact⟨_,rfl⟩
   have G:asAddr (tmps.getD a undef)=pure A:=by rw[I];rfl
   rw[I]at F
   simp only[Instr.loadAt,Instr.sureAddr,au,ax,ah]at F
   refine⟨v'::x,?_,.cons K C⟩
   simp_all
  cases h
end
variable{f:LO}{fn:Func}{rest:LC}
section
variable{E:Env}{ih:Cmd->AH->xM}{σ σ':vO}{H H':AH}{w w':LP}
def Fx(b:Frame)(tmps:LD)(ds:List Deferred)(todo:List Item):Frame:={b with tmps:=tmps,defers:=ds,todo:=todo,mode:=.returning}
theorem qXq{ds:List Deferred}(hr:b.roundOf=none):
  step P (lone (Fm b tmps ds []) cs w)=.next (lone (Fx b tmps ds []) cs w):=
 ct (by simp[stepG,stepG.exec,Fm,Fx,hr])
theorem qXo{ds:List Deferred}(hr:b.roundOf=none):∃h,step P (lone (Fm b tmps ds (.code .ret::k)) cs w)=.next (lone (Fx b tmps ds h) cs w):=by
 refine⟨?_,ct ?_⟩
 rotate_left
 ·simp only[stepG,stepG.exec,Fm,Fx,hr];rfl
theorem qR9{ds:List Deferred}{r:Nat}(h:w.heap[r]? = some (.deferred (some []))):step P (lone (Fx b tmps (oT r::ds) k) cs w)=.next (lone (Fx b tmps ds k) cs {w with heap:=w.heap.setIfInBounds r (.deferred none)}):=by
 have x:(Instr.takeDeferred r).run P w=.ok [] {w with heap:=w.heap.setIfInBounds r (.deferred none)}:=by simp only[Instr.takeDeferred,au,jK P h (by simp),ah,ax,kP P h (by simp)]
 refine ct ?_;simp[stepG,unwind,Fx,oT,x]
theorem uB{n0:Nat}{u:List Deferred}:∀(g:LC) (x:LP),Step E σ H w σ' H' x->g.Nodup->w.heap.size<=n0->(∀r∈g,qAP E n0 σ' H' x r)->∀(b:Frame) (tmps:LD) (k:List Item) (cs:List Frame),
  ∃j,Step E σ H w σ' H' j/\Steps E.prog (lone (Fx b tmps (g.map oT++u) k) cs x) (lone (Fx b tmps u k) cs j)
 | [],x,s,_,_,_,b,tmps,k,cs=>⟨x,s,gq _ _⟩
 | r::g,x,s,y,J,hm,b,tmps,k,cs=>by
  obtain⟨Q,G,F⟩:=hm r (by simp)
  rw[List.nodup_cons]at y
  have h:∀B,B≠r->(x.heap.setIfInBounds r (.deferred none))[B]? = x.heap[B]? :=λB M=>by
   grind
  have s1:Step E σ H w σ' H' {x with heap:=x.heap.setIfInBounds r (.deferred none)}:=
   s.beside (by simp) rfl rfl ⟨rfl,λ_=>vP _⟩ (λB M=>h B (by omega)) (λb k L K I=>h _ (F b k L K I))
  obtain⟨j,O,N⟩:=uB g _ s1 y.2 J (λq p=>by
   obtain⟨C,A,z⟩:=hm q (by simp[p])
   exact⟨C,by rw[h q (λe=>y.1 (e▸p))];exact A,z⟩) b tmps k cs
  exact⟨j,O,.head (qR9 G) N⟩
def qHd:LA->LQ
 | [v]=>v
 |vs=>.tuple ⟨vs⟩
theorem qQf(h:body E ih (.call f args) H=some (out,H')):∃fn c,E.funcs.get f=some fn/\fn.body=some c/\((∃e x,ih (.code c ⟨Nat.max fn.ntmps args.length,false,T.ofList .leaf 0 args⟩) H=some (.ex e x,H')/\(e=.normal∨e=.ret)/\qDS E fn.results.toList x H'=some (out,H'))∨qAH E ih fn.results.toList c ⟨Nat.max fn.ntmps args.length,false,T.ofList .leaf 0 args⟩ H=some (out,H')):=by
 simp only[body]at h;split at h;case h_2=>cases h
 rename_i fn g;split at h;case h_2=>cases h
 rename_i c p;refine⟨fn,c,g,p,?_⟩;split at h
 ·rename_i x H1 j;have y:qDS E fn.results.toList x H1=some (out,H'):=h;have:=tE y;subst this;exact .inl ⟨_,_,j,.inl rfl,y⟩
 ·rename_i x H1 j;have y:qDS E fn.results.toList x H1=some (out,H'):=h;have:=tE y;subst this;exact .inl ⟨_,_,j,.inr rfl,y⟩
 ·exact .inr h
 ·cases h
theorem qGZ{rs:List ResultVar}(h:qDS E rs fr H=some (out,H')):∃vs,vV E fr H rs=some vs/\out=.val (qHd vs):=by
 unfold qDS at h;split at h
 ·rename_i v hv;cases h;exact⟨_,hv,rfl⟩
 ·rename_i vs x hv;cases h;refine⟨_,hv,?_⟩;rw[qHd];grind
 cases h
theorem aJ(he:EOk E){vs:LA}(C:HR E σ H w)(F:sO σ fr tmps)(z:vV E fr H fn.results.toList=some vs):∃v',(results fn tmps).run E.prog w=.ok v' w/\VR σ (qHd vs) v':=by
 obtain⟨g,u,A⟩:=aK he C F z;have h:(results fn tmps).run E.prog w=.ok (qHd g) w:=by simp only[results,Array.mapM_eq_mapM_toList,map_eq_pure_bind,bind_assoc,pure_bind,au];refine(congrArg (λr=>Result.andThen r _) u).trans ?_;simp only[ah,ax];rcases g with _|⟨x,_|⟨y,l⟩⟩<;>simp[qHd]
 refine⟨_,h,?_⟩;cases A with
 |nil=>exact .tuple .nil
 |cons q p=>
  cases p with
  |nil=>exact q
  |cons B j=>exact .tuple (.cons q (.cons B j))
theorem qIB{ds:List Deferred}(j:e=.normal∨e=.ret)(q:b.roundOf=none)(g:k=[]∨e=.ret)(h:Reach E.prog e m b tmps ds k cs w):∃x,Steps E.prog m (lone (Fx b tmps ds x) cs w):=by
 rcases j with rfl|rfl
 ·rcases g with rfl|g
  ·have p:Steps E.prog _ _:=h;exact⟨[],p.trans (.one (qXq q))⟩
  cases g
 obtain⟨r,p⟩:=h;obtain⟨x,y⟩:=qXo (P:=E.prog) (b:=b) (tmps:=tmps) (ds:=ds) (k:=r) (cs:=cs) (w:=w) q;exact⟨x,p.trans (.one y)⟩
def qLu(σ:vO)(d:Deferred)(g:LO)(xs:LA):Prop:=∃a1 c1:LA,d={target:=.fn (.func g) ⟨c1⟩,args:=⟨a1⟩}/\VRs σ xs (a1++c1)
theorem qLu.mono{d:Deferred}{g:LO}{xs:LA}(x:vO.le σ σ')(h:qLu σ d g xs):qLu σ' d g xs:=by obtain⟨a1,c1,j,y⟩:=h;exact⟨a1,c1,j,y.mono x⟩
theorem qXp{ds:List Deferred}(x:ops[i]? = some o)(h:Region.wanted o (yielded ops tmps)=true)(hr:b.roundOf=none):
  stepG P true {frame:=Fm b tmps ds (.inRegion ops (i::rest)::k),callers:=cs,status:=.running,dying:=none} w =
   stepG.apply P true (Fm b tmps ds (.inRegion ops (i::rest)::k)) cs none (execOp (Act.eval ⟨tmps,[]⟩) o) w:=by
 have he:=qIs b tmps ds (.inRegion ops (i::rest)::k)
 simp only[Fm]at he
 simp only[Fm]
 simp only[hr]at he
 simp[stepG,stepG.exec,stepG.oper,Frame.oper?,x,h,he,hr]
theorem qPw{ds:List Deferred}{d:Deferred}(x:ops[i]? = some o)(y:Region.wanted o (yielded ops tmps)=true)(g:b.roundOf=none)(hd:(execOp (Act.eval ⟨tmps,[]⟩) o).run P w=.ok (.defer d) w):step P (lone (Fm b tmps ds (.inRegion ops (i::rest)::k)) cs w)=.next (lone (Fm b (oG tmps o.dst undef) (d::ds) (.inRegion ops rest::k)) cs w):=by have h:({Fm b tmps ds (.inRegion ops (i::rest)::k)with defers:=d::ds}:Frame).finish undef=Fm b (oG tmps o.dst undef) (d::ds) (.inRegion ops rest::k):=oD (b:=b) (tmps:=tmps) (ds:=d::ds) (k:=k) (rest:=rest) x undef;refine ct ?_;rw[qXp x y g,←h];simp[stepG.apply,hd];rfl
theorem qHZ(he:EOk E)(M:IhOK E ih):∀{c:Code} {fr fr':Fr} {H H':AH} {g:LO} {xs:LA} {b:Code},gN E ih c fr H=some ((g,xs),fr',H',b)->vJ c=true->∀(σ:vO) (w:LP) (tmps:LD),HR E σ H w->sO σ fr tmps->yU σ H.next H'.next->fr.rd=false->∀(f:Frame) (k:List Item) (cs:List Frame),qBk f cs->f.roundOf=none->∃σ' w' A d,Step E σ H w σ' H' w'/\sO σ' fr' A/\fr'.rd=false/\qLu σ' d g xs/\(∃gn,E.funcs.get g=some gn)/\vJ b=true/\Steps E.prog (lone (Fm f tmps [] (.code c::k)) cs w) (lone (Fm f A [d] (.code b::k)) cs w'):=by
 intro c;induction c with
 | seq a b0 _ ihb=>
  intro fr fr' H H' g xs b h z σ w tmps hr hf u V f k cs hk B;cases a with
  | region id ops draw=>
   simp only[vJ,aE]at z;simp only[gN]at h;split at h
   ·rename_i Q H1 h1;have hup:=e8 M.up h;obtain⟨K,R,y,J,g2,g3⟩:=cP he M.call M.round M.up (id:=id) (λhdr=>by have h0:=z.1;rw[hdr]at h0;simpa using h0) f [] (.code b0::k) cs hk (λ_=>B) h1 hr hf (λx q1 q2=>u x q1 (by omega));have U:Q.rd=false:=by rw[pO h1];exact V
    obtain⟨σ2,w2,L,d,k1,k2,k3,k4,k5,k6,k7⟩:=ihb h z.2 K R y J.hr g2 (u.split J.ext J.next) U f k cs hk B;exact⟨σ2,w2,L,d,J.trans k1,k2,k3,k4,k5,k6,.head qAy (g3.trans k7)⟩
   cases draw with
   |true=>cases h
   | false=>
    simp only[bc]at h;split at h;case h_2=>cases h
    rename_i o q;split at h;case h_2=>cases h
    rename_i Q H1 h1;split at h;case h_2=>cases h
    rename_i d0 fr2 j G;cases h;have p:ops.toList=ops.toList.dropLast++[o]:=by
     have W:ops.toList≠[]:=by intro e;rw[e]at q;cases q
     have:=List.dropLast_concat_getLast W;rw[List.getLast?_eq_some_getLast W]at q;rw[du q]at this;exact this.symm
    have X:ops.size=ops.toList.dropLast.length+1:=by have:=congrArg List.length p;simp only[bx,dj,dg]at this;simpa using this
    obtain⟨K,R,y,J,g2,g3⟩:=tD he M.call M.round M.up f [] (.code b0::k) cs hk ops.toList.dropLast [o] [ops.toList.dropLast.length] 0 fr Q H H' σ w tmps (by simpa using p) h1 hr hf u (λ_=>B);have C:List.range ops.size=List.range' 0 ops.toList.dropLast.length++[ops.toList.dropLast.length]:=by rw[X,List.range_succ,List.range_eq_range']
    have ho:ops[ops.toList.dropLast.length]? = some o:=by
     have:ops.toList[ops.toList.dropLast.length]? = some o:=by rw[p];simp
     simpa using this
    unfold qE0 at j;split at j;case h_2=>cases j
    rename_i cc hop F;split at j;case h_2=>cases j
    rename_i fo args hcal O;split at j;case h_2=>cases j
    rename_i g0 first cap hev
    split at j;case h_2=>cases j
    rename_i gn hgn;simp only[oI,dk]at j;obtain⟨rfl,rfl⟩:=j;have hw1:Region.wanted o (yielded ops y)=true:=by simp[Region.wanted,F]
    have Z:=rA (a:=⟨y,[]⟩) he J.hr g2 hev;have hav:=uI (a:=⟨y,[]⟩) (λx _ v hv=>rA (a:=⟨y,[]⟩) he J.hr g2 hv) O;have I:cc.args.map (Act.eval ⟨y,[]⟩)=⟨cc.args.toList.map (Act.eval ⟨y,[]⟩)⟩:=(cW _ _).symm;generalize hargs':cc.args.toList.map (Act.eval ⟨y,[]⟩)=r at hav I;generalize hg':Act.eval ⟨y,[]⟩ fo=g' at Z;cases Z with
    |leaf h0=>simp[v8]at h0
    | func h0 hf1 hc1=>
     rename_i f1 c1;have N:(execOp (Act.eval ⟨y,[]⟩) o).run E.prog R=.ok (.defer {target:=.fn (.func g0) ⟨c1⟩,args:=⟨f1++r⟩}) R:=by
      have hcat:(⟨f1⟩:LD)++⟨r⟩=⟨f1++r⟩:=by apply fq;simp
      simp only[execOp,hop,resolve,hcal,I,Deferred.ofValue,hg',au,ax,ah,hcat]
     refine⟨K,R,oG y o.dst undef,_,J,cR g2 G (.tuple .nil),by rw[fR G,pO h1];exact V,⟨f1++r,c1,rfl,(hf1.append hav).append hc1⟩,⟨gn,hgn⟩,z.2,?_⟩;refine .head qAy (.head qEN ?_);rw[C];exact g3.trans (.head (qPw ho hw1 B N) (.one bG))
  |_=>simp[gN]at h
 |_=>intro fr fr' H H' g xs b h;simp[gN]at h
theorem qHy(he:EOk E){g:LO}{j:Func}{a1 c1:LA}(y:E.funcs.get g=some j):step E.prog (lone (Fx b tmps [{target:=.fn (.func g) ⟨c1⟩,args:=⟨a1⟩}] k) cs w)=.next (lone (Frame.enter E.prog g ⟨a1++c1⟩ .deferred) (Fx b tmps [] k::cs) w):=by
 have h:(invoke (.fn (.func g) ⟨c1⟩) ⟨a1⟩).run E.prog w=.ok (.enter g ⟨a1++c1⟩) w:=by
  have x:(⟨a1⟩:LD)++⟨c1⟩=⟨a1++c1⟩:=by apply fq;simp
  simp only[invoke,x,iF he y]
 refine ct ?_;simp[stepG,unwind,callDeferred,Fx,h]
theorem qSa{c:Frame}(y:P.funcs[b.fn]? = some fn)(x:b.kind=.deferred)(g:c.mode=.returning)(h:(results fn tmps).run P w=.ok v w):step P (lone (Fx b tmps [] k) (c::cs) w)=.next (lone c cs w):=by refine ct ?_;simp[stepG,unwind,Fx,y,h,doReturn,x,g]
theorem qC9(he:EOk E)(x:E.funcs.get f=some fn)(g:fn.body=some c)(h:LA)(kd:CallKind):Frame.enter E.prog f ⟨h⟩ kd=Fm {(default:Frame)with fn:=f,kind:=kd} ((⟨h⟩:LD)++Array.replicate (fn.ntmps-(⟨h⟩:LD).size) undef) [] [.code c]:=by obtain⟨y,_,_⟩:=he.funcs _ _ x;simp only[Frame.enter,y,g,aj,gg,bn];rfl
theorem qLk(he:EOk E)(Q:IhOK E ih)(h:body E ih (.call f args) H=some (out,H')):∃v,out=.val v/\xK E f args H v H':=by
 obtain⟨fn,c,L,hc,h⟩:=qQf h;obtain⟨hp,_,_⟩:=he.funcs _ _ L;have N:=he.py _ _ _ L hc;rcases h with⟨e,fr1,h1,hee,A⟩|h
 ·obtain⟨vs,z,rfl⟩:=qGZ A;refine⟨_,rfl,?_⟩;intro σ w args' J hv u cs;let b:Frame:={(default:Frame)with fn:=f,kind:=.normal};rw[qC9 he L hc];have hds0:uW E w.heap.size [] σ H w []:=⟨[],rfl,jq,λr J=>by simp at J⟩;obtain⟨G,w1,p,ds1,s1,f1,r1,⟨rs,rfl,W,X⟩,e1⟩:=(Q.code _ _ _ _ _ _ h1).lay N _ w.heap.size [] J (qAE hv fn.ntmps) u (vP _) b [] [] cs (.inl rfl) (λ_=>rfl) hds0;obtain⟨I,hx⟩:=qIB hee rfl (.inl rfl) e1;obtain⟨w2,s2,R⟩:=uB rs w1 s1 W (vP _) X b p I cs;obtain⟨v',j,U⟩:=aJ he s2.hr f1 z;exact⟨.returned v',w2,Fx b p [] I,⟨G,v',rfl,U,s2⟩,hx.trans R,rfl,rfl,rfl,rfl,fn,hp,j⟩
 -- a call is deferred
 unfold qAH at h;split at h;case h_2=>cases h
 rename_i g xs fr1 H1 b0 hdr;have main:∀(e:AExit) (M:Fr) (H2:AH),(e=.normal∨e=.ret)->ih (.code b0 fr1) H1=some (.ex e M,H2)->qED E ih fn.results.toList g xs M H2=some (out,H')->∃v,out=.val v/\xK E f args H v H':=by
  intro e M H2 hee h2 hl;unfold qED at hl;split at hl;case h_2=>cases hl
  rename_i gn K;split at hl;case h_2=>cases hl
  rename_i gc hgc hgr
  have last:∀(e3:AExit) (fr3:Fr) (H3:AH),(e3=.normal∨e3=.ret)->ih (.code gc ⟨Nat.max gn.ntmps xs.length,false,T.ofList .leaf 0 xs⟩) H2=some (.ex e3 fr3,H3)->qDS E fn.results.toList M H3=some (out,H')->
    ∃v,out=.val v/\xK E f args H v H':=by
   intro e3 fr3 H3 hee3 h3 A
   have hHH:=tE A
   subst hHH
   obtain⟨vs,z,rfl⟩:=qGZ A
   refine⟨_,rfl,?_⟩
   intro σ w args' J hv u cs
   have u1:=e8 Q.up hdr
   have u2:=Q.up _ _ _ _ h2
   have u3:=Q.up _ _ _ _ h3
   let b:Frame:={(default:Frame)with fn:=f,kind:=.normal}
   rw[qC9 he L hc]
   obtain⟨G,w1,p,d,s1,f1,r1,⟨a1,c1,rfl,hd⟩,_,V,e1⟩:=qHZ he Q hdr N σ w _ J (qAE hv fn.ntmps) (λx q1 q2=>u x q1 (by omega)) rfl b [] cs (.inl rfl) rfl
   have q:=u.split s1.ext s1.next
   have hds1:uW E w1.heap.size [{target:=.fn (.func g) ⟨c1⟩,args:=⟨a1⟩}] G H1 w1 [{target:=.fn (.func g) ⟨c1⟩,args:=⟨a1⟩}]:=⟨[],rfl,jq,λr J=>by simp at J⟩
   obtain⟨O,w2,y,ds2,s2,f2,r2,⟨rs,rfl,W,X⟩,e2⟩:=(Q.code _ _ _ _ _ _ h2).lay V p w1.heap.size _ s1.hr f1 (λx q1 q2=>q x q1 (by omega)) (vP _) b _ [] cs (.inl rfl) (λ_=>rfl) hds1
   obtain⟨I,hx⟩:=qIB hee rfl (.inl rfl) e2
   obtain⟨w3,s3,R⟩:=uB rs w2 s2 W (vP _) X b y I cs
   have B:=q.split s3.ext s3.next
   have hle12:vO.le G O:=s2.le (λx q1 q2=>q x q1 (by omega))
   have F:=qHy (w:=w3) he (b:=b) (tmps:=y) (k:=I) (cs:=cs) (a1:=a1) (c1:=c1) K
   rw[qC9 he K hgc]at F
   let b2:Frame:={(default:Frame)with fn:=g,kind:=.deferred}
   have hds3:uW E w3.heap.size [] O H2 w3 []:=⟨[],rfl,jq,λr J=>by simp at J⟩
   obtain⟨σ4,w4,C,ds4,s4,f4,r4,⟨rs4,rfl,hnd4,hmk4⟩,e4⟩:=(Q.code _ _ _ _ _ _ h3).lay (he.py _ _ _ K hgc) _ w3.heap.size [] s3.hr (qAE (hd.mono hle12) gn.ntmps) B (vP _) b2 [] []
    (Fx b y [] I::cs) (.inr ⟨rfl,_,_,rfl,rfl⟩) (λ_=>rfl) hds3
   obtain⟨k4,hx4⟩:=qIB hee3 rfl (.inl rfl) e4
   obtain⟨w5,s5,hx5⟩:=uB rs4 w4 s4 hnd4 (vP _) hmk4 b2 C k4 (Fx b y [] I::cs)
   obtain⟨_,hgres,_⟩:=aJ (fn:=gn) (vs:=[]) he s5.hr f4 (by rw[hgr];rfl)
   have hback:=qSa (P:=E.prog) (b:=b2) (c:=Fx b y [] I) (tmps:=C) (k:=k4) (cs:=cs) (w:=w5) (he.funcs _ _ K).1 rfl rfl hgres
   have Z:vO.le O σ4:=s4.le B
   obtain⟨v',j,U⟩:=aJ he s5.hr (f2.mono Z) z
   exact⟨.returned v',w5,Fx b y [] I,⟨σ4,v',rfl,U,s1.trans (s3.trans s5)⟩,e1.trans (hx.trans (R.trans (.head F (hx4.trans (hx5.trans (.one hback)))))),rfl,rfl,rfl,rfl,fn,hp,j⟩
  grind
 grind
end
section
variable{E:Env}{ih:Cmd->AH->xM}{σ σ':vO}{H H':AH}{w w':LP}
theorem Reach.pq{ds:List Deferred}{x:Item}{w:LP}(y:∀id,e=.exit id->exitTo id (x::k)=exitTo id k)(he:e≠.normal)(h:Reach P e m b tmps ds (x::k) cs w):Reach P e m b tmps ds k cs w:=by
 cases e with
 |normal=>exact absurd rfl he
 |exit id=>refine⟨λk' j=>h.1 k' (by rw[y _ rfl];exact j),λg=>h.2 (by rw[y _ rfl];exact g)⟩
 |ret=>exact h
theorem oF(h:∀(b:Frame) (tmps:LD) (ds:List Deferred) (k:List Item) (cs:List Frame) (w:LP),Reach E.prog e (lone (Fm b tmps ds (lay c k)) cs w) b tmps ds k cs w):
  gK E c fr H e fr H:=
 λ_ σ w tmps _ _ y g _ _ b ds k cs _ _ x=>⟨σ,w,tmps,ds,Step.refl y,g,rfl,x,h b tmps ds k cs w⟩
theorem uR{t:Bool}(h:VR σ (.bool t) v):v=.bool t:=by
 cases h with
 |leaf x=>rfl
theorem qA7(x:IhOK E ih)(h:ih (.code c fr) H=some (out,H')):∃e fr',out=.ex e fr':=by
 cases out with
 |ex e fr'=>exact⟨e,fr',rfl⟩
 |val v=>exact absurd h (x.mr _ _ _ _ _)
theorem qE2(B:IhOK E ih){c1 N:Code}{z:Fr}{H1:AH}(W:ih (.code c1 fr) H=some (.ex .normal z,H1))(V:ih (.code N z) H1=some (.ex e fr',H'))(r:vJ c=true->vJ c1=true/\vJ N=true)(x:Item)(hx:∀id k,exitTo id (x::k)=exitTo id k)(hs:∀(b:Frame) (tmps:LD) (ds:List Deferred) (k:List Item) (cs:List Frame) (w:LP),Steps E.prog (lone (Fm b tmps ds (lay c k)) cs w) (lone (Fm b tmps ds (.code c1::x::k)) cs w))(I:∀(b:Frame) (tmps:LD) (ds:List Deferred) (k:List Item) (cs:List Frame) (w:LP),Steps E.prog (lone (Fm b tmps ds (x::k)) cs w) (lone (Fm b tmps ds (lay N k)) cs w)):gK E c fr H e fr' H':=by intro J σ w tmps n0 X hr hf y u b ds k cs U q K;obtain⟨r1,r2⟩:=r J;have R:H.next<=H1.next:=B.up _ _ _ _ W;have Q:H1.next<=H'.next:=B.up _ _ _ _ V;have g:yU σ H.next H1.next:=λc q1 q2=>y c q1 (by omega);obtain⟨F,O,h,A,s1,f1,p,d1,e1⟩:=(B.code _ _ _ _ _ _ W).lay r1 tmps n0 X hr hf g u b ds (x::k) cs U q K;obtain⟨C,Z,j,M,s2,f2,G,d2,e2⟩:=B.code _ _ _ _ _ _ V r2 F O h n0 X s1.hr f1 (y.split s1.ext s1.next) (lT u s1.size) b A k cs U (by rw[p];exact q) d1;have L:Steps E.prog _ _:=e1;exact⟨C,Z,j,M,s1.trans s2,f2,G.trans p,d2,.head ((hs b tmps ds k cs w).trans (L.trans (I b h A k cs O))) e2⟩
theorem l8(G:IhOK E ih){c1:Code}{e':AExit}(K:ih (.code c1 fr) H=some (.ex e fr',H'))(y:vJ c=true->vJ c1=true)(xs:List Item)(I:∀(tmps:LD),(∀σ:vO,sO σ fr tmps->∀(b:Frame) (ds:List Deferred) (k:List Item) (cs:List Frame) (w:LP),HR E σ H w->Steps E.prog (lone (Fm b tmps ds (lay c k)) cs w) (lone (Fm b tmps ds (.code c1::xs++k)) cs w)))(p:∀(m:Machine) (b:Frame) (tmps:LD) (ds:List Deferred) (k:List Item) (cs:List Frame) (w:LP),Reach E.prog e m b tmps ds (xs++k) cs w->Reach E.prog e' m b tmps ds k cs w):gK E c fr H e' fr' H':=by intro r σ w tmps n0 N B C x u b ds k cs J q z;obtain⟨g,F,h,A,s1,f1,j,M,L⟩:=(G.code _ _ _ _ _ _ K).lay (y r) tmps n0 N B C x u b ds (xs++k) cs J q z;exact⟨g,F,h,A,s1,f1,j,M,p _ _ _ _ _ _ _ (.head (I tmps σ C b ds k cs w B) L)⟩
theorem qLg(he:EOk E)(x:IhOK E ih)(h:body E ih (.code c fr) H=some (out,H')):∃e fr',out=.ex e fr'/\gK E c fr H e fr' H':=by
 cases c;case skip=>cases h;exact⟨_,_,rfl,oF λb tmps ds k cs w=>.one qKR⟩
 case label l=>cases h;exact⟨_,_,rfl,oF λb tmps ds k cs w=>.one qHC⟩
 case ret=>cases h;exact⟨_,_,rfl,oF λb tmps ds k cs w=>⟨k,gq _ _⟩⟩
 case exit id=>cases h;exact⟨_,_,rfl,oF λb tmps ds k cs w=>⟨λk' I=>.one (qKS I),λu=>⟨k,u,gq _ _⟩⟩⟩
 case seq a b=>
  simp only[body]at h;split at h
  ·rename_i j H1 r;obtain⟨e,fr',rfl⟩:=qA7 x h;refine⟨e,fr',rfl,qE2 x r h (λhr=>by simpa[vJ]using hr) (.code b) (λid k=>rfl) (λb tmps ds k cs w=>.one qAy) (λb tmps ds k cs w=>qAs _ _ _ _ _ _ _ _)⟩
  rename_i p;obtain⟨e,fr',rfl⟩:=qA7 x h;have u:e≠.normal:=λC=>by subst C;exact p _ _ h
  exact⟨e,fr',rfl,l8 x h (λhr=>by simp[vJ]at hr;exact hr.1) [.code b] (λtmps σ q b ds k cs w hr=>.one qAy) (λm b tmps ds k cs w g=>g.weaken (λid=>rfl) u)⟩
 case cond cnd a b=>
  simp only[body]at h;split at h
  ·rename_i B;obtain⟨e,fr',rfl⟩:=qA7 x h;refine⟨e,fr',rfl,l8 x h (λhr=>by simp[vJ]at hr;exact hr.1) [] (λtmps σ q b ds k cs w hr=>.one ?_) (λm b tmps ds k cs w g=>g)⟩;exact qBI (t:=true) (uR (rA (a:=⟨tmps,[]⟩) he hr q B))
  ·rename_i B;obtain⟨e,fr',rfl⟩:=qA7 x h;refine⟨e,fr',rfl,l8 x h (λhr=>by simp[vJ]at hr;exact hr.2) [] (λtmps σ q b ds k cs w hr=>.one ?_) (λm b tmps ds k cs w g=>g)⟩;exact qBI (t:=false) (uR (rA (a:=⟨tmps,[]⟩) he hr q B))
  cases h
 case block id b=>
  simp only[body]at h;split at h
  ·rename_i y j H1 r;by_cases rh:y=id
   ·subst rh;simp only[bj,ai]at h;cases h;exact⟨_,_,rfl,l8 x r (λhr=>hr) [.inBlock y] (λtmps σ q b ds k cs w hr=>.one eU) (λm b tmps ds k cs w g=>g.1 k (by simp[exitTo]))⟩
   have K:Nat.beq y id=false:=by
    cases K:Nat.beq y id with
    |false=>rfl
    |true=>exact absurd (vW K) rh
   simp only[K,bc]at h;cases h;refine⟨_,_,rfl,l8 x r (λhr=>hr) [.inBlock id] (λtmps σ q b ds k cs w hr=>.one eU) (λm b tmps ds k cs w g=>g.pq (λN U=>?_) (by simp))⟩;cases U;have:(id==y)=false:=by simpa using λC=>rh C.symm
   simp[exitTo,this]
  rename_i p;obtain⟨e,fr',rfl⟩:=qA7 x h;refine⟨e,fr',rfl,l8 x h (λhr=>hr) [.inBlock id] (λtmps σ q b ds k cs w hr=>.one eU) (λm b tmps ds k cs w g=>?_)⟩;cases e with
  |normal=>have g':Steps E.prog _ _:=g;exact g'.trans (.one qCX)
  |exit y=>exact absurd h (p _ _ _)
  |ret=>exact g
 case loop b=>
  simp only[body]at h;split at h
  ·rename_i j H1 r;obtain⟨e,fr',rfl⟩:=qA7 x h;exact⟨e,fr',rfl,qE2 x r h (λhr=>⟨hr,hr⟩) (.inLoop b) (λid k=>rfl) (λb tmps ds k cs w=>gq _ _) (λb tmps ds k cs w=>.one qEO)⟩
  rename_i p;obtain⟨e,fr',rfl⟩:=qA7 x h;have u:e≠.normal:=λC=>by subst C;exact p _ _ h
  exact⟨e,fr',rfl,l8 x h (λhr=>hr) [.inLoop b] (λtmps σ q b ds k cs w hr=>gq _ _) (λm b tmps ds k cs w g=>g.weaken (λid=>rfl) u)⟩
 case scope b=>
  simp only[body]at h;obtain⟨e,fr',rfl⟩:=qA7 x h;refine⟨e,fr',rfl,l8 x h (λhr=>hr) [.inScope b] (λtmps σ q b ds k cs w hr=>.one qHB) (λm V tmps ds k cs w g=>?_)⟩;by_cases u:e=.normal
  ·subst u;have g':Steps E.prog _ _:=g;exact g'.trans (.one qCW)
  exact g.weaken (λid=>rfl) u
 case region id ops draw=>
  simp only[body]at h;have L:∀(ts:List (Nat×Nat)) (j:Fr) (H1:AH),zY E ih ops draw ts ops.toList 0 fr H=some (j,H1)->some (Out.ex .normal j,H1)=some (out,H')->∃e fr',out=.ex e fr'/\gK E (.region id ops draw) fr H e fr' H':=by intro ts j H1 r h;cases h;refine⟨_,_,rfl,?_⟩;intro G σ w tmps n0 W hr q A O b ds k cs I F J;obtain⟨σ',w',z,M,R,Q⟩:=cP he x.call x.round x.up (id:=id) (λhd=>by simpa[vJ,hd]using G) b ds k cs I F r hr q A;exact⟨σ',w',z,ds,M,R,pO r,J.step hr M,Q⟩
  grind
 case rangeFunc f params assign b=>simp only[body]at h;exact qG1 he x h
 all_goals(simp only[body]at h;cases h)
theorem qLm(he:EOk E)(x:IhOK E ih):IhOK E (body E ih) where
 up:=qLl x.up
 call f args H v H' h:=by obtain⟨v',e,g⟩:=qLk he x h;cases e;exact g
 round l args H v H' h:=by have p:gU E ih l args H=some (.val v,H'):=h;obtain⟨v',e,g⟩:=qGT x p;cases e;exact g
 code c fr H e fr' H' h:=by obtain⟨e',y,j,g⟩:=qLg he x h;cases j;exact g
 mr c fr H v H' h:=by obtain⟨e',y,j,g⟩:=qLg he x h;cases j
theorem qKj(he:EOk E):∀n,IhOK E (qQ7 E n)
 |0=>{up:=qKi E 0,call:=λ_ _ _ _ _ h=>(by cases h),round:=λ_ _ _ _ _ h=>(by cases h),code:=λ_ _ _ _ _ _ h=>(by cases h),mr:=λ_ _ _ _ _ h=>(by cases h)}
 |n+1=>qLm he (qKj he n)
end
def cZ(P:LK)(ts:T TI):List TypeInfo->Nat->Bool
 | [],_=>true
 |_::h,n=>(match P.underlying n with
  |some (.struct fs)=>fs.toList.all λf=>(ts.get f.type).isSome
  |_=>true)&&cZ P ts h (n+1)
def l5(P:LK):Bool:=P.follows .mixedOrders&&cZ P (iW P).types P.types.toList 0
theorem fF{P:LK}:∀(y:List TypeInfo) (n:Nat) (t:T TI) (k:Nat) (x:TI),(fG P y n t).get k=some x->
  t.get k=some x∨∃i d,n<=k/\y[k-n]? = some i/\P.underlying k=some d/\x=qFp i d
 | [],n,t,k,x,h=>.inl h
 | i::y,n,t,k,x,h=>by
  simp only[fG]at h
  rcases fF y (n+1) _ k x h with g|⟨j,d,u,r,q,p⟩
  ·split at g
   ·rename_i d hd
    rw[T.ch]at g
    grind
   exact .inl g
  grind
theorem qAw:∀(fs:List Func) (n:Nat) (t:T Func) (k:Nat) (fn:Func),(oC fs n t).get k=some fn->
  t.get k = some fn ∨ (n <= k /\ fs[k - n]? = some fn /\ ∃ c, fn.body = some c /\ fn.name ≠ "runtime.NumGoroutine" /\ vJ c = true)
 | [],n,t,k,fn,h=>.inl h
 | f::fs,n,t,k,fn,h=>by
  simp only[oC]at h
  rcases qAw fs (n+1) _ k fn h with g|⟨q,p,j⟩
  ·split at g
   ·rename_i c y
    cases x : (f.name == "runtime.NumGoroutine" || !vJ c) with
    |true=>rw[x]at g;exact .inl g
    |false=>
     rw[x]at g
     simp only[bc]at g
     rw[T.ch]at g
     grind
   exact .inl g
  grind
theorem aX{P:LK}{ts:T TI}:∀(y:List TypeInfo) (n:Nat),cZ P ts y n=true->∀k fs,n<=k->k<n+y.length->P.underlying k=some (.struct fs)->∀f∈fs.toList,∃p,ts.get f.type=some p
 | [],n,h,k,fs,x,j,h3,f,g=>by simp at j;omega
 |i::y,n,h,k,fs,x,j,h3,f,g=>by
  simp only[cZ,aE]at h;by_cases e:n=k
  ·subst e;have x:=h.1;rw[h3]at x;simp only[al]at x;exact js.1 (x f g)
  exact aX y (n+1) h.2 k fs (by omega) (by simp at j;omega) h3 f g
theorem qBP{ag:Bool}{size:Nat}(h:qBQ ag size v=true):zP v=true/\v.cells.toList.all qU=true/\v.cells.toList.length=size/\(ag=true->v=.agg ⟨v.cells.toList⟩)/\(ag=false->v.cells.toList=[v]):=by
 simp only[qBQ,aE]at h;obtain⟨⟨⟨g,y⟩,h3⟩,x⟩:=h;refine⟨g,y,vW h3,λe=>?_,λe=>?_⟩
 ·subst e;cases v<;>simp at x<;>rfl
 subst e;cases v<;>simp[Value.cells]at x ⊢
theorem qPT(h:l5 P=true):EOk (iW P) where
 types t F A:=by
  rcases fF _ _ _ _ _ A with g|⟨i,d,B,r,q,rfl⟩
  ·simp[T.get]at g
  have x:P.types[t]? = some i:=by simpa using r
  have p:=(cu.1 x).1
  have G:P.info? t=some i:=by
   show Tables.info? P.toTables t=some i
   unfold Tables.info?
   rw[bo p];exact x
  refine⟨i,G,q,rfl,rfl,?_,rfl⟩
  intro z j
  simp only[qFp]at j
  split at j
  ·rename_i v hv
   cases y:qBQ (qQs d) i.size v with
   |false=>rw[y]at j;cases j
   |true=>
    rw[y]at j
    cases j
    obtain⟨a1,a2,a3,K,J⟩:=qBP y
    exact⟨v,hv,a1,rfl,a2,a3,K,J⟩
  cases j
 funcs f fn u:=by
  rcases qAw _ _ _ _ _ u with g|⟨B,r,c,q,C,I⟩
  ·simp[T.get]at g
  have x:P.funcs[f]? = some fn:=by simpa using r
  exact⟨x,by rw[q];rfl,C⟩
 py f fn c u L:=by
  rcases qAw _ _ _ _ _ u with g|⟨B,r,M,q,C,I⟩
  ·simp[T.get]at g
  grind
 mixed:=by
  simp only[l5,aE]at h
  exact h.1
 ng:=rfl
 fields t F fs A hd f u:=by
  rcases fF _ _ _ _ _ A with g|⟨i,d,B,r,q,rfl⟩
  ·simp[T.get]at g
  simp only[l5,aE]at h
  have x:P.types[t]? = some i:=by simpa using r
  have p:=(cu.1 x).1
  simp only[qFp]at hd
  exact aX _ _ h.2 t fs (cq _) (by simpa using p) (by rw[q,hd]) f u
def qA9(n:Nat):AH:={blocks:=.leaf,next:=n,low:=zX}
def isTrue(r:xM):Bool:=match r with
 |some (.val (.bool true),_)=>true
 |_=>false
theorem EOk.laid{E:Env}(h:EOk E)(l:List (Nat×ABlk)):EOk {E with laid:=l}:=by obtain⟨⟩:=h;constructor<;>assumption
structure Kept (w w':LP):Prop where
 size:w.heap.size<=w'.heap.size
 kp:∀B,B<w.heap.size->w'.heap[B]? = w.heap[B]?
 tape:w'.tape=w.tape
 os:w'.os=w.os
 output:w'.output=w.output
structure KeptD (w w':LP):Prop where
 size:w.heap.size<=w'.heap.size
 kp:∀B,B<w.heap.size->w'.heap[B]? = w.heap[B]?
 tape:w'.tape=w.tape
 os:w'.os=w.os
 output:w'.output=w.output/\w.drawn<=w'.drawn
theorem KeptD.kept{w:LP}(k:KeptD w w'):Kept w w':=⟨k.size,k.kp,k.tape,k.os,k.output.1⟩
theorem Kept.refl(w:LP):Kept w w:=⟨vP _,λ_ _=>rfl,rfl,rfl,rfl⟩
section
variable{E:Env}{σ σ':vO}{H H':AH}{w w':LP}
theorem KeptD.refl(w:LP):KeptD w w:=⟨vP _,λ_ _=>rfl,rfl,rfl,⟨rfl,vP _⟩⟩
theorem KeptD.trans{a b c:LP}(h:KeptD a b)(g:KeptD b c):KeptD a c:=
 ⟨lT h.size g.size,λB x=>(g.kp B (bp x h.size)).trans (h.kp B x),g.tape.trans h.tape,g.os.trans h.os,⟨g.output.1.trans h.output.1,lT h.output.2 g.output.2⟩⟩
theorem Step.kept(hr:HR E σ H w)(k:KeptD w w'):Step E σ H w σ H w':=
  have s:=Step.refl hr
  { hr:=⟨λb y L x h=>by
      obtain⟨o,p,j⟩:=hr.kq b y L x h
      exact⟨o,by rw[k.kp _ (hr.lt x h)];exact p,j⟩,hr.sep,hr.la,hr.wf⟩
    next:=s.next,ext:=s.ext,size:=k.size,low:=s.low,tape:=k.tape,os:=k.os,output:=⟨k.output.1,λ_=>k.output.2⟩,frame:=λB g _=>k.kp B g,
    origin:=s.origin,kp:=s.kp,hN:=s.hN,born:=s.born}
abbrev zCj:=FuncId->List Value->AH->Option (Value×AH)
def qVs(E:Env)(h:zCj):Prop:=∀f args H v H',h f args H=some (v,H')->H.next<=H'.next/\xK E f args H v H'
theorem qMK(h:∀(σ:vO) (w:LP) (x:LA),HR E σ H w->VRs σ args x->Calls E.prog f ⟨x⟩ w λe w'=>∃v',e=.returned v'/\VR σ v v'/\KeptD w w'):xK E f args H v H:=by intro σ w x y hv _ cs;obtain⟨e,w',fr,⟨v',p,j,h3⟩,g⟩:=h σ w x y hv cs;exact⟨e,w',fr,⟨σ,v',p,j,Step.kept y h3⟩,g⟩
end
end Go.Am
