/- A region whose order is drawn: one operation more, in any order. Conditions: none. -/
import Derived.Test.YtminhjecpnpaeaaGreatDoorAm5
set_option linter.unusedVariables false
set_option linter.unusedSimpArgs false
namespace Go.Am
open Go
section
variable{E:Env}{ih:Cmd->AH->j9}{ts:List (Nat×Nat)}{ops:Array Oper}{frs:Nat->Fr}{Hs:Nat->AH}{σ0 σ:zU}{w0 w:World}{t:Nat}{S:Nat->Prop}{tmps:Array Value}
theorem qJ9{fr x:Fr}{d:Option Tmp}{v:Value}(h:wR fr d v=some x):x.sz=fr.sz:=by unfold wR at h;grind
theorem Trace.sz(y:Trace E ih ts ops frs Hs):∀{i:Nat},i<=ops.size->(frs i).sz=(frs 0).sz
 |0,_=>rfl
 |i+1,h=>by
  rw[←y.sz (i:=i) (by omega)];obtain⟨o,_,x⟩:=y.step i (by omega);rcases x with x|⟨v,Q,x,_⟩
  ·exact qJ9 x.2.1
  exact qJ9 x.2.2.2
theorem Inv.apart(p:TF E ih ts ops frs Hs)(x:Inv E ih ts ops frs Hs σ0 w0 t S σ w tmps){i:Nat}(r:¬S i)(c:i<ops.size)(h:∀a,Anc ops.toList a i->S a)(b:xF ops.toList i=false){j:Nat}(e:qBf E ih ts ops frs Hs j)(y:j≠i)(q:(t<=j/\j<i)∨(i<j/\j<t)):NF ts Hs j/\∀o,(j,o)∈ts->o∈qJ ops.toList i ts:=by
 refine fZ p c e y b ?_;cases k:rG (kI ops.toList) j i with
 |false=>rfl
 |true=>
  rcases q with⟨l,g⟩|⟨l,g⟩
  ·exact absurd (h j ((l8 k).1 g)) (x.a2 j l e)
  exact absurd (x.down j i (x.a1 j g e) ((l8 k).2 (by omega))) r
theorem Inv.content(hu:rS ih)(B:Trace E ih ts ops frs Hs)(A:TF E ih ts ops frs Hs)(p:Inv E ih ts ops frs Hs σ0 w0 t S σ w tmps){i:Nat}(K:¬S i)(I:i<ops.size)(c:∀a,Anc ops.toList a i->S a)(G:xF ops.toList i=false){b:Nat}{k:ABlk}(C:(Hs i).blocks.get b=some k)(P:b∉qJ ops.toList i ts):rQ Hs ops.size t b=some k:=by
 have x:∀i j,i<=j->j<=ops.size->(Hs i).next<=(Hs j).next:=λi j z y=>B.nexts hu z y;have u:=(A.wf i (by omega) b k C).2;have r:∀j,qBf E ih ts ops frs Hs j->j≠i->((t<=j/\j<i)∨(i<j/\j<t))->NF ts Hs j/\(j,b)∉ts:=by intro j o z y;obtain⟨Q,g2⟩:=p.apart A K I c G o z y;grind
 have l:=p.tle;by_cases F:t<=i
 ·by_cases g:b<(Hs t).next
  ·rw[oV g,←kF hu B A g F (by omega) (λj z y o=>r j o (by omega) (.inl ⟨z,y⟩)),C]
  obtain⟨q,O,M,L,J⟩:=qBQ (Hs:=Hs) (n:=ops.size) (ops.size-t) t (by omega) (by omega) (Nat.lt_of_lt_of_le u (x i ops.size (by omega) (lR _)));have N:q<i:=by
   rcases Nat.lt_or_ge q i with h|h
   ·exact h
   have:=x i q h (by omega);omega
  rw[uH x M L J (q-t) t (by omega),←kF hu B A J (show q+1<=i by omega) (by omega) (λj z y o=>r j o (by omega) (.inl ⟨by omega,y⟩)),C]
 have g:b<(Hs t).next:=Nat.lt_of_lt_of_le u (x i t (by omega) l);rw[oV g,kF hu B A u (show i<=t by omega) l (λj z y o=>?_),C];by_cases e:j=i
 ·subst e;exact absurd (p.a1 j y o) K
 exact r j o e (.inr ⟨by omega,y⟩)
theorem Inv.view(hu:rS ih)(z:Trace E ih ts ops frs Hs)(u:TF E ih ts ops frs Hs)(inv:Inv E ih ts ops frs Hs σ0 w0 t S σ w tmps){i:Nat}(A:¬S i)(q:i<ops.size)(x:∀a,Anc ops.toList a i->S a)(p:xF ops.toList i=false):HR E σ (zR (Hs i) (qJ ops.toList i ts)) w:=by
 have g:∀b k,(zR (Hs i) (qJ ops.toList i ts)).blocks.get b=some k->(Hs i).blocks.get b=some k/\rQ Hs ops.size t b=some k:=by
  intro b k h;rw[show(zR (Hs i) (qJ ops.toList i ts)).blocks=lK (Hs i).blocks (qJ ops.toList i ts)from rfl,yO]at h;split at h
  ·cases h
  rename_i B;exact⟨h,inv.content hu z u A q x p h B⟩
 exact⟨λb k L r=>inv.objs b k L (g b k r).2,λj e c y o l F C=>inv.sep j e c y o l (g _ _ F).2 (g _ _ C).2,inv.glob,λb k r=>u.wf i (by omega) b k (g b k r).1⟩
theorem Inv.done(y:Inv E ih ts ops frs Hs σ0 w0 t S σ w tmps){i:Nat}(b:i<ops.size)(h:∀a,Anc ops.toList a i->S a):(∀j a,(S j∨j=i)->Anc ops.toList a j->(S a∨a=i))/\∀j,(S j∨j=i)->j<ops.size:=by
 refine⟨λj a x c=>?_,λj x=>?_⟩
 ·rcases x with x|rfl
  ·exact .inl (y.down j a x c)
  exact .inl (h a c)
 rcases x with x|rfl
 ·exact y.slt j x
 exact b
theorem Inv.blk_lt(h:Inv E ih ts ops frs Hs σ0 w0 t S σ w tmps){b:Nat}{k:ABlk}{L:Loc}(y:rQ Hs ops.size t b=some k)(x:σ b=some L):L.blk<w.heap.size:=by obtain⟨o,c,_⟩:=h.objs b k L y x;grind
theorem Inv.pure(hreg:bD ops.toList=true)(hu:rS ih)(U:Trace E ih ts ops frs Hs)(tf:TF E ih ts ops frs Hs)(hfree0:yD σ0 (Hs 0).next (Hs ops.size).next)(x:Inv E ih ts ops frs Hs σ0 w0 t S σ w tmps){i:Nat}(hi:¬S i)(A:i<ops.size)(q:∀a,Anc ops.toList a i->S a)(hnb:xF ops.toList i=false){o:Oper}(ho:ops[i]? = some o){v v':Value}{Q:AH}(hrun:qH9 E ih (qJ ops.toList i ts) ops (frs i) (Hs i) (frs (i+1)) (Hs (i+1)) o v Q)(hp:(Hs i).next<=Q.low)(hWn:∀b∈qJ ops.toList i ts,b<(Hs i).next∨Q.next<=b){σ':zU}{w':World}(st:Step E σ (zR (Hs i) (qJ ops.toList i ts)) w σ' Q w')(hv:VR σ' v v'):Inv E ih ts ops frs Hs σ0 w0 t (λj=>S j∨j=i) σ' w' (gZ tmps o.dst v'):=by
 have c:∀i j,i<=j->j<=ops.size->(Hs i).next<=(Hs j).next:=λi j h1 h2=>U.nexts hu h1 h2;obtain⟨h1,h2,h3,h4⟩:=hrun;have eQ:Q.next=(Hs (i+1)).next:=by rw[h3];rfl
 have C:=x.view hu U tf hi A q hnb;have p1:=st.p1 C hp;have p3:=st.p3 C hp;have O:¬qBf E ih ts ops frs Hs i:=by rintro⟨o',v2,Q2,ho2,hr2,hn2⟩;rw[ho]at ho2;cases ho2;have:=h2.symm.trans hr2.2.1;cases this;exact hn2 hp
 have J:yD σ (Hs i).next Q.next:=λb g1 g2=>x.free i A hi b g1 (by omega);have hle:zU.le σ σ':=st.le J;have hnext:=U.next hu A;have l:∀b k,(Hs i).next<=b->b<(Hs (i+1)).next->rQ Hs ops.size t b=some k->Q.blocks.get b=some k:=by
  intro b k g1 g2 K;have R:rQ Hs ops.size t b=(Hs (i+1)).blocks.get b:=by
   by_cases hti:t<=i
   ·exact uH c A g1 g2 (i-t) t (by omega)
   ·have hbt:b<(Hs t).next:=Nat.lt_of_lt_of_le g2 (c (i+1) t (by omega) x.tle);rw[oV hbt];refine kF hu U tf g2 (by omega) x.tle λj X q2 hj=>?_;obtain⟨g3,g4⟩:=x.apart tf hi A q hnb hj (by omega) (.inr ⟨by omega,q2⟩);grind
  rw[R,h3]at K;have:(yI Q.blocks (Hs i).blocks (qJ ops.toList i ts)).get b=some k:=K;rw[xZ]at this;grind
 have g:∀b,¬((Hs i).next<=b/\b<(Hs (i+1)).next)->σ' b=σ b:=by intro b F;exact st.ext b (by show b<(Hs i).next∨Q.next<=b;omega)
 obtain⟨P,Z⟩:=x.done A q;obtain⟨hsl,hsz⟩:=b9 hreg U x.down ho hi hle x.tsz (U.sz (by omega)) x.slots h4 hv
 refine { tle:=x.tle,a1:=λj g1 g2=>.inl (x.a1 j g1 g2),a2:=?_,a3:=x.a3,down:=P,slt:=Z,objs:=?_,sep:=?_,glob:=st.hr.glob,free:=?_,ext:=?_,tsz:=hsz,slots:=hsl,
          size:=lT x.size st.size,tape:=st.tape.trans x.tape,os:=st.os.trans x.os,output:=⟨st.output.1.trans x.output.1,λe=>lT (x.output.2 e) (st.output.2 e)⟩,frame:=?_,origin:=?_}
 ·rintro j g1 g2 (g3|rfl)
  ·exact x.a2 j g1 g2 g3
  ·exact O g2
 ·intro b k L K N;by_cases F:(Hs i).next<=b/\b<(Hs (i+1)).next
  ·exact st.hr.objs b k L (l b k F.1 F.2 K) N
  ·rw[g b F]at N;obtain⟨o',g1,g2⟩:=x.objs b k L K N;exact⟨o',by rw[p1 _ (x.blk_lt K N)];exact g1,g2.mono hle⟩
 ·intro p y z r I G c1 c2 own W V hne;by_cases M:(Hs i).next<=p/\p<(Hs (i+1)).next
  ·have X:=l p z M.1 M.2 c1;by_cases u:(Hs i).next<=y/\y<(Hs (i+1)).next
   ·exact st.hr.sep p y z r I G X (l y r u.1 u.2 c2) own W V hne
   ·rw[g y u]at V;have:=p3 p z I M.1 X W;have:=x.blk_lt c2 V;omega
  ·rw[g p M]at W;by_cases u:(Hs i).next<=y/\y<(Hs (i+1)).next
   ·have:=p3 y r G u.1 (l y r u.1 u.2 c2) V;have:=x.blk_lt c1 W;omega
   ·rw[g y u]at V;exact x.sep p y z r I G c1 c2 own W V hne
 ·intro j hj hnj b g1 g2;have hji:j≠i:=λe=>hnj (.inr e);have:¬((Hs i).next<=b/\b<(Hs (i+1)).next):=by
   rintro⟨X,q2⟩;by_cases hlt2:j<i
   ·have:=c (j+1) i (by omega) (by omega);omega
   ·have:=c (i+1) j (by omega) (by omega);omega
  rw[g b this];exact x.free j hj (λh=>hnj (.inl h)) b g1 g2
 ·intro b F;have:¬((Hs i).next<=b/\b<(Hs (i+1)).next):=by rintro⟨X,q2⟩;have:=c 0 i (by omega) (by omega);have:=c (i+1) ops.size (by omega) (lR _);omega
  rw[g b this];exact x.ext b F
 ·intro B hB hx;rw[p1 B (Nat.lt_of_lt_of_le hB x.size)];exact x.frame B hB hx
 ·intro b k L K own N;by_cases F:(Hs i).next<=b/\b<(Hs (i+1)).next
  ·have:=p3 b k L F.1 (l b k F.1 F.2 K) N;exact .inl (lT x.size this)
  ·rw[g b F]at N;exact x.origin b k L K own N
theorem Inv.skip(l:bD ops.toList=true)(C:Trace E ih ts ops frs Hs)(inv:Inv E ih ts ops frs Hs σ0 w0 t S σ w tmps){i:Nat}(J:¬S i)(B:i<ops.size)(x:∀a,Anc ops.toList a i->S a){o:Oper}(F:ops[i]? = some o)(k:qH8 ops (frs i) (Hs i) (frs (i+1)) (Hs (i+1)) o):Inv E ih ts ops frs Hs σ0 w0 t (λj=>S j∨j=i) σ w (gZ tmps o.dst undef):=by
 obtain⟨L,K,h3⟩:=k;have y:¬qBf E ih ts ops frs Hs i:=by rintro⟨N,v2,O,p,z,G⟩;rw[F]at p;cases p;exact absurd (L.symm.trans z.1) (by simp)
 obtain⟨c,g⟩:=inv.done B x;obtain⟨u,r⟩:=b9 l C inv.down F J (zU.le_refl σ) inv.tsz (C.sz (by omega)) inv.slots K (v':=undef) (.tuple .nil);refine {inv with a1:=λj q e=>.inl (inv.a1 j q e),a2:=?_,down:=c,slt:=g,free:=?_,tsz:=r,slots:=u}
 ·rintro j q e (M|rfl)
  ·exact inv.a2 j q e M
  exact y e
 exact λj I A b q e=>inv.free j I (λh=>A (.inl h)) b q e
theorem qMx(he:EOk E){H Q:AH}{fr:Fr}{o:Oper}{v:Value}{a:Act}(j:fS o.op=true)(h:vL E ih fr o H=some (v,Q))(b:∀x∈o.op.operands.toList,∀v,ev E fr x=some v->VR σ v (a.eval x)):Q=H/\∃v',(execOp a.eval o).run E.prog w=.ok (.value v') w/\VR σ v v':=by
 unfold vL vT at h;cases y:o.op<;>rw[y]at j<;>simp only[fS]at j<;>try(cases j;done)
 all_goals simp only[y,Op.operands]at b
 all_goals simp only[execOp,y]
 ·rename_i x;rw[y]at h;simp only[one]at h;cases hv:ev E fr x with
  |none=>rw[hv]at h;simp at h
  |some e=>rw[hv]at h;simp at h;obtain⟨rfl,rfl⟩:=h;exact⟨rfl,_,rfl,b _ (by simp) _ hv⟩
 ·rename_i x;rw[y]at h;simp only[one]at h;cases hv:ev E fr x with
  |none=>rw[hv]at h;simp at h
  |some e=>rw[hv]at h;simp at h;obtain⟨rfl,rfl⟩:=h;exact⟨rfl,_,rfl,b _ (by simp) _ hv⟩
 rename_i x i;rw[y]at h;simp only[one]at h;cases hv:ev E fr x with
 |none=>rw[hv]at h;simp at h
 | some e=>
  rw[hv]at h;cases e with
  | tuple vs=>
   simp only at h;cases g:vs.toList[i]? with
   |none=>rw[g]at h;simp at h
   |some u=>
    rw[g]at h;simp at h;obtain⟨rfl,rfl⟩:=h;have c:=b _ (by simp) _ hv;generalize q:a.eval x=p at c;cases c with
    |leaf l=>simp[zX]at l
    |tuple k=>obtain⟨v',g1,g2⟩:=k.get _ _ g;refine⟨rfl,v',?_,g2⟩;simp only[Instr.extract,List.getElem?_toArray,g1,Sem.run_pure,Sem.run_bind,Result.andThen_ok]
  |_=>simp at h
theorem Inv.blind(k:bD ops.toList=true)(B:Trace E ih ts ops frs Hs)(F:TF E ih ts ops frs Hs)(inv:Inv E ih ts ops frs Hs σ0 w0 t S σ w tmps){i:Nat}(J:¬S i)(p:i<ops.size)(x:∀a,Anc ops.toList a i->S a){o:Oper}(G:ops[i]? = some o)(C:xF ops.toList i=true){v v':Value}(l:wR (frs i) o.dst v=some (frs (i+1)))(hv:VR σ v v'):Inv E ih ts ops frs Hs σ0 w0 t (λj=>S j∨j=i) σ w (gZ tmps o.dst v'):=by
 have y:¬qBf E ih ts ops frs Hs i:=λq=>by rw[F.nb i p q]at C;cases C
 obtain⟨c,g⟩:=inv.done p x;obtain⟨z,u⟩:=b9 k B inv.down G J (zU.le_refl σ) inv.tsz (B.sz (by omega)) inv.slots l (v':=v') hv;refine {inv with a1:=λj r e=>.inl (inv.a1 j r e),a2:=?_,down:=c,slt:=g,free:=?_,tsz:=u,slots:=z}
 ·rintro j r e (K|rfl)
  ·exact inv.a2 j r e K
  exact y e
 exact λj I A b r e=>inv.free j I (λh=>A (.inl h)) b r e
theorem qAh(P:Nat->Prop)(n:Nat):∀(d t:Nat),t+d=n->∃q,t<=q/\q<=n/\(q=n∨P q)/\∀j,t<=j->j<q->¬P j
 |0,t,e=>⟨n,by omega,lR _,.inl rfl,λj y x=>by omega⟩
 |d+1,t,e=>by
  by_cases h:P t
  ·grind
  obtain⟨q,y,x,h3,b⟩:=qAh P n d (t+1) (by omega);grind
theorem Inv.bar(hreg:bD ops.toList=true)(hu:rS ih)(tr:Trace E ih ts ops frs Hs)(tf:TF E ih ts ops frs Hs)(x:Inv E ih ts ops frs Hs σ0 w0 t S σ w tmps){i:Nat}(hi:¬S i)(Z:i<ops.size)(u:∀a,Anc ops.toList a i->S a)(hnb:xF ops.toList i=false){o:Oper}(ho:ops[i]? = some o){v v':Value}{Q:AH}(hrun:qH9 E ih (qJ ops.toList i ts) ops (frs i) (Hs i) (frs (i+1)) (Hs (i+1)) o v Q)(hp:¬(Hs i).next<=Q.low){σ':zU}{w':World}(st:Step E σ (zR (Hs i) (qJ ops.toList i ts)) w σ' Q w')(hv:VR σ' v v'):∃V,Inv E ih ts ops frs Hs σ0 w0 V (λj=>S j∨j=i) σ' w' (gZ tmps o.dst v'):=by
 have y:∀i j,i<=j->j<=ops.size->(Hs i).next<=(Hs j).next:=λi j h1 h2=>tr.nexts hu h1 h2;have hbar:qBf E ih ts ops frs Hs i:=⟨o,v,Q,ho,hrun,hp⟩;have hit:i=t:=by
  rcases Nat.lt_trichotomy i t with h|h|h
  ·exact absurd (x.a1 i h hbar) hi
  ·exact h
  ·have htb:qBf E ih ts ops frs Hs t:=x.a3.resolve_left (by omega);have:=qMy tf hbar htb (by omega);exact absurd (u t ((l8 this).1 h)) (x.a2 t (lR _) htb)
 subst hit;have hview:=x.view hu tr tf hi Z u hnb;obtain⟨h1,h2,h3,h4⟩:=hrun;have hW:qJ ops.toList i ts=[]:=(tf.bars i Z hbar).1;rw[hW]at h2 h3 st hview;have eQ:Q.next=(Hs (i+1)).next:=by rw[h3];rfl
 have eB:∀b,(Hs (i+1)).blocks.get b=Q.blocks.get b:=by intro b;rw[h3];rfl
 have eV:∀b,(zR (Hs i) []).blocks.get b=(Hs i).blocks.get b:=λb=>rfl;have hfreei:yD σ (Hs i).next Q.next:=λb g1 g2=>x.free i Z hi b g1 (by omega);have hle:zU.le σ σ':=st.le hfreei;have g:∀b,¬((Hs i).next<=b/\b<(Hs (i+1)).next)->σ' b=σ b:=by intro b z;exact st.ext b (by show b<(Hs i).next∨Q.next<=b;omega)
 have hnext:=tr.next hu Z;obtain⟨V,q1,q2,q3,q4⟩:=qAh (qBf E ih ts ops frs Hs) ops.size (ops.size-(i+1)) (i+1) (by omega);have F:∀b,b<(Hs (i+1)).next->rQ Hs ops.size V b=Q.blocks.get b:=by intro b z;rw[oV (Nat.lt_of_lt_of_le z (y (i+1) V q1 q2)),kF hu tr tf z q1 q2 (λj g1 g2 hj=>absurd hj (q4 j g1 g2)),eB]
 have r:∀b,¬b<(Hs (i+1)).next->rQ Hs ops.size V b=rQ Hs ops.size i b:=by
  intro b z;by_cases hbn:b<(Hs ops.size).next
  ·obtain⟨q,g1,g2,g3,g4⟩:=qBQ (Hs:=Hs) (n:=ops.size) (ops.size-(i+1)) (i+1) (by omega) (by omega) hbn;rw[uH y g2 g3 g4 (q-i) i (by omega)];by_cases hqt:V<=q
   ·exact uH y g2 g3 g4 (q-V) V (by omega)
   ·rw[oV (Nat.lt_of_lt_of_le g4 (y (q+1) V (by omega) q2))];exact kF hu tr tf g4 (by omega) q2 (λj P k2 hj=>absurd hj (q4 j (by omega) k2))
  ·rw[fP y (by omega) (ops.size-V) V (by omega),fP y (by omega) (ops.size-i) i (by omega)]
 have p:∀b,b<(Hs i).next->rQ Hs ops.size i b=(Hs i).blocks.get b:=λb z=>oV z;obtain⟨hdown,hslt⟩:=x.done Z u;obtain⟨hsl,hsz⟩:=b9 hreg tr x.down ho hi hle x.tsz (tr.sz (by omega)) x.slots h4 hv;have pend:∀b k L,¬b<(Hs (i+1)).next->rQ Hs ops.size i b=some k->σ b=some L->w'.heap[L.blk]? = w.heap[L.blk]? :=by intro b k L z R W;refine st.frame _ (x.blk_lt R W) λA P L1 g1 g2 g3 _=>?_;have U:=(tf.wf i (by omega) A P g1).2;exact x.sep A b P k L1 L (by rw[p A U];exact g1) R g2 g3 W (by omega)
 have from':∀A P L1,Q.blocks.get A=some P->σ' A=some L1->∀b2 k2 L2,¬b2<(Hs (i+1)).next->rQ Hs ops.size i b2=some k2->σ b2=some L2->(P.own=true∨k2.own=true)->L1.blk≠L2.blk:=by
  intro A P L1 g1 g2 b2 k2 L2 I hc2 hs2 C;have U:=(st.hr.wf A P g1).2;by_cases X:A<(Hs i).next
  ·obtain⟨k0,e1,e2,e3⟩:=st.old A P g1 X;rw[g A (by omega)]at g2;have c1:rQ Hs ops.size i A=some k0:=by rw[p A X];exact e1
   rcases C with C|C
   ·exact x.sep A b2 k0 k2 L1 L2 c1 hc2 (by rw[e3];exact C) g2 hs2 (by omega)
   ·exact λe=>x.sep b2 A k2 k0 L2 L1 hc2 c1 C hs2 g2 (by omega) e.symm
  ·have hown1:=(st.born A P g1 (by show(Hs i).next<=A;omega)).2;rcases st.origin A P L1 g1 hown1 g2 with h|⟨b0,k0,L0,e1,e2,e3,e4,_⟩
   ·have:=x.blk_lt hc2 hs2;omega
   ·have hb0:=(tf.wf i (by omega) b0 k0 e1).2;have:=x.sep b0 b2 k0 k2 L0 L2 (by rw[p b0 hb0];exact e1) hc2 e2 e3 hs2 (by omega);omega
 refine⟨V,?_⟩
 refine { tle:=q2,a1:=?_,a2:=?_,a3:=q3,down:=hdown,slt:=hslt,objs:=?_,sep:=?_,glob:=st.hr.glob,free:=?_,ext:=?_,tsz:=hsz,slots:=hsl,
          size:=lT x.size st.size,tape:=st.tape.trans x.tape,os:=st.os.trans x.os,output:=⟨st.output.1.trans x.output.1,λe=>lT (x.output.2 e) (st.output.2 e)⟩,frame:=?_,origin:=?_}
 ·intro j g1 g2;rcases Nat.lt_trichotomy j i with h|h|h
  ·exact .inl (x.a1 j h g2)
  ·exact .inr h
  ·exact absurd g2 (q4 j (by omega) g1)
 ·rintro j g1 g2 (g3|rfl)
  ·exact x.a2 j (by omega) g2 g3
  ·omega
 ·intro b k L R W;by_cases z:b<(Hs (i+1)).next
  ·rw[F b z]at R;exact st.hr.objs b k L R W
  ·rw[r b z]at R;rw[g b (by omega)]at W;obtain⟨o',g1,g2⟩:=x.objs b k L R W;exact⟨o',by rw[pend b k L z R W];exact g1,g2.mono hle⟩
 ·intro l c K J O N c1 c2 own s1 s2 hne;by_cases U:l<(Hs (i+1)).next
  ·rw[F l U]at c1;by_cases I:c<(Hs (i+1)).next
   ·rw[F c I]at c2;exact st.hr.sep l c K J O N c1 c2 own s1 s2 hne
   ·rw[r c I]at c2;rw[g c (by omega)]at s2;exact from' l K O c1 s1 c J N I c2 s2 (.inl own)
  ·rw[r l U]at c1;rw[g l (by omega)]at s1;by_cases I:c<(Hs (i+1)).next
   ·rw[F c I]at c2;exact λe=>from' c J N c2 s2 l K O U c1 s1 (.inr own) e.symm
   ·rw[r c I]at c2;rw[g c (by omega)]at s2;exact x.sep l c K J O N c1 c2 own s1 s2 hne
 ·intro j hj hnj b g1 g2;have hji:j≠i:=λe=>hnj (.inr e);have:¬((Hs i).next<=b/\b<(Hs (i+1)).next):=by
   rintro⟨P,k2⟩;by_cases hlt2:j<i
   ·have:=y (j+1) i (by omega) (by omega);omega
   ·have:=y (i+1) j (by omega) (by omega);omega
  rw[g b this];exact x.free j hj (λh=>hnj (.inl h)) b g1 g2
 ·intro b z;have:¬((Hs i).next<=b/\b<(Hs (i+1)).next):=by rintro⟨P,k2⟩;have:=y 0 i (by omega) (by omega);have:=y (i+1) ops.size (by omega) (lR _);omega
  rw[g b this];exact x.ext b z
 ·intro B hB hx;rw [st.frame B (Nat.lt_of_lt_of_le hB x.size) ?_]
  ·exact x.frame B hB hx
  ·intro b k L g1 g2 g3 g4 e;have z:=(tf.wf i (by omega) b k g1).2;rcases x.origin b k L (by rw[p b z];exact g1) g2 g3 with h|⟨G,M,L₀,e1,e2,e3,e4,e5⟩
   ·omega
   · have hlow:(Hs ops.size).low<=(Hs (i+1)).low:=by
       have:∀d j,j+d=ops.size->(Hs ops.size).low<=(Hs j).low:=by
         intro d
         induction d with
         | zero => intro j e;have:j=ops.size:=by omega
                   subst this;exact lR _
         |succ d IH=>intro j e;exact lT (IH (j+1) (by omega)) (tf.low j (by omega))
       exact this (ops.size-(i+1)) (i+1) (by omega)
     have hq:(Hs (i+1)).low<=Q.low:=by rw[h3];exact Nat.min_le_right _ _
     exact hx G M L₀ e1 e2 e3 (by omega) (by omega)
 ·intro b k L R own W;by_cases z:b<(Hs (i+1)).next
  ·rw[F b z]at R;rcases st.origin b k L R own W with h|⟨G,M,L₀,e1,e2,e3,e4,e5⟩
   ·exact .inl (lT x.size h)
   ·have hb0:=(tf.wf i (by omega) G M e1).2;rcases x.origin G M L₀ (by rw[p G hb0];exact e1) e2 e3 with h|⟨b',k',L',f1,f2,f3,f4,f5⟩
    ·exact .inl (by omega)
    ·exact .inr ⟨b',k',L',f1,f2,f3,by omega,by omega⟩
  ·rw[r b z]at R;rw[g b (by omega)]at W;exact x.origin b k L R own W
end
end Go.Am
namespace Go.Am
open Go
section
variable{E:Env}{ih:Cmd->AH->j9}{ts:List (Nat×Nat)}{ops:Array Oper}{frs:Nat->Fr}{Hs:Nat->AH}{σ0 σ:zU}{w0 w:World}{t:Nat}{S:Nat->Prop}{tmps:Array Value}
def qPs(h:Array Bool):Nat->Nat
 |0=>0
 |n+1=>qPs h n+(if h.getD n false=true then 0 else 1)
theorem qPr(h:Array Bool):∀n,qPs h n<=n
 |0=>lR _
 |n+1=>by have:=qPr h n;simp only[qPs];split<;>omega
theorem qHj(x:Array Bool){i:Nat}(y:i<x.size)(j:Nat):(x.setIfInBounds i true).getD j false=if j=i then true else x.getD j false:=by
 by_cases e:j=i
 ·subst e;simp[y]
 have:¬i=j:=λh=>e h.symm;simp_all
theorem qK4(h:Array Bool){i:Nat}(x:i<h.size)(y:h.getD i false=false):∀n,qPs (h.setIfInBounds i true) n+(if i<n then 1 else 0)=qPs h n
 |0=>by simp[qPs]
 |n+1=>by have b:=qK4 h x y n;simp only[qPs,qHj h x n];grind
theorem qHN(x:Array Bool):∀n,qPs x n=0->∀j,j<n->x.getD j false=true
 |0,_,j,y=>by omega
 |n+1,h,j,y=>by
  simp only[qPs]at h;by_cases e:j=n
  ·grind
  exact qHN x n (by omega) j (by omega)
theorem qAP{o:Oper}{p:Nat}(h:p∈dS o):∃e∈o.after,e.on=p/\Region.binds .any e=true:=by unfold dS at h;simp only[List.mem_filterMap]at h;obtain⟨e,he,x⟩:=h;refine⟨e,by simpa using he,?_⟩;unfold Region.binds;grind
theorem qG6(c:Trace E ih ts ops frs Hs)(x:Tmp):∀m,m<=ops.size->∃j,j<=m/\(j=0∨∃p,j=p+1/\mN ops p x)/\(∀p,p<m->mN ops p x->p+1<=j)/\(frs j).t.get x=(frs m).t.get x:=by
 intro m;induction m with
 |zero=>intro _;exact⟨0,lR _,.inl rfl,λp h=>by omega,rfl⟩
 | succ m r=>
  intro u;obtain⟨j,z,o,h3,l⟩:=r (by omega);by_cases g:mN ops m x
  ·grind
  refine⟨j,by omega,o,λp h k=>?_,?_⟩
  ·grind
  rw[l];obtain⟨q,i,y⟩:=c.step m (by omega);have b:q.dst≠some x:=λe=>g ⟨q,i,e⟩;have h:∃v,wR (frs m) q.dst v=some (frs (m+1)):=by
   rcases y with y|⟨v,Q,y,_⟩
   ·exact⟨_,y.2.1⟩
   exact⟨_,y.2.2.2⟩
  obtain⟨v,h⟩:=h;unfold wR at h;cases hd:q.dst with
  |none=>rw[hd]at h;rw[←Option.some.inj h]
  |some d=>
   rw[hd]at h b;simp only[vQ]at h;split at h;case isFalse=>cases h
   rw[←Option.some.inj h];simp only[T.get_put];grind
theorem Inv.start(hu:rS ih)(N:Trace E ih ts ops frs Hs)(U:TF E ih ts ops frs Hs)(F:HR E σ0 (Hs 0) w0)(o:aW σ0 (frs 0) tmps)(c:yD σ0 (Hs 0).next (Hs ops.size).next):∃t,Inv E ih ts ops frs Hs σ0 w0 t (λ_=>False) σ0 w0 tmps:=by
 have y:∀i j,i<=j->j<=ops.size->(Hs i).next<=(Hs j).next:=λi j M K=>N.nexts hu M K;obtain⟨t,_,C,V,Q⟩:=qAh (qBf E ih ts ops frs Hs) ops.size ops.size 0 (by omega);have B:∀b k L,rQ Hs ops.size t b=some k->σ0 b=some L->(Hs 0).blocks.get b=some k:=by
  intro b k L e hs;by_cases R:b<(Hs 0).next
  ·rw[oV (Nat.lt_of_lt_of_le R (y 0 t (by omega) C)),kF hu N U R (by omega) C (λj q p J=>absurd J (Q j q p))]at e;exact e
  ·by_cases W:b<(Hs ops.size).next
   ·rw[c b (by omega) W]at hs;cases hs
   ·rw[fP y (by omega) (ops.size-t) t (by omega)]at e;cases e
 refine⟨t,?_⟩
 refine { tle:=C,a1:=λj q p=>Q j (by omega) q p,a2:=λ_ _ _ h=>h,a3:=V,down:=λ_ _ h _=>h,slt:=λ_ h=>h.elim,
          objs:=λb k L e hs=>F.objs b k L (B b k L e hs) hs,sep:=λu r l g A z M K G P O I=>F.sep u r l g A z (B _ _ _ M P) (B _ _ _ K O) G P O I,glob:=F.glob,
          free:=λj J _ b q p=>c b (lT (y 0 j (by omega) (by omega)) q) (Nat.lt_of_lt_of_le p (y (j+1) ops.size (by omega) (lR _))),ext:=λ_ _=>rfl,tsz:=o.1,
          slots:=?_,size:=lR _,tape:=rfl,os:=rfl,output:=⟨rfl,λ_=>lR _⟩,frame:=λ_ _ _=>rfl,
          origin:=λb k L e G hs=>.inr ⟨b,k,L,B b k L e hs,G,hs,rfl,rfl⟩}
 intro j x v J X hv;rcases X.1 with rfl|⟨m,_,hm,_⟩
 ·exact o.2 x v hv
 ·exact hm.elim
theorem Inv.finish(hu:rS ih)(C:Trace E ih ts ops frs Hs)(I:TF E ih ts ops frs Hs)(y:∀j,j<ops.size->S j)(inv:Inv E ih ts ops frs Hs σ0 w0 t S σ w tmps){A:zU}{wh:World}(sh:Step E σ0 (Hs 0) w0 A (Hs ops.size) wh):Step E σ0 (Hs 0) w0 σ (Hs ops.size) w/\aW σ (frs ops.size) tmps:=by
 have J:t=ops.size:=by
  rcases inv.a3 with h|h
  ·exact h
  ·exact absurd (y t (qDp h)) (inv.a2 t (lR _) h)
 subst J;have i:=I.wf ops.size (lR _);have z:∀b k,(Hs ops.size).blocks.get b=some k->rQ Hs ops.size ops.size b=some k:=by intro b k c;rw[oV (i b k c).2];exact c
 refine ⟨{ hr:=⟨λb k L c=>inv.objs b k L (z b k c),λq o g e u r B l=>inv.sep q o g e u r (z _ _ B) (z _ _ l),inv.glob,i⟩,
           next:=sh.next,ext:=inv.ext,size:=inv.size,low:=sh.low,tape:=inv.tape,os:=inv.os,output:=inv.output,frame:=inv.frame,
           origin:=λb k L c=>inv.origin b k L (z b k c),old:=sh.old,keep:=sh.keep,born:=sh.born},?_,?_⟩
 ·rw[inv.tsz,C.sz (lR _)]
 ·intro x v hv;obtain⟨j,B,l,h3,K⟩:=qG6 C x ops.size (lR _);refine inv.slots j x v B ⟨?_,λm M F=>h3 m (qN5 F) F⟩ (by rw[K];exact hv);rcases l with l|⟨p,rfl,G⟩
  ·exact .inl l
  ·exact .inr ⟨p,rfl,y p (qN5 G),G⟩
theorem qLw(he:EOk E)(hc:∀f B H v H',ih (.call f B) H=some (.val v,H')->vU E f B H v H')(hro:∀l B H v H',ih (.round l B) H=some (.val v,H')->wO E l B H v H')(hu:rS ih)(C:bD ops.toList=true)(tr:Trace E ih ts ops frs Hs)(tf:TF E ih ts ops frs Hs)(U:yD σ0 (Hs 0).next (Hs ops.size).next)(b:Frame)(ds:List Deferred)(k:List Item)(cs:List Frame):∀(u q:Nat) (listed:Array Bool) (t:Nat) (σ:zU) (w:World) (tmps:Array Value),listed.size=ops.size->qPs listed ops.size<=u->Inv E ih ts ops frs Hs σ0 w0 t (λj=>listed.getD j false=true) σ w tmps->∃t' S' σ' w' y,(∀j,j<ops.size->S' j)/\Inv E ih ts ops frs Hs σ0 w0 t' S' σ' w' y/\Steps E.prog (lone (Fm b tmps ds (.inRegion ops (Region.linearise.go .any ops u q listed [])::k)) cs w) (lone (Fm b y ds (.inRegion ops []::k)) cs w'):=by
 intro u;induction u with
 |zero=>intro q listed t σ w tmps hsz hcnt inv;exact⟨t,_,σ,w,tmps,λj hj=>qHN listed ops.size (by omega) j hj,inv,Steps.refl _ _⟩
 | succ u IH=>
  intro q listed t σ w tmps hsz hcnt inv;simp only[Region.linearise.go];have hrs:((List.range ops.size).filter λi=>!listed.getD i true&&((ops[i]?).map (·.after.all λe=>!Region.binds .any e||listed.getD e.on false)).getD false)=Region.ready .any ops listed:=rfl;rw[hrs];split
  ·rename_i i hi;rw[linearise_go_acc];have hmem:i∈Region.ready .any ops listed:=List.mem_of_getElem? hi;rw[mem_ready]at hmem;obtain⟨hnl,o,O,X⟩:=hmem;have A:i<ops.size:=(Array.getElem?_eq_some_iff.1 O).1;have Z:listed.getD i false=false:=by
    have:i<listed.size:=by omega
    simp[Array.getD,this]at hnl ⊢;exact hnl
   have J:¬(listed.getD i false=true):=by rw[Z];simp
   have ho':ops.toList[i]? = some o:=by simpa using O
   have p:∀a,Anc ops.toList a i->listed.getD a false=true:=by
    intro a ha;cases ha with
    |edge h hp=>rw[ho']at h;cases h;obtain⟨e,h1,h2,h3⟩:=qAP hp;rw[←h2];exact X e h1 h3
    |trans h hp ha=>rw[ho']at h;cases h;obtain⟨e,h1,h2,h3⟩:=qAP hp;have:=X e h1 h3;rw[h2]at this;exact inv.down _ a this ha
   have hSeq:(λj=>listed.getD j false=true∨j=i)=λj=>(listed.setIfInBounds i true).getD j false=true:=by
    funext j;rw[qHj listed (by omega)];by_cases e:j=i
    ·simp[e]
    simp[e]
   have hcnt':qPs (listed.setIfInBounds i true) ops.size<=u:=by have:=qK4 listed (i:=i) (by omega) Z ops.size;rw[if_pos A]at this;omega
   have G:∀x∈lH ops.toList o,∀v,(frs i).t.get x=some v->VR σ v (tmps.getD x undef):=by intro x M v hv;obtain⟨j,h1,h2,h3⟩:=qIp C tr inv.down inv.slt O J p M;exact inv.slots j x v (by omega) h2 (by rw[h3];exact hv)
   have N:∀j want,o.guard=some (j,want)->∀d,((ops[j]?).bind (·.dst))=some d->∀v,(frs i).t.get d=some v->VR σ v (tmps.getD d undef):=by intro j want hg d hd v hv;refine G d ?_ v hv;unfold lH;rw[hg];simp[hd]
   have W:∀(t1:Nat) (σ1:zU) (w1:World) (F:Array Value),Inv E ih ts ops frs Hs σ0 w0 t1 (λj=>listed.getD j false=true∨j=i) σ1 w1 F->
     Steps E.prog (lone (Fm b tmps ds (.inRegion ops (i::Region.linearise.go .any ops u (q/(Region.ready .any ops listed).length) (listed.setIfInBounds i true) [])::k)) cs w)
      (lone (Fm b F ds (.inRegion ops (Region.linearise.go .any ops u (q/(Region.ready .any ops listed).length) (listed.setIfInBounds i true) [])::k)) cs w1)->
     ∃ t' S' σ' w' y,(∀j,j<ops.size->S' j)/\Inv E ih ts ops frs Hs σ0 w0 t' S' σ' w' y/\
      Steps E.prog (lone (Fm b tmps ds (.inRegion ops (i::Region.linearise.go .any ops u (q/(Region.ready .any ops listed).length) (listed.setIfInBounds i true) [])::k)) cs w)
       (lone (Fm b y ds (.inRegion ops []::k)) cs w'):=by
    intro t1 σ1 w1 F inv1 hst
    rw[hSeq]at inv1
    obtain⟨t',S',σ',w',y,g1,g2,g3⟩:=IH (q/(Region.ready .any ops listed).length) (listed.setIfInBounds i true) t1 σ1 w1 F (by simp[hsz]) hcnt' inv1
    exact⟨t',S',σ',w',y,g1,g2,hst.trans g3⟩
   show∃t' S' σ' w' y,_/\_/\Steps E.prog (lone (Fm b tmps ds (.inRegion ops ([i].reverse++_)::k)) cs w) _;simp only[List.reverse_cons,List.reverse_nil,List.nil_append,List.cons_append];obtain⟨o2,ho2,M⟩:=tr.step i A;rw[O]at ho2;cases ho2;rcases M with M|⟨v,Q,M,hpure⟩
   ·refine W t σ w (gZ tmps o.dst undef) (inv.skip C tr J A p O M) (.one (qCN O ?_));exact nO M.1 N
   have hwt:=nO (tmps:=tmps) M.1 N;have hevv:(∃w':World,HR E σ ⟨.leaf,0,0⟩ w')->∀x∈o.op.operands.toList,∀v,ev E (frs i) x=some v->VR σ v (Act.eval ⟨tmps,[]⟩ x):=λhex=>by
    obtain⟨w1,z⟩:=hex;exact λx hxo v hv=>by
     cases x with
     |tmp d=>refine G d ?_ v hv;unfold lH qIl;simp only[List.mem_append,List.mem_filterMap];exact .inl (.inr ⟨.tmp d,hxo,rfl⟩)
     |const c=>
      simp only[ev]at hv;cases K:zF c with
      |true=>rw[K,cond_true]at hv;cases hv;exact j7 _ _ K
      |false=>rw[K,cond_false]at hv;cases hv
     |global g=>exact pQ (a:=⟨tmps,[]⟩) (fr:=⟨tmps.size,false,.leaf⟩) he z ⟨rfl,λt v h=>by simp[T.get]at h⟩ (x:=.global g) (by simpa[ev]using hv)
     |func f=>exact pQ (a:=⟨tmps,[]⟩) (fr:=⟨tmps.size,false,.leaf⟩) he z ⟨rfl,λt v h=>by simp[T.get]at h⟩ (x:=.func f) (by simpa[ev]using hv)
   have h0:HR E σ ⟨.leaf,0,0⟩ w:=⟨λb k L R=>by simp[T.get]at R,λb₁ b₂ k₁ k₂ L₁ L₂ R=>by simp[T.get]at R,inv.glob,λb k R=>by simp[T.get]at R⟩;cases P:xF ops.toList i with
   |true=>
    have hbo:fS o.op=true:=by simpa[xF,ho']using P
    obtain⟨_,v',r1,r2⟩:=qMx (w:=w) he hbo M.2.1 (hevv ⟨w,h0⟩);have hd:∀c,o.op≠.defer c:=by intro c e;rw[e]at hbo;cases hbo
    refine W t σ w (gZ tmps o.dst v') (inv.blind C tr tf J A p O P M.2.2.2 r2) (.one (step_lone_go ?_));rw[qOF O hwt hd,←gT O];simp[stepG.apply,r1]
   | false=>
    have z:=inv.view hu tr tf J A p P;have eQ:Q.next=(Hs (i+1)).next:=by rw[M.2.2.1];rfl
    obtain⟨σ',w',v',g1,g2,g3⟩:=qCU he hc hro (λf B H v H' h=>hu _ _ _ _ h) (λf B H v H' h=>hu _ _ _ _ h) (ops:=ops) (i:=i) (tmps:=tmps) M.2.1 z
     (λc q1 q2=>inv.free i A J c q1 (by omega))
     (λx hxo v hv=>by
      cases x with
      |tmp d=>refine G d ?_ v hv;unfold lH qIl;simp only[List.mem_append,List.mem_filterMap];exact .inl (.inr ⟨.tmp d,hxo,rfl⟩)
      |const c=>
       simp only[ev]at hv;cases K:zF c with
       |true=>rw[K,cond_true]at hv;cases hv;exact j7 _ _ K
       |false=>rw[K,cond_false]at hv;cases hv
      |global g=>exact pQ (a:=⟨tmps,[]⟩) (fr:=⟨tmps.size,false,.leaf⟩) he z ⟨rfl,λt v h=>by simp[T.get]at h⟩ (x:=.global g) (by simpa[ev]using hv)
      |func f=>exact pQ (a:=⟨tmps,[]⟩) (fr:=⟨tmps.size,false,.leaf⟩) he z ⟨rfl,λt v h=>by simp[T.get]at h⟩ (x:=.func f) (by simpa[ev]using hv))
     O hwt b ds (Region.linearise.go .any ops u (q/(Region.ready .any ops listed).length) (listed.setIfInBounds i true) []) k cs
    by_cases hp:(Hs i).next<=Q.low
    ·exact W t σ' w' _ (inv.pure C hu tr tf U J A p P O M hp hpure.2 g2 g1) g3
    obtain⟨t1,inv1⟩:=inv.bar C hu tr tf J A p P O M hp g2 g1;exact W t1 σ' w' _ inv1 g3
  rename_i I;refine⟨t,_,σ,w,tmps,?_,inv,Steps.refl _ _⟩;have V:Region.ready .any ops listed=[]:=by
   cases hr:Region.ready .any ops listed with
   |nil=>rfl
   |cons x l=>rw[hr]at I;have hlt:q%(x::l).length<(x::l).length:=Nat.mod_lt _ (by simp);rw[List.getElem?_eq_getElem hlt]at I;cases I
  intro j;induction j using Nat.strongRecOn with
  | _ j IHj=>
   intro hj;cases hl:listed.getD j false with
   |true=>rfl
   | false=>
    exfalso;have hm:j∈Region.ready .any ops listed:=by
     rw[mem_ready];have hjl:j<listed.size:=by omega
     refine⟨by simp[Array.getD,hjl]at hl ⊢;exact hl,ops[j],by simp[hj],λe he R=>?_⟩;have hpred:e.on∈dS ops[j]:=by
      unfold dS;simp only[List.mem_filterMap];refine⟨e,by simpa using he,?_⟩;unfold Region.binds at R;split at R
      ·simp at R
      ·simp at R
      rename_i h1 h2;split
      ·rename_i r hg;exact absurd hg (h1 r)
      ·rename_i r hg;exact absurd hg (h2 r)
      rfl
     have hlt:=qIw C (i:=j) (by simp[hj]) hpred;exact IHj e.on hlt (by omega)
    rw[V]at hm;simp at hm
end
end Go.Am
namespace Go.Am
open Go
section
variable{E:Env}{ih:Cmd->AH->j9}{σ σ':zU}{H H':AH}{w w':World}
theorem fB{fr x:Fr}{d:Option Tmp}{v:Value}(h:wR fr d v=some x):x.rd=fr.rd:=by
 unfold wR at h;cases d with
 |none=>rw[←Option.some.inj h]
 |some d=>
  simp only[vQ]at h;split at h;case isFalse=>cases h
  rw[←Option.some.inj h]
theorem pH{all:Array Oper}{draw:Bool}{ts:List (Nat×Nat)}:∀{os:List Oper} {i:Nat} {fr x:Fr} {H H':AH},zM E ih all draw ts os i fr H=some (x,H')->x.rd=fr.rd
 | [],i,fr,x,H,H',h=>by simp[zM]at h;rw[h.1]
 | o::os,i,fr,x,H,H',h=>by
  simp only[zM]at h;split at h
  ·cases h
  ·split at h
   ·rename_i y;rw[pH h,fB y]
   cases h
  split at h
  ·cases h
  split at h
  ·cases h
  rename_i y;rw[pH h,fB y]
theorem sS(he:EOk E)(P:∀f y H v H',ih (.call f y) H=some (.val v,H')->vU E f y H v H')(B:∀l y H v H',ih (.round l y) H=some (.val v,H')->wO E l y H v H')(hu:rS ih){ops:Array Oper}{ts:List (Nat×Nat)}(b:Frame)(ds:List Deferred)(k:List Item)(cs:List Frame)(O:qA9 b cs):
  ∀ (r G:List Oper) (rest:List Nat) (i:Nat) (fr q:Fr) (H H':AH) (σ:zU) (w:World) (tmps:Array Value),ops.toList.drop i=r++G->zM E ih ops false ts r i fr H=some (q,H')->HR E σ H w->aW σ fr tmps->yD σ H.next H'.next->(fr.rd=false->b.roundOf=none)->
   ∃σ' w' e,Step E σ H w σ' H' w'/\aW σ' q e/\
    Steps E.prog (lone (Fm b tmps ds (.inRegion ops (List.range' i r.length++rest)::k)) cs w) (lone (Fm b e ds (.inRegion ops rest::k)) cs w')
 | [],G,rest,i,fr,q,H,H',σ,w,tmps,hd,h,hr,C,g,u=>by
  simp[zM]at h
  obtain⟨rfl,rfl⟩:=h
  exact⟨σ,w,tmps,Step.refl hr,C,Steps.refl _ _⟩
 | o::r,G,rest,i,fr,q,H,H',σ,w,tmps,hd,h,hr,C,g,u=>by
  have Q:ops[i]? = some o:=by
   have:=congrArg (·[0]?) hd
   simpa using this
  have K:ops.toList.drop (i+1)=r++G:=by
   have:=congrArg (List.drop 1) hd
   rw[List.drop_drop]at this
   simpa using this
  have z:List.range' i (o::r).length++rest=i::(List.range' (i+1) r.length++rest):=by simp[List.range'_succ]
  rw[z]
  simp only[zM]at h
  split at h
  ·cases h
  ·rename_i N
   split at h
   ·rename_i F J
    obtain⟨σ',w',e,g1,g2,g3⟩:=sS he P B hu b ds k cs O r G rest (i+1) F q H H' σ w (gZ tmps o.dst undef) K h hr (cG C J (.tuple .nil)) g (by rw[fB J];exact u)
    exact⟨σ',w',e,g1,g2,.head (qCN Q (nO N (λj I _ d _ v hv=>C.2 d v hv))) g3⟩
   cases h
  rename_i N
  simp only[cond_false]at h
  split at h
  ·cases h
  rename_i v H1 V
  split at h
  ·cases h
  rename_i F J
  have U:=qHB hu V
  have R:=kL hu h
  have p:yD σ H.next H1.next:=λc Z q2=>g c Z (by omega)
  obtain⟨M,X,v',g1,g2,g3⟩:=qMg he P B (λf y H v H' h=>hu _ _ _ _ h) (λf y H v H' h=>hu _ _ _ _ h) (ops:=ops) (i:=i) (tmps:=tmps) V hr p
   (λx _ v hv=>pQ (a:=⟨tmps,[]⟩) he hr C hv) Q (nO N (λj I _ d _ v hv=>C.2 d v hv)) b ds (List.range' (i+1) r.length++rest) k cs O u
  obtain⟨L,W,A,k1,k2,k3⟩:=sS he P B hu b ds k cs O r G rest (i+1) F q H1 H' M X (gZ tmps o.dst v') K h g2.hr (cG (C.mono (g2.le p)) J g1) (g.split g2.ext g2.next) (by rw[fB J];exact u)
  exact⟨L,W,A,g2.trans k1,k2,g3.trans k3⟩
theorem cE(he:EOk E)(C:∀f c H v H',ih (.call f c) H=some (.val v,H')->vU E f c H v H')(q:∀l c H v H',ih (.round l c) H=some (.val v,H')->wO E l c H v H')(hu:rS ih){ops:Array Oper}{draw:Bool}{id:Nat}(e:draw=true->bD ops.toList=true)(b:Frame)(ds:List Deferred)(k:List Item)(cs:List Frame)(P:qA9 b cs){fr g:Fr}{tmps:Array Value}(B:fr.rd=false->b.roundOf=none){ts:List (Nat×Nat)}(h:zM E ih ops draw ts ops.toList 0 fr H=some (g,H'))(K:HR E σ H w)(z:aW σ fr tmps)(y:yD σ H.next H'.next):∃σ' w' x,Step E σ H w σ' H' w'/\aW σ' g x/\Steps E.prog (lone (Fm b tmps ds (.code (.region id ops draw)::k)) cs w) (lone (Fm b x ds k) cs w'):=by
 cases draw with
 |false=>
  obtain⟨σ',w',x,g1,g2,g3⟩:=sS he C q hu b ds k cs P ops.toList [] [] 0 fr g H H' σ w tmps (by simp) h K z y B;refine⟨σ',w',x,g1,g2,.head qEs ?_⟩;have:List.range ops.size=List.range' 0 ops.toList.length++[]:=by rw[List.range_eq_range'];simp
  rw[this];exact g3.trans (.one lV)
 |true=>
  have e:=e rfl;obtain⟨frs,Hs,W,M,V,L,U⟩:=qGk E ih _ ops ops.toList 0 fr g H H' (by simp) (Nat.zero_le _) h;have u:Trace E ih ts ops frs Hs:=⟨λi R=>U i (Nat.zero_le _) R⟩;have G:=Step.drew (n:=w.drawn+1) K (Nat.le_succ _);have p:=G.hr;rw[←M]at p y;rw[←W]at z;rw[←L]at y;obtain⟨A,N,wh,sh⟩:=qGl hu u he C q p z y b;obtain⟨O,o⟩:=Inv.start hu u A p z y;have F:(λ_:Nat=>False)=λj=>(Array.replicate ops.size false).getD j false=true:=by funext j;simp only[eq_iff_iff,false_iff];by_cases Q:j<ops.size<;>simp[Array.getD,Q]
  rw[F]at o;obtain⟨X,S',σ',w',x,g1,g2,g3⟩:=qLw he C q hu e u A y b ds k cs ops.size (w.tape w.drawn (.order b.fn id)) (Array.replicate ops.size false) O σ _ tmps (by simp) (qPr _ _) o;obtain⟨J,I⟩:=Inv.finish hu u A g1 g2 sh;rw[M,L]at J;rw[V]at I;refine⟨σ',w',x,G.trans J,I,.head qCM ?_⟩;have r:Region.schedule (E.prog.follows .mixedOrders) ops (w.tape w.drawn (.order b.fn id))=Region.linearise.go .any ops ops.size (w.tape w.drawn (.order b.fn id)) (Array.replicate ops.size false) []:=by simp only[Region.schedule,he.mixed,Bool.true_or,if_true];rfl
  rw[r];exact g3.trans (.one lV)
def qAE(E:Env)(n0:Nat)(σ:zU)(H:AH)(w:World)(r:Nat):Prop:=
 n0<=r/\w.heap[r]? = some (.deferred (some []))/\∀b k L,H.blocks.get b=some k->σ b=some L->L.blk≠r
def oN(r:Nat):Deferred:={target:=.collected r,args:=#[]}
def uQ(E:Env)(n0:Nat)(h:List Deferred)(σ:zU)(H:AH)(w:World)(ds:List Deferred):Prop:=
 ∃rs:List Nat,ds=rs.map oN++h/\rs.Nodup/\∀r∈rs,qAE E n0 σ H w r
theorem qAE.step{n0 r:Nat}(u:HR E σ H w)(h:qAE E n0 σ H w r)(st:Step E σ H w σ' H' w'):qAE E n0 σ' H' w' r:=by
 obtain⟨o,l,h3⟩:=h;have j:=(Array.getElem?_eq_some_iff.1 l).1;refine⟨o,by rw[st.frame r j λb k L e _ y _=>h3 b k L e y];exact l,λb k L e y=>?_⟩;by_cases x:b<H.next
 ·obtain⟨i,g1,_,_⟩:=st.old b k e x;rw[st.ext b (.inl x)]at y;exact h3 b i L g1 y
 have c:=(st.born b k e (Nat.le_of_not_lt x)).2;rcases st.origin b k L e c y with g|⟨p,i,q,g1,g2,g3,g4,_⟩
 ·omega
 rw[←g4];exact h3 p i q g1 g3
theorem uQ.step{n0:Nat}{x ds:List Deferred}(y:HR E σ H w)(h:uQ E n0 x σ H w ds)(st:Step E σ H w σ' H' w'):uQ E n0 x σ' H' w' ds:=by obtain⟨rs,e,c,h3⟩:=h;exact⟨rs,e,c,λr b=>(h3 r b).step y st⟩
theorem Step.junk(hr:HR E σ H w)(o:Obj):Step E σ H w σ H (World.push w o):=by
 have s:=Step.refl hr;have c:∀B,B<w.heap.size->(World.push w o).heap[B]? = w.heap[B]? :=λB h=>by rw[oK,if_neg (Nat.ne_of_lt h)]
 exact { hr:=⟨λb k L e y=>by
           obtain⟨x,i,g⟩:=hr.objs b k L e y
           exact⟨x,by rw[c _ (hr.lt e y)];exact i,g⟩,hr.sep,hr.glob,hr.wf⟩,
         next:=s.next,ext:=s.ext,size:=by simp[World.push],low:=s.low,tape:=rfl,os:=rfl,output:=⟨rfl,λ_=>lR _⟩,frame:=λB h _=>c B h,
         origin:=s.origin,old:=s.old,keep:=s.keep,born:=s.born}
theorem Step.beside(s:Step E σ H w σ' H' w'){h:World}(c:h.heap.size=w'.heap.size)(o:h.tape=w'.tape)(i:h.os=w'.os)(y:h.output=w'.output/\(E.laid=[]->w'.drawn<=h.drawn))(p:∀B,B<w.heap.size->h.heap[B]? = w'.heap[B]?)(hL:∀b k L,H'.blocks.get b=some k->σ' b=some L->h.heap[L.blk]? = w'.heap[L.blk]?):Step E σ H w σ' H' h:=
  { hr:=⟨λb k L l c=>by
      obtain⟨x,g,j⟩:=s.hr.objs b k L l c
      exact⟨x,by rw[hL b k L l c];exact g,j⟩,s.hr.sep,s.hr.glob,s.hr.wf⟩,
    next:=s.next,ext:=s.ext,size:=by rw[c];exact s.size,low:=s.low,tape:=o.trans s.tape,os:=i.trans s.os,output:=⟨y.1.trans s.output.1,λe=>lT (s.output.2 e) (y.2 e)⟩,
    frame:=λB g j=>by rw[p B g];exact s.frame B g j,origin:=s.origin,old:=s.old,keep:=s.keep,born:=s.born}
end
end Go.Am
namespace Go.Am
open Go
def Reach(P:Program)(e:AExit)(m:Machine)(b:Frame)(tmps:Array Value)(ds:List Deferred)(k:List Item)(cs:List Frame)(w:World):Prop:=
 match e with
 |.normal=>Steps P m (lone (Fm b tmps ds k) cs w)
 |.exit id=>(∀k',exitTo id k=some k'->Steps P m (lone (Fm b tmps ds k') cs w))/\(exitTo id k=none->∃h,exitTo id h=none/\Steps P m (lone (Fm b tmps ds (.code (.exit id)::h)) cs w))
 |.ret=>∃h,Steps P m (lone (Fm b tmps ds (.code .ret::h)) cs w)
theorem Reach.head{P:Program}{e:AExit}{m c:Machine}{b:Frame}{tmps:Array Value}{ds:List Deferred}{k:List Item}{cs:List Frame}{w:World}(h:Steps P m c)(x:Reach P e c b tmps ds k cs w):Reach P e m b tmps ds k cs w:=by
 cases e with
 |normal=>exact h.trans x
 |exit id=>exact⟨λk' j=>h.trans (x.1 k' j),λi=>let ⟨y,g1,g2⟩:=x.2 i;⟨y,g1,h.trans g2⟩⟩
 |ret=>obtain⟨y,g⟩:=x;exact⟨y,h.trans g⟩
def lay(c:Code)(k:List Item):List Item:=match c with
 |.loop b=>.code b::.inLoop b::k
 |c=>.code c::k
theorem qAj(P:Program)(c:Code)(b:Frame)(tmps:Array Value)(ds:List Deferred)(k:List Item)(cs:List Frame)(w:World):Steps P (lone (Fm b tmps ds (.code c::k)) cs w) (lone (Fm b tmps ds (lay c k)) cs w):=by cases c<;>first|exact Steps.refl _ _|exact .one qRn
def pT(E:Env)(c:Code)(fr:Fr)(H:AH)(e:AExit)(x:Fr)(H':AH):Prop:=
 zP c=true->∀(σ:zU) (w:World) (tmps:Array Value) (n0:Nat) (g:List Deferred),HR E σ H w->aW σ fr tmps->yD σ H.next H'.next->n0<=w.heap.size->∀(b:Frame) (ds:List Deferred) (k:List Item) (cs:List Frame),qA9 b cs->(fr.rd=false->b.roundOf=none)->uQ E n0 g σ H w ds->∃σ' w' h y,Step E σ H w σ' H' w'/\aW σ' x h/\x.rd=fr.rd/\uQ E n0 g σ' H' w' y/\Reach E.prog e (lone (Fm b tmps ds (lay c k)) cs w) b h y k cs w'
structure IhOK (E:Env) (ih:Cmd->AH->j9):Prop where
 up:rS ih
 call:∀f args H v H',ih (.call f args) H=some (.val v,H')->vU E f args H v H'
 round:∀l args H v H',ih (.round l args) H=some (.val v,H')->wO E l args H v H'
 code:∀c fr H e fr' H',ih (.code c fr) H=some (.ex e fr',H')->pT E c fr H e fr' H'
 codev:∀c fr H v H',ih (.code c fr) H≠some (.val v,H')
section
variable{E:Env}{ih:Cmd->AH->j9}{σ σ':zU}{H H':AH}{w w':World}
theorem Reach.weaken{P:Program}{e:AExit}{m:Machine}{b:Frame}{tmps:Array Value}{ds:List Deferred}{k:List Item}{x:Item}{cs:List Frame}{w:World}(y:∀id,exitTo id (x::k)=exitTo id k)(he:e≠.normal)(h:Reach P e m b tmps ds (x::k) cs w):Reach P e m b tmps ds k cs w:=by
 cases e with
 |normal=>exact absurd rfl he
 |exit id=>refine⟨λk' g=>h.1 k' (by rw[y];exact g),λc=>h.2 (by rw[y];exact c)⟩
 |ret=>exact h
theorem pT.lay{c:Code}{fr i:Fr}{e:AExit}(h:pT E c fr H e i H')(j:zP c=true)(tmps:Array Value)(n0:Nat)(p:List Deferred)(q:HR E σ H w)(z:aW σ fr tmps)(g:yD σ H.next H'.next)(r:n0<=w.heap.size)(b:Frame)(ds:List Deferred)(k:List Item)(cs:List Frame)(u:qA9 b cs)(l:fr.rd=false->b.roundOf=none)(o:uQ E n0 p σ H w ds):∃σ' w' x y,Step E σ H w σ' H' w'/\aW σ' i x/\i.rd=fr.rd/\uQ E n0 p σ' H' w' y/\Reach E.prog e (lone (Fm b tmps ds (.code c::k)) cs w) b x y k cs w':=by obtain⟨σ',w',x,y,g1,g2,g3,g4,g5⟩:=h j σ w tmps n0 p q z g r b ds k cs u l o;exact⟨σ',w',x,y,g1,g2,g3,g4,.head (qAj _ _ _ _ _ _ _ _) g5⟩
theorem qHp{P:Program}{b:Frame}{tmps:Array Value}{ds:List Deferred}{k:List Item}{cs:List Frame}{l:Nat}{lo:Loop}(y:w.heap[l]? = some (.loop lo))(e:lo.state≠.busy):step P (lone (Fm b tmps ds (.endRangeFunc l::k)) cs w)=.next (lone (Fm b tmps ds ((lo.pending.map Item.code).toList++k)) cs {w with heap:=w.heap.setIfInBounds l (.loop {lo with state:=.exhausted})}):=by
 have x:(lo.state==LoopState.busy)=false:=by cases c:lo.state<;>simp_all
 have h:(Instr.endLoop l).run P w=.ok lo.pending {w with heap:=w.heap.setIfInBounds l (.loop {lo with state:=.exhausted})}:=by simp only[Instr.endLoop,Instr.getLoop,Sem.run_bind,jD P y (by simp),Result.andThen_ok,Sem.run_pure,x,Bool.false_eq_true,if_false,kG P y (by simp)]
 exact step_lone_go (by simp[stepG,stepG.exec,Fm,h])
theorem qGE(he:EOk E)(io:IhOK E ih){fr:Fr}{f:Operand}{params:Array Tmp}{assign body:Code}{out:Out}(h:dQ E ih fr f params.toList assign body H=some (out,H')):∃e fr',out=.ex e fr'/\pT E (.rangeFunc f params assign body) fr H e fr' H':=by
 unfold dQ at h;split at h;case h_2=>cases h
 rename_i g first cap hrd hev
 split at h;case h_2=>cases h
 rename_i fn v0 H2 hfn hcall;split at h;case h_2=>cases h
 rename_i st pend t ps a bd rt hl;split at h;case isTrue=>cases h
 rename_i hst;have hup1:=io.up _ _ _ _ hcall;have hup1':H.next+1<=H2.next:=hup1
 have main : zP (.rangeFunc f params assign body)=true->∀(σ:zU) (w:World) (tmps:Array Value) (n0:Nat) (B0:List Deferred),HR E σ H w->aW σ fr tmps->yD σ H.next H2.next->n0<=w.heap.size->
     ∀(b:Frame) (ds:List Deferred) (k:List Item) (cs:List Frame),qA9 b cs->b.roundOf=none->uQ E n0 B0 σ H w ds->
     ∃ σ' w' ds',Step E σ H w σ' (H2.write H.next ⟨.loop st pend t ps a bd,rt,true⟩ (.loop .exhausted pend t ps a bd)) w'/\aW σ' fr tmps/\uQ E n0 B0 σ' (H2.write H.next ⟨.loop st pend t ps a bd,rt,true⟩ (.loop .exhausted pend t ps a bd)) w' ds'/\
       (∀c,pend=some c->c=.ret∨∃id,c=.exit id)/\
       Steps E.prog (lone (Fm b tmps ds (.code (.rangeFunc f params assign body)::k)) cs w) (lone (Fm b tmps ds' ((pend.map Item.code).toList++k)) cs w'):=by
   intro hreg σ w tmps n0 B0 hr hf hfree hn0 b ds k cs hk hro hds
   simp only[zP,aE]at hreg
   have hfv:=pQ (a:=⟨tmps,[]⟩) he hr hf hev
   generalize hx:Act.eval ⟨tmps,[]⟩ f=fv at hfv
   cases hfv with
   |leaf h0=>simp[zX]at h0
   | func h0 hf1 hc1=>
     rename_i f0 c0 f1 c1
     let wD:=World.push w (.deferred (some []))
     have sD:Step E σ H w σ H wD:=Step.junk hr _
     have hfree0:σ H.next=none:=hfree H.next (lR _) (by omega)
     let lo:Loop:={state:=.ready,pending:=none,fn:=b.fn,tmps:=tmps,params:=params,assign:=assign,body:=body,defers:=w.heap.size}
     let L:Loc:=⟨wD.heap.size,0,0,0⟩
     have hDs:wD.heap.size=w.heap.size+1:=by simp[wD,World.push]
     have hle1:zU.le σ (σ.add H.next L):=zU.add_le hfree0
     have sL:Step E σ H wD (σ.add H.next L) (H.new (.loop .ready none ⟨fr.sz,true,fr.t⟩ params.toList assign body)) (World.push wD (.loop lo)):=
       Step.new sD.hr hfree0 _ _ L rfl ⟨rfl,rfl,rfl,⟨hf.1,λx v hv=>(hf.2 x v hv).mono hle1⟩,rfl,rfl,rfl,hreg.1,hreg.2,rfl,λc hc=>by cases hc⟩
     have s1:=sD.trans sL
     have hmark:uQ E n0 B0 (σ.add H.next L) (H.new (.loop .ready none ⟨fr.sz,true,fr.t⟩ params.toList assign body)) (World.push wD (.loop lo)) (oN w.heap.size::ds):=by
       obtain⟨rs,d1,d2,d3⟩:=hds.step hr s1
       have hnew:qAE E n0 (σ.add H.next L) (H.new (.loop .ready none ⟨fr.sz,true,fr.t⟩ params.toList assign body)) (World.push wD (.loop lo)) w.heap.size:=by
         refine⟨hn0,?_,?_⟩
         ·rw[oK,if_neg (by omega),oK,if_pos rfl]
         · intro bb kk LL hb hs
           rw[AH.get_new]at hb
           by_cases e:bb=H.next
           · subst e
             rw[zU.add_self]at hs;cases hs
             show wD.heap.size≠_;omega
           · rw[if_neg e]at hb;rw[zU.add_ne e]at hs
             have:=hr.lt hb hs;omega
       refine⟨w.heap.size::rs,by simp[d1],?_,?_⟩
       · rw [List.nodup_cons]
         refine⟨λhm=>?_,d2⟩
         obtain⟨rs',d1',_,d3'⟩:=hds
         have:rs=rs':=by
           have hinj:∀{l l':List Nat},l.map oN=l'.map oN->l=l':=by
             intro l
             induction l with
             |nil=>intro l' h;cases l'<;>simp at h ⊢
             | cons x l IH=>
               intro l' h
               cases l' with
               |nil=>simp at h
               | cons y l'=>
                 simp only[List.map_cons,List.cons.injEq]at h
                 have hxy:x=y:=by simpa[oN]using h.1
                 rw[hxy,IH h.2]
           exact hinj (List.append_cancel_right (d1.symm.trans d1'))
         rw[this]at hm
         have:=(Array.getElem?_eq_some_iff.1 (d3' _ hm).2.1).1
         omega
       · intro r hr'
         simp only[List.mem_cons]at hr'
         rcases hr' with rfl|hr'
         ·exact hnew
         ·exact d3 r hr'
     have hy:VR (σ.add H.next L) (.func (.yield H.next) #[] #[]) (.func (.yield L.blk) #[] #[]):=VR.yield zU.add_self rfl
     have hargs:VRs (σ.add H.next L) (f0++[.func (.yield H.next) #[] #[]]++c0) (f1++[.func (.yield L.blk) #[] #[]]++c1):=
       ((VRs.mono hle1 hf1).append (.cons hy .nil)).append (VRs.mono hle1 hc1)
     let caller:Frame:=Fm b tmps (oN w.heap.size::ds) (.inRangeFunc L.blk::k)
     obtain⟨e1,w2,fr2,⟨σ2,v',rfl,q1,q2⟩,q3,_,q4⟩:=io.call _ _ _ _ _ hcall (σ.add H.next L) (World.push wD (.loop lo)) _ s1.hr hargs (hfree.split s1.ext s1.next) (caller::cs)
     have s2:=s1.trans q2
     have hstep1:step E.prog (lone (Fm b tmps ds (.code (.rangeFunc f params assign body)::k)) cs w) =
         .next (lone (Frame.enter E.prog g ⟨f1++[.func (.yield L.blk) #[] #[]]++c1⟩ .normal) (caller::cs) (World.push wD (.loop lo))):=by
       have hcat:(⟨f1⟩:Array Value) ++ #[.func (.yield L.blk) #[] #[]]++⟨c1⟩=⟨f1++[.func (.yield L.blk) #[] #[]]++c1⟩:=by apply Array.ext';simp
       have hen:=fO (w:=World.push wD (.loop lo)) he hfn (⟨f1++[.func (.yield L.blk) #[] #[]]++c1⟩:Array Value)
       have hevl:(Fm b tmps ds (.code (.rangeFunc f params assign body)::k)).eval f=.func (.func g) ⟨f1⟩ ⟨c1⟩:=by rw[qBA];exact hx
       have hent:(Instr.enterLoop b.fn tmps params assign body none).run E.prog w=.ok (wD.heap.size,[oN w.heap.size]) (World.push wD (.loop lo)):=by
         simp only[Instr.enterLoop,Sem.run_bind,run_newObj,Result.andThen_ok,Sem.run_pure]
         rfl
       have hevl2:caller.eval f=.func (.func g) ⟨f1⟩ ⟨c1⟩:=by
         have:=qBA b tmps (oN w.heap.size::ds) (.inRangeFunc L.blk::k) f
         rw[hx]at this;exact this
       have hinv:(do let d ←resolve caller.eval {callee:=.value f,args:=#[.const (.func (.yield wD.heap.size) #[] #[])],argTypes:=#[]} 0;invoke d.target d.args:Sem Next).run E.prog (World.push wD (.loop lo)) =
           .ok (.enter g ⟨f1++[.func (.yield L.blk) #[] #[]]++c1⟩) (World.push wD (.loop lo)):=by
         have hca:caller.eval (.const (.func (.yield wD.heap.size) #[] #[]))=.func (.yield wD.heap.size) #[] #[]:=rfl
         simp only[resolve,hevl2,Deferred.ofValue,Sem.run_bind,Sem.run_pure,Result.andThen_ok,invoke]
         rw[show(#[Operand.const (.func (.yield wD.heap.size) #[] #[])].map caller.eval) = #[.func (.yield L.blk) #[] #[]]from by simp[Frame.eval,L],hcat]
         exact hen
       refine step_lone_go ?_
       simp only[stepG,stepG.exec,Fm,hro,Sem.runT_eq,hent,GStep.bare_after]
       have happ:∀(fr':Frame),fr'=caller->(stepG.apply E.prog true fr' cs none (do let d ←resolve fr'.eval {callee:=.value f,args:=#[.const (.func (.yield wD.heap.size) #[] #[])],argTypes:=#[]} 0;invoke d.target d.args) (World.push wD (.loop lo))).bare =
           .go {frame:=Frame.enter E.prog g ⟨f1++[.func (.yield L.blk) #[] #[]]++c1⟩ .normal,callers:=caller::cs,status:=.running,dying:=none} (World.push wD (.loop lo)):=by
         rintro fr' rfl
         simp only[stepG.apply,Sem.runT_eq,if_true,hinv,GStep.bare_after]
         rfl
       exact happ _ (by simp[caller,Fm,hro,L])
     have hleL:(σ2 H.next)=some L:=by
       have:=q2.ext H.next (.inl (Nat.lt_succ_self _))
       rw[this];exact zU.add_self
     obtain⟨ob,g1,g2⟩:=q2.hr.objs _ _ L hl hleL
     cases ob<;>simp only[oA]at g2
     rename_i lo2
     obtain⟨p0,p1,p2,p3,p4,p5,p6,p7,p8,p9,p10⟩:=g2
     have hend:=qHp (P:=E.prog) (b:=b) (tmps:=tmps) (ds:=oN w.heap.size::ds) (k:=k) (cs:=cs) g1 (by rw[p1];exact hst)
     have s3:=Step.write q2.hr hl rfl hleL (WSet.setObj (.loop {lo2 with state:=.exhausted}) g1) (x:=.loop .exhausted pend t ps a bd) ⟨p0,rfl,p2,p3,p4,p5,p6,p7,p8,p9,p10⟩
     refine⟨σ2,_,oN w.heap.size::ds,s2.trans s3,hf.mono (s2.le hfree),(hmark.step s1.hr q2).step q2.hr s3,p10,?_⟩
     refine .head hstep1 (q3.trans (.head (step_leave_returned q4) ?_))
     have hfin:caller.finish v'=Fm b tmps (oN w.heap.size::ds) (.endRangeFunc L.blk::k):=rfl
     rw[hfin,←p2]
     exact .one hend
 split at h
 ·-- no jump
  cases h;refine⟨.normal,fr,rfl,?_⟩;intro hreg σ w tmps n0 B0 hr hf hfree hn0 b ds k cs hk hro hds;obtain⟨σ',w',ds',g1,g2,g3,_,g5⟩:=main hreg σ w tmps n0 B0 hr hf hfree hn0 b ds k cs hk (hro hrd) hds;exact⟨σ',w',tmps,ds',g1,g2,rfl,g3,g5⟩
 ·-- a jump
  rename_i c;have hout:∃e fr',out=.ex e fr':=by
   cases out with
   |ex e fr'=>exact⟨e,fr',rfl⟩
   |val v=>exact absurd h (io.codev _ _ _ _ _)
  obtain⟨e,fr',rfl⟩:=hout;refine⟨e,fr',rfl,?_⟩;intro hreg σ w tmps n0 B0 hr hf hfree hn0 b ds k cs hk hro hds;have hup2:=io.up _ _ _ _ h;have hup2':H2.next<=H'.next:=hup2;have hfree2:yD σ H.next H2.next:=λc q1 q2=>hfree c q1 (by omega);obtain⟨σ1,w1,ds1,g1,g2,g3,g4,g5⟩:=main hreg σ w tmps n0 B0 hr hf hfree2 hn0 b ds k cs hk (hro hrd) hds;have hcreg:zP c=true:=by rcases g4 c rfl with rfl|⟨id,rfl⟩<;>rfl
  obtain⟨σ2,w2,tmps2,ds2,k1,k2,k3,k4,k5⟩:=(io.code _ _ _ _ _ _ h).lay hcreg tmps n0 B0 g1.hr g2 (hfree.split g1.ext g1.next) (lT hn0 g1.size) b ds1 k cs hk hro g3;exact⟨σ2,w2,tmps2,ds2,g1.trans k1,k2,k3,k4,.head g5 k5⟩
end
end Go.Am
namespace Go.Am
open Go
section
variable{E:Env}{ih:Cmd->AH->j9}{σ σ':zU}{H H':AH}{w w':World}
theorem qH0:∀{ps:List Tmp} {args y:List Value} {fr x:Fr} {tmps:Array Value},wI fr ps args=some x->aW σ fr tmps->VRs σ args y->
  aW σ x ((ps.zip y).foldl (λtmps (t,a)=>tmps.setIfInBounds t a) tmps)/\x.rd=fr.rd
 | [],[],_,fr,x,tmps,h,b,.nil=>by simp[wI]at h;subst h;exact⟨b,rfl⟩
 | [],_::_,_,fr,x,tmps,h,b,hv=>by simp[wI]at h
 |t::ps,[],_,fr,x,tmps,h,b,hv=>by simp[wI]at h
 | t::ps,a::args,_::y,fr,x,tmps,h,b,.cons hv e=>by
  simp only[wI]at h
  split at h
  ·rename_i i c
   obtain⟨g,g2⟩:=qH0 h (cG b c hv) e
   exact⟨by simpa[gZ]using g,by rw[g2,fB c]⟩
  cases h
theorem qDI{P:Program}{b:Frame}{tmps:Array Value}{ds:List Deferred}{k:List Item}{cs:List Frame}{l:Nat}{lo:Loop}(hr:b.roundOf=some l)(x:w.heap[l]? = some (.loop lo))(hs:lo.state=.ready):step P (lone (Fm b tmps ds (.beginRound::k)) cs w)=.next (lone (Fm b tmps ds k) cs {w with heap:=w.heap.setIfInBounds l (.loop {lo with state:=.busy})}):=by
 have h:(Instr.beginRound l).run P w=.ok () {w with heap:=w.heap.setIfInBounds l (.loop {lo with state:=.busy})}:=by simp only[Instr.beginRound,Instr.getLoop,Sem.run_bind,jD P x (by simp),Result.andThen_ok,Sem.run_pure,kG P x (by simp),hs]
 refine step_lone_go ?_;simp only[stepG,stepG.exec,Fm,hr,Option.elim];simp[stepG.apply,h,Frame.finish]
theorem qCO{P:Program}{b c:Frame}{tmps:Array Value}{ds:List Deferred}{k:List Item}{cs:List Frame}{l:Nat}{lo:Loop}(y:b.kind=.normal)(hr:b.roundOf=some l)(e:w.heap[l]? = some (.loop lo))(j:Option Code)(i:(j=none/\k=[])∨(∃x,j=some .ret/\k=.code .ret::x)∨∃id x,j=some (.exit id)/\k=.code (.exit id)::x/\exitTo id x=none):step P (lone (Fm b tmps ds k) (c::cs) w)=.next (lone (c.finish (.bool j.isNone)) cs {w with heap:=w.heap.setIfInBounds l (.loop {lo with state:=if j.isNone then .ready else .done,pending:=j})}):=by
 have h:∀j:Option Code,(Instr.endRound l j).run P w=.ok (.bool j.isNone) {w with heap:=w.heap.setIfInBounds l (.loop {lo with state:=if j.isNone then .ready else .done,pending:=j})}:=by intro j;simp only[Instr.endRound,Instr.getLoop,Sem.run_bind,jD P e (by simp),Result.andThen_ok,Sem.run_pure,kG P e (by simp)]
 rcases i with⟨rfl,rfl⟩|⟨x,rfl,rfl⟩|⟨id,x,rfl,rfl,g⟩
 ·exact step_lone_go (by simp[stepG,stepG.exec,Fm,hr,h,doReturn,y])
 ·exact step_lone_go (by simp[stepG,stepG.exec,Fm,hr,h,doReturn,y])
 exact step_lone_go (by simp[stepG,stepG.exec,Fm,hr,h,doReturn,y,g])
theorem HR.loopAt(c:HR E σ H w){l:Nat}{L:Loc}{st:LoopState}{h:Option Code}{t:Fr}{ps:List Tmp}{a b:Code}{rt:Nat}{own:Bool}(e:H.blocks.get l=some ⟨.loop st h t ps a b,rt,own⟩)(y:σ l=some L):∃lo,w.heap[L.blk]? = some (.loop lo)/\oA E σ L own (.loop st h t ps a b) (.loop lo):=by
 obtain⟨o,g,x⟩:=c.objs l _ L e y;cases o;case loop lo=>exact⟨lo,g,x⟩
 all_goals simp only[oA]at x
theorem qGA(Z:IhOK E ih){l:Nat}{args:List Value}{out:Out}(h:gJ E ih l args H=some (out,H')):∃v,out=.val v/\wO E l args H v H':=by
 unfold gJ at h;split at h;case h_2=>cases h
 rename_i pd0 t0 J a0 b0 rt0 hl0;split at h;case h_2=>cases h
 rename_i fr C;split at h;case h_2=>cases h
 rename_i fr1 H1 h1;split at h;case h_2=>cases h
 rename_i pd1 t1 ps1 a1 b1 rt1 O;split at h;case h_2=>cases h
 rename_i e fr3 H3 h3;split at h;case h_2=>cases h
 rename_i st3 pd3 t3 qQw a3 b3 rt3 N;cases h;refine⟨_,rfl,?_⟩;intro σ w y L lo hr hv B hs hw hlen c cs;have hup1:=Z.up _ _ _ _ h1;have K:=Z.up _ _ _ _ h3;have hup3':H1.next<=H3.next:=K;have j:yD σ H.next H3.next:=B;obtain⟨lo0,w0,g0⟩:=hr.loopAt hl0 hs;rw[hw]at w0;cases w0;obtain⟨p0,p1,p2,p3,p4,p5,p6,p7,p8,p9,p10⟩:=g0;obtain⟨hfr,hrd⟩:=qH0 C p3 hv;have z:fr.rd=true:=by rw[hrd];exact p9
 let b:Frame:={(default:Frame)with fn:=lo.fn,kind:=.normal,roundOf:=some L.blk};have htm:(lo.params.zip ⟨y⟩).foldl (λtmps (t,a)=>tmps.setIfInBounds t a) lo.tmps=(J.zip y).foldl (λtmps (t,a)=>tmps.setIfInBounds t a) lo.tmps:=by rw[←Array.foldl_toList,Array.toList_zip,p4]
 have u:Frame.round L.blk lo.fn ((lo.params.zip ⟨y⟩).foldl (λtmps (t,a)=>tmps.setIfInBounds t a) lo.tmps) lo.assign lo.body .normal =
   Fm b ((J.zip y).foldl (λtmps (t,a)=>tmps.setIfInBounds t a) lo.tmps) [] [.code a0,.beginRound,.code b0]:=by
  rw[htm,p5,p6];rfl
 rw[u];have R:uQ E w.heap.size [] σ H w []:=⟨[],rfl,List.nodup_nil,λr hr=>by simp at hr⟩;have i:yD σ H.next H1.next:=λc q1 q2=>j c q1 (by omega);obtain⟨G,w1,o,V,s1,f1,r1,d1,e1⟩:=(Z.code _ _ _ _ _ _ h1).lay p7 _ w.heap.size [] hr hfr i (lR _) b [] [.beginRound,.code b0] (c::cs) (.inl rfl) (λQ=>by rw[z]at Q;cases Q) R;have A:G l=some L:=(s1.le i) l L hs;obtain⟨lo1,I,g1⟩:=s1.hr.loopAt O A;obtain⟨q0,q1,q2,q3,q4,q5,q6,q7,q8,q9,q10⟩:=g1;have U:=qDI (P:=E.prog) (b:=b) (tmps:=o) (ds:=V) (k:=[.code b0]) (cs:=c::cs) rfl I q1;have X:=Step.write s1.hr O rfl A (WSet.setObj (.loop {lo1 with state:=.busy}) I) (x:=.loop .busy pd1 t1 ps1 a1 b1) ⟨q0,rfl,q2,q3,q4,q5,q6,q7,q8,q9,q10⟩;have g:yD G H1.next H3.next:=j.split s1.ext s1.next;obtain⟨F,w3,tmps3,ds3,W,f3,r3,d3,e3⟩:=(Z.code _ _ _ _ _ _ h3).lay p8 o w.heap.size [] X.hr f1 g (lT s1.size X.size) b V [] (c::cs) (.inl rfl) (λQ=>by rw[r1,z]at Q;cases Q) (d1.step s1.hr X);have M:F l=some L:=(W.le g) l L A;obtain⟨lo3,q,g3⟩:=W.hr.loopAt N M;obtain⟨u0,u1,u2,u3,u4,u5,u6,u7,u8,u9,zAB⟩:=g3;have hjs:∀cc,xW e=some cc->cc=.ret∨∃id,cc=.exit id:=by
  intro cc hc;cases e with
  |normal=>cases hc
  |exit id=>cases hc;exact .inr ⟨id,rfl⟩
  |ret=>cases hc;exact .inl rfl
 have hst:(bif (xW e).isNone then LoopState.ready else .done)=if(xW e).isNone then .ready else .done:=by cases(xW e).isNone<;>rfl
 have s4:=Step.write W.hr N rfl M (WSet.setObj (.loop {lo3 with state:=if(xW e).isNone then .ready else .done,pending:=xW e}) q) (x:=.loop (bif (xW e).isNone then .ready else .done) (xW e) t3 qQw a3 b3) ⟨u0,hst.symm,rfl,u3,u4,u5,u6,u7,u8,u9,hjs⟩;refine⟨F,_,.bool (xW e).isNone,.leaf rfl,((s1.trans X).trans W).trans s4,?_⟩;have e1':Steps E.prog _ _:=e1;refine e1'.trans (.head U ?_);cases e with
 |normal=>have p:Steps E.prog _ _:=e3;exact p.trans (.one (qCO rfl rfl q none (.inl ⟨rfl,rfl⟩)))
 |ret=>obtain⟨k2,p⟩:=e3;exact p.trans (.one (qCO rfl rfl q (some .ret) (.inr (.inl ⟨k2,rfl,rfl⟩))))
 |exit id=>obtain⟨k2,hk2,p⟩:=e3.2 rfl;exact p.trans (.one (qCO rfl rfl q (some (.exit id)) (.inr (.inr ⟨id,k2,rfl,rfl,hk2⟩))))
theorem qCj:∀(xs:List Value) (t:T Value) (n i:Nat),(T.ofList t n xs).get i=if n<=i/\i<n+xs.length then xs[i-n]? else t.get i
 | [],t,n,i=>by simp only[T.ofList,List.length_nil,Nat.add_zero];rw[if_neg (by omega)]
 |x::xs,t,n,i=>by simp only[T.ofList];rw[qCj xs (t.put n (some x)) (n+1) i,T.get_put];grind
theorem qAu{args x:List Value}(hv:VRs σ args x)(n:Nat):aW σ ⟨Nat.max n args.length,false,T.ofList .leaf 0 args⟩ ((⟨x⟩:Array Value)++Array.replicate (n-(⟨x⟩:Array Value).size) undef):=by
 have c:=hv.length;refine⟨?_,λt v h=>?_⟩
 ·have e:Nat.max n args.length=max n args.length:=rfl;simp only[e];simp[c];omega
 rw[qCj]at h;by_cases b:t<args.length
 ·rw[if_pos (by omega)]at h;obtain⟨v',g1,g2⟩:=hv.get t v h;have:((⟨x⟩:Array Value)++Array.replicate (n-(⟨x⟩:Array Value).size) undef).getD t undef=v':=by
   have y:t<x.length:=by omega
   have h3:((⟨x⟩:Array Value)++Array.replicate (n-(⟨x⟩:Array Value).size) undef)[t]? = some v':=by rw[Array.getElem?_append_left (by simpa using y)];simpa using g1
   have g:((⟨x⟩:Array Value)++Array.replicate (n-(⟨x⟩:Array Value).size) undef).getD t undef=(((⟨x⟩:Array Value)++Array.replicate (n-(⟨x⟩:Array Value).size) undef)[t]?).getD undef:=by simp
   rw[g,h3];rfl
  rw[this];exact g2
 rw[if_neg (by omega)]at h;simp[T.get]at h
theorem iS(he:EOk E)(g:HR E σ H w){fr:Fr}{tmps:Array Value}(c:aW σ fr tmps):∀{rs:List ResultVar} {vs:List Value},vI E fr H rs=some vs->
  ∃x,(rs.mapM (λr=>(match r with
   |.tmp t=>pure (tmps.getD t undef)
   |.cell a t=>do loadVar t (←asAddr (tmps.getD a undef)):Sem Value))).run E.prog w=.ok x w/\VRs σ vs x
 | [],vs,h=>by simp[vI]at h;subst h;exact⟨[],by simp,.nil⟩
 | .tmp t::rs,vs,h=>by
  simp only[vI]at h
  split at h
  ·rename_i v hv
   simp only[Option.map_eq_some_iff]at h
   obtain⟨e,i,rfl⟩:=h
   obtain⟨x,g1,g2⟩:=iS he g c i
   exact⟨_,by simp only[List.mapM_cons,Sem.run_bind,Sem.run_pure,Result.andThen_ok,g1],.cons (c.2 t v hv) g2⟩
  cases h
 | .cell a t::rs,vs,h=>by
  simp only[vI]at h
  split at h
  ·rename_i v hv
   simp only[Option.map_eq_some_iff]at h
   obtain⟨e,i,rfl⟩:=h
   obtain⟨x,g1,g2⟩:=iS he g c i
   simp only[Option.bind_eq_some_iff]at hv
   obtain⟨p,q,b⟩:=hv
   have y:=c.2 a p q
   obtain⟨v',j,o⟩:=qGZ he g b y
   obtain⟨A,l⟩:∃A,tmps.getD a undef=.pointer (some A):=by
    generalize tmps.getD a undef=u at y
    unfold k9 at b
    split at b
    case h_2=>cases b
    cases y with
    |leaf z=>simp[zX]at z
    |ptr B=>exact⟨_,rfl⟩
   have k:asAddr (tmps.getD a undef)=pure A:=by rw[l];rfl
   rw[l]at j
   simp only[Instr.loadAt,Instr.sureAddr,Sem.run_bind,Sem.run_pure,Result.andThen_ok]at j
   refine⟨v'::x,?_,.cons o g2⟩
   simp_all
  cases h
end
end Go.Am
namespace Go.Am
open Go
section
variable{E:Env}{ih:Cmd->AH->j9}{σ σ':zU}{H H':AH}{w w':World}
def Fx(b:Frame)(tmps:Array Value)(ds:List Deferred)(todo:List Item):Frame:={b with tmps:=tmps,defers:=ds,todo:=todo,mode:=.returning}
theorem qVc{P:Program}{b:Frame}{tmps:Array Value}{ds:List Deferred}{cs:List Frame}(hr:b.roundOf=none):
  step P (lone (Fm b tmps ds []) cs w)=.next (lone (Fx b tmps ds []) cs w):=
 step_lone_go (by simp[stepG,stepG.exec,Fm,Fx,hr])
theorem qVa{P:Program}{b:Frame}{tmps:Array Value}{ds:List Deferred}{k:List Item}{cs:List Frame}(hr:b.roundOf=none):∃h,step P (lone (Fm b tmps ds (.code .ret::k)) cs w)=.next (lone (Fx b tmps ds h) cs w):=by
 refine⟨?_,step_lone_go ?_⟩
 rotate_left
 ·simp only[stepG,stepG.exec,Fm,Fx,hr];rfl
theorem qRk{P:Program}{b:Frame}{tmps:Array Value}{ds:List Deferred}{k:List Item}{cs:List Frame}{r:Nat}(h:w.heap[r]? = some (.deferred (some []))):step P (lone (Fx b tmps (oN r::ds) k) cs w)=.next (lone (Fx b tmps ds k) cs {w with heap:=w.heap.setIfInBounds r (.deferred none)}):=by
 have x:(Instr.takeDeferred r).run P w=.ok [] {w with heap:=w.heap.setIfInBounds r (.deferred none)}:=by simp only[Instr.takeDeferred,Sem.run_bind,jD P h (by simp),Result.andThen_ok,Sem.run_pure,kG P h (by simp)]
 refine step_lone_go ?_;simp[stepG,unwind,Fx,oN,x]
theorem tT{n0:Nat}{i:List Deferred}:∀(rs:List Nat) (x:World),Step E σ H w σ' H' x->rs.Nodup->w.heap.size<=n0->(∀r∈rs,qAE E n0 σ' H' x r)->∀(b:Frame) (tmps:Array Value) (k:List Item) (cs:List Frame),
  ∃c,Step E σ H w σ' H' c/\Steps E.prog (lone (Fx b tmps (rs.map oN++i) k) cs x) (lone (Fx b tmps i k) cs c)
 | [],x,s,_,_,_,b,tmps,k,cs=>⟨x,s,Steps.refl _ _⟩
 | r::rs,x,s,y,z,hm,b,tmps,k,cs=>by
  obtain⟨F,m2,m3⟩:=hm r (by simp)
  rw[List.nodup_cons]at y
  have h:∀B,B≠r->(x.heap.setIfInBounds r (.deferred none))[B]? = x.heap[B]? :=λB C=>by
   grind
  have j:Step E σ H w σ' H' {x with heap:=x.heap.setIfInBounds r (.deferred none)}:=
   s.beside (by simp) rfl rfl ⟨rfl,λ_=>lR _⟩ (λB C=>h B (by omega)) (λb k L A u=>h _ (m3 b k L A u))
  obtain⟨c,g1,g2⟩:=tT rs _ j y.2 z (λq g=>by
   obtain⟨p,o,l⟩:=hm q (by simp[g])
   exact⟨p,by rw[h q (λe=>y.1 (e▸g))];exact o,l⟩) b tmps k cs
  exact⟨c,g1,.head (qRk m2) g2⟩
def qGS:List Value->Value
 | [v]=>v
 |vs=>.tuple ⟨vs⟩
theorem qPv{f:FuncId}{args:List Value}{out:Out}(h:body E ih (.call f args) H=some (out,H')):∃fn c,E.funcs.get f=some fn/\fn.body=some c/\((∃e x,ih (.code c ⟨Nat.max fn.ntmps args.length,false,T.ofList .leaf 0 args⟩) H=some (.ex e x,H')/\(e=.normal∨e=.ret)/\qDC E fn.results.toList x H'=some (out,H'))∨qAx E ih fn.results.toList c ⟨Nat.max fn.ntmps args.length,false,T.ofList .leaf 0 args⟩ H=some (out,H')):=by
 simp only[body]at h;split at h;case h_2=>cases h
 rename_i fn b;split at h;case h_2=>cases h
 rename_i c i;refine⟨fn,c,b,i,?_⟩;split at h
 ·rename_i x H1 g;have y:qDC E fn.results.toList x H1=some (out,H'):=h;have:=sV y;subst this;exact .inl ⟨_,_,g,.inl rfl,y⟩
 ·rename_i x H1 g;have y:qDC E fn.results.toList x H1=some (out,H'):=h;have:=sV y;subst this;exact .inl ⟨_,_,g,.inr rfl,y⟩
 ·exact .inr h
 ·cases h
theorem qGC{rs:List ResultVar}{fr:Fr}{out:Out}(h:qDC E rs fr H=some (out,H')):∃vs,vI E fr H rs=some vs/\out=.val (qGS vs):=by
 unfold qDC at h;split at h
 ·rename_i v hv;cases h;exact⟨_,hv,rfl⟩
 ·rename_i vs x hv;cases h;refine⟨_,hv,?_⟩;rw[qGS];grind
 cases h
theorem iR(he:EOk E){fn:Func}{fr:Fr}{vs:List Value}{tmps:Array Value}(p:HR E σ H w)(q:aW σ fr tmps)(j:vI E fr H fn.results.toList=some vs):∃v',(results fn tmps).run E.prog w=.ok v' w/\VR σ (qGS vs) v':=by
 obtain⟨b,i,k⟩:=iS he p q j;have h:(results fn tmps).run E.prog w=.ok (qGS b) w:=by simp only[results,Array.mapM_eq_mapM_toList,map_eq_pure_bind,bind_assoc,pure_bind,Sem.run_bind];refine(congrArg (λr=>Result.andThen r _) i).trans ?_;simp only[Result.andThen_ok,Sem.run_pure];rcases b with _|⟨x,_|⟨y,l⟩⟩<;>simp[qGS]
 refine⟨_,h,?_⟩;cases k with
 |nil=>exact .tuple .nil
 |cons g e=>
  cases e with
  |nil=>exact g
  |cons o c=>exact .tuple (.cons g (.cons o c))
theorem qIi{e:AExit}{m:Machine}{b:Frame}{tmps:Array Value}{ds:List Deferred}{cs:List Frame}(g:e=.normal∨e=.ret)(j:b.roundOf=none){k:List Item}(c:k=[]∨e=.ret)(h:Reach E.prog e m b tmps ds k cs w):∃x,Steps E.prog m (lone (Fx b tmps ds x) cs w):=by
 rcases g with rfl|rfl
 ·rcases c with rfl|c
  ·have i:Steps E.prog _ _:=h;exact⟨[],i.trans (.one (qVc j))⟩
  cases c
 obtain⟨l,i⟩:=h;obtain⟨x,y⟩:=qVa (P:=E.prog) (b:=b) (tmps:=tmps) (ds:=ds) (k:=l) (cs:=cs) (w:=w) j;exact⟨x,i.trans (.one y)⟩
def qLi(σ:zU)(d:Deferred)(g:FuncId)(xs:List Value):Prop:=∃a1 c1:List Value,d={target:=.fn (.func g) ⟨c1⟩,args:=⟨a1⟩}/\VRs σ xs (a1++c1)
theorem qLi.mono{d:Deferred}{g:FuncId}{xs:List Value}(x:zU.le σ σ')(h:qLi σ d g xs):qLi σ' d g xs:=by obtain⟨a1,c1,b,y⟩:=h;exact⟨a1,c1,b,y.mono x⟩
theorem qVb{P:Program}{b:Frame}{tmps:Array Value}{ds:List Deferred}{k:List Item}{cs:List Frame}{ops:Array Oper}{i:Nat}{rest:List Nat}{o:Oper}(x:ops[i]? = some o)(h:Region.wanted o (yielded ops tmps)=true)(hr:b.roundOf=none):
  stepG P true {frame:=Fm b tmps ds (.inRegion ops (i::rest)::k),callers:=cs,status:=.running,dying:=none} w =
   stepG.apply P true (Fm b tmps ds (.inRegion ops (i::rest)::k)) cs none (execOp (Act.eval ⟨tmps,[]⟩) o) w:=by
 have he:=qIb b tmps ds (.inRegion ops (i::rest)::k)
 simp only[Fm]at he
 simp only[Fm]
 simp only[hr]at he
 simp[stepG,stepG.exec,stepG.oper,Frame.oper?,x,h,he,hr]
theorem qOG{P:Program}{b:Frame}{tmps:Array Value}{ds:List Deferred}{k:List Item}{cs:List Frame}{ops:Array Oper}{i:Nat}{rest:List Nat}{o:Oper}{d:Deferred}(x:ops[i]? = some o)(y:Region.wanted o (yielded ops tmps)=true)(c:b.roundOf=none)(hd:(execOp (Act.eval ⟨tmps,[]⟩) o).run P w=.ok (.defer d) w):step P (lone (Fm b tmps ds (.inRegion ops (i::rest)::k)) cs w)=.next (lone (Fm b (gZ tmps o.dst undef) (d::ds) (.inRegion ops rest::k)) cs w):=by have h:({Fm b tmps ds (.inRegion ops (i::rest)::k)with defers:=d::ds}:Frame).finish undef=Fm b (gZ tmps o.dst undef) (d::ds) (.inRegion ops rest::k):=gT (b:=b) (tmps:=tmps) (ds:=d::ds) (k:=k) (rest:=rest) x undef;refine step_lone_go ?_;rw[qVb x y c,←h];simp[stepG.apply,hd];rfl
theorem qHK(he:EOk E)(K:IhOK E ih):∀{c:Code} {fr z:Fr} {H H':AH} {g:FuncId} {xs:List Value} {b:Code},gB E ih c fr H=some ((g,xs),z,H',b)->zP c=true->∀(σ:zU) (w:World) (tmps:Array Value),HR E σ H w->aW σ fr tmps->yD σ H.next H'.next->fr.rd=false->∀(f:Frame) (k:List Item) (cs:List Frame),qA9 f cs->f.roundOf=none->∃σ' w' u d,Step E σ H w σ' H' w'/\aW σ' z u/\z.rd=false/\qLi σ' d g xs/\(∃gn,E.funcs.get g=some gn)/\zP b=true/\Steps E.prog (lone (Fm f tmps [] (.code c::k)) cs w) (lone (Fm f u [d] (.code b::k)) cs w'):=by
 intro c;induction c with
 | seq a b0 _ ihb=>
  intro fr z H H' g xs b h r σ w tmps hr hf q Q f k cs hk A;cases a with
  | region id ops draw=>
   simp only[zP,aE]at r;simp only[gB]at h;split at h
   ·rename_i N H1 h1;have hup:=eI K.up h;obtain⟨I,O,y,g1,g2,g3⟩:=cE he K.call K.round K.up (id:=id) (λhdr=>by have h0:=r.1;rw[hdr]at h0;simpa using h0) f [] (.code b0::k) cs hk (λ_=>A) h1 hr hf (λx q1 q2=>q x q1 (by omega));have P:N.rd=false:=by rw[pH h1];exact Q
    obtain⟨σ2,w2,J,d,k1,k2,k3,k4,k5,k6,k7⟩:=ihb h r.2 I O y g1.hr g2 (q.split g1.ext g1.next) P f k cs hk A;exact⟨σ2,w2,J,d,g1.trans k1,k2,k3,k4,k5,k6,.head qAo (g3.trans k7)⟩
   cases draw with
   |true=>cases h
   | false=>
    simp only[cond_false]at h;split at h;case h_2=>cases h
    rename_i o l;split at h;case h_2=>cases h
    rename_i N H1 h1;split at h;case h_2=>cases h
    rename_i d0 fr2 i F;cases h;have j:ops.toList=ops.toList.dropLast++[o]:=by
     have R:ops.toList≠[]:=by intro e;rw[e]at l;cases l
     have:=List.dropLast_concat_getLast R;rw[List.getLast?_eq_some_getLast R]at l;rw[Option.some.inj l]at this;exact this.symm
    have U:ops.size=ops.toList.dropLast.length+1:=by have:=congrArg List.length j;simp only[List.length_append,List.length_cons,List.length_nil]at this;simpa using this
    obtain⟨I,O,y,g1,g2,g3⟩:=sS he K.call K.round K.up f [] (.code b0::k) cs hk ops.toList.dropLast [o] [ops.toList.dropLast.length] 0 fr N H H' σ w tmps (by simpa using j) h1 hr hf q (λ_=>A);have B:List.range ops.size=List.range' 0 ops.toList.dropLast.length++[ops.toList.dropLast.length]:=by rw[U,List.range_succ,List.range_eq_range']
    have ho:ops[ops.toList.dropLast.length]? = some o:=by
     have:ops.toList[ops.toList.dropLast.length]? = some o:=by rw[j];simp
     simpa using this
    unfold qEG at i;split at i;case h_2=>cases i
    rename_i cc hop C;split at i;case h_2=>cases i
    rename_i fo args X M;split at i;case h_2=>cases i
    rename_i g0 first cap hev
    split at i;case h_2=>cases i
    rename_i gn hgn;simp only[oI,Prod.mk.injEq]at i;obtain⟨rfl,rfl⟩:=i;have hw1:Region.wanted o (yielded ops y)=true:=by simp[Region.wanted,C]
    have V:=pQ (a:=⟨y,[]⟩) he g1.hr g2 hev;have Z:=uA (a:=⟨y,[]⟩) (λx _ v hv=>pQ (a:=⟨y,[]⟩) he g1.hr g2 hv) M;have G:cc.args.map (Act.eval ⟨y,[]⟩)=⟨cc.args.toList.map (Act.eval ⟨y,[]⟩)⟩:=(cK _ _).symm;generalize hargs':cc.args.toList.map (Act.eval ⟨y,[]⟩)=p at Z G;generalize hg':Act.eval ⟨y,[]⟩ fo=g' at V;cases V with
    |leaf h0=>simp[zX]at h0
    | func h0 hf1 hc1=>
     rename_i f1 c1;have L:(execOp (Act.eval ⟨y,[]⟩) o).run E.prog O=.ok (.defer {target:=.fn (.func g0) ⟨c1⟩,args:=⟨f1++p⟩}) O:=by
      have W:(⟨f1⟩:Array Value)++⟨p⟩=⟨f1++p⟩:=by apply Array.ext';simp
      simp only[execOp,hop,resolve,X,G,Deferred.ofValue,hg',Sem.run_bind,Sem.run_pure,Result.andThen_ok,W]
     refine⟨I,O,gZ y o.dst undef,_,g1,cG g2 F (.tuple .nil),by rw[fB F,pH h1];exact Q,⟨f1++p,c1,rfl,(hf1.append Z).append hc1⟩,⟨gn,hgn⟩,r.2,?_⟩;refine .head qAo (.head qEs ?_);rw[B];exact g3.trans (.head (qOG ho hw1 A L) (.one lV))
  |_=>simp[gB]at h
 |_=>intro fr z H H' g xs b h;simp[gB]at h
theorem qHk(he:EOk E){b:Frame}{tmps:Array Value}{k:List Item}{cs:List Frame}{g:FuncId}{c:Func}{a1 c1:List Value}(y:E.funcs.get g=some c):step E.prog (lone (Fx b tmps [{target:=.fn (.func g) ⟨c1⟩,args:=⟨a1⟩}] k) cs w)=.next (lone (Frame.enter E.prog g ⟨a1++c1⟩ .deferred) (Fx b tmps [] k::cs) w):=by
 have h:(invoke (.fn (.func g) ⟨c1⟩) ⟨a1⟩).run E.prog w=.ok (.enter g ⟨a1++c1⟩) w:=by
  have x:(⟨a1⟩:Array Value)++⟨c1⟩=⟨a1++c1⟩:=by apply Array.ext';simp
  simp only[invoke,x,fO he y]
 refine step_lone_go ?_;simp[stepG,unwind,callDeferred,Fx,h]
theorem qRl{P:Program}{b c:Frame}{tmps:Array Value}{k:List Item}{cs:List Frame}{fn:Func}{v:Value}(y:P.funcs[b.fn]? = some fn)(x:b.kind=.deferred)(e:c.mode=.returning)(h:(results fn tmps).run P w=.ok v w):step P (lone (Fx b tmps [] k) (c::cs) w)=.next (lone c cs w):=by refine step_lone_go ?_;simp[stepG,unwind,Fx,y,h,doReturn,x,e]
theorem qC0(he:EOk E){f:FuncId}{fn:Func}{c:Code}(x:E.funcs.get f=some fn)(b:fn.body=some c)(h:List Value)(kd:CallKind):Frame.enter E.prog f ⟨h⟩ kd=Fm {(default:Frame)with fn:=f,kind:=kd} ((⟨h⟩:Array Value)++Array.replicate (fn.ntmps-(⟨h⟩:Array Value).size) undef) [] [.code c]:=by obtain⟨y,_,_⟩:=he.funcs _ _ x;simp only[Frame.enter,y,b,Option.map_some,Option.getD_some,Option.bind_some];rfl
theorem qK9(he:EOk E)(M:IhOK E ih){f:FuncId}{args:List Value}{out:Out}(h:body E ih (.call f args) H=some (out,H')):∃v,out=.val v/\vU E f args H v H':=by
 obtain⟨fn,c,I,hc,h⟩:=qPv h;obtain⟨hp,_,_⟩:=he.funcs _ _ I;have K:=he.codes _ _ _ I hc;rcases h with⟨e,fr1,h1,Z,q⟩|h
 ·obtain⟨vs,p,rfl⟩:=qGC q;refine⟨_,rfl,?_⟩;intro σ w args' F hv o cs;let b:Frame:={(default:Frame)with fn:=f,kind:=.normal};rw[qC0 he I hc];have hds0:uQ E w.heap.size [] σ H w []:=⟨[],rfl,List.nodup_nil,λr F=>by simp at F⟩;obtain⟨B,w1,j,ds1,s1,f1,r1,⟨rs,rfl,R,U⟩,e1⟩:=(M.code _ _ _ _ _ _ h1).lay K _ w.heap.size [] F (qAu hv fn.ntmps) o (lR _) b [] [] cs (.inl rfl) (λ_=>rfl) hds0;obtain⟨C,hx⟩:=qIi Z rfl (.inl rfl) e1;obtain⟨w2,s2,N⟩:=tT rs w1 s1 R (lR _) U b j C cs;obtain⟨v',i,O⟩:=iR he s2.hr f1 p;exact⟨.returned v',w2,Fx b j [] C,⟨B,v',rfl,O,s2⟩,hx.trans N,rfl,rfl,rfl,rfl,fn,hp,i⟩
 -- a call is deferred
 unfold qAx at h;split at h;case h_2=>cases h
 rename_i g xs fr1 H1 b0 hdr;have main:∀(e:AExit) (J:Fr) (H2:AH),(e=.normal∨e=.ret)->ih (.code b0 fr1) H1=some (.ex e J,H2)->qEh E ih fn.results.toList g xs J H2=some (out,H')->∃v,out=.val v/\vU E f args H v H':=by
  intro e J H2 Z h2 hl;unfold qEh at hl;split at hl;case h_2=>cases hl
  rename_i gn G;split at hl;case h_2=>cases hl
  rename_i gc hgc hgr
  have last:∀(e3:AExit) (fr3:Fr) (H3:AH),(e3=.normal∨e3=.ret)->ih (.code gc ⟨Nat.max gn.ntmps xs.length,false,T.ofList .leaf 0 xs⟩) H2=some (.ex e3 fr3,H3)->qDC E fn.results.toList J H3=some (out,H')->
    ∃v,out=.val v/\vU E f args H v H':=by
   intro e3 fr3 H3 hee3 h3 q
   have hHH:=sV q
   subst hHH
   obtain⟨vs,p,rfl⟩:=qGC q
   refine⟨_,rfl,?_⟩
   intro σ w args' F hv o cs
   have u1:=eI M.up hdr
   have u2:=M.up _ _ _ _ h2
   have u3:=M.up _ _ _ _ h3
   let b:Frame:={(default:Frame)with fn:=f,kind:=.normal}
   rw[qC0 he I hc]
   obtain⟨B,w1,j,d,s1,f1,r1,⟨a1,c1,rfl,hd⟩,_,Q,e1⟩:=qHK he M hdr K σ w _ F (qAu hv fn.ntmps) (λx q1 q2=>o x q1 (by omega)) rfl b [] cs (.inl rfl) rfl
   have l:=o.split s1.ext s1.next
   have hds1:uQ E w1.heap.size [{target:=.fn (.func g) ⟨c1⟩,args:=⟨a1⟩}] B H1 w1 [{target:=.fn (.func g) ⟨c1⟩,args:=⟨a1⟩}]:=⟨[],rfl,List.nodup_nil,λr F=>by simp at F⟩
   obtain⟨L,w2,y,ds2,s2,f2,r2,⟨rs,rfl,R,U⟩,e2⟩:=(M.code _ _ _ _ _ _ h2).lay Q j w1.heap.size _ s1.hr f1 (λx q1 q2=>l x q1 (by omega)) (lR _) b _ [] cs (.inl rfl) (λ_=>rfl) hds1
   obtain⟨C,hx⟩:=qIi Z rfl (.inl rfl) e2
   obtain⟨w3,s3,N⟩:=tT rs w2 s2 R (lR _) U b y C cs
   have u:=l.split s3.ext s3.next
   have W:zU.le B L:=s2.le (λx q1 q2=>l x q1 (by omega))
   have A:=qHk (w:=w3) he (b:=b) (tmps:=y) (k:=C) (cs:=cs) (a1:=a1) (c1:=c1) G
   rw[qC0 he G hgc]at A
   let b2:Frame:={(default:Frame)with fn:=g,kind:=.deferred}
   have hds3:uQ E w3.heap.size [] L H2 w3 []:=⟨[],rfl,List.nodup_nil,λr F=>by simp at F⟩
   obtain⟨σ4,w4,z,ds4,s4,f4,r4,⟨rs4,rfl,hnd4,hmk4⟩,e4⟩:=(M.code _ _ _ _ _ _ h3).lay (he.codes _ _ _ G hgc) _ w3.heap.size [] s3.hr (qAu (hd.mono W) gn.ntmps) u (lR _) b2 [] []
    (Fx b y [] C::cs) (.inr ⟨rfl,_,_,rfl,rfl⟩) (λ_=>rfl) hds3
   obtain⟨k4,hx4⟩:=qIi hee3 rfl (.inl rfl) e4
   obtain⟨w5,s5,hx5⟩:=tT rs4 w4 s4 hnd4 (lR _) hmk4 b2 z k4 (Fx b y [] C::cs)
   obtain⟨_,X,_⟩:=iR (fn:=gn) (vs:=[]) he s5.hr f4 (by rw[hgr];rfl)
   have hback:=qRl (P:=E.prog) (b:=b2) (c:=Fx b y [] C) (tmps:=z) (k:=k4) (cs:=cs) (w:=w5) (he.funcs _ _ G).1 rfl rfl X
   have V:zU.le L σ4:=s4.le u
   obtain⟨v',i,O⟩:=iR he s5.hr (f2.mono V) p
   exact⟨.returned v',w5,Fx b y [] C,⟨σ4,v',rfl,O,s1.trans (s3.trans s5)⟩,e1.trans (hx.trans (N.trans (.head A (hx4.trans (hx5.trans (.one hback)))))),rfl,rfl,rfl,rfl,fn,hp,i⟩
  grind
 grind
end
end Go.Am
namespace Go.Am
open Go
section
variable{E:Env}{ih:Cmd->AH->j9}{σ σ':zU}{H H':AH}{w w':World}
theorem Reach.weaken2{P:Program}{e:AExit}{m:Machine}{b:Frame}{tmps:Array Value}{ds:List Deferred}{k:List Item}{x:Item}{cs:List Frame}{w:World}(y:∀id,e=.exit id->exitTo id (x::k)=exitTo id k)(he:e≠.normal)(h:Reach P e m b tmps ds (x::k) cs w):Reach P e m b tmps ds k cs w:=by
 cases e with
 |normal=>exact absurd rfl he
 |exit id=>refine⟨λk' g=>h.1 k' (by rw[y _ rfl];exact g),λc=>h.2 (by rw[y _ rfl];exact c)⟩
 |ret=>exact h
theorem gY{c:Code}{fr:Fr}{e:AExit}(h:∀(b:Frame) (tmps:Array Value) (ds:List Deferred) (k:List Item) (cs:List Frame) (w:World),Reach E.prog e (lone (Fm b tmps ds (lay c k)) cs w) b tmps ds k cs w):
  pT E c fr H e fr H:=
 λ_ σ w tmps _ _ y g _ _ b ds k cs _ _ x=>⟨σ,w,tmps,ds,Step.refl y,g,rfl,x,h b tmps ds k cs w⟩
theorem uL{v:Value}{t:Bool}(h:VR σ (.bool t) v):v=.bool t:=by
 cases h with
 |leaf x=>rfl
theorem qAX(y:IhOK E ih){c:Code}{fr:Fr}{out:Out}(h:ih (.code c fr) H=some (out,H')):∃e x,out=.ex e x:=by
 cases out with
 |ex e x=>exact⟨e,x,rfl⟩
 |val v=>exact absurd h (y.codev _ _ _ _ _)
theorem qEI(z:IhOK E ih){c1 L:Code}{fr q r:Fr}{H1:AH}{e:AExit}(R:ih (.code c1 fr) H=some (.ex .normal q,H1))(Q:ih (.code L q) H1=some (.ex e r,H')){c:Code}(o:zP c=true->zP c1=true/\zP L=true)(x:Item)(hx:∀id k,exitTo id (x::k)=exitTo id k)(hs:∀(b:Frame) (tmps:Array Value) (ds:List Deferred) (k:List Item) (cs:List Frame) (w:World),Steps E.prog (lone (Fm b tmps ds (lay c k)) cs w) (lone (Fm b tmps ds (.code c1::x::k)) cs w))(F:∀(b:Frame) (tmps:Array Value) (ds:List Deferred) (k:List Item) (cs:List Frame) (w:World),Steps E.prog (lone (Fm b tmps ds (x::k)) cs w) (lone (Fm b tmps ds (lay L k)) cs w)):pT E c fr H e r H':=by intro G σ w tmps n0 U hr hf y p b ds k cs P l I;obtain⟨X,W⟩:=o G;have O:H.next<=H1.next:=z.up _ _ _ _ R;have N:H1.next<=H'.next:=z.up _ _ _ _ Q;have g:yD σ H.next H1.next:=λc Z q2=>y c Z (by omega);obtain⟨B,M,h,u,s1,f1,j,d1,e1⟩:=(z.code _ _ _ _ _ _ R).lay X tmps n0 U hr hf g p b ds (x::k) cs P l I;obtain⟨A,V,i,K,s2,f2,C,d2,e2⟩:=z.code _ _ _ _ _ _ Q W B M h n0 U s1.hr f1 (y.split s1.ext s1.next) (lT p s1.size) b u k cs P (by rw[j];exact l) d1;have J:Steps E.prog _ _:=e1;exact⟨A,V,i,K,s1.trans s2,f2,C.trans j,d2,.head ((hs b tmps ds k cs w).trans (J.trans (F b h u k cs M))) e2⟩
theorem lO(C:IhOK E ih){c1:Code}{fr g:Fr}{e e':AExit}(I:ih (.code c1 fr) H=some (.ex e g,H')){c:Code}(y:zP c=true->zP c1=true)(xs:List Item)(F:∀(tmps:Array Value),(∀σ:zU,aW σ fr tmps->∀(b:Frame) (ds:List Deferred) (k:List Item) (cs:List Frame) (w:World),HR E σ H w->Steps E.prog (lone (Fm b tmps ds (lay c k)) cs w) (lone (Fm b tmps ds (.code c1::xs++k)) cs w)))(l:∀(m:Machine) (b:Frame) (tmps:Array Value) (ds:List Deferred) (k:List Item) (cs:List Frame) (w:World),Reach E.prog e m b tmps ds (xs++k) cs w->Reach E.prog e' m b tmps ds k cs w):pT E c fr H e' g H':=by intro p σ w tmps n0 K z A x q b ds k cs G o r;obtain⟨i,B,h,u,s1,f1,j,d1,J⟩:=(C.code _ _ _ _ _ _ I).lay (y p) tmps n0 K z A x q b ds (xs++k) cs G o r;exact⟨i,B,h,u,s1,f1,j,d1,l _ _ _ _ _ _ _ (.head (F tmps σ A b ds k cs w z) J)⟩
theorem qK3(he:EOk E)(y:IhOK E ih){c:Code}{fr:Fr}{out:Out}(h:body E ih (.code c fr) H=some (out,H')):∃e x,out=.ex e x/\pT E c fr H e x H':=by
 cases c;case skip=>cases h;exact⟨_,_,rfl,gY λb tmps ds k cs w=>.one qKB⟩
 case label l=>cases h;exact⟨_,_,rfl,gY λb tmps ds k cs w=>.one qHo⟩
 case ret=>cases h;exact⟨_,_,rfl,gY λb tmps ds k cs w=>⟨k,Steps.refl _ _⟩⟩
 case exit id=>cases h;exact⟨_,_,rfl,gY λb tmps ds k cs w=>⟨λk' G=>.one (qKC G),λr=>⟨k,r,Steps.refl _ _⟩⟩⟩
 case seq a b=>
  simp only[body]at h;split at h
  ·rename_i j H1 q;obtain⟨e,x,rfl⟩:=qAX y h;refine⟨e,x,rfl,qEI y q h (λhr=>by simpa[zP]using hr) (.code b) (λid k=>rfl) (λb tmps ds k cs w=>.one qAo) (λb tmps ds k cs w=>qAj _ _ _ _ _ _ _ _)⟩
  rename_i o;obtain⟨e,x,rfl⟩:=qAX y h;have r:e≠.normal:=λB=>by subst B;exact o _ _ h
  exact⟨e,x,rfl,lO y h (λhr=>by simp[zP]at hr;exact hr.1) [.code b] (λtmps σ p b ds k cs w hr=>.one qAo) (λm b tmps ds k cs w g=>g.weaken (λid=>rfl) r)⟩
 case cond cnd a b=>
  simp only[body]at h;split at h
  ·rename_i A;obtain⟨e,x,rfl⟩:=qAX y h;refine⟨e,x,rfl,lO y h (λhr=>by simp[zP]at hr;exact hr.1) [] (λtmps σ p b ds k cs w hr=>.one ?_) (λm b tmps ds k cs w g=>g)⟩;exact qBt (t:=true) (uL (pQ (a:=⟨tmps,[]⟩) he hr p A))
  ·rename_i A;obtain⟨e,x,rfl⟩:=qAX y h;refine⟨e,x,rfl,lO y h (λhr=>by simp[zP]at hr;exact hr.2) [] (λtmps σ p b ds k cs w hr=>.one ?_) (λm b tmps ds k cs w g=>g)⟩;exact qBt (t:=false) (uL (pQ (a:=⟨tmps,[]⟩) he hr p A))
  cases h
 case block id b=>
  simp only[body]at h;split at h
  ·rename_i i j H1 q;by_cases hid:i=id
   ·subst hid;simp only[Nat.beq_refl,cond_true]at h;cases h;exact⟨_,_,rfl,lO y q (λhr=>hr) [.inBlock i] (λtmps σ p b ds k cs w hr=>.one eC) (λm b tmps ds k cs w g=>g.1 k (by simp[exitTo]))⟩
   have J:Nat.beq i id=false:=by
    cases J:Nat.beq i id with
    |false=>rfl
    |true=>exact absurd (vE J) hid
   simp only[J,cond_false]at h;cases h;refine⟨_,_,rfl,lO y q (λhr=>hr) [.inBlock id] (λtmps σ p b ds k cs w hr=>.one eC) (λm b tmps ds k cs w g=>g.weaken2 (λL N=>?_) (by simp))⟩;cases N;have:(id==i)=false:=by simpa using λB=>hid B.symm
   simp[exitTo,this]
  rename_i o;obtain⟨e,x,rfl⟩:=qAX y h;refine⟨e,x,rfl,lO y h (λhr=>hr) [.inBlock id] (λtmps σ p b ds k cs w hr=>.one eC) (λm b tmps ds k cs w g=>?_)⟩;cases e with
  |normal=>have g':Steps E.prog _ _:=g;exact g'.trans (.one qCQ)
  |exit i=>exact absurd h (o _ _ _)
  |ret=>exact g
 case loop b=>
  simp only[body]at h;split at h
  ·rename_i j H1 q;obtain⟨e,x,rfl⟩:=qAX y h;exact⟨e,x,rfl,qEI y q h (λhr=>⟨hr,hr⟩) (.inLoop b) (λid k=>rfl) (λb tmps ds k cs w=>Steps.refl _ _) (λb tmps ds k cs w=>.one qEt)⟩
  rename_i o;obtain⟨e,x,rfl⟩:=qAX y h;have r:e≠.normal:=λB=>by subst B;exact o _ _ h
  exact⟨e,x,rfl,lO y h (λhr=>hr) [.inLoop b] (λtmps σ p b ds k cs w hr=>Steps.refl _ _) (λm b tmps ds k cs w g=>g.weaken (λid=>rfl) r)⟩
 case scope b=>
  simp only[body]at h;obtain⟨e,x,rfl⟩:=qAX y h;refine⟨e,x,rfl,lO y h (λhr=>hr) [.inScope b] (λtmps σ p b ds k cs w hr=>.one qHn) (λm O tmps ds k cs w g=>?_)⟩;by_cases r:e=.normal
  ·subst r;have g':Steps E.prog _ _:=g;exact g'.trans (.one qCP)
  exact g.weaken (λid=>rfl) r
 case region id ops draw=>
  simp only[body]at h;have K:∀(ts:List (Nat×Nat)) (j:Fr) (H1:AH),zM E ih ops draw ts ops.toList 0 fr H=some (j,H1)->some (Out.ex .normal j,H1)=some (out,H')->∃e x,out=.ex e x/\pT E (.region id ops draw) fr H e x H':=by intro ts j H1 q h;cases h;refine⟨_,_,rfl,?_⟩;intro F σ w tmps n0 P hr p z M b ds k cs G C I;obtain⟨σ',w',u,g1,g2,g3⟩:=cE he y.call y.round y.up (id:=id) (λhd=>by simpa[zP,hd]using F) b ds k cs G C q hr p z;exact⟨σ',w',u,ds,g1,g2,pH q,I.step hr g1,g3⟩
  grind
 case rangeFunc f params assign b=>simp only[body]at h;exact qGE he y h
 all_goals(simp only[body]at h;cases h)
theorem qLb(he:EOk E)(y:IhOK E ih):IhOK E (body E ih) where
 up:=qLa y.up
 call f x H v H' h:=by obtain⟨v',e,g⟩:=qK9 he y h;cases e;exact g
 round l x H v H' h:=by have j:gJ E ih l x H=some (.val v,H'):=h;obtain⟨v',e,g⟩:=qGA y j;cases e;exact g
 code c fr H e k H' h:=by obtain⟨e',b,i,g⟩:=qK3 he y h;cases i;exact g
 codev c fr H v H' h:=by obtain⟨e',b,i,g⟩:=qK3 he y h;cases i
theorem qJ2(he:EOk E):∀n,IhOK E (qQo E n)
 |0=>{up:=qJ1 E 0,call:=λ_ _ _ _ _ h=>(by cases h),round:=λ_ _ _ _ _ h=>(by cases h),code:=λ_ _ _ _ _ _ h=>(by cases h),codev:=λ_ _ _ _ _ h=>(by cases h)}
 |n+1=>qLb he (qJ2 he n)
end
end Go.Am
namespace Go.Am
open Go
def cO(P:Program)(ts:T TI):List TypeInfo->Nat->Bool
 | [],_=>true
 |_::h,n=>(match P.underlying n with
  |some (.struct x)=>x.toList.all λf=>(ts.get f.type).isSome
  |_=>true)&&cO P ts h (n+1)
def cP(P:Program):Bool:=P.follows .mixedOrders&&cO P (qHD P).types P.types.toList 0
theorem eR{P:Program}:∀(y:List TypeInfo) (n:Nat) (t:T TI) (k:Nat) (x:TI),(eS P y n t).get k=some x->
  t.get k=some x∨∃i d,n<=k/\y[k-n]? = some i/\P.underlying k=some d/\x=qE6 i d
 | [],n,t,k,x,h=>.inl h
 | i::y,n,t,k,x,h=>by
  simp only[eS]at h
  rcases eR y (n+1) _ k x h with g|⟨b,d,g1,g2,g3,g4⟩
  ·split at g
   ·rename_i d hd
    rw[T.get_put]at g
    grind
   exact .inl g
  grind
theorem qAm:∀(x:List Func) (n:Nat) (t:T Func) (k:Nat) (fn:Func),(gS x n t).get k=some fn->
  t.get k = some fn ∨ (n <= k /\ x[k - n]? = some fn /\ ∃ c, fn.body = some c /\ fn.name ≠ "runtime.NumGoroutine" /\ zP c = true)
 | [],n,t,k,fn,h=>.inl h
 | f::x,n,t,k,fn,h=>by
  simp only[gS]at h
  rcases qAm x (n+1) _ k fn h with g|⟨e,g2,g3⟩
  ·split at g
   ·rename_i c b
    cases y : (f.name == "runtime.NumGoroutine" || !zP c) with
    |true=>rw[y]at g;exact .inl g
    |false=>
     rw[y]at g
     simp only[cond_false]at g
     rw[T.get_put]at g
     grind
   exact .inl g
  grind
theorem aF{P:Program}{ts:T TI}:∀(b:List TypeInfo) (n:Nat),cO P ts b n=true->∀k y,n<=k->k<n+b.length->P.underlying k=some (.struct y)->∀f∈y.toList,∃j,ts.get f.type=some j
 | [],n,h,k,y,x,g,h3,f,c=>by simp at g;omega
 |i::b,n,h,k,y,x,g,h3,f,c=>by
  simp only[cO,aE]at h;by_cases e:n=k
  ·subst e;have x:=h.1;rw[h3]at x;simp only[List.all_eq_true]at x;exact Option.isSome_iff_exists.1 (x f c)
  exact aF b (n+1) h.2 k y (by omega) (by simp at g;omega) h3 f c
theorem qBB{ag:Bool}{size:Nat}{v:Value}(h:qBC ag size v=true):zF v=true/\v.cells.toList.all qE=true/\v.cells.toList.length=size/\(ag=true->v=.agg ⟨v.cells.toList⟩)/\(ag=false->v.cells.toList=[v]):=by
 simp only[qBC,aE]at h;obtain⟨⟨⟨b,y⟩,h3⟩,x⟩:=h;refine⟨b,y,vE h3,λe=>?_,λe=>?_⟩
 ·subst e;cases v<;>simp at x<;>rfl
 subst e;cases v<;>simp[Value.cells]at x ⊢
theorem qVu{P:Program}(h:cP P=true):EOk (qHD P) where
 types t l k:=by
  rcases eR _ _ _ _ _ k with g|⟨i,d,g1,g2,g3,rfl⟩
  ·simp[T.get]at g
  have x:P.types[t]? = some i:=by simpa using g2
  have e:=(Array.getElem?_eq_some_iff.1 x).1
  have o:P.info? t=some i:=by
   show Tables.info? P.toTables t=some i
   unfold Tables.info?
   rw[if_pos e];exact x
  refine⟨i,o,g3,rfl,rfl,?_,rfl⟩
  intro z b
  simp only[qE6]at b
  split at b
  ·rename_i v hv
   cases y:qBC (qPG d) i.size v with
   |false=>rw[y]at b;cases b
   |true=>
    rw[y]at b
    cases b
    obtain⟨a1,a2,a3,a4,a5⟩:=qBB y
    exact⟨v,hv,a1,rfl,a2,a3,a4,a5⟩
  cases b
 funcs f fn j:=by
  rcases qAm _ _ _ _ _ j with g|⟨g1,g2,c,g3,g4,g5⟩
  ·simp[T.get]at g
  have x:P.funcs[f]? = some fn:=by simpa using g2
  exact⟨x,by rw[g3];rfl,g4⟩
 codes f fn c j q:=by
  rcases qAm _ _ _ _ _ j with g|⟨g1,g2,r,g3,g4,g5⟩
  ·simp[T.get]at g
  grind
 mixed:=by
  simp only[cP,aE]at h
  exact h.1
 ng:=rfl
 fields t l p k hd f j:=by
  rcases eR _ _ _ _ _ k with g|⟨i,d,g1,g2,g3,rfl⟩
  ·simp[T.get]at g
  simp only[cP,aE]at h
  have x:P.types[t]? = some i:=by simpa using g2
  have e:=(Array.getElem?_eq_some_iff.1 x).1
  simp only[qE6]at hd
  exact aF _ _ h.2 t p (Nat.zero_le _) (by simpa using e) (by rw[g3,hd]) f j
def qAZ(n:Nat):AH:={blocks:=.leaf,next:=n,low:=qT}
def isTrue(r:j9):Bool:=match r with
 |some (.val (.bool true),_)=>true
 |_=>false
theorem EOk.laid{E:Env}(h:EOk E)(l:List (Nat×ABlk)):EOk {E with laid:=l}:=by obtain⟨⟩:=h;constructor<;>assumption
end Go.Am
namespace Go.Am
open Go
structure Kept (w w':World):Prop where
 size:w.heap.size<=w'.heap.size
 old:∀B,B<w.heap.size->w'.heap[B]? = w.heap[B]?
 tape:w'.tape=w.tape
 os:w'.os=w.os
 output:w'.output=w.output
structure KeptD (w w':World):Prop where
 size:w.heap.size<=w'.heap.size
 old:∀B,B<w.heap.size->w'.heap[B]? = w.heap[B]?
 tape:w'.tape=w.tape
 os:w'.os=w.os
 output:w'.output=w.output/\w.drawn<=w'.drawn
section
variable{E:Env}{σ σ':zU}{H H':AH}{w w':World}
theorem Step.kept(hr:HR E σ H w)(k:KeptD w w'):Step E σ H w σ H w':=
  have s:=Step.refl hr
  { hr:=⟨λb y L x h=>by
      obtain⟨o,g,e⟩:=hr.objs b y L x h
      exact⟨o,by rw[k.old _ (hr.lt x h)];exact g,e⟩,hr.sep,hr.glob,hr.wf⟩
    next:=s.next,ext:=s.ext,size:=k.size,low:=s.low,tape:=k.tape,os:=k.os,output:=⟨k.output.1,λ_=>k.output.2⟩,frame:=λB c _=>k.old B c,
    origin:=s.origin,old:=s.old,keep:=s.keep,born:=s.born}
end
end Go.Am
