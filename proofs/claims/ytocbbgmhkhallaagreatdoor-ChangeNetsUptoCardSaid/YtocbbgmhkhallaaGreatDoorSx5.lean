/- Symbolic runs: calls that are handed places of the function's own. Conditions: none. -/
import Derived.Test.YtocbbgmhkhallaaGreatDoorSx3
set_option linter.unusedVariables false
set_option linter.unusedSimpArgs false
namespace Go.Am
open Go
abbrev cm:=@List.getD_eq_getElem?_getD
abbrev gw:=@Bool.false_and
abbrev kc:=@List.isEmpty_nil
def qJX(E:Env)(f:LO)(ds:LR)(d:D):Prop:=(∃fn,E.funcs.get f=some fn)/\
 ∀(H:AH) (g:zR) (h:LA),WF H->zR.le g H.blocks.get->qJV E g->DRs g ds h->∃v H' g',xK E f h H v H'/\H.next<H'.next/\WF H'/\(∀b,b<H.next->H'.blocks.get b=H.blocks.get b)/\Nat.min H.low H.next<=H'.low/\zR.le g g'/\zR.le g' H'.blocks.get/\(∀b,b<H.next->g' b=g b)/\DR g' d v
def qOh(m:Mode)(ve:LH)(lb:LI):LQ:=match m.out.af with
 | [(_,x)]=>x.val ve lb
 |l=>.tuple ⟨SV.a8 ve lb (l.map Prod.snd)⟩
def qQD(E:Env)(f:LO)(m:Mode)(ds:LR)(d:D):Prop:=(∃fn,E.funcs.get f=some fn)/\∃y,d=kC y/\y.length=m.out.db.length/\
 ∀(L:Lim) (H:AH) (g:zR) (ve:LH) (lb:LI) (h:LA),SR E L H g (m.ly.st m.n) ds ve lb g ⟨m.n,false,T.ofList .leaf 0 h⟩ H->h.length=m.n->(L.F=(List.range m.ly.ae.length).map lb)->∃v H' g' c,xK E f h H v H'/\H.next<H'.next/\SM {L with F:=[]} (m.out.st 0) y c lb g' H'/\(∀b,L.K b->H'.blocks.get b=H.blocks.get b)/\(∀b,L.K b->g' b=g b)/\Nat.min H.low L.n<=H'.low/\v=qOh m c lb
def qA(E:Env)(f:LO)(ds:LR)(d:D):Prop:=(f<dU/\qJX E f ds d)∨∃y m h,f=Nat.add dU y/\ds=.mode m::h/\qQD E y m h d
variable{az l:LS}{bm:LC}{f:LO}{i:Nat}{p:Pat}{x:Blk}
section
variable{E:Env}{n0:Lim}{H0:AH}{g0:zR}{S:St}{ρ:LR}{ve:LH}{lb:LI}{g:zR}{fr:Fr}{H:AH}{Q:Res1->Prop}{o:Oper}{κ:K1}{wm:Bool}
theorem qJj{m:Mode}{ds:LR}{d:D}(h:qA E (Nat.add dU f) (.mode m::ds) d):qQD E f m ds d:=by rcases h with⟨h,_⟩|⟨b,m',y,e,c,h⟩;all_goals grind
theorem qKO{b:Nat}:∀{l:LC} {i k:Nat},qR4 b l i=some k->∃j,k=i+j/\l[j]? = some b
 | [],_,_,h=>by cases h
 |c::r,i,k,h=>by
  simp only[qR4,zI]at h;split at h
  ·simp_all
  obtain⟨j,e,y⟩:=qKO h;exact⟨j+1,by omega,by simpa using y⟩
def fU(lb:LI)(bm:LC):LI:=λk=>lb (bm.getD k 0)
mutual
theorem qID{bm:LC}{n m:Nat}{ρ:Nat->D}:∀{x y:SV},x.nv bm=some y->y.val ve (fU lb bm)=x.val ve lb/\y.d ρ=x.d ρ/\(x.bd n m->y.bd n bm.length)
 |.v i,y,h=>by simp only[SV.nv,oI]at h;subst h;exact⟨rfl,rfl,λh=>h⟩
 |.c x,y,h=>by simp only[SV.nv,oI]at h;subst h;exact⟨rfl,rfl,λh=>h⟩
 | .loc b o,y,h=>by
  simp only[SV.nv]at h;split at h
  ·rename_i k B;cases h;obtain⟨j,e,c⟩:=qKO B;have:k=j:=by omega
   subst this;refine⟨?_,rfl,λ_=>(gI c).1⟩;simp only[SV.val,fU,cm,c,gg]
  cases h
 |.ptr _ _ _ _,y,h=>by cases h
 |.pp i o,y,h=>by simp only[SV.nv,oI]at h;subst h;exact⟨rfl,rfl,λh=>h⟩
 |.agg cs,y,h=>by
  simp only[SV.nv]at h;split at h
  ·rename_i l r;cases h;obtain⟨e,c,h3⟩:=lE (n:=n) (m:=m) (ρ:=ρ) r;exact⟨by simp only[SV.val,e],by simp only[SV.d,c],h3⟩
  cases h
 |.gd cs,y,h=>by
  simp only[SV.nv]at h;split at h
  ·rename_i l r;cases h;obtain⟨e,c,h3⟩:=lE (n:=n) (m:=m) (ρ:=ρ) r;exact⟨by simp only[SV.val,e],by simp only[SV.d,c],h3⟩
  cases h
 |.fn f a b,y,h=>by
  simp only[SV.nv]at h;split at h
  ·rename_i J I F C;cases h;obtain⟨e,c,h3⟩:=lE (n:=n) (m:=m) (ρ:=ρ) F;obtain⟨z,w,u⟩:=lE (n:=n) (m:=m) (ρ:=ρ) C;exact⟨by simp only[SV.val,e,z],by simp only[SV.d,c,w],λq=>⟨h3 q.1,u q.2⟩⟩
  cases h
 |.ll t x,y,h=>by
  simp only[SV.nv]at h;split at h
  ·rename_i G A;cases h;obtain⟨e,c,h3⟩:=qID (n:=n) (m:=m) (ρ:=ρ) A;exact⟨by simp only[SV.val,e],by simp only[SV.d,c],h3⟩
  cases h
theorem lE{bm:LC}{n m:Nat}{ρ:Nat->D}:∀{xs ys:LS},SV.na bm xs=some ys->SV.a8 ve (fU lb bm) ys=SV.a8 ve lb xs/\SV.ds ρ ys=SV.ds ρ xs/\(SV.kx n m xs->SV.kx n bm.length ys)
 | [],ys,h=>by simp only[SV.na,oI]at h;subst h;exact⟨rfl,rfl,λh=>h⟩
 |x::xs,ys,h=>by
  simp only[SV.na]at h;split at h
  ·rename_i y l j r;cases h;obtain⟨w,u,h3⟩:=qID (n:=n) (m:=m) (ρ:=ρ) j;obtain⟨e,c,b⟩:=lE (n:=n) (m:=m) (ρ:=ρ) r;exact⟨by simp only[SV.a8,w,e],by simp only[SV.ds,u,c],λq=>⟨h3 q.1,b q.2⟩⟩
  cases h
end
theorem qFo{y:Blk}(h:x.nv bm=some y):x.od=false/\y.od=false:=by
 cases x with
 |loop _ _=>cases h
 |b5 _ _=>cases h
 |cells xs=>
  simp only[Blk.nv]at h;split at h
  ·cases h;exact⟨rfl,rfl⟩
  cases h
 |whole x k=>
  simp only[Blk.nv]at h;split at h
  ·cases h;exact⟨rfl,rfl⟩
  cases h
theorem qSW{n m:Nat}{ρ:Nat->D}{y:Blk}(h:x.nv bm=some y):(∀cs,j5 ρ ve lb cs x->j5 ρ ve (fU lb bm) cs y)/\(x.bd n m->y.bd n bm.length):=by
 cases x with
 |cells xs=>
  simp only[Blk.nv]at h;split at h
  ·rename_i l c;cases h;obtain⟨e,j,h3⟩:=lE (ve:=ve) (lb:=lb) (n:=n) (m:=m) (ρ:=ρ) c;exact⟨λcs b=>by simp only[j5]at b ⊢;rw[e];exact b,h3⟩
  cases h
 |loop _ _=>cases h
 |b5 _ _=>cases h
 |whole x k=>
  simp only[Blk.nv]at h;split at h
  ·rename_i l c;cases h;obtain⟨e,j,h3⟩:=qID (ve:=ve) (lb:=lb) (n:=n) (m:=m) (ρ:=ρ) c;exact⟨λcs b=>by simp only[j5]at b ⊢;rw[e,j];exact b,h3⟩
  cases h
theorem qDv{bm:LC}:∀{l:LC} {e:List (Option Blk)},fA S bm l=some e->e.length=l.length/\(∀b∈l,S.live b)/\∀(k:Nat) (y:Blk),e[k]? = some (some y)->∃(b:Nat) (x:Blk),l[k]? = some b/\S.ae[b]? = some (some x)/\x.nv bm=some y
 | [],e,h=>by simp only[fA,oI]at h;subst h;exact⟨rfl,λ_ h=>(by cases h),λk y h=>by simp at h⟩
 | b::r,e,h=>by
  simp only[fA]at h;split at h
  ·rename_i x l q u;split at h
   ·rename_i y A;cases h;obtain⟨z,w,h3⟩:=qDv u;refine⟨by simp[z],?_,?_⟩
    ·intro c j;rcases bl.1 j with rfl|j
     ·exact⟨x,q⟩
     exact w c j
    grind
   cases h
  cases h
theorem fS:∀{l:LC},eL l=true->∀(i j a:Nat),l[i]? = some a->l[j]? = some a->i=j
 | [],_,i,j,a,y,_=>by simp at y
 | b::r,h,i,j,a,y,c=>by
  simp only[eL,aE,fy]at h;have q:∀k:Nat,r[k]? = some b->False:=λk u=>by have:=be u;have e:=h.1;rw[List.any_eq_false]at e;exact e b this (bj b)
  cases i with
  |zero=>grind
  |succ i=>cases j with
   |zero=>simp at c;subst c;exact absurd (by simpa using y) (q i)
   |succ j=>exact congrArg (·+ 1) (fS h.2 i j a (by simpa using y) (by simpa using c))
theorem lN{l:LA}{t:Nat}:(T.ofList .leaf 0 l).get t=l[t]? :=by
 rw[gY];split
 ·rfl
 rename_i h;simp only[T.get];grind
theorem eK{t:Nat}:(T.ofList .leaf 0 l).get t=l[t]? :=by
 rw[gY];split
 ·rfl
 rename_i h;simp only[T.get];grind
theorem SR.pc(h:SR E n0 H0 g0 S ρ ve lb g fr H){bm:LC}{l w:LS}{G:List (Option Blk)}(hl:SV.kx S.n S.ae.length l)(L:SV.na bm l=some w)(N:fA S bm bm=some G)(K:eL bm=true):SR E {n0 with F:=[],da:=[],rd:=false} H0 g0 (S.pc w G) ρ ve (fU lb bm) g ⟨w.length,false,T.ofList .leaf 0 (SV.a8 ve lb l)⟩ H:=by
 obtain⟨R,b2,P⟩:=qDv N;have j:∀k,(S.pc w G).live k->∃b:Nat,bm[k]? = some b/\S.live b/\fU lb bm k=lb b:=by intro k ⟨y,J⟩;obtain⟨b,x,I,u,_⟩:=P k y J;exact⟨b,I,⟨x,u⟩,by simp only[fU,cm,I,gg]⟩
 obtain⟨V,_,U⟩:=lE (ve:=ve) (lb:=lb) (n:=S.n) (m:=S.ae.length) (ρ:=getD ρ) L;refine {len:=h.len,wf:=h.wf,mem:=h.mem,base:=h.base,fix:=⟨cq _,λk a C=>by simp at C⟩,vars:=?_,ae:=?_,ei:=?_,cn:=h.cn,km:=?_,h7:=h.h7,hU:=?_,sz:=rfl,rd:=rfl,af:=?_,kh:=.nil,hN:=h.hN,gk:=h.gk,low:=h.low,tab:=h.tab}
 ·intro i s hs;have:=h.vars i s hs;obtain⟨k,oo⟩:=s;refine⟨this.1,?_⟩;have O:=this.2;cases k<;>try exact O
  rcases O with q|⟨B,l,cs,vs,el,rt,sz,es,q⟩|⟨B,es,ck,rt,ks,dd,q⟩
  ·exact .inl q
  ·exact .inr (.inl ⟨B,l,cs,vs,el,rt,sz,es,{q with rt:=q.rt}⟩)
  exact .inr (.inr ⟨B,es,ck,rt,ks,dd,{q with rt:=q.rt}⟩)
 ·intro k y J;obtain⟨b,x,I,u,r⟩:=P k y J;obtain⟨q1,q0⟩:=h.ae b x u;obtain⟨el,rt,cs,q2,q3,Z⟩:=q0.cells (qFo r).1;obtain⟨X,W⟩:=qSW (ve:=ve) (lb:=lb) (n:=S.n) (m:=S.ae.length) (ρ:=getD ρ) r;have A:fU lb bm k=lb b:=by simp only[fU,cm,I,gg]
  refine⟨?_,.ml (qFo r).2 ⟨el,rt,cs,by rw[A];exact q2,by rw[A];exact q3,X cs Z⟩⟩;have:=W q1;show y.bd S.n G.length;rw[R];exact this
 ·intro k C;obtain⟨b,_,u,r⟩:=j k C;rw[r];exact h.ei b u
 ·intro a b ha hb e;obtain⟨c,c1,c2,c3⟩:=j a ha;obtain⟨d,d1,d2,d3⟩:=j b hb;rw[c3,d3]at e;have:=h.km c d c2 d2 e;subst this;exact fS K a b c c1 d1
 ·intro k i C hi;obtain⟨b,_,u,r⟩:=j k C;rw[r];exact h.hU b i u hi
 intro t x z;have z:(T.ofList .leaf 0 w).get t=some x:=z;rw[eK]at z;refine⟨?_,?_⟩
 ·have hm:=be z;have:=U hl;rw[SV.hE]at this;show x.bd S.n G.length;rw[R];exact this x hm
 show(T.ofList .leaf 0 (SV.a8 ve lb l)).get t=_;rw[lN,←V,SV.cb,cw,z];rfl
theorem SM.se(h:SM n0 S ρ ve lb g H)(L:Lim)(j:L.n=n0.n)(J:∀b,L.K b->b<H.next)(r:∀b,S.live b->¬L.K (lb b))(c:∀i B,S.ca i=true->jW (ve i)=some B->¬L.K B)(K:L.F.length<=S.ae.length/\∀k a,L.F[k]? = some a->lb k=a)(y:∀(b:Nat) (x:Blk),S.ae[b]? = some (some x)->x.od=false):SM L S ρ ve lb g H:=by
 refine {len:=h.len,wf:=h.wf,mem:=h.mem,base:=⟨by rw[j];exact h.base.1,J⟩,fix:=K,vars:=?_,ae:=?_,ei:=h.ei,cn:=h.cn,km:=h.km,h7:=h.h7,hU:=h.hU}
 ·intro i s hs;have:=h.vars i s hs;obtain⟨k,u⟩:=s;refine⟨this.1,?_⟩;have w:=this.2;cases k<;>try exact w
  rcases w with q|⟨B,l,cs,vs,el,rt,sz,es,q⟩|⟨B,es,ck,rt,I,N,q⟩
  ·exact .inl q
  ·refine .inr (.inl ⟨B,l,cs,vs,el,rt,sz,es,{q with rt:=⟨by rw[j];exact q.rt.1,c i B (zT.2 ⟨u,hs⟩) ?_⟩}⟩);rw[q.v];simp[jW]
  exact .inr (.inr ⟨B,es,ck,rt,I,N,{q with rt:=⟨by rw[j];exact q.rt.1,c i B (zT.2 ⟨u,hs⟩) q.own⟩}⟩)
 intro b x e;obtain⟨F,G⟩:=h.ae b x e;obtain⟨el,rt,cs,C,A,z⟩:=G.cells (y b x e);exact⟨F,.ml (y b x e) ⟨el,rt,cs,C,⟨by rw[j];exact A.1,r b ⟨x,e⟩⟩,z⟩⟩
theorem qJG{sz:Nat}(h:SM n0 S ρ ve lb g H)(e:dN sz p az S=true){B b:Nat}(u:(p.st b).ca i=true)(y:jW (pC ve lb az i)=some B):∃j,az[i]? = some (.v j)/\S.ca j=true/\jW (ve j)=some B:=by
 unfold dN at e;simp only[aE]at e;obtain⟨⟨⟨_,w⟩,_⟩,_⟩:=e;obtain⟨o,hs⟩:=zT.1 u;obtain⟨x,q,_,r⟩:=bU w hs;simp only at r;simp only[pC,q]at y;rcases aW r with(rfl|⟨j,z,rfl,c⟩)|⟨j,rfl,c⟩
 ·simp[SV.val,jW]at y
 ·have y:jW (ve j)=some B:=y;rw[qGC.own (h.vars j _ c).2]at y;cases y
 exact⟨j,q,c,y⟩
theorem qMH{sz:Nat}(c:dN sz p az S=true){b h:Nat}(r:(p.st h).live b):S.live b:=by
 unfold dN at c;simp only[aE]at c;obtain⟨⟨⟨⟨_,u⟩,_⟩,_⟩,_⟩:=c;obtain⟨x,j⟩:=r;obtain⟨y,e,q⟩:=mU u j;cases y with
 |none=>cases x<;>cases q
 |some y=>exact⟨y,e⟩
theorem qMG{sz:Nat}(j:dN sz p az S=true){b e:Nat}(r:(p.st e).ae[b]? = some (some x))(q:x.od=true):∃y:Blk,S.ae[b]? = some (some y)/\y.od=true:=by
 unfold dN at j;simp only[aE]at j;obtain⟨⟨⟨⟨_,u⟩,_⟩,_⟩,_⟩:=j;obtain⟨y,c,h⟩:=mU u r;cases x with
 |cells _=>cases q
 |whole _ _=>cases q
 | loop _ _=>cases y with
  |none=>cases h
  |some y=>cases y with
   |loop _ _=>exact⟨_,c,rfl⟩
   |b5 _ _=>exact⟨_,c,rfl⟩
   |cells _=>cases h
   |whole _ _=>cases h
 | b5 _ _=>cases y with
  |none=>cases h
  |some y=>cases y with
   |loop _ _=>exact⟨_,c,rfl⟩
   |b5 _ _=>exact⟨_,c,rfl⟩
   |cells _=>cases h
   |whole _ _=>cases h
theorem qH0{sz:Nat}(h:dN sz p az S=true)(y:S.kh=[]):p.kh=[]:=by
 unfold dN at h;simp only[aE]at h;have:=h.2;rw[y]at this;cases b:p.kh with
 |nil=>rfl
 |cons a l=>rw[b]at this;cases this
theorem qMe:∀(l:List VSt) (x:SV),(cH l x).length=l.length:=by intro l x;cases x<;>first|rfl|simp[cH]
theorem yY:∀(az:LS) (l:List VSt),(az.foldl cH l).length=l.length
 | [],_=>rfl
 |a::az,l=>by rw[jk,yY az,qMe]
theorem qCC:∀(az:LS) (l:List VSt) {i:Nat} {s:VSt},(az.foldl cH l)[i]? = some s->∃s0,l[i]? = some s0/\((s=s0/\(s.k=.fresh->SV.v i∉az))∨(s=⟨.dead,s0.one⟩))
 | [],l,i,s,h=>⟨s,h,.inl ⟨rfl,λ_ h=>by cases h⟩⟩
 | a::az,l,i,s,h=>by
  obtain⟨s1,y,u⟩:=qCC az (cH l a) h;have c:∃s0,l[i]? = some s0/\((s1=s0/\(s1.k=.fresh->SV.v i≠a))∨s1=⟨.dead,s0.one⟩):=by
   cases a with
   | v j=>
    simp only[cH,List.getElem?_modify]at y;cases b:l[i]? with
    |none=>rw[b]at y;simp at y
    |some s0=>
     rw[b]at y;refine⟨s0,rfl,?_⟩;change some _=some _ at y;injection y with y;simp only at y;by_cases e:j=i
     ·rw[bo e]at y;obtain⟨r,q⟩:=s0;grind
     grind
   |_=>exact⟨s1,y,.inl ⟨rfl,λ_ he=>by cases he⟩⟩
  grind
theorem fM{n:Nat}{bm:LC}:∀(l:LC) (xs B:List (Option Blk)),(tA n bm l xs B).length=B.length
 | [],_,_=>by simp[tA]
 |b::h,[],B=>(fM h [] _).trans (ef ..)
 |b::h,x::xs,B=>(fM h xs _).trans (ef ..)
theorem qB8{n:Nat}{bm:LC}:∀(l:LC) (xs B:List (Option Blk)) {c:Nat} {y:Blk},(tA n bm l xs B)[c]? = some (some y)->(c∉l/\B[c]? = some (some y))∨∃(k:Nat) (x:Blk),l[k]? = some c/\xs[k]? = some (some x)/\y=x.mj n bm
 | [],_,B,c,y,h=>.inl ⟨λh=>(by cases h),by simpa[tA]using h⟩
 |b::q,[],B,c,y,h=>by have h:(tA n bm q [] (B.set b none))[c]? = some (some y):=h;rcases qB8 q [] _ h with⟨r,j⟩|⟨k,x,r,j,_⟩;all_goals grind
 | b::q,x::xs,B,c,y,h=>by
  have h:(tA n bm q xs (B.set b (x.map (Blk.mj n bm))))[c]? = some (some y):=h;rcases qB8 q xs _ h with⟨r,j⟩|⟨k,u,r,j,h3⟩
  ·rw[ia]at j;split at j
   ·rename_i e;subst e;split at j
    ·cases x with
     |none=>cases j
     |some x=>exact .inr ⟨0,x,rfl,rfl,by simpa using j.symm⟩
    cases j
   grind
  exact .inr ⟨k+1,u,by simpa using r,by simpa using j,h3⟩
section
variable{n k M:Nat}{bm:LC}{ve3 ve2:LH}{ρ3 ρ2:Nat->D}
mutual
theorem qAj(hv:∀i,ve3 (n+i)=ve2 i)(hd:∀i,ρ3 (n+i)=ρ2 i)(y:∀j,j<bm.length->bm.getD j 0<M):∀{x:SV},(x.mj n bm).val ve3 lb=x.val ve2 (fU lb bm)/\(x.mj n bm).d ρ3=x.d ρ2/\(x.bd k bm.length->(x.mj n bm).bd (n+k) M)
 |.v i=>⟨hv i,hd i,λh=>Nat.add_lt_add_left h n⟩
 |.c _=>⟨rfl,rfl,λh=>h⟩
 |.loc b o=>⟨rfl,rfl,λh=>y b h⟩
 |.ptr s i _ _=>by obtain⟨a1,a2,a3⟩:=qAj hv hd y (x:=s);obtain⟨e,q,c⟩:=qAj hv hd y (x:=i);exact⟨by simp only[SV.mj,SV.val,a1,e],rfl,λh=>⟨a3 h.1,c h.2⟩⟩
 |.pp i o=>⟨by simp only[SV.mj,SV.val];rw[show Nat.add n i=n+i from rfl,hv i],by simp only[SV.mj,SV.d];rw[show Nat.add n i=n+i from rfl,hd i],λh=>Nat.add_lt_add_left h n⟩
 |.agg cs=>by obtain⟨a1,a2,a3⟩:=lO hv hd y (xs:=cs);exact⟨by simp only[SV.mj,SV.val,a1],by simp only[SV.mj,SV.d,a2],a3⟩
 |.gd cs=>by obtain⟨a1,a2,a3⟩:=lO hv hd y (xs:=cs);exact⟨by simp only[SV.mj,SV.val,a1],by simp only[SV.mj,SV.d,a2],a3⟩
 |.fn f a b=>by obtain⟨a1,a2,a3⟩:=lO hv hd y (xs:=a);obtain⟨e,q,c⟩:=lO hv hd y (xs:=b);exact⟨by simp only[SV.mj,SV.val,a1,e],by simp only[SV.mj,SV.d,a2,q],λh=>⟨a3 h.1,c h.2⟩⟩
 |.ll t x=>by obtain⟨a1,a2,a3⟩:=qAj hv hd y (x:=x);exact⟨by simp only[SV.mj,SV.val,a1],by simp only[SV.mj,SV.d,a2],a3⟩
 |.lk b=>⟨rfl,rfl,λh=>y b h⟩
theorem lO(hv:∀i,ve3 (n+i)=ve2 i)(hd:∀i,ρ3 (n+i)=ρ2 i)(y:∀j,j<bm.length->bm.getD j 0<M):∀{xs:LS},SV.a8 ve3 lb (SV.mh n bm xs)=SV.a8 ve2 (fU lb bm) xs/\SV.ds ρ3 (SV.mh n bm xs)=SV.ds ρ2 xs/\(SV.kx k bm.length xs->SV.kx (n+k) M (SV.mh n bm xs))
 | []=>⟨rfl,rfl,λh=>h⟩
 |x::xs=>by obtain⟨a1,a2,a3⟩:=qAj hv hd y (x:=x);obtain⟨e,c,b⟩:=lO hv hd y (xs:=xs);exact⟨by simp only[SV.mh,SV.a8,a1,e],by simp only[SV.mh,SV.ds,a2,c],λh=>⟨a3 h.1,b h.2⟩⟩
end
theorem qSX(hv:∀i,ve3 (n+i)=ve2 i)(hd:∀i,ρ3 (n+i)=ρ2 i)(y:∀j,j<bm.length->bm.getD j 0<M):(∀cs,j5 ρ2 ve2 (fU lb bm) cs x->j5 ρ3 ve3 lb cs (x.mj n bm))/\(x.bd k bm.length->(x.mj n bm).bd (n+k) M):=by
 cases x with
 |cells xs=>obtain⟨a1,a2,a3⟩:=lO (lb:=lb) (k:=k) hv hd y (xs:=xs);exact⟨λcs h=>by simp only[Blk.mj,j5]at h ⊢;rw[a1];exact h,a3⟩
 |loop _ _=>exact⟨λcs h=>h,λh=>h⟩
 |b5 t xs=>obtain⟨a1,a2,a3⟩:=lO (lb:=lb) (k:=k) hv hd y (xs:=xs);exact⟨λcs h=>by simp only[Blk.mj,j5]at h ⊢;rw[a1];exact h,a3⟩
 |whole x q=>obtain⟨a1,a2,a3⟩:=qAj (lb:=lb) (k:=k) hv hd y (x:=x);exact⟨λcs h=>by simp only[Blk.mj,j5]at h ⊢;rw[a1,a2];exact h,a3⟩
end
theorem SM.quiet(h:SM n0 S ρ ve lb g H)(r:∀i,S.ca i=false)(u:S.ae=[])(L:Lim)(w:L.base H.next)(c:L.F=[]):SM L S ρ ve lb g H:=by
 have y:∀(b:Nat) (x:Blk),S.ae[b]? ≠ some (some x):=λb x e=>by rw[u]at e;simp at e
 refine {len:=h.len,wf:=h.wf,mem:=h.mem,base:=w,fix:=⟨by rw[c];exact cq _,λk a e=>by rw[c]at e;simp at e⟩,vars:=?_,ae:=λb x e=>absurd e (y b x),ei:=h.ei,cn:=h.cn,km:=h.km,h7:=h.h7,hU:=h.hU};intro i s hs;have j:=h.vars i s hs;obtain⟨k,q⟩:=s;refine⟨j.1,?_⟩;have z:=j.2;cases k<;>try exact z
 have:=r i;rw[zT.2 ⟨q,hs⟩]at this;cases this
theorem SM.weaken{n:Nat}(h:SM n0 S ρ ve lb g H)(c:n<=n0.n)(y:∀(b:Nat) (x:Blk),S.ae[b]? = some (some x)->x.od=false):SM {n0 with n:=n} S ρ ve lb g H:=by
 refine {len:=h.len,wf:=h.wf,mem:=h.mem,base:=⟨lT c h.base.1,h.base.2⟩,fix:=h.fix,vars:=?_,ae:=?_,ei:=h.ei,cn:=h.cn,km:=h.km,h7:=h.h7,hU:=h.hU}
 ·intro i s G;have u:=h.vars i s G;obtain⟨k,J⟩:=s;refine⟨u.1,?_⟩;have r:=u.2;cases k<;>try exact r
  rcases r with q|⟨B,l,cs,vs,el,rt,sz,es,q⟩|⟨B,es,ck,rt,F,I,q⟩
  ·exact .inl q
  ·exact .inr (.inl ⟨B,l,cs,vs,el,rt,sz,es,{q with rt:=⟨lT c q.rt.1,q.rt.2⟩}⟩)
  exact .inr (.inr ⟨B,es,ck,rt,F,I,{q with rt:=⟨lT c q.rt.1,q.rt.2⟩}⟩)
 intro b x e;obtain⟨A,C⟩:=h.ae b x e;obtain⟨el,rt,cs,z,j,w⟩:=C.cells (y b x e);exact⟨A,.ml (y b x e) ⟨el,rt,cs,z,⟨lT c j.1,j.2⟩,w⟩⟩
end
variable{H':AH}{v:LQ}
theorem lC.om{E:Env}{fr:Fr}{o:Oper}{H:AH}{args:LA}(y:jH E fr o H=some (.enter f args,H))(c:xK E f args H v H')(h:H.next<H'.next):lC E fr o H v H':=by
 refine⟨gx h,[{f:=f,args:=args,H:=H,v:=v,H':=H'}],⟨⟨h,c⟩,vP _,trivial⟩,λa y=>?_,λih b=>?_⟩
 ·grind
 have:=b _ (aw.2 rfl);simp only[jX.cmd]at this;simp only[jA,y];rw[this]
section
variable{E:Env}{n0:Lim}{H0:AH}{g0:zR}{S:St}{ρ:LR}{ve:LH}{lb:LI}{g:zR}{fr:Fr}{H:AH}{Q:Res1->Prop}{o:Oper}{κ:K1}{wm:Bool}
theorem SR.after(h:SR E n0 H0 g0 S ρ ve lb g fr H){m:Mode}{bm:LC}{az:LS}(hnd:eL bm=true)(O:∀b∈bm,S.live b){L:Lim}{H':AH}{g':zR}{ve2:LH}{ds:LR}(hLn:L.n=n0.n)(Z:∀b,L.K b↔b<H.next/\(∀c∈bm,lb c≠b)/\(∀i,SV.v i∈az->S.ca i=true->jW (ve i)≠some b))(hLF:L.F=[])(w:SM L (m.out.st 0) ds ve2 (fU lb bm) g' H')(P:∀b,L.K b->H'.blocks.get b=H.blocks.get b)(W:∀b,L.K b->g' b=g b)(hlow:Nat.min H.low L.n<=H'.low)(hnx:H.next<H'.next)(hln:m.out.ae.length<=bm.length)(hnl:m.out.ae.all fT=true):SR E n0 H0 g0 (S.after m bm az) (ρ++ds) (λi=>if i<S.n then ve i else ve2 (i-S.n)) lb g' fr H':=by
 have hlen:ρ.length=S.n:=h.len;have hds:ds.length=m.out.db.length:=w.len;have hn:(S.after m bm az).n=S.n+m.out.db.length:=by show(az.foldl cH S.db++m.out.db).length=_;rw[bx,yY];rfl
 have X:(S.after m bm az).ae.length=S.ae.length:=fM _ _ _;have e1:∀i,i<S.n->(λi=>if i<S.n then ve i else ve2 (i-S.n)) i=ve i:=λi r=>bo r;have e2:∀i,(λi=>if i<S.n then ve i else ve2 (i-S.n)) (S.n+i)=ve2 i:=λi=>by grind
 have d1:∀i,i<S.n->getD (ρ++ds) i=getD ρ i:=λi r=>by simp only[getD,cm];grind
 have d2:∀i,getD (ρ++ds) (S.n+i)=getD ds i:=λi=>by simp only[getD,cm];grind
 have hM:∀j,j<bm.length->bm.getD j 0<S.ae.length:=λj hj=>by
  have:bm.getD j 0=bm[j]:=by simp[cm,ak hj]
  rw[this];exact qBD (O _ (gh hj))
 have Ksub:∀b,n0.K b->L.K b:=λb z=>(Z b).2 ⟨h.base.2 b z,λc V e=>(wL h.toSM (O c V)).2 (by rw[e];exact z),λi _ r e=>by
  obtain⟨oo,hs⟩:=zT.1 r;rcases(h.vars i _ hs).2 with q|⟨B,l,cs,vs,el,rt,sz,es,q⟩|⟨B,es,ck,rt,ks,dd,q⟩
  ·rw[q.own]at e;cases e
  rotate_left
  ·rw[q.own]at e;cases e;exact q.rt.2 z
  ·rw[q.v]at e;simp only[jW,vP,dn,oI]at e;subst e;exact q.rt.2 z⟩
 have I:∀b rt,L.own b rt->n0.own b rt:=λb rt q=>⟨by rw[←hLn];exact q.1,λz=>q.2 (Ksub b z)⟩;have hle:zR.le g g':=λb k z=>by have hbn:=qR8 h.toSM z;have:L.K b:=(Z b).2 ⟨hbn,λc V e=>(by rw[←e,h.ei c (O c V)]at z;cases z),λi _ r e=>(by rw[h.cn i b r e]at z;cases z)⟩;rw[W b this];exact z
 have F:∀i,(S.after m bm az).ca i=true->i<S.n->S.ca i=true/\SV.v i∉az:=by
  intro i r A;obtain⟨oo,hs⟩:=zT.1 r;have hs:(az.foldl cH S.db++m.out.db)[i]? = some ⟨.fresh,oo⟩:=hs;rw[bz (by rw[yY];exact A)]at hs;obtain⟨s0,k1,U⟩:=qCC az S.db hs;rcases U with⟨rfl,U⟩|U
  ·exact⟨zT.2 ⟨oo,k1⟩,U rfl⟩
  ·cases U
 have G:∀i,(S.after m bm az).ca i=true->¬i<S.n->(m.out.st 0).ca (i-S.n)=true:=by intro i r A;obtain⟨oo,hs⟩:=zT.1 r;have hs:(az.foldl cH S.db++m.out.db)[i]? = some ⟨.fresh,oo⟩:=hs;rw[bu (by rw[yY];exact ik A),yY]at hs;exact zT.2 ⟨oo,hs⟩
 have R:∀i B,S.ca i=true->SV.v i∉az->jW (ve i)=some B->L.K B:=by intro i B r hm J;refine(Z B).2 ⟨(pP h.toSM r J).1,λc V e=>h.hU c i (O c V) r (by rw[e];exact J),λj hj hfj e=>?_⟩;have:=h.h7 i j B r hfj J e;subst this;exact hm hj
 have N:∀b,S.live b->b∉bm->L.K (lb b):=by intro b z hm;refine(Z _).2 ⟨(wL h.toSM z).1,λc V e=>?_,λi _ r=>h.hU b i z r⟩;have:=h.km c b (O c V) z e;subst this;exact hm V
 have K:∀i B,(m.out.st 0).ca i=true->jW (ve2 i)=some B->¬L.K B:=by
  intro i B r J;obtain⟨oo,hs⟩:=zT.1 r;rcases(w.vars i _ hs).2 with q|⟨B',l,cs,vs,el,rt,sz,es,q⟩|⟨B',es,ck,rt,ks,dd,q⟩
  ·rw[q.own]at J;cases J
  rotate_left
  ·rw[q.own]at J;cases J;exact q.rt.2
  ·rw[q.v]at J;simp only[jW,vP,dn,oI]at J;subst J;exact q.rt.2
 have hS:∀c y,(S.after m bm az).ae[c]? = some (some y)->(c∉bm/\S.ae[c]? = some (some y))∨∃(k:Nat) (x:Blk),bm[k]? = some c/\(m.out.st 0).ae[k]? = some (some x)/\y=x.mj S.n bm:=λc y hy=>qB8 _ _ _ hy;have lbk:∀{k c:Nat},bm[k]? = some c->fU lb bm k=lb c:=λ{k c} hk=>by simp only[fU,cm,hk,gg]
 have lv:∀c,(S.after m bm az).live c->(c∉bm/\S.live c)∨∃k,bm[k]? = some c/\(m.out.st 0).live k:=by
  intro c ⟨y,hy⟩;rcases hS c y hy with⟨C,u⟩|⟨k,x,C,u,_⟩
  ·exact .inl ⟨C,y,u⟩
  ·exact .inr ⟨k,C,x,u⟩
 have lv0:∀c,(S.after m bm az).live c->S.live c:=by
  intro c V;rcases lv c V with⟨_,u⟩|⟨k,C,_⟩
  ·exact u
  ·exact O c (be C)
 refine { len:=?_,wf:=w.wf,mem:=w.mem,base:=h.base.mono (gx hnx),fix:=⟨by rw[X];exact h.fix.1,h.fix.2⟩,vars:=?_,ae:=?_,ei:=?_,cn:=?_,km:=λa b ha z=>h.km a b (lv0 a ha) (lv0 b z),h7:=?_,hU:=?_,
          sz:=h.sz,rd:=h.rd,af:=?_,kh:=h.kh.congr (by rw[hn];omega) (by rw[X];exact vP _) e1 (λ_ _=>rfl),hN:=λb z=>by rw[P b (Ksub b z)];exact h.hN b z,gk:=λb z=>by rw[W b (Ksub b z)];exact h.gk b z,low:=?_,tab:=λp hp=>by have q:=h.tab p hp;rw[W p.1 ((Z p.1).2 ⟨qR8 h.toSM q,λc V e=>(by rw[←e,h.ei c (O c V)]at q;cases q),λi _ r e=>(by rw[h.cn i p.1 r e]at q;cases q)⟩)];exact q}
 ·show(ρ++ds).length=(az.foldl cH S.db++m.out.db).length;rw[bx,bx,yY,hds,hlen];rfl
 ·intro i s hs;have hs:(az.foldl cH S.db++m.out.db)[i]? = some s:=hs;by_cases r:i<S.n
  ·rw[bz (by rw[yY];exact r)]at hs;obtain⟨s0,k1,U⟩:=qCC az S.db hs;simp only[bo r];rw[d1 i r];have hv:=h.vars i s0 k1;rcases U with⟨rfl,U⟩|U
   ·refine hv.mono hle λhk B J=>P B ?_;obtain⟨k,oo⟩:=s;simp only at hk;subst hk;exact R i B (zT.2 ⟨oo,k1⟩) (U rfl) J
   ·subst U;exact⟨hv.1,trivial⟩
  ·rw[bu (by rw[yY];exact ik r),yY]at hs;have hv:=w.vars (i-S.n) s hs;simp only[bf r];have hd:=d2 (i-S.n);rw[show S.n+(i-S.n)=i by omega]at hd;rw[hd];obtain⟨k,oo⟩:=s;refine⟨hv.1,?_⟩;have u:=hv.2;cases k<;>try exact u
   rcases u with q|⟨B,l,cs,vs,el,rt,sz,es,q⟩|⟨B,es,ck,rt,ks,dd,q⟩
   ·exact .inl q
   ·exact .inr (.inl ⟨B,l,cs,vs,el,rt,sz,es,{q with rt:=I _ _ q.rt}⟩)
   ·exact .inr (.inr ⟨B,es,ck,rt,ks,dd,{q with rt:=I _ _ q.rt}⟩)
 ·intro c y hy;rcases hS c y hy with⟨C,u⟩|⟨k,x,C,u,rfl⟩
  ·obtain⟨q1,q2⟩:=h.ae c y u;exact⟨Blk.h9 (by rw[hn];omega) (by rw[X];exact vP _) q1,q2.congr (P _ (N c ⟨y,u⟩ C)) rfl λ_ q4=>q4.congr e1 (λ_ _=>rfl) d1 q1⟩
  ·obtain⟨q1,q0⟩:=w.ae k x u;have hxl:x.od=false:=by
    rw[al]at hnl;have:=hnl _ (be (show m.out.ae[k]? = some (some x)from u));cases x with
    |loop _ _=>cases this
    |b5 _ _=>cases this
    |cells _=>rfl
    |whole _ _=>rfl
   obtain⟨el,rt,cs,q2,q3,q4⟩:=q0.cells hxl;obtain⟨t1,t2⟩:=qSX (lb:=lb) (k:=(m.out.st 0).n) (M:=S.ae.length) (ve3:=λi=>if i<S.n then ve i else ve2 (i-S.n)) (ve2:=ve2) (ρ3:=getD (ρ++ds)) (ρ2:=getD ds) e2 d2 hM (x:=x);have hk:fU lb bm k=lb c:=lbk C;rw[hk]at q2 q3;refine⟨?_,.ml (by cases x<;>first|rfl|cases hxl) ⟨el,rt,cs,q2,I _ _ q3,t1 cs q4⟩⟩;rw[hn,X];exact t2 (Blk.h9 (vP _) hln q1)
 ·intro b z;rcases lv b z with⟨C,u⟩|⟨k,C,u⟩
  ·rw[W _ (N b u C)];exact h.ei b u
  ·have:=w.ei k u;rw[lbk C]at this;exact this
 ·intro i B r J;by_cases A:i<S.n
  ·obtain⟨k1,U⟩:=F i r A;simp only[bo A]at J;rw[W _ (R i B k1 U J)];exact h.cn i B k1 J
  ·simp only[bf A]at J;exact w.cn _ B (G i r A) J
 ·intro i j B r hj C u;by_cases a1:i<S.n<;>by_cases a2:j<S.n
  ·simp only[bo a1]at C;simp only[bo a2]at u;exact h.h7 i j B (F i r a1).1 (F j hj a2).1 C u
  ·simp only[bo a1]at C;simp only[bf a2]at u;exact absurd (R i B (F i r a1).1 (F i r a1).2 C) (K _ B (G j hj a2) u)
  ·simp only[bf a1]at C;simp only[bo a2]at u;exact absurd (R j B (F j hj a2).1 (F j hj a2).2 u) (K _ B (G i r a1) C)
  ·simp only[bf a1]at C;simp only[bf a2]at u;have:=w.h7 _ _ B (G i r a1) (G j hj a2) C u;omega
 ·intro b i z r;by_cases A:i<S.n
  ·simp only[bo A];exact h.hU b i (lv0 b z) (F i r A).1
  ·simp only[bf A];rcases lv b z with⟨C,u⟩|⟨k,C,u⟩
   ·intro e;exact K _ _ (G i r A) e (N b u C)
   ·have:=w.hU k _ u (G i r A);rw[lbk C]at this;exact this
 ·intro t x hx;obtain⟨q1,q2⟩:=h.af t x hx;exact⟨SV.h9 (by rw[hn];omega) (by rw[X];exact vP _) q1,by rw[q2,SV.val_congr e1 (λ_ _=>rfl) q1]⟩
 ·have C:=h.low;have u:Nat.min H.low n0.n<=H'.low:=by rw[←hLn];exact hlow
  exact lT (dv.2 ⟨C,bq _ _⟩) u
theorem qGX{a b:LR}(h:kC a=kC b)(c:a.length=b.length):a=b:=by
 match a,b,c with
 | [],[],_=>rfl
 | [x],[y],_=>exact congrArg (λz=>[z]) h
 |x::y::r,j::e::q,_=>injection h
theorem qOF(h:SR E n0 H0 g0 S ρ ve lb g fr H)(hl:SV.kx S.n S.ae.length l)(ha:(∃fn,E.funcs.get f=some fn)->jH E fr o H=some (.enter f (SV.a8 ve lb l),H))(G:wp E (qA E) Q (qJL E f l S κ) ρ):j7 (!qFD E f l S) E (qA E) Q n0 H0 g0 fr H o κ:=by
 unfold qJL at G;unfold qFD;simp only at G ⊢;generalize qGs S 3 ((nO l).foldl qS6 [])=bm at G ⊢;split at G;case h_2=>cases G
 rename_i fn N bs hfn W hbs;try simp only[hfn,W,hbs]
 generalize qJf (S.pc N bs) (qF2 E f) fn.resultTypes.size N bs=mi at G ⊢;obtain⟨m,az⟩:=mi;simp only at G;try simp only
 obtain⟨O,ex,Z⟩:=xT (oS m.ly.db az) h;generalize jC S (oS m.ly.db az)=u at G ex Z;obtain⟨hc,G⟩:=jQ G;simp only[aE]at hc;obtain⟨⟨⟨⟨⟨⟨hnd,w⟩,I⟩,A⟩,hob⟩,V⟩,hnl⟩:=hc;have I:=vW I;have V:=oA V;simp only[wp]at G;obtain⟨ds,hh,hdl,G⟩:=G;have hM:=qJj hh;obtain⟨hfe,ds',hd',hdl',hM⟩:=hM;have hds:=qGX hd' (by rw[hdl,hdl']);subst hds;have hl2:SV.kx u.n u.ae.length l:=ex.kx hl;have qJk:fA u bm bm=some bs:=by
  have:∀r,fA u bm r=fA S bm r:=by
   intro r;induction r with
   |nil=>rfl
   |cons b r ih=>simp only[fA,ex.ae,ih]
  rw[this];exact hbs
 obtain⟨b1,b2,b3⟩:=qDv qJk;have hC:=Z.pc hl2 W qJk hnd;have C:=qLc hC w (cq _);have hvals:SV.a8 ve lb l=SV.a8 ve lb l:=rfl;have U:(SV.a8 ve lb l).length=N.length:=by have:=(lE (ve:=ve) (lb:=lb) (n:=S.n) (m:=S.ae.length) (ρ:=getD ρ) W).1;rw[←this,SV.cb,bk]
 let L:Lim:={n:=n0.n,K:=λb=>b<H.next/\(∀c∈bm,lb c≠b)/\(∀i,SV.v i∈az->u.ca i=true->jW (ve i)≠some b),F:=(List.range m.ly.ae.length).map (fU lb bm)};have J:∀k,(m.ly.st N.length).live k->∃c:Nat,bm[k]? = some c:=by intro k hk;obtain⟨y,hy⟩:=qMH w hk;obtain⟨b,x,e1,_,_⟩:=b3 k y hy;exact⟨b,e1⟩
 have X:SM L (m.ly.st N.length) (SV.ds (getD ρ) az) (pC ve (fU lb bm) az) (fU lb bm) O H:=by
  refine C.toSM.se L rfl (λb hb=>hb.1) ?_ ?_ ⟨?_,?_⟩ ?_
  ·intro k hk hK;obtain⟨c,hc⟩:=J k hk;refine hK.2.1 c (be hc) ?_;simp only[fU,cm,hc,gg]
  ·intro i B hi hB hK;obtain⟨j,j1,j2,j3⟩:=qJG (lb:=fU lb bm) hC.toSM w hi hB;exact hK.2.2 j (be j1) j2 j3
  ·show((List.range m.ly.ae.length).map (fU lb bm)).length<=m.ly.ae.length;simp
  ·grind
  intro b x hx;cases hxl:x.od with
  |false=>rfl
  |true=>obtain⟨y,hy,hyl⟩:=qMG w hx hxl;obtain⟨_,z,_,_,hz⟩:=b3 b y hy;rw[(qFo hz).2]at hyl;cases hyl
 have hSR:SR E L H O (m.ly.st m.n) (SV.ds (getD ρ) az) (pC ve (fU lb bm) az) (fU lb bm) O ⟨m.n,false,T.ofList .leaf 0 (SV.a8 ve lb l)⟩ H:=by rw[I];exact {X with tab:=C.tab,sz:=C.sz,rd:=C.rd,af:=C.af,kh:=by rw[show(m.ly.st N.length).kh=[]from qH0 w rfl];exact .nil,hN:=λ_ _=>rfl,gk:=λ_ _=>rfl,low:=dw _ _}
 have key:∃v H' g' ve2,xK E f (SV.a8 ve lb l) H v H'/\H.next<H'.next/\SM {L with F:=[]} (m.out.st 0) ds ve2 (fU lb bm) g' H'/\(∀b,L.K b->H'.blocks.get b=H.blocks.get b)/\(∀b,L.K b->g' b=O b)/\Nat.min H.low L.n<=H'.low/\v=qOh m ve2 (fU lb bm)/\
   ((bm.isEmpty&&(m.ly.db.all qWy&&m.ly.ae.isEmpty))=true->Nat.min H.low H.next<=H'.low):=by
  cases hq:(bm.isEmpty&&(m.ly.db.all qWy&&m.ly.ae.isEmpty))with
  |false=>
   obtain⟨v,H',g',ve2,c1,c2,c3,c4,c5,c6,c7⟩:=hM L H O _ _ _ hSR (by rw[U,I]) rfl
   exact⟨v,H',g',ve2,c1,c2,c3,c4,c5,c6,c7,λe=>by cases e⟩
  | true=>
   simp only[aE,List.isEmpty_iff]at hq
   obtain⟨_,q2,q3⟩:=hq
   have hF:L.F=[]:=by show(List.range m.ly.ae.length).map _=[];rw[q3];rfl
   have hSM1:SM {L with n:=H.next} (m.ly.st N.length) (SV.ds (getD ρ) az) (pC ve (fU lb bm) az) (fU lb bm) O H:=by
    refine X.quiet (λi=>?_) q3 _ ⟨vP _,X.base.2⟩ hF
    cases hfi:(m.ly.st N.length).ca i with
    |false=>rfl
    |true=>
     obtain⟨oo,hs⟩:=zT.1 hfi
     rw[al]at q2
     have:=q2 _ (be hs)
     cases this
   have hSR1:SR E {L with n:=H.next} H O (m.ly.st m.n) (SV.ds (getD ρ) az) (pC ve (fU lb bm) az) (fU lb bm) O ⟨m.n,false,T.ofList .leaf 0 (SV.a8 ve lb l)⟩ H:=by
    rw[I]
    exact {hSM1 with tab:=C.tab,sz:=C.sz,rd:=C.rd,af:=C.af,kh:=by rw[show(m.ly.st N.length).kh=[]from qH0 w rfl];exact .nil,hN:=λ_ _=>rfl,gk:=λ_ _=>rfl,low:=dw _ _}
   obtain⟨v,H',g',ve2,c1,c2,c3,c4,c5,c6,c7⟩:=hM {L with n:=H.next} H O _ _ _ hSR1 (by rw[U,I]) rfl
   refine⟨v,H',g',ve2,c1,c2,c3.weaken (n:=n0.n) Z.base.1 (λb x hx=>?_),c4,c5,lT (dv.2 ⟨dw _ _,lT (bq _ _) Z.base.1⟩) c6,c7,λ_=>c6⟩
   have h3:=al.1 hnl _ (be hx)
   cases x<;>first|rfl|cases h3
 obtain⟨v,H',g',ve2,c1,c2,c3,c4,c5,c6,c7,c8⟩:=key;have hA:=Z.after (m:=m) (bm:=bm) (az:=az) hnd b2 (L:={L with F:=[]}) rfl (λb=>Iff.rfl) rfl c3 c4 c5 c6 c2 V hnl;have hlen:ρ.length=u.n:=Z.len;have e2:∀i,(λi=>if i<u.n then ve i else ve2 (i-u.n)) (u.n+i)=ve2 i:=λi=>by grind
 have d2:∀i,getD (ρ++ds) (u.n+i)=getD ds i:=λi=>by simp only[getD,cm];grind
 have hMb:∀j,j<bm.length->bm.getD j 0<u.ae.length:=λj hj=>by
  have:bm.getD j 0=bm[j]:=by simp[cm,ak hj]
  rw[this];exact qBD (b2 _ (gh hj))
 have hn:(u.after m bm az).n=u.n+m.out.db.length:=by show(az.foldl cH u.db++m.out.db).length=_;rw[bx,yY];rfl
 have hbl:(u.after m bm az).ae.length=u.ae.length:=fM _ _ _;have R:(qKk m u.n bm).val (λi=>if i<u.n then ve i else ve2 (i-u.n)) lb=v/\(qKk m u.n bm).bd (u.after m bm az).n (u.after m bm az).ae.length:=by
  rw[c7,hn,hbl];rw[al]at A;unfold qKk qOh;generalize m.out.af=sl at A;have P:∀l:List (Nat×SV),(∀q∈l,qM5 m.out.db.length bm.length q.2=true)->(SV.gd (SV.mh u.n bm (l.map Prod.snd))).val (λi=>if i<u.n then ve i else ve2 (i-u.n)) lb=.tuple ⟨SV.a8 ve2 (fU lb bm) (l.map Prod.snd)⟩/\(SV.gd (SV.mh u.n bm (l.map Prod.snd))).bd (u.n+m.out.db.length) u.ae.length:=by intro l hl;obtain⟨t1,_,t3⟩:=lO (lb:=lb) (k:=m.out.db.length) (M:=u.ae.length) (ve3:=λi=>if i<u.n then ve i else ve2 (i-u.n)) (ve2:=ve2) (ρ3:=getD (ρ++ds)) (ρ2:=getD ds) e2 d2 hMb (xs:=l.map Prod.snd);refine⟨by simp only[SV.val,t1],t3 ?_⟩;rw[SV.hE];intro x hx;obtain⟨q,hq,rfl⟩:=dy.1 hx;exact dH (hl q hq)
  match sl,A with
  | [],A=>exact P [] A
  | [(q,x)],A=>obtain⟨t1,_,t3⟩:=qAj (lb:=lb) (k:=m.out.db.length) (M:=u.ae.length) (ve3:=λi=>if i<u.n then ve i else ve2 (i-u.n)) (ve2:=ve2) (ρ3:=getD (ρ++ds)) (ρ2:=getD ds) e2 d2 hMb (x:=x);exact⟨t1,t3 (dH (A (q,x) (aw.2 rfl)))⟩
  |a::b::r,A=>exact P (a::b::r) A
 refine⟨_,_,_,_,_,_,_,hA,R.2,G,?_,λe=>c8 (by simpa using e)⟩;rw[R.1];exact .om (ha hfe) c1 c2
end
variable{g':zR}
section
variable{E:Env}{n0:Lim}{H0:AH}{g0:zR}{S:St}{ρ:LR}{ve:LH}{lb:LI}{g:zR}{fr:Fr}{H:AH}{Q:Res1->Prop}{o:Oper}{κ:K1}{wm:Bool}
theorem SR.grow(h:SR E n0 H0 g0 S ρ ve lb g fr H)(j:zR.le g g')(w:zR.le g' H.blocks.get)(n:Nat)(u:n0.base n)(c:∀b,b<n->g' b=g b)(z:∀b,S.live b->lb b<n)(A:∀i B,S.ca i=true->jW (ve i)=some B->B<n):SR E n0 H0 g0 S ρ ve lb g' fr H:=by
 refine {h with mem:=w,vars:=?_,ei:=?_,cn:=?_,gk:=?_,tab:=h.tab.mono j}
 ·intro i s r;exact(h.vars i s r).mono j (λ_ _ _=>rfl)
 ·intro b y;rw[c _ (z b y)];exact h.ei b y
 ·intro i B e q;rw[c _ (A i B e q)];exact h.cn i B e q
 intro b y;rw[c b (u.2 b y)];exact h.gk b y
theorem qDH{g g':zR}:∀{ds:LR} {vs:LA},iK ds=true->DRs g ds vs->DRs g' ds vs
 | [],_,_,.nil=>.nil
 |.leaf x::ds,_,h,.cons (.leaf b) y=>.cons (.leaf b) (qDH (ds:=ds) h y)
 |.agg _::_,_,h,_=>by cases h
 |.nil::_,_,h,_=>by cases h
 |.sl _ _ _::_,_,h,_=>by cases h
 |.gd _::_,_,h,_=>by cases h
 |.ptr _ _::_,_,h,_=>by cases h
 |.kr _ _ _::_,_,h,_=>by cases h
 |.iface _ _::_,_,h,_=>by cases h
 |.mode _::_,_,h,_=>by cases h
theorem qSf{g:zR}{y:Nat}{d:D}(b:y≠0)(h:uD y d=true)(hd:DR g d v):DR g' d v/\(Nat.beq y 1=true->d.one=true):=by
 match y,b with
 | 1,_=>
  cases d with
  |leaf x=>cases hd with
   |leaf c=>exact⟨.leaf c,λ_=>rfl⟩
  |_=>cases h
 | n+2,_=>
  refine⟨?_,λe=>by cases e⟩;cases d with
  |gd l=>cases hd with
   |gd c=>exact .gd (qDH h c)
  |_=>cases h
theorem qCp(h:SR E n0 H0 g0 S ρ ve lb g fr H){K:Tgt}{args:LS}{W:Nat}(hws:oJ o=false)(ha:∀{g':zR} {f:LO} {ds:LR},aB E K (SV.ds (getD ρ) args)=some (f,ds)->DRs g' (SV.ds (getD ρ) args) (SV.a8 ve lb args)->∃az,DRs g' ds az/\((∃fn,E.funcs.get f=some fn)->jH E fr o H=some (.enter f az,H)))(y:wp E (qA E) Q (qH9 E K args W S κ) ρ):j7 wm E (qA E) Q n0 H0 g0 fr H o κ:=by
 obtain⟨V,e1,j⟩:=xT args h
 have call:args.all (wT (jC S args))=true->∀{f:LO} {ds:LR} {d:D},aB E K (SV.ds (getD ρ) args)=some (f,ds)->qA E f ds d->
   ∃v H' g',lC E fr o H v H'/\H.next<H'.next/\WF H'/\(∀b,b<H.next->H'.blocks.get b=H.blocks.get b)/\Nat.min H.low H.next<=H'.low/\zR.le V g'/\zR.le g' H'.blocks.get/\(∀b,b<H.next->g' b=V b)/\DR g' d v:=by
  intro u f ds d C c
  rw[al]at u
  have R:=lL j.toSM u
  obtain⟨az,F,N⟩:=ha C R
  rcases c with⟨_,c⟩|⟨f0,m0,ds0,_,rfl,_⟩
  ·obtain⟨v,H',g',q1,r,A,z,q,J,I,G,w⟩:=c.2 H V az h.wf j.mem j.tab F
   exact⟨v,H',g',.om (N c.1) q1 r,r,A,z,q,J,I,G,w⟩
  cases F with
  |cons j _=>cases j
 unfold qH9 at y;split at y
 ·simp only at y;obtain⟨u,y⟩:=jQ y;simp only[wp]at y;split at y;case h_2=>cases y
  rename_i f ds C;obtain⟨d,c,_,y⟩:=y;obtain⟨v,H',g',L,r,A,z,q,J,I,G,w⟩:=call u C c;have U:=j.heap z A (gx r) (lT (dv.2 ⟨h.low,lT (bq _ _) h.base.1⟩) q);have h3:=U.grow J I H.next h.base G (λb hb=>(wL j.toSM hb).1) (λi B hi hB=>(pP j.toSM hi hB).1);exact⟨_,_,_,_,_,_,_,h3.new (k:=.pure) (o:=false) (by simp) (v:=v) ⟨(λe=>by cases e),w⟩,pQ,y,by simpa only[SV.val,jR]using L,λ_=>q⟩
 rename_i O;obtain⟨u,y⟩:=jQ y;simp only[wp]at y;split at y;case h_2=>cases y
 rename_i f ds C;obtain⟨d,c,P,y⟩:=y;obtain⟨v,H',g',L,r,A,z,q,J,I,G,w⟩:=call u C c;obtain⟨Z,X⟩:=qSf (g':=g) (λe=>O e) P w;have U:=h.heap z A (gx r) (lT (dv.2 ⟨h.low,lT (bq _ _) h.base.1⟩) q);exact⟨_,_,_,_,_,_,_,U.new (k:=.pure) (o:=Nat.beq W 1) (by simp) (v:=v) ⟨X,Z⟩,pQ,y,by simpa only[SV.val,jR]using L,λ_=>q⟩
theorem kL(ve:LH)(lb:LI)(a b:LS):SV.a8 ve lb (a++b)=SV.a8 ve lb a++SV.a8 ve lb b:=by rw[SV.cb,SV.cb,SV.cb,ga]
theorem qRu(h:SR E n0 H0 g0 S ρ ve lb g fr H){c:Call}(z:o.op=.call c)(e:wp E (qA E) Q (jM E o S κ) ρ):j7 (xY E S o) E (qA E) Q n0 H0 g0 fr H o κ:=by
 unfold jM at e;rw[z]at e;simp only at e;split at e
 ·cases e
 rename_i u w;obtain⟨ab,I⟩:=lZ (E:=E) h w;split at e
 ·rename_i b L;unfold qId at e;split at e
  ·split at e
   ·rename_i t ts x J;exact qWr h z L J (by simpa[SV.a8]using I) e
   cases e
  ·split at e
   ·rename_i t ts i k J;have C:xY E S o=true:=by simp only[xY,z,L,w,gz]
    rw[C];exact qRs h z L (by simpa[SV.a8]using I) J e
   cases e
  ·split at e
   ·rename_i s x;have C:xY E S o=qQo S [s,x]:=by simp only[xY,oJ,z,L,w,Bool.false_or]
    rw[C];exact qLX h z L (by simpa[SV.a8]using I) ab.1 ab.2.1 e
   cases e
  ·split at e
   ·exact qU4 h (mx:=false) z L (by simpa[SV.a8]using I) e
   cases e
  ·split at e
   ·exact qU4 h (mx:=true) z L (by simpa[SV.a8]using I) e
   cases e
  cases e
 ·rename_i r name hr;have B:oJ o=false:=by simp[oJ,z]
  split at e;case h_2=>cases e
  rename_i y hy;obtain⟨yb,ye⟩:=zZ (E:=E) h hy;refine qCp h B (λ{g' f ds} q j=>?_) e;simp only[SV.ds,SV.a8]at q j;generalize y.d (getD ρ)=V at q j;generalize SV.ds (getD ρ) u=rd at q j;generalize F:y.val ve lb=yv at j;generalize N:SV.a8 ve lb u=av at j;cases j with
  | @cons _ _ _ _ R h2=>
   cases V with
   |iface t d=>
    simp only[aB]at q;split at q;case h_2=>cases q
    rename_i i ti hi W;split at q;case h_2=>cases q
    rename_i p f' ptr K;obtain⟨hc,q⟩:=qZ q;cases q;cases R with
    |@iface _ _ v R=>refine⟨v::av,.cons R h2,?_⟩;intro⟨fn,A⟩;unfold jH;rw[z];simp only[kX,I,N,hr,ye,F,rH,hi,W,K,hc,ai,nB,A]
   |_=>cases q
 rename_i f U;have B:oJ o=false:=by simp[oJ,z]
 split at e
 ·rename_i gf first cap G
  obtain⟨fb,O⟩:=zZ (E:=E) h G;rw[cond_eq_ite]at e;split at e
  ·rename_i P;have C:xY E S o = !qFD E gf (first++u++cap) S:=by simp only[xY,B,z,U,w,G,P,Bool.false_or,ep]
   rw[C];refine qOF h (l:=first++u++cap) ?_ (λ⟨fn,A⟩=>?_) e
   ·rw[SV.hE]at ab ⊢;have f1:=SV.hE.1 fb.1;have f2:=SV.hE.1 fb.2;grind
   simp only[SV.val]at O;unfold jH;rw[z];simp only[kX,I,U,O,nQ,A,kL]
  refine qCp h B (λ{g' f' ds} q j=>?_) e;simp only[aB,oI,dk]at q;obtain⟨rfl,rfl⟩:=q;refine⟨_,j,?_⟩;intro⟨fn,A⟩;simp only[SV.val]at O;unfold jH;rw[z];simp only[kX,I,U,O,nQ,A,kL]
 ·rename_i i G;obtain⟨fb,O⟩:=zZ (E:=E) h G;refine qCp h B (λ{g' f' ds} q j=>?_) e;simp only[SV.ds,SV.a8]at q j;simp only[SV.val]at O;generalize hyd:(SV.v i).d (getD ρ)=V at q j;generalize SV.ds (getD ρ) u=rd at q j;generalize F:(SV.v i).val ve lb=yv at j;generalize N:SV.a8 ve lb u=av at j;simp only[SV.val]at F;cases j with
  | cons R h2=>
   cases V with
   | kr fnn first cap=>
    cases fnn with
    |func gf=>
     simp only[aB,oI,dk]at q;obtain⟨rfl,rfl⟩:=q;cases R with
     |@kr _ _ _ f1 c1 hp X Z=>refine⟨f1++av++c1,(X.append h2).append Z,?_⟩;intro⟨fn,A⟩;unfold jH;rw[z];simp only[kX,I,N,U,O,F,nQ,A]
    |_=>cases q
   |_=>cases q
 cases e
theorem s7(h:SR E n0 H0 g0 S ρ ve lb g fr H)(q:wp E (qA E) Q (jM E o S κ) ρ):j7 (xY E S o) E (qA E) Q n0 H0 g0 fr H o κ:=by
 cases r:o.op with
 |move x=>exact qKt h (.inl r) (by unfold jM at q;rw[r]at q;exact q)
 |assign x=>exact qKt h (.inr r) (by unfold jM at q;rw[r]at q;exact q)
 |pick c a b=>exact qRn h r q
 |alloc t=>exact qOI h r q
 |box t x=>exact qWs h r q
 |build t U=>exact qOH h r q
 |buildSlice t n U=>exact qDV h r q
 |load t a=>
  unfold jM at q;rw[r]at q;simp only at q;split at q
  ·rename_i Z A;obtain⟨C,B⟩:=zZ (E:=E) h A;obtain⟨y,S',ρ',O,g',e,X,J,R,P⟩:=qBB h C q;refine .same X R J ?_;unfold jH;rw[r];simp only[B,P,one,aj]
  cases q
 |store t a x=>
  have u:xY E S o=true:=by simp[xY,oJ,r]
  rw[u];unfold jM at q;rw[r]at q;simp only at q;split at q
  ·rename_i i j sz off N A I;obtain⟨C,B⟩:=zZ (E:=E) h A;obtain⟨K,F⟩:=zZ (E:=E) h I;exact qWo h r B F q
  ·rename_i Z N _ A I;obtain⟨C,B⟩:=zZ (E:=E) h A;obtain⟨K,F⟩:=zZ (E:=E) h I;exact qOA h r B F C K q
  cases q
 |makeSlice t l c=>exact zAK h r q
 |makeMap t x=>cases x with
  |none=>exact qRq h r q
  |some x=>unfold jM at q;rw[r]at q;cases q
 |lookup t x k ok=>exact qRr h r q
 |range t x=>exact qOC h r q
 | next it G=>cases G with
  |true=>
   have u:xY E S o=true:=by simp[xY,r]
   rw[u];exact qRo h r q
  |false=>unfold jM at q;rw[r]at q;cases q
 |mapUpdate t m k x=>
  have u:xY E S o=true:=by simp[xY,r]
  rw[u];exact qRp h r q
 |nilCheck x=>exact qHb h r q
 |binOp V t x y p=>exact qWt h (b:=λ_=>true) r q
 |unOp V t x=>exact zAJ h r q
 | convert s d x=>
  cases w:iH E s d with
  |some el=>exact qOG h r w q
  |none=>cases z:uP E s d with
   |true=>exact qWn h r w z q
   |false=>exact qRt h r w z q
 |makeInterface t x=>exact qWp h r q
 |makeFunc f a b=>exact qHc h r q
 |slice t x lo W mx=>cases L:((lo.isNone||sQ lo)&&sQ W&&sQ mx)with
  |true=>exact(by unfold jM at q;rw[r]at q;simp only[L,ai]at q;cases q)
  |false=>exact qOB h r L q
 |fieldAddr t x f=>exact qFM h r q
 |field t x f=>exact qOE h r q
 |indexAddr t x i=>exact qFL h r q
 |index t x i=>exact qOD h r q
 |extract x i=>exact qIZ h r q
 |call c=>exact qRu h r q
 |_=>unfold jM at q;rw[r]at q;cases q
end
variable{H1:AH}{b0 i0:Nat}{draw:Bool}{fr' fr1:Fr}{ih:Cmd->AH->xM}{os:LB}{t:LN}{ts:List (Nat×Nat)}
section
variable{E:Env}{n0:Lim}{H0:AH}{g0:zR}{S:St}{ρ:LR}{ve:LH}{lb:LI}{g:zR}{fr:Fr}{H H2:AH}{Q:Res1->Prop}{o:Oper}{HS:LO->LR->La}
theorem qHv(h:SR E n0 H0 g0 S ρ ve lb g fr H){all:LF}{u B:St->Tree}(c:wp E HS Q (qCN all o S u B) ρ):∃S',SR E n0 H0 g0 S' ρ ve lb g fr H/\((vU all fr o=some true/\wp E HS Q (u S') ρ)∨(vU all fr o=some false/\wp E HS Q (B S') ρ)):=by
 unfold qCN at c;split at c
 ·rename_i q;exact⟨S,h,.inl ⟨by simp only[vU,q],c⟩⟩
 rename_i j r q;split at c;case h_2=>cases c
 rename_i d L K J I G F;have y:∀{v:LQ},fr.t.get d=some v->dY all fr j=(match v with|.bool b=>some (some b)|_=>some none):=by intro v hv;simp only[dY,F,hv];cases v<;>rfl
 split at c
 ·rename_i b w;have hv:=(h.af _ _ w).2;have e:=y hv;simp only[SV.val]at e;rw[cond_eq_ite]at c;split at c
  ·rename_i A;exact⟨S,h,.inl ⟨by simp only[vU,q,e,A],c⟩⟩
  rename_i A;have z:(b==r)=false:=by simpa using A
  exact⟨S,h,.inr ⟨by simp only[vU,q,e,z],c⟩⟩
 ·rename_i w;have hv:=(h.af _ _ w).2;have e:=y hv;simp only[SV.val]at e;exact⟨S,h,.inr ⟨by simp only[vU,q,e],c⟩⟩
 ·rename_i i w;obtain⟨C,c⟩:=jQ c;obtain⟨t,hd,c⟩:=qBF c;have hv:=(h.af _ _ w).2;simp only[SV.val,uQ h.toSM C hd]at hv;have e:=y hv;simp only at e;refine⟨S.known i t,mN h C hd,?_⟩;cases t<;>cases r
  ·exact .inl ⟨by simp only[vU,q,e];rfl,c⟩
  ·exact .inr ⟨by simp only[vU,q,e];rfl,c⟩
  ·exact .inr ⟨by simp only[vU,q,e];rfl,c⟩
  exact .inl ⟨by simp only[vU,q,e];rfl,c⟩
 cases c
theorem pJ.append{n m:Nat}:∀{l h:List jX},pJ E n l->(∀a∈l,a.H'.next<=m)->n<=m->pJ E m h->pJ E n (l++h)
 | [],_,_,_,c,y=>y.mono c
 |a::l,h,⟨q,j,h3⟩,hm,_,y=>⟨q,j,pJ.append h3 (λb e=>hm b (mC _ e)) (hm a aq) y⟩
theorem kG.nil{all:LF}:kG E all draw [] i fr H fr H:=
 ⟨vP _,[],trivial,λ_ h=>(by cases h),[],λ_ h=>(by cases h),λ_ _=>rfl⟩
theorem kG.pr{all:LF}(e:vU all fr o=some false)(c:yI fr o.dst (.tuple #[])=some fr1)(h:kG E all draw os (i+1) fr1 H fr' H'):kG E all draw (o::os) i fr H fr' H':=by obtain⟨r,l,q,h3,ts,b,j⟩:=h;exact⟨r,l,q,h3,ts,b.less,λih y=>by simp only[zY,e,c];exact j ih y⟩
theorem kG.cons{all:LF}{os:LB}{i:Nat}{fr1 fr':Fr}{H1 H':AH}{v:LQ}(B:vU all fr o=some true)(w:lC E fr o H v H1)(A:yI fr o.dst v=some fr1)(h:kG E all false os (i+1) fr1 H1 fr' H'):kG E all false (o::os) i fr H fr' H':=by
 obtain⟨j,l,F,h3,ts,z,C⟩:=h;obtain⟨e,q,u,c,r⟩:=w;refine⟨lT e j,q++l,u.append c e F,λa y=>?_,ts,z.less,λih b=>?_⟩
 ·rcases bh.1 y with y|y
  ·exact lT (c a y) j
  exact h3 a y
 have I:=r ih (λa y=>b a (dz _ y));have G:=C ih (λa y=>b a (ee _ y));simp only[zY,B,bc,qPJ I,A,G]
theorem kG.px{all:LF}(F:vU all fr o=some true)(B:lC E fr o (vI H []) v H1)(e:H.next<=H1.low∨kD all.toList i=true)(C:yI fr o.dst v=some fr1)(h:kG E all true os (i+1) fr1 (jV H H1 []) fr' H'):kG E all true (o::os) i fr H fr' H':=by
 obtain⟨u,l,J,h3,ts,r,I⟩:=h;obtain⟨q,w,A,j,z⟩:=B;refine⟨lT q u,w++l,A.append j q J,λa y=>?_,ts,r.less,λih c=>?_⟩
 ·rcases bh.1 y with y|y
  ·exact lT (j a y) u
  exact h3 a y
 have L:=z ih (λa y=>c a (dz _ y));have K:=I ih (λa y=>c a (ee _ y));have G:qV all.toList i ts=[]:=r.rh;have b:(Nat.ble H.next H1.low||(([]:LC).isEmpty&&(ts.any (λt=>Nat.beq t.1 i&&wI fr o t.2)||kK all.toList ts i H.next H1.low)))=true:=by
  rcases e with e|e
  ·rw[bL e];rfl
  rw[qJu e];simp
 simp only[zY,F,ai,pH,G,L,b,iu,er,C,K]
theorem qPm{all:LB}(h:rO (kS all) i0 i=true):qV all i ((i0,b0)::ts)=qV all i ts:=by rw[qV,h,gz,ai]
theorem qMC{all:LB}{r:LQ×AH}(j:rO (kS all) i0 i=true)(h:pH E ih ts all i fr o H=some r):pH E ih ((i0,b0)::ts) all i fr o H=some r:=by
 unfold pH at h ⊢;simp only[qPm j]at h ⊢;cases he:jA E ih fr o (vI H (qV all i ts))with
 |none=>rw[he]at h;cases h
 |some q=>
  obtain⟨v,Q⟩:=q;rw[he]at h;simp only at h ⊢;obtain⟨c,e⟩:=qZ h;have y:((Nat.ble H.next Q.low||((qV all i ts).isEmpty&&(((i0,b0)::ts).any (λt=>Nat.beq t.1 i&&wI fr o t.2)||kK all ((i0,b0)::ts) i H.next Q.low)))&&(qV all i ts).all (λb=>Nat.blt b H.next||Nat.ble Q.next b))=true:=by simp only[List.any_cons,aE,dt]at c ⊢;exact⟨c.1.imp id λh=>⟨h.1,h.2.imp (λh=>.inr h) qF5⟩,c.2⟩
  rw[y];exact e
theorem aI{ih:Cmd->AH->xM}{all:LF}{i0 b0:Nat}{ts:List (Nat×Nat)}{r:Fr×AH}:∀(os:LB) (i:Nat) (fr:Fr) (H:AH),fH all.toList i0 os i=true->zY E ih all true ts os i fr H=some r->zY E ih all true ((i0,b0)::ts) os i fr H=some r
 | [],_,_,_,_,h=>h
 | o::os,i,fr,H,y,h=>by
  simp only[fH,aE]at y;simp only[zY]at h ⊢;split at h
  ·cases h
  ·split at h
   ·exact aI os (i+1) _ _ y.2 h
   cases h
  simp only[ai]at h ⊢;split at h
  ·cases h
  rename_i v H1 hd;rw[qMC y.1 hd];simp only;split at h
  ·cases h
  exact aI os (i+1) _ _ y.2 h
def qMX(E:Env)(all:LF)(i0 b0:Nat)(os:LB)(i:Nat)(fr:Fr)(H:AH)(fr':Fr)(H':AH):Prop:=
 H.next<=H'.next/\∃l,pJ E H.next l/\(∀a∈l,a.H'.next<=H'.next)/\∃ts,qIn all.toList i ts/\∀ih,qJY l ih->zY E ih all true ((i0,b0)::ts) os i fr H=some (fr',H')
theorem kG.toL{all:LF}(h:kG E all true os i fr H fr' H')(c:fH all.toList i0 os i=true):qMX E all i0 b0 os i fr H fr' H':=by obtain⟨q,l,j,h3,ts,y,e⟩:=h;exact⟨q,l,j,h3,ts,y,λih b=>aI os i fr H c (e ih b)⟩
theorem qMX.mid{all:LF}(q:vU all fr o=some true)(e:∀ih,jA E ih fr o (vI H (qV all.toList i [(i0,b0)]))=some (v,vI H (qV all.toList i [(i0,b0)])))(j:yI fr o.dst v=some fr1)(h:qMX E all i0 b0 os (i+1) fr1 (jV H (vI H (qV all.toList i [(i0,b0)])) (qV all.toList i [(i0,b0)])) fr' H'):qMX E all i0 b0 (o::os) i fr H fr' H':=by
 obtain⟨C,l,B,h3,ts,c,A⟩:=h;refine⟨C,l,B,h3,ts,c.less,λih y=>?_⟩;have F:=A ih y;have z:qV all.toList i ((i0,b0)::ts)=qV all.toList i [(i0,b0)]:=by rw[qV,qV,c.rh];rfl
 generalize qV all.toList i [(i0,b0)]=W at *;have r:(Nat.ble H.next (vI H W).low||(W.isEmpty&&(((i0,b0)::ts).any (λt=>Nat.beq t.1 i&&wI fr o t.2)||kK all.toList ((i0,b0)::ts) i H.next (vI H W).low)))=true:=by have:Nat.ble H.next (vI H W).low=true:=bL (vP _);rw[this,fj]
 have w:W.all (λb=>Nat.blt b H.next||Nat.ble (vI H W).next b)=true:=by
  rw[al];intro b _;show(Nat.blt b H.next||Nat.ble H.next b)=true;by_cases u:b<H.next
  ·have:Nat.blt b H.next=true:=bL u;rw[this,fj]
  have:Nat.ble H.next b=true:=bL (by omega);rw[this,gz]
 simp only[zY,q,ai,pH,z,e ih,r,w,cj,j,F]
theorem kG.late{all:LF}(F:vU all fr o=some true)(C:lC E fr o (vI H []) v H1)(hs:wI fr o b0=true)(c:∀k,k<i->rO (kS all.toList) i k=true)(e:yI fr o.dst v=some fr1)(h:qMX E all i b0 os (i+1) fr1 (jV H H1 []) fr' H'):kG E all true (o::os) i fr H fr' H':=by
 obtain⟨w,l,J,h3,ts,u,I⟩:=h;obtain⟨r,z,B,q,A⟩:=C;refine⟨lT r w,z++l,B.append q r J,λa y=>?_,(i,b0)::ts,λp e=>?_,λih j=>?_⟩
 ·rcases bh.1 y with y|y
  ·exact lT (q a y) w
  exact h3 a y
 ·rcases bl.1 e with rfl|e
  ·exact⟨vP _,c⟩
  exact u.less p e
 have L:=A ih (λa y=>j a (dz _ y));have K:=I ih (λa y=>j a (ee _ y));have G:qV all.toList i ((i,b0)::ts)=[]:=by rw[qV,bj,fj,ai];exact u.rh
 have b:(Nat.ble H.next H1.low||(([]:LC).isEmpty&&(((i,b0)::ts).any (λt=>Nat.beq t.1 i&&wI fr o t.2)||kK all.toList ((i,b0)::ts) i H.next H1.low)))=true:=by simp only[List.any_cons,bj,hs,ep,fj,kc,gz]
 simp only[zY,F,ai,pH,G,L,b,iu,er,e,K]
theorem qEp(h:qG3 o.op=true):∃x:LG,∀H,jH E fr o H=one H x:=by
 cases e:o.op<;>rw[e]at h<;>first|(cases h;done)|skip
 ·rename_i x;exact⟨ev E fr x,λH=>by simp only[jH,e]⟩
 ·rename_i x;exact⟨ev E fr x,λH=>by simp only[jH,e]⟩
 ·rename_i c a b;refine⟨match ev E fr c with|some (.bool true)=>ev E fr a|some (.bool false)=>ev E fr b|_=>none,λH=>?_⟩;simp only[jH,e];generalize ev E fr c=q;rcases q with _|v
  ·rfl
  cases v<;>first|rfl|skip
  rename_i b;cases b<;>rfl
 ·rename_i t j;refine⟨match parts? E fr j.toList with|some j=>sJ E t j|none=>none,λH=>?_⟩;simp only[jH,e];generalize parts? E fr j.toList=q;cases q<;>rfl
 ·rename_i x;refine⟨match ev E fr x with
   |some (.pointer (some a))=>some (.pointer (some a))
   |some (.iface t v)=>some (.iface t v)
   |some (.func (.func f) a b)=>some (.func (.func f) a b)
   |some (.func (.yield f) a b)=>some (.func (.yield f) a b)
   |_=>none,λH=>?_⟩
  simp only[jH,e];generalize ev E fr x=q;rcases q with _|v
  ·rfl
  cases v<;>first|rfl|skip
  ·rename_i a;cases a<;>rfl
  rename_i f a b;cases f<;>rfl
 ·rename_i u t x y z;refine⟨match ev E fr x,ev E fr y with|some a,some b=>pA E u t x y a b|_,_=>none,λH=>?_⟩;simp only[jH,e];generalize ev E fr x=q;generalize ev E fr y=r;cases q<;>cases r<;>rfl
 ·rename_i u t x;refine⟨match ev E fr x with|some v=>bif zP v then flat? (zB E.prog (Op.unary u v))else none|none=>none,λH=>?_⟩;simp only[jH,e];generalize ev E fr x=q;rcases q with _|v
  ·rfl
  simp only;cases zP v<;>rfl
 ·rename_i s x f;refine⟨match ev E fr x with|some v=>aY E s v f|none=>none,λH=>?_⟩;simp only[jH,e];generalize ev E fr x=q;cases q<;>rfl
 ·rename_i t x i;refine⟨match ev E fr x,(ev E fr i).bind nat? with|some v,some i=>qAu E t v i|_,_=>none,λH=>?_⟩;simp only[jH,e];generalize ev E fr x=q;generalize (ev E fr i).bind nat? = r;cases q<;>cases r<;>rfl
 rename_i x i;refine⟨match ev E fr x with|some (.tuple vs)=>vs.toList[i]? | _=>none,λH=>?_⟩;simp only[jH,e];generalize ev E fr x=q;rcases q with _|v
 ·rfl
 cases v<;>rfl
theorem qIK{H:AH}{x:LQ}{lo y mx:LG}(h:∀b,H'.blocks.get b=H.blocks.get b):oN E H' t x lo y mx=oN E H t x lo y mx:=by unfold oN;simp only[h]
theorem qMb{H:AH}{x:LQ}(h:∀b,H'.blocks.get b=H.blocks.get b):gM E H' t x=gM E H t x:=by unfold gM AH.lj;simp only[h]
theorem qRD(h:qOY o=true)(H:AH):∃x:LG,∀H',(∀b,H'.blocks.get b=H.blocks.get b)->jH E fr o H'=one H' x:=by
 unfold qOY at h;rw[dt]at h;rcases h with h|h
 ·obtain⟨x,z⟩:=qEp (E:=E) (fr:=fr) h;exact⟨x,λH' _=>z H'⟩
 split at h
 ·rename_i t x lo y mx c;refine⟨match ev E fr x,rS E fr lo.toList,rS E fr y.toList,rS E fr mx.toList with
   |some x,some lo,some y,some mx=>oN E H t x lo.head? y.head? mx.head?
   |_,_,_,_=>none,λH' e=>?_⟩
  simp only[jH,c];generalize ev E fr x=w;generalize rS E fr lo.toList=u;generalize rS E fr y.toList=r;generalize rS E fr mx.toList=j;cases w<;>cases u<;>cases r<;>cases j<;>first|rfl|exact congrArg (one H') (qIK e)
 ·rename_i t a c;refine⟨match ev E fr a with|some v=>gM E H t v|none=>none,λH' e=>?_⟩;simp only[jH,c];generalize ev E fr a=q;cases q with
  |none=>rfl
  |some v=>exact congrArg (one H') (qMb e)
 cases h
theorem qMw{x:LG}(h:jH E fr o H=one H x)(he:jA E ih fr o H=some (v,H1)):x=some v/\H1=H:=by
 cases x with
 |none=>simp only[jA,h,one,Option.map_none]at he;cases he
 |some u=>simp only[jA,h,one,aj,oI,dk]at he;exact⟨by rw[he.1],he.2.symm⟩
theorem SM.congr(h:SM n0 S ρ ve lb g H)(e:∀b,H2.blocks.get b=H.blocks.get b)(c:H2.next=H.next):SM n0 S ρ ve lb g H2:=by
 have y:H2.blocks.get=H.blocks.get:=funext e
 exact { len:=h.len,wf:=λb k j=>by rw[e]at j;rw[c];exact h.wf b k j,mem:=by rw[y];exact h.mem,base:=by rw[c];exact h.base,fix:=h.fix,vars:=by rw[y];exact h.vars,
         ae:=by rw[y];exact h.ae,ei:=h.ei,cn:=h.cn,km:=h.km,h7:=h.h7,hU:=h.hU}
theorem SR.congr(h:SR E n0 H0 g0 S ρ ve lb g fr H)(y:∀b,H2.blocks.get b=H.blocks.get b)(c:H2.next=H.next)(e:Nat.min H0.low n0.n<=H2.low):SR E n0 H0 g0 S ρ ve lb g fr H2:=
 {toSM:=h.toSM.congr y c,sz:=h.sz,rd:=h.rd,af:=h.af,kh:=h.kh,hN:=λb j=>by rw[y];exact h.hN b j,gk:=h.gk,low:=e,tab:=h.tab}
theorem SR.pb(h:SR E n0 H0 g0 S ρ ve lb g fr H):SR E n0 H0 g0 S ρ ve lb g fr (vI H []):=
 {h with low:=lT (bq _ _) h.base.1}
theorem SR.restore(c:SR E n0 H0 g0 S ρ ve lb g fr H){S':St}{ρ':LR}{y:LH}{b:LI}(h:SR E n0 H0 g0 S' ρ' y b g' fr' H1):SR E n0 H0 g0 S' ρ' y b g' fr' (jV H H1 []):=
 {h with low:=dv.2 ⟨c.low,h.low⟩}
theorem qMU{c:Call}{a:Tmp}{y:LM}{k:Nat}(h:SR E n0 H0 g0 S ρ ve lb g fr H)(R:o.op=.call c)(G:c.callee=.builtin .append)(r:c.args.toList=[.tmp a,y])(hk:S.af.get a=some (.v k))(hf:S.ca k=true)(he:jA E ih fr o H=some (v,H1)):H.low<=H1.low∨∃B,wI fr o B=true/\H1.blocks.get B=none:=by
 have hv:fr.t.get a=some (ve k):=(h.af _ _ hk).2;obtain⟨of,P⟩:=zT.1 hf;have I:bM g H.blocks.get n0 (getD ρ k) (ve k):=(h.vars k _ P).2;have F:rS E fr [.tmp a,y]=(ev E fr y).map λx=>[ve k,x]:=by have U:ev E fr (.tmp a)=some (ve k):=hv;simp only[rS,U];cases ev E fr y<;>rfl
 have u:∃x,jH E fr o H=xC E H c.argTypes.toList (ve k) x:=by
  cases Z:ev E fr y with
  |none=>
   have:jH E fr o H=none:=by simp only[jH,R,kX,G,r,F,Z,Option.map_none]
   simp only[jA,this]at he;cases he
  |some x=>exact⟨x,by simp only[jH,R,kX,G,r,F,Z,aj,wJ]⟩
 obtain⟨x,u⟩:=u;simp only[jA,u]at he;have C:∀{w:LQ},xC E H c.argTypes.toList (ve k) x=some (.val w,H)->H.low<=H1.low:=λe=>by rw[e]at he;simp only[oI,dk]at he;rw[←he.2];exact vP _
 have fresh:∀{w:LQ} {ob:AObj},xC E H c.argTypes.toList (ve k) x=some (.val w,H.new ob)->H.low<=H1.low:=λe=>by rw[e]at he;simp only[oI,dk]at he;rw[←he.2];exact vP _
 generalize j:xC E H c.argTypes.toList (ve k) x=A at he C fresh;have hA2:=j;unfold xC at j;split at j;case h_2=>rw[←j]at he;cases he
 rename_i t xt rr base len cap hat q;split at j;case h_2=>rw[←j]at he;cases he
 split at j;case h_2=>rw[←j]at he;cases he
 rename_i e hte;split at j;case h_2=>rw[←j]at he;cases he
 rename_i z n new hz hnc;cases K:Nat.ble (Nat.mul (Nat.add (Nat.mul 4 (Nat.add len n)) 4000) (Nat.succ e.bytes)) 100000000000 with
 |false=>rw[K]at j;rw[←j]at he;cases he
 | true=>
  rw[K]at j;simp only[ai]at j;cases N:Nat.beq n 0 with
  |true=>rw[N]at j;simp only[ai]at j;exact .inl (C j.symm)
  | false=>
   rw[N]at j;simp only[bc]at j;rcases I with(⟨I,_⟩|⟨_,ad,I⟩)|⟨B,l,cs,vs,el,rt,sz,es,O⟩|⟨B,es,ck,rt,ks,dd,O⟩
   rotate_left 3
   ·rw[O.v]at q;cases q
   ·rw[I]at q;cases q;exact .inl (fresh j.symm)
   ·rw [I]at q;cases q;obtain⟨b,off,p⟩:=ad;cases p with
    |some _=>rw[←j]at he;cases he
    | none=>
     have W:Nat.ble zX 0=false:=rfl;have h2:Nat.ble (Nat.add 0 n) 0=false:=by
      cases hb:Nat.ble (Nat.add 0 n) 0 with
      |false=>rfl
      |true=>
       have:=oA hb;have h0:n=0:=by have:0+n<=0:=this;omega
       rw[h0]at N;cases N
     simp only[I,W,h2,bc,oX,bj,ai]at j;exact .inl (fresh j.symm)
   have J:=O.v;rw[J]at q;cases q;have W:Nat.ble zX zX=true:=bL (vP _);simp only[W,ai]at j;split at j;case h_2=>rw[←j]at he;cases he
   rename_i cs2 X r2 kp V _;cases L:(Nat.beq X _&&Nat.beq (Nat.mod 0 e.size) 0)with
   |false=>rw[L]at j;rw[←j]at he;cases he
   |true=>
    rw[L]at j;simp only[ai]at j;rw[←j]at he;simp only[oI,dk]at he;right;refine⟨B,?_,?_⟩
    ·simp only[wI,R,qE5,G,r,hv,J,bj]
    rw[←he.2];show((H.blocks.put B none).put H.next _).get B=none;have hlt:=(h.wf B _ V).2;rw[T.ch,bf (by omega),T.ch,bo rfl]
def qQz(E:Env)(Q:Res1->Prop)(n0:Lim)(H0:AH)(g0:zR)(all:LF)(os:LB):Prop:=∀(draw:Bool) (i:Nat) {S:St} {ρ:LR} {ve:LH} {lb:LI} {g:zR} {fr:Fr} {H:AH} {κ:St->Tree},SR E n0 H0 g0 S ρ ve lb g fr H->wp E (qA E) Q (qDU E all draw os i S κ) ρ->
  ∃S' ρ' h y g' fr' H',SR E n0 H0 g0 S' ρ' h y g' fr' H'/\wp E (qA E) Q (κ S') ρ'/\kG E all draw os i fr H fr' H'
def qTb(E:Env)(Q:Res1->Prop)(n0:Lim)(H0:AH)(g0:zR)(all:LF)(os:LB):Prop:=∀(i i0 b0:Nat) {S:St} {ρ:LR} {ve:LH} {lb:LI} {g:zR} {fr:Fr} {H:AH} {κ:St->Tree},SR E n0 H0 g0 S ρ ve lb g fr H->H.blocks.get b0=none->tW all.toList i0 os i=true->wp E (qA E) Q (qDU E all true os i S κ) ρ->
  ∃S' ρ' h y g' fr' H',SR E n0 H0 g0 S' ρ' h y g' fr' H'/\wp E (qA E) Q (κ S') ρ'/\qMX E all i0 b0 os i fr H fr' H'
theorem qLV{all:LF}{o:Oper}(hA:qQz E Q n0 H0 g0 all os)(hB:qTb E Q n0 H0 g0 all os):qQz E Q n0 H0 g0 all (o::os):=by
 intro draw i S ρ ve lb g fr H κ h b;simp only[qDU]at b;obtain⟨V,J,b⟩:=qHv h b;rcases b with⟨O,b⟩|⟨O,b⟩
 ·cases draw with
  |false=>
   simp only[gw,bc]at b;obtain⟨y,S2,ρ2,ve2,Z,g2,H2,h2,hb,b,X,_⟩:=s7 J b;simp only at b;split at b
   ·rename_i S3 L;obtain⟨U,r,h3⟩:=qAf h2 hb L;obtain⟨S',ρ',j,q,g',fr',H',G,F,C⟩:=hA false (i+1) h3 b;exact⟨S',ρ',j,q,g',fr',H',G,F,.cons O X r C⟩
   cases b
  | true=>
   simp only[ep]at b;cases z:(xY E V o&& !(kD all.toList i)&& !(qCB all.toList i o os))with
   |true=>rw[z]at b;cases b
   | false=>
    rw[z]at b;simp only[bc]at b;obtain⟨y,S2,ρ2,ve2,Z,g2,H2,h2,hb,b,X,N⟩:=s7 J.pb b;simp only at b;split at b;case h_2=>cases b
    rename_i S3 L;obtain⟨U,r,h3⟩:=qAf h2 hb L;have A:(H.next<=H2.low∨kD all.toList i=true)->∃S' ρ' j q g' fr' H',SR E n0 H0 g0 S' ρ' j q g' fr' H'/\wp E (qA E) Q (κ S') ρ'/\kG E all true (o::os) i fr H fr' H':=λhc=>by obtain⟨S',ρ',j,q,g',fr',H',G,F,C⟩:=hA true (i+1) (J.restore h3) b;exact⟨S',ρ',j,q,g',fr',H',G,F,.px O X hc r C⟩
    have e0:Nat.min (vI H []).low (vI H []).next=H.next:=Nat.min_self _;cases e:xY E V o with
    |false=>have:=N e;rw[e0]at this;exact A (.inl this)
    | true=>
     cases P:kD all.toList i with
     |true=>exact A (.inr P)
     | false=>
      have I:qCB all.toList i o os=true:=by rw[e,P]at z;simpa using z
      unfold qCB at I;simp only[aE]at I;obtain⟨⟨W,q2⟩,q3⟩:=I;split at W;case h_2=>cases W
      rename_i c ho;split at W;case h_2=>cases W
      rename_i a yo R w;have hap:∃k,V.af.get a=some (.v k)/\V.ca k=true:=by
       have hw1:oJ o=false:=by unfold oJ;rw[ho]
       unfold xY at e;rw[hw1,Bool.false_or,ho]at e;simp only[R,w]at e;cases u:dS V [.tmp a,yo]with
       |none=>rw[u]at e;cases e
       |some l=>
        rw[u]at e;simp only at e;unfold dS at u;split at u;case h_2=>cases u
        rename_i x1 l1 hx1 hl1;cases u;unfold qQo at e;split at e;case h_2=>cases e
        rename_i k _ heq;cases heq;exact⟨k,hx1,e⟩
      obtain⟨k,hk,hf⟩:=hap;obtain⟨k1,l0,k2,k3,k4⟩:=X;have e1:=k4 (qPl l0) (λa ha=>qCF k2 a ha);rcases qMU J.pb ho R w hk hf e1 with hc|⟨B,hs,hB0⟩
      ·exact A (.inl hc)
      have K:∀k,k<i->rO (kS all.toList) i k=true:=λk hk=>al.1 q2 k (je.2 hk);obtain⟨S',ρ',j,q,g',fr',H',G,F,C⟩:=hB (i+1) i B (J.restore h3) (H:=jV H H2 []) hB0 q3 b;exact⟨S',ρ',j,q,g',fr',H',G,F,.late O ⟨k1,l0,k2,k3,k4⟩ hs K r C⟩
 split at b
 ·rename_i S3 L;obtain⟨U,r,h3⟩:=qAf J (y:=.gd []) trivial L;obtain⟨S',ρ',j,q,g',fr',H',G,F,C⟩:=hA draw (i+1) h3 b;exact⟨S',ρ',j,q,g',fr',H',G,F,.pr O r C⟩
 cases b
theorem qLU{all:LF}{o:Oper}(hA:qQz E Q n0 H0 g0 all (o::os))(hB:qTb E Q n0 H0 g0 all os):qTb E Q n0 H0 g0 all (o::os):=by
 intro i i0 b0 S ρ ve lb g fr H κ h C e c;cases O:fH all.toList i0 (o::os) i with
 |true=>obtain⟨S',ρ',u,w,g',fr',H',I,G,F⟩:=hA true i h c;exact⟨S',ρ',u,w,g',fr',H',I,G,F.toL O⟩
 | false=>
  rw[tW,O,Bool.or_false]at e;simp only[aE]at e;obtain⟨⟨hm,j⟩,e⟩:=e;have j:o.guard=none:=ig.1 j;have hg:vU all fr o=some true:=by simp only[vU,j]
  simp only[qDU,qCN,j]at c;cases A:(true&&xY E S o&& !(kD all.toList i)&& !(qCB all.toList i o os))with
  |true=>rw[A]at c;cases c
  | false=>
   rw[A]at c;simp only[bc]at c;obtain⟨y,S2,ρ2,ve2,J,g2,H2,h2,q,c,X,P⟩:=s7 h.pb c;simp only at c;split at c;case h_2=>cases c
   rename_i S3 Z;obtain⟨fr3,N,h3⟩:=qAf h2 q Z;obtain⟨k1,U,W,k3,V⟩:=X;have e1:=V (qPl U) (λa ha=>qCF W a ha);obtain⟨x,z⟩:=qRD (E:=E) (fr:=fr) hm (vI H []);obtain⟨L,rfl⟩:=qMw (z _ λ_=>rfl) e1;have hW:∀b,b∈qV all.toList i [(i0,b0)]->b=b0:=λb q=>by
    rw[qV]at q;cases R:(Nat.beq i0 i||rO (kS all.toList) i0 i)with
    |true=>rw[R]at q;cases q
    |false=>rw[R]at q;exact aw.1 q
   have r:∀b,(vI H (qV all.toList i [(i0,b0)])).blocks.get b=(vI H []).blocks.get b:=λb=>by
    show(lW H.blocks _).get b=H.blocks.get b;rw[yZ];split
    ·rename_i q;rw[hW b q,C]
    rfl
   have K:∀ih,jA E ih fr o (vI H (qV all.toList i [(i0,b0)]))=some (y.val ve2 J,vI H (qV all.toList i [(i0,b0)])):=λih=>by simp only[jA,z _ r,L,one,aj]
   have B:∀b,(jV H (vI H (qV all.toList i [(i0,b0)])) (qV all.toList i [(i0,b0)])).blocks.get b=(vI H []).blocks.get b:=λb=>by
    show(yV _ _ _).get b=_;rw[wS];split
    ·rfl
    exact r b
   have h4:=h3.congr (H2:=jV H (vI H (qV all.toList i [(i0,b0)])) (qV all.toList i [(i0,b0)])) B rfl (dv.2 ⟨h.low,lT (bq _ _) h.base.1⟩);obtain⟨S',ρ',u,w,g',fr',H',I,G,F⟩:=hB (i+1) i0 b0 h4 (by rw[B];exact C) e c;exact⟨S',ρ',u,w,g',fr',H',I,G,.mid hg K N F⟩
theorem qOz{all:LF}:∀(os:LB),qQz E Q n0 H0 g0 all os/\qTb E Q n0 H0 g0 all os
 | []=>by have y:qQz E Q n0 H0 g0 all []:=λdraw i S ρ ve lb g fr H κ h c=>⟨S,ρ,ve,lb,g,fr,H,h,c,.nil⟩;exact⟨y,λi i0 b0 S ρ ve lb g fr H κ h _ _ c=>⟨S,ρ,ve,lb,g,fr,H,h,c,kG.nil.toL rfl⟩⟩
 |o::os=>by obtain⟨a,b⟩:=qOz os;have y:=qLV (o:=o) a b;exact⟨y,qLU y b⟩
theorem qOy{all:LF}(os:LB)(i:Nat){S:St}{ρ:LR}{ve:LH}{lb:LI}{g:zR}{fr:Fr}{H:AH}{κ:St->Tree}(h:SR E n0 H0 g0 S ρ ve lb g fr H)(c:wp E (qA E) Q (qDU E all draw os i S κ) ρ):
  ∃S' ρ' y b g' fr' H',SR E n0 H0 g0 S' ρ' y b g' fr' H'/\wp E (qA E) Q (κ S') ρ'/\kG E all draw os i fr H fr' H':=(qOz os).1 draw i h c
end
end Go.Am
