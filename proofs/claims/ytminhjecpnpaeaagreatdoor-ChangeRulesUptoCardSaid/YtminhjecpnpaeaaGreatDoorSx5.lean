/- Symbolic runs: calls that are handed places of the function's own. Conditions: none. -/
import Derived.Test.YtminhjecpnpaeaaGreatDoorSx3
set_option linter.unusedVariables false
set_option linter.unusedSimpArgs false
namespace Go.Am
open Go
def qJG(E:Env)(f:FuncId)(ds:List D)(d:D):Prop:=(∃fn,E.funcs.get f=some fn)/\
 ∀(H:AH) (g:zB) (h:List Value),WF H->zB.le g H.blocks.get->qJF E g->DRs g ds h->∃v H' g',vU E f h H v H'/\H.next<H'.next/\WF H'/\(∀b,b<H.next->H'.blocks.get b=H.blocks.get b)/\Nat.min H.low H.next<=H'.low/\zB.le g g'/\zB.le g' H'.blocks.get/\(∀b,b<H.next->g' b=g b)/\DR g' d v
def qIv(m:Mode)(ve:Nat->Value)(lb:Nat->Nat):Value:=match m.out.slots with
 | [(_,x)]=>x.val ve lb
 |l=>.tuple ⟨SV.vals ve lb (l.map Prod.snd)⟩
def qPN(E:Env)(f:FuncId)(m:Mode)(ds:List D)(d:D):Prop:=(∃fn,E.funcs.get f=some fn)/\∃x,d=xN x/\x.length=m.out.sts.length/\
 ∀(L:Lim) (H:AH) (g:zB) (ve:Nat->Value) (lb:Nat->Nat) (h:List Value),SR E L H g (m.inp.st m.n) ds ve lb g ⟨m.n,false,T.ofList .leaf 0 h⟩ H->h.length=m.n->(L.F=(List.range m.inp.blks.length).map lb)->∃v H' g' y,vU E f h H v H'/\H.next<H'.next/\SM {L with F:=[]} (m.out.st 0) x y lb g' H'/\(∀b,L.K b->H'.blocks.get b=H.blocks.get b)/\(∀b,L.K b->g' b=g b)/\Nat.min H.low L.n<=H'.low/\v=qIv m y lb
def Holds(E:Env)(f:FuncId)(ds:List D)(d:D):Prop:=(f<gM/\qJG E f ds d)∨∃x m h,f=Nat.add gM x/\ds=.mode m::h/\qPN E x m h d
section
variable{E:Env}{n0:Lim}{H0:AH}{g0:zB}{S:St}{ρ:List D}{ve:Nat->Value}{lb:Nat->Nat}{g:zB}{fr:Fr}{H:AH}{Q:Res1->Prop}{o:Oper}{κ:K1}{wm:Bool}
theorem qI4{f:FuncId}{m:Mode}{ds:List D}{d:D}(h:Holds E (Nat.add gM f) (.mode m::ds) d):qPN E f m ds d:=by rcases h with⟨h,_⟩|⟨b,y,x,e,c,h⟩;all_goals grind
theorem qKz{b:Nat}:∀{l:List Nat} {i k:Nat},qRg b l i=some k->∃j,k=i+j/\l[j]? = some b
 | [],_,_,h=>by cases h
 |c::r,i,k,h=>by
  simp only[qRg,qY]at h;split at h
  ·simp_all
  obtain⟨j,y,x⟩:=qKz h;exact⟨j+1,by omega,by simpa using x⟩
def fF(lb:Nat->Nat)(bm:List Nat):Nat->Nat:=λk=>lb (bm.getD k 0)
mutual
theorem qIk{bm:List Nat}{n m:Nat}{ρ:Nat->D}:∀{x y:SV},x.toC bm=some y->y.val ve (fF lb bm)=x.val ve lb/\y.d ρ=x.d ρ/\(x.bd n m->y.bd n bm.length)
 |.v i,y,h=>by simp only[SV.toC,oI]at h;subst h;exact⟨rfl,rfl,λh=>h⟩
 |.c x,y,h=>by simp only[SV.toC,oI]at h;subst h;exact⟨rfl,rfl,λh=>h⟩
 | .loc b o,y,h=>by
  simp only[SV.toC]at h;split at h
  ·rename_i k A;cases h;obtain⟨j,e,c⟩:=qKz A;have:k=j:=by omega
   subst this;refine⟨?_,rfl,λ_=>(gI c).1⟩;simp only[SV.val,fF,List.getD_eq_getElem?_getD,c,Option.getD_some]
  cases h
 |.ptr _ _ _ _,y,h=>by cases h
 |.pp i o,y,h=>by simp only[SV.toC,oI]at h;subst h;exact⟨rfl,rfl,λh=>h⟩
 |.agg cs,y,h=>by
  simp only[SV.toC]at h;split at h
  ·rename_i l p;cases h;obtain⟨e,c,h3⟩:=mX (n:=n) (m:=m) (ρ:=ρ) p;exact⟨by simp only[SV.val,e],by simp only[SV.d,c],h3⟩
  cases h
 |.tup cs,y,h=>by
  simp only[SV.toC]at h;split at h
  ·rename_i l p;cases h;obtain⟨e,c,h3⟩:=mX (n:=n) (m:=m) (ρ:=ρ) p;exact⟨by simp only[SV.val,e],by simp only[SV.d,c],h3⟩
  cases h
 |.fn f a b,y,h=>by
  simp only[SV.toC]at h;split at h
  ·rename_i I G C B;cases h;obtain⟨e,c,h3⟩:=mX (n:=n) (m:=m) (ρ:=ρ) C;obtain⟨w,u,r⟩:=mX (n:=n) (m:=m) (ρ:=ρ) B;exact⟨by simp only[SV.val,e,w],by simp only[SV.d,c,u],λq=>⟨h3 q.1,r q.2⟩⟩
  cases h
 |.ifc t x,y,h=>by
  simp only[SV.toC]at h;split at h
  ·rename_i F z;cases h;obtain⟨e,c,h3⟩:=qIk (n:=n) (m:=m) (ρ:=ρ) z;exact⟨by simp only[SV.val,e],by simp only[SV.d,c],h3⟩
  cases h
theorem mX{bm:List Nat}{n m:Nat}{ρ:Nat->D}:∀{xs ys:List SV},SV.toCs bm xs=some ys->SV.vals ve (fF lb bm) ys=SV.vals ve lb xs/\SV.ds ρ ys=SV.ds ρ xs/\(SV.bds n m xs->SV.bds n bm.length ys)
 | [],ys,h=>by simp only[SV.toCs,oI]at h;subst h;exact⟨rfl,rfl,λh=>h⟩
 |x::xs,ys,h=>by
  simp only[SV.toCs]at h;split at h
  ·rename_i y l i j;cases h;obtain⟨r,p,h3⟩:=qIk (n:=n) (m:=m) (ρ:=ρ) i;obtain⟨e,c,b⟩:=mX (n:=n) (m:=m) (ρ:=ρ) j;exact⟨by simp only[SV.vals,r,e],by simp only[SV.ds,p,c],λq=>⟨h3 q.1,b q.2⟩⟩
  cases h
end
theorem qE5{bm:List Nat}{x y:Blk}(h:x.toC bm=some y):x.isL=false/\y.isL=false:=by
 cases x with
 |loop _ _=>cases h
 |tcells _ _=>cases h
 |cells xs=>
  simp only[Blk.toC]at h;split at h
  ·cases h;exact⟨rfl,rfl⟩
  cases h
 |whole x k=>
  simp only[Blk.toC]at h;split at h
  ·cases h;exact⟨rfl,rfl⟩
  cases h
theorem qR7{bm:List Nat}{n m:Nat}{ρ:Nat->D}{x y:Blk}(h:x.toC bm=some y):(∀cs,jO ρ ve lb cs x->jO ρ ve (fF lb bm) cs y)/\(x.bd n m->y.bd n bm.length):=by
 cases x with
 |cells xs=>
  simp only[Blk.toC]at h;split at h
  ·rename_i l c;cases h;obtain⟨e,i,h3⟩:=mX (ve:=ve) (lb:=lb) (n:=n) (m:=m) (ρ:=ρ) c;exact⟨λcs b=>by simp only[jO]at b ⊢;rw[e];exact b,h3⟩
  cases h
 |loop _ _=>cases h
 |tcells _ _=>cases h
 |whole x k=>
  simp only[Blk.toC]at h;split at h
  ·rename_i l c;cases h;obtain⟨e,i,h3⟩:=qIk (ve:=ve) (lb:=lb) (n:=n) (m:=m) (ρ:=ρ) c;exact⟨λcs b=>by simp only[jO]at b ⊢;rw[e,i];exact b,h3⟩
  cases h
theorem qDm{bm:List Nat}:∀{l:List Nat} {e:List (Option Blk)},eM S bm l=some e->e.length=l.length/\(∀b∈l,S.live b)/\∀(k:Nat) (y:Blk),e[k]? = some (some y)->∃(b:Nat) (x:Blk),l[k]? = some b/\S.blks[b]? = some (some x)/\x.toC bm=some y
 | [],e,h=>by simp only[eM,oI]at h;subst h;exact⟨rfl,λ_ h=>(by cases h),λk y h=>by simp at h⟩
 | b::r,e,h=>by
  simp only[eM]at h;split at h
  ·rename_i x l j p;split at h
   ·rename_i y u;cases h;obtain⟨t,q,h3⟩:=qDm p;refine⟨by simp[t],?_,?_⟩
    ·intro c i;rcases List.mem_cons.1 i with rfl|i
     ·exact⟨x,j⟩
     exact q c i
    grind
   cases h
  cases h
theorem fD:∀{l:List Nat},dX l=true->∀(i j a:Nat),l[i]? = some a->l[j]? = some a->i=j
 | [],_,i,j,a,x,_=>by simp at x
 | b::r,h,i,j,a,x,y=>by
  simp only[dX,aE,Bool.not_eq_true']at h;have e:∀k:Nat,r[k]? = some b->False:=λk p=>by have:=List.mem_of_getElem? p;have c:=h.1;rw[List.any_eq_false]at c;exact c b this (Nat.beq_refl b)
  cases i with
  |zero=>grind
  |succ i=>cases j with
   |zero=>simp at y;subst y;exact absurd (by simpa using x) (e i)
   |succ j=>exact congrArg (·+ 1) (fD h.2 i j a (by simpa using x) (by simpa using y))
theorem rI{l:List Value}{t:Nat}:(T.ofList .leaf 0 l).get t=l[t]? :=by
 rw[gP];split
 ·rfl
 rename_i h;simp only[T.get];grind
theorem dW{l:List SV}{t:Nat}:(T.ofList .leaf 0 l).get t=l[t]? :=by
 rw[gP];split
 ·rfl
 rename_i h;simp only[T.get];grind
theorem SR.forC(h:SR E n0 H0 g0 S ρ ve lb g fr H){bm:List Nat}{l u:List SV}{C:List (Option Blk)}(hl:SV.bds S.n S.blks.length l)(K:SV.toCs bm l=some u)(L:eM S bm bm=some C)(J:dX bm=true):SR E {n0 with F:=[],frs:=[],rd:=false} H0 g0 (S.forC u C) ρ ve (fF lb bm) g ⟨u.length,false,T.ofList .leaf 0 (SV.vals ve lb l)⟩ H:=by
 obtain⟨P,b2,O⟩:=qDm L;have j:∀k,(S.forC u C).live k->∃b:Nat,bm[k]? = some b/\S.live b/\fF lb bm k=lb b:=by intro k ⟨y,I⟩;obtain⟨b,x,G,r,_⟩:=O k y I;exact⟨b,G,⟨x,r⟩,by simp only[fF,List.getD_eq_getElem?_getD,G,Option.getD_some]⟩
 obtain⟨R,_,v3⟩:=mX (ve:=ve) (lb:=lb) (n:=S.n) (m:=S.blks.length) (ρ:=getD ρ) K;refine {len:=h.len,wf:=h.wf,mem:=h.mem,base:=h.base,fix:=⟨Nat.zero_le _,λk a A=>by simp at A⟩,vars:=?_,blks:=?_,sepLG:=?_,sepFG:=h.sepFG,sepL:=?_,sepF:=h.sepF,sepX:=?_,sz:=rfl,rd:=rfl,slots:=?_,sav:=.nil,keep:=h.keep,gk:=h.gk,low:=h.low,tab:=h.tab}
 ·intro i s hs;have:=h.vars i s hs;obtain⟨k,oo⟩:=s;refine⟨this.1,?_⟩;have N:=this.2;cases k<;>try exact N
  rcases N with q|⟨B,l,cs,vs,el,rt,sz,es,q⟩|⟨B,es,ck,rt,ks,dd,q⟩
  ·exact .inl q
  ·exact .inr (.inl ⟨B,l,cs,vs,el,rt,sz,es,{q with rt:=q.rt}⟩)
  exact .inr (.inr ⟨B,es,ck,rt,ks,dd,{q with rt:=q.rt}⟩)
 ·intro k y I;obtain⟨b,x,G,r,p⟩:=O k y I;obtain⟨Z,q0⟩:=h.blks b x r;obtain⟨el,rt,cs,X,W,V⟩:=q0.cells (qE5 p).1;obtain⟨U,t2⟩:=qR7 (ve:=ve) (lb:=lb) (n:=S.n) (m:=S.blks.length) (ρ:=getD ρ) p;have z:fF lb bm k=lb b:=by simp only[fF,List.getD_eq_getElem?_getD,G,Option.getD_some]
  refine⟨?_,.ofCells (qE5 p).2 ⟨el,rt,cs,by rw[z];exact X,by rw[z];exact W,U cs V⟩⟩;have:=t2 Z;show y.bd S.n C.length;rw[P];exact this
 ·intro k A;obtain⟨b,_,r,p⟩:=j k A;rw[p];exact h.sepLG b r
 ·intro a b ha hb e;obtain⟨c,c1,c2,c3⟩:=j a ha;obtain⟨d,d1,d2,d3⟩:=j b hb;rw[c3,d3]at e;have:=h.sepL c d c2 d2 e;subst this;exact fD J a b c c1 d1
 ·intro k i A hi;obtain⟨b,_,r,p⟩:=j k A;rw[p];exact h.sepX b i r hi
 intro t x w;have w:(T.ofList .leaf 0 u).get t=some x:=w;rw[dW]at w;refine⟨?_,?_⟩
 ·have hm:=List.mem_of_getElem? w;have:=v3 hl;rw[SV.bds_iff]at this;show x.bd S.n C.length;rw[P];exact this x hm
 show(T.ofList .leaf 0 (SV.vals ve lb l)).get t=_;rw[rI,←R,SV.vals_map,List.getElem?_map,w];rfl
theorem SM.relim(h:SM n0 S ρ ve lb g H)(L:Lim)(j:L.n=n0.n)(G:∀b,L.K b->b<H.next)(p:∀b,S.live b->¬L.K (lb b))(c:∀i B,S.freshV i=true->vR (ve i)=some B->¬L.K B)(I:L.F.length<=S.blks.length/\∀k a,L.F[k]? = some a->lb k=a)(y:∀(b:Nat) (x:Blk),S.blks[b]? = some (some x)->x.isL=false):SM L S ρ ve lb g H:=by
 refine {len:=h.len,wf:=h.wf,mem:=h.mem,base:=⟨by rw[j];exact h.base.1,G⟩,fix:=I,vars:=?_,blks:=?_,sepLG:=h.sepLG,sepFG:=h.sepFG,sepL:=h.sepL,sepF:=h.sepF,sepX:=h.sepX}
 ·intro i s hs;have:=h.vars i s hs;obtain⟨k,r⟩:=s;refine⟨this.1,?_⟩;have t:=this.2;cases k<;>try exact t
  rcases t with q|⟨B,l,cs,vs,el,rt,sz,es,q⟩|⟨B,es,ck,rt,F,J,q⟩
  ·exact .inl q
  ·refine .inr (.inl ⟨B,l,cs,vs,el,rt,sz,es,{q with rt:=⟨by rw[j];exact q.rt.1,c i B (zC.2 ⟨r,hs⟩) ?_⟩}⟩);rw[q.v];simp[vR]
  exact .inr (.inr ⟨B,es,ck,rt,F,J,{q with rt:=⟨by rw[j];exact q.rt.1,c i B (zC.2 ⟨r,hs⟩) q.own⟩}⟩)
 intro b x e;obtain⟨A,C⟩:=h.blks b x e;obtain⟨el,rt,cs,z,w,u⟩:=C.cells (y b x e);exact⟨A,.ofCells (y b x e) ⟨el,rt,cs,z,⟨by rw[j];exact w.1,p b ⟨x,e⟩⟩,u⟩⟩
theorem qJr{p:Pat}{sz:Nat}{az:List SV}(h:SM n0 S ρ ve lb g H)(e:cZ sz p az S=true){i B b:Nat}(r:(p.st b).freshV i=true)(y:vR (oY ve lb az i)=some B):∃j,az[i]? = some (.v j)/\S.freshV j=true/\vR (ve j)=some B:=by
 unfold cZ at e;simp only[aE]at e;obtain⟨⟨⟨_,c5⟩,_⟩,_⟩:=e;obtain⟨o,hs⟩:=zC.1 r;obtain⟨x,l,_,q⟩:=l9 c5 hs;simp only at q;simp only[oY,l]at y;rcases aD q with(rfl|⟨j,t,rfl,c⟩)|⟨j,rfl,c⟩
 ·simp[SV.val,vR]at y
 ·have y:vR (ve j)=some B:=y;rw[qGa.own (h.vars j _ c).2]at y;cases y
 exact⟨j,l,c,y⟩
theorem qMs{p:Pat}{sz:Nat}{az:List SV}(c:cZ sz p az S=true){b h:Nat}(l:(p.st h).live b):S.live b:=by
 unfold cZ at c;simp only[aE]at c;obtain⟨⟨⟨⟨_,q⟩,_⟩,_⟩,_⟩:=c;obtain⟨x,i⟩:=l;obtain⟨y,e,j⟩:=mG q i;cases y with
 |none=>cases x<;>cases j
 |some y=>exact⟨y,e⟩
theorem qMr{p:Pat}{sz:Nat}{az:List SV}(i:cZ sz p az S=true){b e:Nat}{x:Blk}(l:(p.st e).blks[b]? = some (some x))(j:x.isL=true):∃y:Blk,S.blks[b]? = some (some y)/\y.isL=true:=by
 unfold cZ at i;simp only[aE]at i;obtain⟨⟨⟨⟨_,q⟩,_⟩,_⟩,_⟩:=i;obtain⟨y,c,h⟩:=mG q l;cases x with
 |cells _=>cases j
 |whole _ _=>cases j
 | loop _ _=>cases y with
  |none=>cases h
  |some y=>cases y with
   |loop _ _=>exact⟨_,c,rfl⟩
   |tcells _ _=>exact⟨_,c,rfl⟩
   |cells _=>cases h
   |whole _ _=>cases h
 | tcells _ _=>cases y with
  |none=>cases h
  |some y=>cases y with
   |loop _ _=>exact⟨_,c,rfl⟩
   |tcells _ _=>exact⟨_,c,rfl⟩
   |cells _=>cases h
   |whole _ _=>cases h
theorem qHL{p:Pat}{sz:Nat}{az:List SV}(h:cZ sz p az S=true)(x:S.sav=[]):p.sav=[]:=by
 unfold cZ at h;simp only[aE]at h;have:=h.2;rw[x]at this;cases y:p.sav with
 |nil=>rfl
 |cons a l=>rw[y]at this;cases this
theorem qL1:∀(l:List VSt) (x:SV),(bM l x).length=l.length:=by intro l x;cases x<;>first|rfl|simp[bM]
theorem yN:∀(az:List SV) (l:List VSt),(az.foldl bM l).length=l.length
 | [],_=>rfl
 |a::az,l=>by rw[List.foldl_cons,yN az,qL1]
theorem qCt:∀(az:List SV) (l:List VSt) {i:Nat} {s:VSt},(az.foldl bM l)[i]? = some s->∃x,l[i]? = some x/\((s=x/\(s.k=.fresh->SV.v i∉az))∨(s=⟨.dead,x.one⟩))
 | [],l,i,s,h=>⟨s,h,.inl ⟨rfl,λ_ h=>by cases h⟩⟩
 | a::az,l,i,s,h=>by
  obtain⟨b,y,t⟩:=qCt az (bM l a) h;have p:∃x,l[i]? = some x/\((b=x/\(b.k=.fresh->SV.v i≠a))∨b=⟨.dead,x.one⟩):=by
   cases a with
   | v j=>
    simp only[bM,List.getElem?_modify]at y;cases c:l[i]? with
    |none=>rw[c]at y;simp at y
    |some x=>
     rw[c]at y;refine⟨x,rfl,?_⟩;change some _=some _ at y;injection y with y;simp only at y;by_cases e:j=i
     ·rw[if_pos e]at y;obtain⟨r,q⟩:=x;grind
     grind
   |_=>exact⟨b,y,.inl ⟨rfl,λ_ he=>by cases he⟩⟩
  grind
theorem eY{n:Nat}{bm:List Nat}:∀(l:List Nat) (xs B:List (Option Blk)),(sP n bm l xs B).length=B.length
 | [],_,_=>by simp[sP]
 |b::h,[],B=>(eY h [] _).trans (List.length_set ..)
 |b::h,x::xs,B=>(eY h xs _).trans (List.length_set ..)
theorem qBW{n:Nat}{bm:List Nat}:∀(l:List Nat) (xs B:List (Option Blk)) {c:Nat} {y:Blk},(sP n bm l xs B)[c]? = some (some y)->(c∉l/\B[c]? = some (some y))∨∃(k:Nat) (x:Blk),l[k]? = some c/\xs[k]? = some (some x)/\y=x.ofC n bm
 | [],_,B,c,y,h=>.inl ⟨λh=>(by cases h),by simpa[sP]using h⟩
 |b::j,[],B,c,y,h=>by have h:(sP n bm j [] (B.set b none))[c]? = some (some y):=h;rcases qBW j [] _ h with⟨p,i⟩|⟨k,x,p,i,_⟩;all_goals grind
 | b::j,x::xs,B,c,y,h=>by
  have h:(sP n bm j xs (B.set b (x.map (Blk.ofC n bm))))[c]? = some (some y):=h;rcases qBW j xs _ h with⟨p,i⟩|⟨k,q,p,i,h3⟩
  ·rw[List.getElem?_set]at i;split at i
   ·rename_i e;subst e;split at i
    ·cases x with
     |none=>cases i
     |some x=>exact .inr ⟨0,x,rfl,rfl,by simpa using i.symm⟩
    cases i
   grind
  exact .inr ⟨k+1,q,by simpa using p,by simpa using i,h3⟩
section
variable{n k M:Nat}{bm:List Nat}{ve3 ve2:Nat->Value}{ρ3 ρ2:Nat->D}
mutual
theorem qAb(hv:∀i,ve3 (n+i)=ve2 i)(hd:∀i,ρ3 (n+i)=ρ2 i)(y:∀j,j<bm.length->bm.getD j 0<M):∀{x:SV},(x.ofC n bm).val ve3 lb=x.val ve2 (fF lb bm)/\(x.ofC n bm).d ρ3=x.d ρ2/\(x.bd k bm.length->(x.ofC n bm).bd (n+k) M)
 |.v i=>⟨hv i,hd i,λh=>Nat.add_lt_add_left h n⟩
 |.c _=>⟨rfl,rfl,λh=>h⟩
 |.loc b o=>⟨rfl,rfl,λh=>y b h⟩
 |.ptr s i _ _=>by obtain⟨a1,a2,a3⟩:=qAb hv hd y (x:=s);obtain⟨e,l,c⟩:=qAb hv hd y (x:=i);exact⟨by simp only[SV.ofC,SV.val,a1,e],rfl,λh=>⟨a3 h.1,c h.2⟩⟩
 |.pp i o=>⟨by simp only[SV.ofC,SV.val];rw[show Nat.add n i=n+i from rfl,hv i],by simp only[SV.ofC,SV.d];rw[show Nat.add n i=n+i from rfl,hd i],λh=>Nat.add_lt_add_left h n⟩
 |.agg cs=>by obtain⟨a1,a2,a3⟩:=lE hv hd y (xs:=cs);exact⟨by simp only[SV.ofC,SV.val,a1],by simp only[SV.ofC,SV.d,a2],a3⟩
 |.tup cs=>by obtain⟨a1,a2,a3⟩:=lE hv hd y (xs:=cs);exact⟨by simp only[SV.ofC,SV.val,a1],by simp only[SV.ofC,SV.d,a2],a3⟩
 |.fn f a b=>by obtain⟨a1,a2,a3⟩:=lE hv hd y (xs:=a);obtain⟨e,l,c⟩:=lE hv hd y (xs:=b);exact⟨by simp only[SV.ofC,SV.val,a1,e],by simp only[SV.ofC,SV.d,a2,l],λh=>⟨a3 h.1,c h.2⟩⟩
 |.ifc t x=>by obtain⟨a1,a2,a3⟩:=qAb hv hd y (x:=x);exact⟨by simp only[SV.ofC,SV.val,a1],by simp only[SV.ofC,SV.d,a2],a3⟩
 |.yld b=>⟨rfl,rfl,λh=>y b h⟩
theorem lE(hv:∀i,ve3 (n+i)=ve2 i)(hd:∀i,ρ3 (n+i)=ρ2 i)(y:∀j,j<bm.length->bm.getD j 0<M):∀{xs:List SV},SV.vals ve3 lb (SV.ofCs n bm xs)=SV.vals ve2 (fF lb bm) xs/\SV.ds ρ3 (SV.ofCs n bm xs)=SV.ds ρ2 xs/\(SV.bds k bm.length xs->SV.bds (n+k) M (SV.ofCs n bm xs))
 | []=>⟨rfl,rfl,λh=>h⟩
 |x::xs=>by obtain⟨a1,a2,a3⟩:=qAb hv hd y (x:=x);obtain⟨e,c,b⟩:=lE hv hd y (xs:=xs);exact⟨by simp only[SV.ofCs,SV.vals,a1,e],by simp only[SV.ofCs,SV.ds,a2,c],λh=>⟨a3 h.1,b h.2⟩⟩
end
theorem qR8(hv:∀i,ve3 (n+i)=ve2 i)(hd:∀i,ρ3 (n+i)=ρ2 i)(y:∀j,j<bm.length->bm.getD j 0<M){x:Blk}:(∀cs,jO ρ2 ve2 (fF lb bm) cs x->jO ρ3 ve3 lb cs (x.ofC n bm))/\(x.bd k bm.length->(x.ofC n bm).bd (n+k) M):=by
 cases x with
 |cells xs=>obtain⟨a1,a2,a3⟩:=lE (lb:=lb) (k:=k) hv hd y (xs:=xs);exact⟨λcs h=>by simp only[Blk.ofC,jO]at h ⊢;rw[a1];exact h,a3⟩
 |loop _ _=>exact⟨λcs h=>h,λh=>h⟩
 |tcells t xs=>obtain⟨a1,a2,a3⟩:=lE (lb:=lb) (k:=k) hv hd y (xs:=xs);exact⟨λcs h=>by simp only[Blk.ofC,jO]at h ⊢;rw[a1];exact h,a3⟩
 |whole x q=>obtain⟨a1,a2,a3⟩:=qAb (lb:=lb) (k:=k) hv hd y (x:=x);exact⟨λcs h=>by simp only[Blk.ofC,jO]at h ⊢;rw[a1,a2];exact h,a3⟩
end
theorem SM.quiet(h:SM n0 S ρ ve lb g H)(p:∀i,S.freshV i=false)(q:S.blks=[])(L:Lim)(hL:L.base H.next)(c:L.F=[]):SM L S ρ ve lb g H:=by
 have y:∀(b:Nat) (x:Blk),S.blks[b]? ≠ some (some x):=λb x e=>by rw[q]at e;simp at e
 refine {len:=h.len,wf:=h.wf,mem:=h.mem,base:=hL,fix:=⟨by rw[c];exact Nat.zero_le _,λk a e=>by rw[c]at e;simp at e⟩,vars:=?_,blks:=λb x e=>absurd e (y b x),sepLG:=h.sepLG,sepFG:=h.sepFG,sepL:=h.sepL,sepF:=h.sepF,sepX:=h.sepX};intro i s hs;have j:=h.vars i s hs;obtain⟨k,l⟩:=s;refine⟨j.1,?_⟩;have r:=j.2;cases k<;>try exact r
 have:=p i;rw[zC.2 ⟨l,hs⟩]at this;cases this
theorem SM.weaken{n:Nat}(h:SM n0 S ρ ve lb g H)(c:n<=n0.n)(y:∀(b:Nat) (x:Blk),S.blks[b]? = some (some x)->x.isL=false):SM {n0 with n:=n} S ρ ve lb g H:=by
 refine {len:=h.len,wf:=h.wf,mem:=h.mem,base:=⟨lT c h.base.1,h.base.2⟩,fix:=h.fix,vars:=?_,blks:=?_,sepLG:=h.sepLG,sepFG:=h.sepFG,sepL:=h.sepL,sepF:=h.sepF,sepX:=h.sepX}
 ·intro i s C;have r:=h.vars i s C;obtain⟨k,G⟩:=s;refine⟨r.1,?_⟩;have p:=r.2;cases k<;>try exact p
  rcases p with q|⟨B,l,cs,vs,el,rt,sz,es,q⟩|⟨B,es,ck,rt,A,F,q⟩
  ·exact .inl q
  ·exact .inr (.inl ⟨B,l,cs,vs,el,rt,sz,es,{q with rt:=⟨lT c q.rt.1,q.rt.2⟩}⟩)
  exact .inr (.inr ⟨B,es,ck,rt,A,F,{q with rt:=⟨lT c q.rt.1,q.rt.2⟩}⟩)
 intro b x e;obtain⟨w,z⟩:=h.blks b x e;obtain⟨el,rt,cs,u,j,t⟩:=z.cells (y b x e);exact⟨w,.ofCells (y b x e) ⟨el,rt,cs,u,⟨lT c j.1,j.2⟩,t⟩⟩
end
end Go.Am
namespace Go.Am
open Go
theorem mO.of_call{E:Env}{fr:Fr}{o:Oper}{H H':AH}{f:FuncId}{args:List Value}{v:Value}(x:vT E fr o H=some (.enter f args,H))(b:vU E f args H v H')(h:H.next<H'.next):mO E fr o H v H':=by
 refine⟨Nat.le_of_lt h,[{f:=f,args:=args,H:=H,v:=v,H':=H'}],⟨⟨h,b⟩,lR _,trivial⟩,λa x=>?_,λih y=>?_⟩
 ·grind
 have:=y _ (List.mem_singleton.2 rfl);simp only[jL.cmd]at this;simp only[vL,x];rw[this]
section
variable{E:Env}{n0:Lim}{H0:AH}{g0:zB}{S:St}{ρ:List D}{ve:Nat->Value}{lb:Nat->Nat}{g:zB}{fr:Fr}{H:AH}{Q:Res1->Prop}{o:Oper}{κ:K1}{wm:Bool}
theorem SR.after(h:SR E n0 H0 g0 S ρ ve lb g fr H){m:Mode}{bm:List Nat}{az:List SV}(hnd:dX bm=true)(O:∀b∈bm,S.live b){L:Lim}{H':AH}{g':zB}{ve2:Nat->Value}{ds:List D}(hLn:L.n=n0.n)(Z:∀b,L.K b↔b<H.next/\(∀c∈bm,lb c≠b)/\(∀i,SV.v i∈az->S.freshV i=true->vR (ve i)≠some b))(hLF:L.F=[])(w:SM L (m.out.st 0) ds ve2 (fF lb bm) g' H')(P:∀b,L.K b->H'.blocks.get b=H.blocks.get b)(W:∀b,L.K b->g' b=g b)(hlow:Nat.min H.low L.n<=H'.low)(hnx:H.next<H'.next)(hln:m.out.blks.length<=bm.length)(hnl:m.out.blks.all fE=true):SR E n0 H0 g0 (S.after m bm az) (ρ++ds) (λi=>if i<S.n then ve i else ve2 (i-S.n)) lb g' fr H':=by
 have hlen:ρ.length=S.n:=h.len;have hds:ds.length=m.out.sts.length:=w.len;have hn:(S.after m bm az).n=S.n+m.out.sts.length:=by show(az.foldl bM S.sts++m.out.sts).length=_;rw[List.length_append,yN];rfl
 have X:(S.after m bm az).blks.length=S.blks.length:=eY _ _ _;have e1:∀i,i<S.n->(λi=>if i<S.n then ve i else ve2 (i-S.n)) i=ve i:=λi r=>if_pos r;have e2:∀i,(λi=>if i<S.n then ve i else ve2 (i-S.n)) (S.n+i)=ve2 i:=λi=>by grind
 have d1:∀i,i<S.n->getD (ρ++ds) i=getD ρ i:=λi r=>by simp only[getD,List.getD_eq_getElem?_getD];grind
 have d2:∀i,getD (ρ++ds) (S.n+i)=getD ds i:=λi=>by simp only[getD,List.getD_eq_getElem?_getD];grind
 have hM:∀j,j<bm.length->bm.getD j 0<S.blks.length:=λj hj=>by
  have:bm.getD j 0=bm[j]:=by simp[List.getD_eq_getElem?_getD,List.getElem?_eq_getElem hj]
  rw[this];exact qBn (O _ (List.getElem_mem hj))
 have Ksub:∀b,n0.K b->L.K b:=λb z=>(Z b).2 ⟨h.base.2 b z,λc V e=>(xL h.toSM (O c V)).2 (by rw[e];exact z),λi _ r e=>by
  obtain⟨oo,hs⟩:=zC.1 r;rcases(h.vars i _ hs).2 with q|⟨B,l,cs,vs,el,rt,sz,es,q⟩|⟨B,es,ck,rt,ks,dd,q⟩
  ·rw[q.own]at e;cases e
  rotate_left
  ·rw[q.own]at e;cases e;exact q.rt.2 z
  ·rw[q.v]at e;simp only[vR,lR,if_true,oI]at e;subst e;exact q.rt.2 z⟩
 have I:∀b rt,L.own b rt->n0.own b rt:=λb rt q=>⟨by rw[←hLn];exact q.1,λz=>q.2 (Ksub b z)⟩;have hle:zB.le g g':=λb k z=>by have hbn:=qOC h.toSM z;have:L.K b:=(Z b).2 ⟨hbn,λc V e=>(by rw[←e,h.sepLG c (O c V)]at z;cases z),λi _ r e=>(by rw[h.sepFG i b r e]at z;cases z)⟩;rw[W b this];exact z
 have F:∀i,(S.after m bm az).freshV i=true->i<S.n->S.freshV i=true/\SV.v i∉az:=by
  intro i r A;obtain⟨oo,hs⟩:=zC.1 r;have hs:(az.foldl bM S.sts++m.out.sts)[i]? = some ⟨.fresh,oo⟩:=hs;rw[List.getElem?_append_left (by rw[yN];exact A)]at hs;obtain⟨s0,k1,U⟩:=qCt az S.sts hs;rcases U with⟨rfl,U⟩|U
  ·exact⟨zC.2 ⟨oo,k1⟩,U rfl⟩
  ·cases U
 have G:∀i,(S.after m bm az).freshV i=true->¬i<S.n->(m.out.st 0).freshV (i-S.n)=true:=by intro i r A;obtain⟨oo,hs⟩:=zC.1 r;have hs:(az.foldl bM S.sts++m.out.sts)[i]? = some ⟨.fresh,oo⟩:=hs;rw[List.getElem?_append_right (by rw[yN];exact Nat.le_of_not_lt A),yN]at hs;exact zC.2 ⟨oo,hs⟩
 have R:∀i B,S.freshV i=true->SV.v i∉az->vR (ve i)=some B->L.K B:=by intro i B r hm J;refine(Z B).2 ⟨(oM h.toSM r J).1,λc V e=>h.sepX c i (O c V) r (by rw[e];exact J),λj hj hfj e=>?_⟩;have:=h.sepF i j B r hfj J e;subst this;exact hm hj
 have N:∀b,S.live b->b∉bm->L.K (lb b):=by intro b z hm;refine(Z _).2 ⟨(xL h.toSM z).1,λc V e=>?_,λi _ r=>h.sepX b i z r⟩;have:=h.sepL c b (O c V) z e;subst this;exact hm V
 have K:∀i B,(m.out.st 0).freshV i=true->vR (ve2 i)=some B->¬L.K B:=by
  intro i B r J;obtain⟨oo,hs⟩:=zC.1 r;rcases(w.vars i _ hs).2 with q|⟨B',l,cs,vs,el,rt,sz,es,q⟩|⟨B',es,ck,rt,ks,dd,q⟩
  ·rw[q.own]at J;cases J
  rotate_left
  ·rw[q.own]at J;cases J;exact q.rt.2
  ·rw[q.v]at J;simp only[vR,lR,if_true,oI]at J;subst J;exact q.rt.2
 have blk:∀c y,(S.after m bm az).blks[c]? = some (some y)->(c∉bm/\S.blks[c]? = some (some y))∨∃(k:Nat) (x:Blk),bm[k]? = some c/\(m.out.st 0).blks[k]? = some (some x)/\y=x.ofC S.n bm:=λc y hy=>qBW _ _ _ hy;have lbk:∀{k c:Nat},bm[k]? = some c->fF lb bm k=lb c:=λ{k c} hk=>by simp only[fF,List.getD_eq_getElem?_getD,hk,Option.getD_some]
 have lv:∀c,(S.after m bm az).live c->(c∉bm/\S.live c)∨∃k,bm[k]? = some c/\(m.out.st 0).live k:=by
  intro c ⟨y,hy⟩;rcases blk c y hy with⟨C,u⟩|⟨k,x,C,u,_⟩
  ·exact .inl ⟨C,y,u⟩
  ·exact .inr ⟨k,C,x,u⟩
 have lv0:∀c,(S.after m bm az).live c->S.live c:=by
  intro c V;rcases lv c V with⟨_,u⟩|⟨k,C,_⟩
  ·exact u
  ·exact O c (List.mem_of_getElem? C)
 refine { len:=?_,wf:=w.wf,mem:=w.mem,base:=h.base.mono (Nat.le_of_lt hnx),fix:=⟨by rw[X];exact h.fix.1,h.fix.2⟩,vars:=?_,blks:=?_,sepLG:=?_,sepFG:=?_,sepL:=λa b ha z=>h.sepL a b (lv0 a ha) (lv0 b z),sepF:=?_,sepX:=?_,
          sz:=h.sz,rd:=h.rd,slots:=?_,sav:=h.sav.congr (by rw[hn];omega) (by rw[X];exact lR _) e1 (λ_ _=>rfl),keep:=λb z=>by rw[P b (Ksub b z)];exact h.keep b z,gk:=λb z=>by rw[W b (Ksub b z)];exact h.gk b z,low:=?_,tab:=λp hp=>by have q:=h.tab p hp;rw[W p.1 ((Z p.1).2 ⟨qOC h.toSM q,λc V e=>(by rw[←e,h.sepLG c (O c V)]at q;cases q),λi _ r e=>(by rw[h.sepFG i p.1 r e]at q;cases q)⟩)];exact q}
 ·show(ρ++ds).length=(az.foldl bM S.sts++m.out.sts).length;rw[List.length_append,List.length_append,yN,hds,hlen];rfl
 ·intro i s hs;have hs:(az.foldl bM S.sts++m.out.sts)[i]? = some s:=hs;by_cases r:i<S.n
  ·rw[List.getElem?_append_left (by rw[yN];exact r)]at hs;obtain⟨s0,k1,U⟩:=qCt az S.sts hs;simp only[if_pos r];rw[d1 i r];have hv:=h.vars i s0 k1;rcases U with⟨rfl,U⟩|U
   ·refine hv.mono hle λhk B J=>P B ?_;obtain⟨k,oo⟩:=s;simp only at hk;subst hk;exact R i B (zC.2 ⟨oo,k1⟩) (U rfl) J
   ·subst U;exact⟨hv.1,trivial⟩
  ·rw[List.getElem?_append_right (by rw[yN];exact Nat.le_of_not_lt r),yN]at hs;have hv:=w.vars (i-S.n) s hs;simp only[if_neg r];have hd:=d2 (i-S.n);rw[show S.n+(i-S.n)=i by omega]at hd;rw[hd];obtain⟨k,oo⟩:=s;refine⟨hv.1,?_⟩;have u:=hv.2;cases k<;>try exact u
   rcases u with q|⟨B,l,cs,vs,el,rt,sz,es,q⟩|⟨B,es,ck,rt,ks,dd,q⟩
   ·exact .inl q
   ·exact .inr (.inl ⟨B,l,cs,vs,el,rt,sz,es,{q with rt:=I _ _ q.rt}⟩)
   ·exact .inr (.inr ⟨B,es,ck,rt,ks,dd,{q with rt:=I _ _ q.rt}⟩)
 ·intro c y hy;rcases blk c y hy with⟨C,u⟩|⟨k,x,C,u,rfl⟩
  ·obtain⟨q1,q2⟩:=h.blks c y u;exact⟨Blk.bd_mono (by rw[hn];omega) (by rw[X];exact lR _) q1,q2.congr (P _ (N c ⟨y,u⟩ C)) rfl λ_ q4=>q4.congr e1 (λ_ _=>rfl) d1 q1⟩
  ·obtain⟨q1,q0⟩:=w.blks k x u;have hxl:x.isL=false:=by
    rw[List.all_eq_true]at hnl;have:=hnl _ (List.mem_of_getElem? (show m.out.blks[k]? = some (some x)from u));cases x with
    |loop _ _=>cases this
    |tcells _ _=>cases this
    |cells _=>rfl
    |whole _ _=>rfl
   obtain⟨el,rt,cs,q2,q3,q4⟩:=q0.cells hxl;obtain⟨t1,t2⟩:=qR8 (lb:=lb) (k:=(m.out.st 0).n) (M:=S.blks.length) (ve3:=λi=>if i<S.n then ve i else ve2 (i-S.n)) (ve2:=ve2) (ρ3:=getD (ρ++ds)) (ρ2:=getD ds) e2 d2 hM (x:=x);have hk:fF lb bm k=lb c:=lbk C;rw[hk]at q2 q3;refine⟨?_,.ofCells (by cases x<;>first|rfl|cases hxl) ⟨el,rt,cs,q2,I _ _ q3,t1 cs q4⟩⟩;rw[hn,X];exact t2 (Blk.bd_mono (lR _) hln q1)
 ·intro b z;rcases lv b z with⟨C,u⟩|⟨k,C,u⟩
  ·rw[W _ (N b u C)];exact h.sepLG b u
  ·have:=w.sepLG k u;rw[lbk C]at this;exact this
 ·intro i B r J;by_cases A:i<S.n
  ·obtain⟨k1,U⟩:=F i r A;simp only[if_pos A]at J;rw[W _ (R i B k1 U J)];exact h.sepFG i B k1 J
  ·simp only[if_neg A]at J;exact w.sepFG _ B (G i r A) J
 ·intro i j B r hj C u;by_cases a1:i<S.n<;>by_cases a2:j<S.n
  ·simp only[if_pos a1]at C;simp only[if_pos a2]at u;exact h.sepF i j B (F i r a1).1 (F j hj a2).1 C u
  ·simp only[if_pos a1]at C;simp only[if_neg a2]at u;exact absurd (R i B (F i r a1).1 (F i r a1).2 C) (K _ B (G j hj a2) u)
  ·simp only[if_neg a1]at C;simp only[if_pos a2]at u;exact absurd (R j B (F j hj a2).1 (F j hj a2).2 u) (K _ B (G i r a1) C)
  ·simp only[if_neg a1]at C;simp only[if_neg a2]at u;have:=w.sepF _ _ B (G i r a1) (G j hj a2) C u;omega
 ·intro b i z r;by_cases A:i<S.n
  ·simp only[if_pos A];exact h.sepX b i (lv0 b z) (F i r A).1
  ·simp only[if_neg A];rcases lv b z with⟨C,u⟩|⟨k,C,u⟩
   ·intro e;exact K _ _ (G i r A) e (N b u C)
   ·have:=w.sepX k _ u (G i r A);rw[lbk C]at this;exact this
 ·intro t x hx;obtain⟨q1,q2⟩:=h.slots t x hx;exact⟨SV.bd_mono (by rw[hn];omega) (by rw[X];exact lR _) q1,by rw[q2,SV.val_congr e1 (λ_ _=>rfl) q1]⟩
 ·have C:=h.low;have u:Nat.min H.low n0.n<=H'.low:=by rw[←hLn];exact hlow
  exact lT (Nat.le_min.2 ⟨C,Nat.min_le_right _ _⟩) u
theorem qB4{a b:List D}(h:xN a=xN b)(c:a.length=b.length):a=b:=by
 match a,b,c with
 | [],[],_=>rfl
 | [x],[y],_=>exact congrArg (λz=>[z]) h
 |x::y::r,i::e::j,_=>injection h
theorem qNN(h:SR E n0 H0 g0 S ρ ve lb g fr H){f:FuncId}{l:List SV}(hl:SV.bds S.n S.blks.length l)(ha:(∃fn,E.funcs.get f=some fn)->vT E fr o H=some (.enter f (SV.vals ve lb l),H))(A:wp E (Holds E) Q (qJv E f l S κ) ρ):jS (!qFk E f l S) E (Holds E) Q n0 H0 g0 fr H o κ:=by
 unfold qJv at A;unfold qFk;simp only at A ⊢;generalize qF2 S 3 ((nD l).foldl qSi [])=bm at A ⊢;split at A;case h_2=>cases A
 rename_i fn I bs hfn V hbs;try simp only[hfn,V,hbs]
 generalize qI0 (S.forC I bs) (qFH E f) fn.resultTypes.size I bs=mi at A ⊢;obtain⟨m,az⟩:=mi;simp only at A;try simp only
 obtain⟨J,ex,X⟩:=xC (oL m.inp.sts az) h;generalize vM S (oL m.inp.sts az)=p at A ex X;obtain⟨hc,A⟩:=jC A;simp only[aE]at hc;obtain⟨⟨⟨⟨⟨⟨hnd,t⟩,C⟩,u⟩,hob⟩,U⟩,hnl⟩:=hc;have C:=vE C;have U:=o9 U;simp only[wp]at A;obtain⟨ds,hh,hdl,A⟩:=A;have hM:=qI4 hh;obtain⟨hfe,ds',hd',hdl',hM⟩:=hM;have hds:=qB4 hd' (by rw[hdl,hdl']);subst hds;have hl2:SV.bds p.n p.blks.length l:=ex.bds hl;have P:eM p bm bm=some bs:=by
  have:∀r,eM p bm r=eM S bm r:=by
   intro r;induction r with
   |nil=>rfl
   |cons b r ih=>simp only[eM,ex.blks,ih]
  rw[this];exact hbs
 obtain⟨b1,b2,b3⟩:=qDm P;have hC:=X.forC hl2 V P hnd;have w:=qKY hC t (Nat.zero_le _);have hvals:SV.vals ve lb l=SV.vals ve lb l:=rfl;have R:(SV.vals ve lb l).length=I.length:=by have:=(mX (ve:=ve) (lb:=lb) (n:=S.n) (m:=S.blks.length) (ρ:=getD ρ) V).1;rw[←this,SV.vals_map,List.length_map]
 let L:Lim:={n:=n0.n,K:=λb=>b<H.next/\(∀c∈bm,lb c≠b)/\(∀i,SV.v i∈az->p.freshV i=true->vR (ve i)≠some b),F:=(List.range m.inp.blks.length).map (fF lb bm)};have G:∀k,(m.inp.st I.length).live k->∃c:Nat,bm[k]? = some c:=by intro k hk;obtain⟨y,hy⟩:=qMs t hk;obtain⟨b,x,e1,_,_⟩:=b3 k y hy;exact⟨b,e1⟩
 have W:SM L (m.inp.st I.length) (SV.ds (getD ρ) az) (oY ve (fF lb bm) az) (fF lb bm) J H:=by
  refine w.toSM.relim L rfl (λb hb=>hb.1) ?_ ?_ ⟨?_,?_⟩ ?_
  ·intro k hk hK;obtain⟨c,hc⟩:=G k hk;refine hK.2.1 c (List.mem_of_getElem? hc) ?_;simp only[fF,List.getD_eq_getElem?_getD,hc,Option.getD_some]
  ·intro i B hi hB hK;obtain⟨j,j1,j2,j3⟩:=qJr (lb:=fF lb bm) hC.toSM t hi hB;exact hK.2.2 j (List.mem_of_getElem? j1) j2 j3
  ·show((List.range m.inp.blks.length).map (fF lb bm)).length<=m.inp.blks.length;simp
  ·grind
  intro b x hx;cases hxl:x.isL with
  |false=>rfl
  |true=>obtain⟨y,hy,hyl⟩:=qMr t hx hxl;obtain⟨_,z,_,_,hz⟩:=b3 b y hy;rw[(qE5 hz).2]at hyl;cases hyl
 have hSR:SR E L H J (m.inp.st m.n) (SV.ds (getD ρ) az) (oY ve (fF lb bm) az) (fF lb bm) J ⟨m.n,false,T.ofList .leaf 0 (SV.vals ve lb l)⟩ H:=by rw[C];exact {W with tab:=w.tab,sz:=w.sz,rd:=w.rd,slots:=w.slots,sav:=by rw[show(m.inp.st I.length).sav=[]from qHL t rfl];exact .nil,keep:=λ_ _=>rfl,gk:=λ_ _=>rfl,low:=Nat.min_le_left _ _}
 have key:∃v H' g' ve2,vU E f (SV.vals ve lb l) H v H'/\H.next<H'.next/\SM {L with F:=[]} (m.out.st 0) ds ve2 (fF lb bm) g' H'/\(∀b,L.K b->H'.blocks.get b=H.blocks.get b)/\(∀b,L.K b->g' b=J b)/\Nat.min H.low L.n<=H'.low/\v=qIv m ve2 (fF lb bm)/\
   ((bm.isEmpty&&(m.inp.sts.all qUD&&m.inp.blks.isEmpty))=true->Nat.min H.low H.next<=H'.low):=by
  cases hq:(bm.isEmpty&&(m.inp.sts.all qUD&&m.inp.blks.isEmpty))with
  |false=>
   obtain⟨v,H',g',ve2,c1,c2,c3,c4,c5,Z,c7⟩:=hM L H J _ _ _ hSR (by rw[R,C]) rfl
   exact⟨v,H',g',ve2,c1,c2,c3,c4,c5,Z,c7,λe=>by cases e⟩
  | true=>
   simp only[aE,List.isEmpty_iff]at hq
   obtain⟨_,q2,q3⟩:=hq
   have hF:L.F=[]:=by show(List.range m.inp.blks.length).map _=[];rw[q3];rfl
   have hSM1:SM {L with n:=H.next} (m.inp.st I.length) (SV.ds (getD ρ) az) (oY ve (fF lb bm) az) (fF lb bm) J H:=by
    refine W.quiet (λi=>?_) q3 _ ⟨lR _,W.base.2⟩ hF
    cases hfi:(m.inp.st I.length).freshV i with
    |false=>rfl
    |true=>
     obtain⟨oo,hs⟩:=zC.1 hfi
     rw[List.all_eq_true]at q2
     have:=q2 _ (List.mem_of_getElem? hs)
     cases this
   have hSR1:SR E {L with n:=H.next} H J (m.inp.st m.n) (SV.ds (getD ρ) az) (oY ve (fF lb bm) az) (fF lb bm) J ⟨m.n,false,T.ofList .leaf 0 (SV.vals ve lb l)⟩ H:=by
    rw[C]
    exact {hSM1 with tab:=w.tab,sz:=w.sz,rd:=w.rd,slots:=w.slots,sav:=by rw[show(m.inp.st I.length).sav=[]from qHL t rfl];exact .nil,keep:=λ_ _=>rfl,gk:=λ_ _=>rfl,low:=Nat.min_le_left _ _}
   obtain⟨v,H',g',ve2,c1,c2,c3,c4,c5,Z,c7⟩:=hM {L with n:=H.next} H J _ _ _ hSR1 (by rw[R,C]) rfl
   refine⟨v,H',g',ve2,c1,c2,c3.weaken (n:=n0.n) X.base.1 (λb x hx=>?_),c4,c5,lT (Nat.le_min.2 ⟨Nat.min_le_left _ _,lT (Nat.min_le_right _ _) X.base.1⟩) Z,c7,λ_=>Z⟩
   have h3:=List.all_eq_true.1 hnl _ (List.mem_of_getElem? hx)
   cases x<;>first|rfl|cases h3
 obtain⟨v,H',g',ve2,c1,c2,c3,c4,c5,Z,c7,c8⟩:=key;have hA:=X.after (m:=m) (bm:=bm) (az:=az) hnd b2 (L:={L with F:=[]}) rfl (λb=>Iff.rfl) rfl c3 c4 c5 Z c2 U hnl;have hlen:ρ.length=p.n:=X.len;have e2:∀i,(λi=>if i<p.n then ve i else ve2 (i-p.n)) (p.n+i)=ve2 i:=λi=>by grind
 have d2:∀i,getD (ρ++ds) (p.n+i)=getD ds i:=λi=>by simp only[getD,List.getD_eq_getElem?_getD];grind
 have hMb:∀j,j<bm.length->bm.getD j 0<p.blks.length:=λj hj=>by
  have:bm.getD j 0=bm[j]:=by simp[List.getD_eq_getElem?_getD,List.getElem?_eq_getElem hj]
  rw[this];exact qBn (b2 _ (List.getElem_mem hj))
 have hn:(p.after m bm az).n=p.n+m.out.sts.length:=by show(az.foldl bM p.sts++m.out.sts).length=_;rw[List.length_append,yN];rfl
 have hbl:(p.after m bm az).blks.length=p.blks.length:=eY _ _ _;have O:(qJ3 m p.n bm).val (λi=>if i<p.n then ve i else ve2 (i-p.n)) lb=v/\(qJ3 m p.n bm).bd (p.after m bm az).n (p.after m bm az).blks.length:=by
  rw[c7,hn,hbl];rw[List.all_eq_true]at u;unfold qJ3 qIv;generalize m.out.slots=sl at u;have N:∀l:List (Nat×SV),(∀q∈l,qMM m.out.sts.length bm.length q.2=true)->(SV.tup (SV.ofCs p.n bm (l.map Prod.snd))).val (λi=>if i<p.n then ve i else ve2 (i-p.n)) lb=.tuple ⟨SV.vals ve2 (fF lb bm) (l.map Prod.snd)⟩/\(SV.tup (SV.ofCs p.n bm (l.map Prod.snd))).bd (p.n+m.out.sts.length) p.blks.length:=by intro l hl;obtain⟨t1,_,t3⟩:=lE (lb:=lb) (k:=m.out.sts.length) (M:=p.blks.length) (ve3:=λi=>if i<p.n then ve i else ve2 (i-p.n)) (ve2:=ve2) (ρ3:=getD (ρ++ds)) (ρ2:=getD ds) e2 d2 hMb (xs:=l.map Prod.snd);refine⟨by simp only[SV.val,t1],t3 ?_⟩;rw[SV.bds_iff];intro x hx;obtain⟨q,hq,rfl⟩:=List.mem_map.1 hx;exact cU (hl q hq)
  match sl,u with
  | [],u=>exact N [] u
  | [(q,x)],u=>obtain⟨t1,_,t3⟩:=qAb (lb:=lb) (k:=m.out.sts.length) (M:=p.blks.length) (ve3:=λi=>if i<p.n then ve i else ve2 (i-p.n)) (ve2:=ve2) (ρ3:=getD (ρ++ds)) (ρ2:=getD ds) e2 d2 hMb (x:=x);exact⟨t1,t3 (cU (u (q,x) (List.mem_singleton.2 rfl)))⟩
  |a::b::r,u=>exact N (a::b::r) u
 refine⟨_,_,_,_,_,_,_,hA,O.2,A,?_,λe=>c8 (by simpa using e)⟩;rw[O.1];exact .of_call (ha hfe) c1 c2
end
end Go.Am
namespace Go.Am
open Go
section
variable{E:Env}{n0:Lim}{H0:AH}{g0:zB}{S:St}{ρ:List D}{ve:Nat->Value}{lb:Nat->Nat}{g:zB}{fr:Fr}{H:AH}{Q:Res1->Prop}{o:Oper}{κ:K1}{wm:Bool}
theorem SR.grow(h:SR E n0 H0 g0 S ρ ve lb g fr H){g':zB}(e:zB.le g g')(q:zB.le g' H.blocks.get)(n:Nat)(p:n0.base n)(y:∀b,b<n->g' b=g b)(r:∀b,S.live b->lb b<n)(t:∀i B,S.freshV i=true->vR (ve i)=some B->B<n):SR E n0 H0 g0 S ρ ve lb g' fr H:=by
 refine {h with mem:=q,vars:=?_,sepLG:=?_,sepFG:=?_,gk:=?_,tab:=h.tab.mono e}
 ·intro i s l;exact(h.vars i s l).mono e (λ_ _ _=>rfl)
 ·intro b x;rw[y _ (r b x)];exact h.sepLG b x
 ·intro i B c j;rw[y _ (t i B c j)];exact h.sepFG i B c j
 intro b x;rw[y b (p.2 b x)];exact h.gk b x
theorem qDu{g g':zB}:∀{ds:List D} {vs:List Value},uN ds=true->DRs g ds vs->DRs g' ds vs
 | [],_,_,.nil=>.nil
 |.leaf x::ds,_,h,.cons (.leaf b) y=>.cons (.leaf b) (qDu (ds:=ds) h y)
 |.agg _::_,_,h,_=>by cases h
 |.nil::_,_,h,_=>by cases h
 |.sl _ _ _::_,_,h,_=>by cases h
 |.tup _::_,_,h,_=>by cases h
 |.ptr _ _::_,_,h,_=>by cases h
 |.clo _ _ _::_,_,h,_=>by cases h
 |.iface _ _::_,_,h,_=>by cases h
 |.mode _::_,_,h,_=>by cases h
theorem qRr{g g':zB}{y:Nat}{d:D}{v:Value}(b:y≠0)(h:qEw y d=true)(hd:DR g d v):DR g' d v/\(Nat.beq y 1=true->d.one=true):=by
 match y,b with
 | 1,_=>
  cases d with
  |leaf x=>cases hd with
   |leaf c=>exact⟨.leaf c,λ_=>rfl⟩
  |_=>cases h
 | n+2,_=>
  refine⟨?_,λe=>by cases e⟩;cases d with
  |tup l=>cases hd with
   |tup c=>exact .tup (qDu h c)
  |_=>cases h
theorem qCh(h:SR E n0 H0 g0 S ρ ve lb g fr H){F:Tgt}{args:List SV}{P:Nat}(W:oB o=false)(ha:∀{g':zB} {f:FuncId} {ds:List D},qBN E F (SV.ds (getD ρ) args)=some (f,ds)->DRs g' (SV.ds (getD ρ) args) (SV.vals ve lb args)->∃az,DRs g' ds az/\((∃fn,E.funcs.get f=some fn)->vT E fr o H=some (.enter f az,H)))(x:wp E (Holds E) Q (qHV E F args P S κ) ρ):jS wm E (Holds E) Q n0 H0 g0 fr H o κ:=by
 obtain⟨O,e1,c⟩:=xC args h
 have call:args.all (wC (vM S args))=true->∀{f:FuncId} {ds:List D} {d:D},qBN E F (SV.ds (getD ρ) args)=some (f,ds)->Holds E f ds d->
   ∃v H' g',mO E fr o H v H'/\H.next<H'.next/\WF H'/\(∀b,b<H.next->H'.blocks.get b=H.blocks.get b)/\Nat.min H.low H.next<=H'.low/\zB.le O g'/\zB.le g' H'.blocks.get/\(∀b,b<H.next->g' b=O b)/\DR g' d v:=by
  intro p f ds d u y
  rw[List.all_eq_true]at p
  have L:=lC c.toSM p
  obtain⟨az,w,I⟩:=ha u L
  rcases y with⟨_,y⟩|⟨f0,m0,ds0,_,rfl,_⟩
  ·obtain⟨v,H',g',V,l,t,r,j,C,A,z,q⟩:=y.2 H O az h.wf c.mem c.tab w
   exact⟨v,H',g',.of_call (I y.1) V l,l,t,r,j,C,A,z,q⟩
  cases w with
  |cons c _=>cases c
 unfold qHV at x;split at x
 ·simp only at x;obtain⟨p,x⟩:=jC x;simp only[wp]at x;split at x;case h_2=>cases x
  rename_i f ds u;obtain⟨d,y,_,x⟩:=x;obtain⟨v,H',g',G,l,t,r,j,C,A,z,q⟩:=call p u y;have N:=c.heap r t (Nat.le_of_lt l) (lT (Nat.le_min.2 ⟨h.low,lT (Nat.min_le_right _ _) h.base.1⟩) j);have h3:=N.grow C A H.next h.base z (λb Z=>(xL c.toSM Z).1) (λi B X hB=>(oM c.toSM X hB).1);exact⟨_,_,_,_,_,_,_,h3.new (k:=.pure) (o:=false) (by simp) (v:=v) ⟨(λe=>by cases e),q⟩,pJ,x,by simpa only[SV.val,jA]using G,λ_=>j⟩
 rename_i J;obtain⟨p,x⟩:=jC x;simp only[wp]at x;split at x;case h_2=>cases x
 rename_i f ds u;obtain⟨d,y,K,x⟩:=x;obtain⟨v,H',g',G,l,t,r,j,C,A,z,q⟩:=call p u y;obtain⟨U,R⟩:=qRr (g':=g) (λe=>J e) K q;have N:=h.heap r t (Nat.le_of_lt l) (lT (Nat.le_min.2 ⟨h.low,lT (Nat.min_le_right _ _) h.base.1⟩) j);exact⟨_,_,_,_,_,_,_,N.new (k:=.pure) (o:=Nat.beq P 1) (by simp) (v:=v) ⟨R,U⟩,pJ,x,by simpa only[SV.val,jA]using G,λ_=>j⟩
theorem yH(ve:Nat->Value)(lb:Nat->Nat)(a b:List SV):SV.vals ve lb (a++b)=SV.vals ve lb a++SV.vals ve lb b:=by rw[SV.vals_map,SV.vals_map,SV.vals_map,List.map_append]
theorem qQN(h:SR E n0 H0 g0 S ρ ve lb g fr H){c:Call}(z:o.op=.call c)(e:wp E (Holds E) Q (vZ E o S κ) ρ):jS (xH E S o) E (Holds E) Q n0 H0 g0 fr H o κ:=by
 unfold vZ at e;rw[z]at e;simp only at e;split at e
 ·cases e
 rename_i u w;obtain⟨ab,I⟩:=rF (E:=E) h w;split at e
 ·rename_i b L;unfold qHY at e;split at e
  ·split at e
   ·rename_i t ts x J;exact qUu h z L J (by simpa[SV.vals]using I) e
   cases e
  ·split at e
   ·rename_i t ts i k J;have C:xH E S o=true:=by simp only[xH,z,L,w,Bool.or_true]
    rw[C];exact qQL h z L (by simpa[SV.vals]using I) J e
   cases e
  ·split at e
   ·rename_i s x;have C:xH E S o=qPD S [s,x]:=by simp only[xH,oB,z,L,w,Bool.false_or]
    rw[C];exact qLL h z L (by simpa[SV.vals]using I) ab.1 ab.2.1 e
   cases e
  ·split at e
   ·exact qTl h (mx:=false) z L (by simpa[SV.vals]using I) e
   cases e
  ·split at e
   ·exact qTl h (mx:=true) z L (by simpa[SV.vals]using I) e
   cases e
  cases e
 ·rename_i r name hr;have B:oB o=false:=by simp[oB,z]
  split at e;case h_2=>cases e
  rename_i y hy;obtain⟨yb,ye⟩:=zJ (E:=E) h hy;refine qCh h B (λ{g' f ds} q j=>?_) e;simp only[SV.ds,SV.vals]at q j;generalize y.d (getD ρ)=V at q j;generalize SV.ds (getD ρ) u=rd at q j;generalize F:y.val ve lb=yv at j;generalize N:SV.vals ve lb u=av at j;cases j with
  | @cons _ _ _ _ R h2=>
   cases V with
   |iface t d=>
    simp only[qBN]at q;split at q;case h_2=>cases q
    rename_i i ti hi W;split at q;case h_2=>cases q
    rename_i p f' ptr K;obtain⟨hc,q⟩:=qW q;cases q;cases R with
    |@iface _ _ v R=>refine⟨v::av,.cons R h2,?_⟩;intro⟨fn,A⟩;unfold vT;rw[z];simp only[yL,I,N,hr,ye,F,rA,hi,W,K,hc,cond_true,rY,A]
   |_=>cases q
 rename_i f U;have B:oB o=false:=by simp[oB,z]
 split at e
 ·rename_i gf first cap G
  obtain⟨fb,O⟩:=zJ (E:=E) h G;rw[cond_eq_ite]at e;split at e
  ·rename_i P;have C:xH E S o = !qFk E gf (first++u++cap) S:=by simp only[xH,B,z,U,w,G,P,Bool.false_or,Bool.true_and]
   rw[C];refine qNN h (l:=first++u++cap) ?_ (λ⟨fn,A⟩=>?_) e
   ·rw[SV.bds_iff]at ab ⊢;have f1:=SV.bds_iff.1 fb.1;have f2:=SV.bds_iff.1 fb.2;grind
   simp only[SV.val]at O;unfold vT;rw[z];simp only[yL,I,U,O,oU,A,yH]
  refine qCh h B (λ{g' f' ds} q j=>?_) e;simp only[qBN,oI,Prod.mk.injEq]at q;obtain⟨rfl,rfl⟩:=q;refine⟨_,j,?_⟩;intro⟨fn,A⟩;simp only[SV.val]at O;unfold vT;rw[z];simp only[yL,I,U,O,oU,A,yH]
 ·rename_i i G;obtain⟨fb,O⟩:=zJ (E:=E) h G;refine qCh h B (λ{g' f' ds} q j=>?_) e;simp only[SV.ds,SV.vals]at q j;simp only[SV.val]at O;generalize hyd:(SV.v i).d (getD ρ)=V at q j;generalize SV.ds (getD ρ) u=rd at q j;generalize F:(SV.v i).val ve lb=yv at j;generalize N:SV.vals ve lb u=av at j;simp only[SV.val]at F;cases j with
  | cons R h2=>
   cases V with
   | clo fnn first cap=>
    cases fnn with
    |func gf=>
     simp only[qBN,oI,Prod.mk.injEq]at q;obtain⟨rfl,rfl⟩:=q;cases R with
     |@clo _ _ _ f1 c1 hp X Z=>refine⟨f1++av++c1,(X.append h2).append Z,?_⟩;intro⟨fn,A⟩;unfold vT;rw[z];simp only[yL,I,N,U,O,F,oU,A]
    |_=>cases q
   |_=>cases q
 cases e
theorem eU(h:SR E n0 H0 g0 S ρ ve lb g fr H)(q:wp E (Holds E) Q (vZ E o S κ) ρ):jS (xH E S o) E (Holds E) Q n0 H0 g0 fr H o κ:=by
 cases r:o.op with
 |move x=>exact qKg h (.inl r) (by unfold vZ at q;rw[r]at q;exact q)
 |assign x=>exact qKg h (.inr r) (by unfold vZ at q;rw[r]at q;exact q)
 |pick c a b=>exact qQG h r q
 |alloc t=>exact qNQ h r q
 |box t x=>exact qUv h r q
 |build t U=>exact qNP h r q
 |buildSlice t n U=>exact qDF h r q
 |load t a=>
  unfold vZ at q;rw[r]at q;simp only at q;split at q
  ·rename_i Z A;obtain⟨C,B⟩:=zJ (E:=E) h A;obtain⟨y,S',ρ',O,g',e,X,J,R,P⟩:=qBl h C q;refine .same X R J ?_;unfold vT;rw[r];simp only[B,P,one,Option.map_some]
  cases q
 |store t a x=>
  have u:xH E S o=true:=by simp[xH,oB,r]
  rw[u];unfold vZ at q;rw[r]at q;simp only at q;split at q
  ·rename_i i j sz off N A I;obtain⟨C,B⟩:=zJ (E:=E) h A;obtain⟨K,F⟩:=zJ (E:=E) h I;exact qUr h r B F q
  ·rename_i Z N _ A I;obtain⟨C,B⟩:=zJ (E:=E) h A;obtain⟨K,F⟩:=zJ (E:=E) h I;exact qNI h r B F C K q
  cases q
 |makeSlice t l c=>exact qXN h r q
 |makeMap t x=>cases x with
  |none=>exact qQJ h r q
  |some x=>unfold vZ at q;rw[r]at q;cases q
 |lookup t x k ok=>exact qQK h r q
 |range t x=>exact qNK h r q
 | next it G=>cases G with
  |true=>
   have u:xH E S o=true:=by simp[xH,r]
   rw[u];exact qQH h r q
  |false=>unfold vZ at q;rw[r]at q;cases q
 |mapUpdate t m k x=>
  have u:xH E S o=true:=by simp[xH,r]
  rw[u];exact qQI h r q
 |nilCheck x=>exact qGP h r q
 |binOp V t x y p=>exact qUw h (b:=λ_=>true) r q
 |unOp V t x=>exact qXM h r q
 | convert s d x=>
  cases w:fR E s d with
  |some el=>exact qNO h r w q
  |none=>cases z:uJ E s d with
   |true=>exact qUq h r w z q
   |false=>exact qQM h r w z q
 |makeInterface t x=>exact qUs h r q
 |makeFunc f a b=>exact qGQ h r q
 |slice t x lo W mx=>cases L:((lo.isNone||aY lo)&&aY W&&aY mx)with
  |true=>exact(by unfold vZ at q;rw[r]at q;simp only[L,cond_true]at q;cases q)
  |false=>exact qNJ h r L q
 |fieldAddr t x f=>exact qFr h r q
 |field t x f=>exact qNM h r q
 |indexAddr t x i=>exact qFq h r q
 |index t x i=>exact qNL h r q
 |extract x i=>exact qIE h r q
 |call c=>exact qQN h r q
 |_=>unfold vZ at q;rw[r]at q;cases q
end
end Go.Am
namespace Go.Am
open Go
section
variable{E:Env}{n0:Lim}{H0:AH}{g0:zB}{S:St}{ρ:List D}{ve:Nat->Value}{lb:Nat->Nat}{g:zB}{fr:Fr}{H H2:AH}{Q:Res1->Prop}{o:Oper}{HS:FuncId->List D->D->Prop}
theorem qHh(h:SR E n0 H0 g0 S ρ ve lb g fr H){all:Array Oper}{p w:St->Tree}(x:wp E HS Q (qCG all o S p w) ρ):∃S',SR E n0 H0 g0 S' ρ ve lb g fr H/\((vH all fr o=some true/\wp E HS Q (p S') ρ)∨(vH all fr o=some false/\wp E HS Q (w S') ρ)):=by
 unfold qCG at x;split at x
 ·rename_i e;exact⟨S,h,.inl ⟨by simp only[vH,e],x⟩⟩
 rename_i j l e;split at x;case h_2=>cases x
 rename_i d I G F C B A;have y:∀{v:Value},fr.t.get d=some v->dH all fr j=(match v with|.bool b=>some (some b)|_=>some none):=by intro v hv;simp only[dH,A,hv];cases v<;>rfl
 split at x
 ·rename_i b q;have hv:=(h.slots _ _ q).2;have c:=y hv;simp only[SV.val]at c;rw[cond_eq_ite]at x;split at x
  ·rename_i u;exact⟨S,h,.inl ⟨by simp only[vH,e,c,u],x⟩⟩
  rename_i u;have r:(b==l)=false:=by simpa using u
  exact⟨S,h,.inr ⟨by simp only[vH,e,c,r],x⟩⟩
 ·rename_i q;have hv:=(h.slots _ _ q).2;have c:=y hv;simp only[SV.val]at c;exact⟨S,h,.inr ⟨by simp only[vH,e,c],x⟩⟩
 ·rename_i i q;obtain⟨z,x⟩:=jC x;obtain⟨t,hd,x⟩:=qBq x;have hv:=(h.slots _ _ q).2;simp only[SV.val,uK h.toSM z hd]at hv;have c:=y hv;simp only at c;refine⟨S.known i t,mB h z hd,?_⟩;cases t<;>cases l
  ·exact .inl ⟨by simp only[vH,e,c];rfl,x⟩
  ·exact .inr ⟨by simp only[vH,e,c];rfl,x⟩
  ·exact .inr ⟨by simp only[vH,e,c];rfl,x⟩
  exact .inl ⟨by simp only[vH,e,c];rfl,x⟩
 cases x
theorem pF.append{n m:Nat}:∀{l h:List jL},pF E n l->(∀a∈l,a.H'.next<=m)->n<=m->pF E m h->pF E n (l++h)
 | [],_,_,_,y,x=>x.mono y
 |a::l,h,⟨i,e,h3⟩,hm,_,x=>⟨i,e,pF.append h3 (λb c=>hm b (mC _ c)) (hm a List.mem_cons_self) x⟩
theorem yW.nil{all:Array Oper}{draw:Bool}{i:Nat}:yW E all draw [] i fr H fr H:=
 ⟨lR _,[],trivial,λ_ h=>(by cases h),[],λ_ h=>(by cases h),λ_ _=>rfl⟩
theorem yW.skipped{all:Array Oper}{draw:Bool}{os:List Oper}{i:Nat}{x y:Fr}{H':AH}(j:vH all fr o=some false)(e:wR fr o.dst (.tuple #[])=some x)(h:yW E all draw os (i+1) x H y H'):yW E all draw (o::os) i fr H y H':=by obtain⟨r,l,q,h3,ts,c,p⟩:=h;exact⟨r,l,q,h3,ts,c.less,λih b=>by simp only[zM,j,e];exact p ih b⟩
theorem yW.cons{all:Array Oper}{os:List Oper}{i:Nat}{b c:Fr}{H1 H':AH}{v:Value}(A:vH all fr o=some true)(u:mO E fr o H v H1)(z:wR fr o.dst v=some b)(h:yW E all false os (i+1) b H1 c H'):yW E all false (o::os) i fr H c H':=by
 obtain⟨p,l,C,h3,ts,w,B⟩:=h;obtain⟨j,q,t,e,r⟩:=u;refine⟨lT j p,q++l,t.append e j C,λa x=>?_,ts,w.less,λih y=>?_⟩
 ·rcases List.mem_append.1 x with x|x
  ·exact lT (e a x) p
  exact h3 a x
 have G:=r ih (λa x=>y a (List.mem_append_left _ x));have F:=B ih (λa x=>y a (List.mem_append_right _ x));simp only[zM,A,cond_false,qOW G,z,F]
theorem yW.consD{all:Array Oper}{os:List Oper}{i:Nat}{e j:Fr}{H1 H':AH}{v:Value}(F:vH all fr o=some true)(B:mO E fr o (zR H []) v H1)(c:H.next<=H1.low∨yT all.toList i=true)(C:wR fr o.dst v=some e)(h:yW E all true os (i+1) e (jK H H1 []) j H'):yW E all true (o::os) i fr H j H':=by
 obtain⟨u,l,J,h3,ts,r,I⟩:=h;obtain⟨q,w,A,p,z⟩:=B;refine⟨lT q u,w++l,A.append p q J,λa x=>?_,ts,r.less,λih b=>?_⟩
 ·rcases List.mem_append.1 x with x|x
  ·exact lT (p a x) u
  exact h3 a x
 have L:=z ih (λa x=>b a (List.mem_append_left _ x));have K:=I ih (λa x=>b a (List.mem_append_right _ x));have G:qJ all.toList i ts=[]:=r.hid;have y:(Nat.ble H.next H1.low||(([]:List Nat).isEmpty&&(ts.any (λt=>Nat.beq t.1 i&&xO fr o t.2)||yY all.toList ts i H.next H1.low)))=true:=by
  rcases c with c|c
  ·rw[bL c];rfl
  rw[qJd c];simp
 simp only[zM,F,cond_true,pE,G,L,y,List.all_nil,Bool.and_true,C,K]
theorem qOw{all:List Oper}{i x y:Nat}{ts:List (Nat×Nat)}(h:rG (kI all) x i=true):qJ all i ((x,y)::ts)=qJ all i ts:=by rw[qJ,h,Bool.or_true,cond_true]
theorem qMm{ih:Cmd->AH->j9}{all:List Oper}{i x e:Nat}{ts:List (Nat×Nat)}{r:Value×AH}(l:rG (kI all) x i=true)(h:pE E ih ts all i fr o H=some r):pE E ih ((x,e)::ts) all i fr o H=some r:=by
 unfold pE at h ⊢;simp only[qOw l]at h ⊢;cases he:vL E ih fr o (zR H (qJ all i ts))with
 |none=>rw[he]at h;cases h
 |some q=>
  obtain⟨v,Q⟩:=q;rw[he]at h;simp only at h ⊢;obtain⟨c,j⟩:=qW h;have y:((Nat.ble H.next Q.low||((qJ all i ts).isEmpty&&(((x,e)::ts).any (λt=>Nat.beq t.1 i&&xO fr o t.2)||yY all ((x,e)::ts) i H.next Q.low)))&&(qJ all i ts).all (λb=>Nat.blt b H.next||Nat.ble Q.next b))=true:=by simp only[List.any_cons,aE,Bool.or_eq_true]at c ⊢;exact⟨c.1.imp id λh=>⟨h.1,h.2.imp (λh=>.inr h) qFL⟩,c.2⟩
  rw[y];exact j
theorem iQ{ih:Cmd->AH->j9}{all:Array Oper}{i0 b:Nat}{ts:List (Nat×Nat)}{r:Fr×AH}:∀(x:List Oper) (i:Nat) (fr:Fr) (H:AH),eT all.toList i0 x i=true->zM E ih all true ts x i fr H=some r->zM E ih all true ((i0,b)::ts) x i fr H=some r
 | [],_,_,_,_,h=>h
 | o::x,i,fr,H,y,h=>by
  simp only[eT,aE]at y;simp only[zM]at h ⊢;split at h
  ·cases h
  ·split at h
   ·exact iQ x (i+1) _ _ y.2 h
   cases h
  simp only[cond_true]at h ⊢;split at h
  ·cases h
  rename_i v H1 hd;rw[qMm y.1 hd];simp only;split at h
  ·cases h
  exact iQ x (i+1) _ _ y.2 h
def qMJ(E:Env)(all:Array Oper)(y b:Nat)(x:List Oper)(i:Nat)(fr:Fr)(H:AH)(h:Fr)(H':AH):Prop:=
 H.next<=H'.next/\∃l,pF E H.next l/\(∀a∈l,a.H'.next<=H'.next)/\∃ts,qH7 all.toList i ts/\∀ih,qJH l ih->zM E ih all true ((y,b)::ts) x i fr H=some (h,H')
theorem yW.toL{all:Array Oper}{i0 q:Nat}{os:List Oper}{i:Nat}{x:Fr}{H':AH}(h:yW E all true os i fr H x H')(c:eT all.toList i0 os i=true):qMJ E all i0 q os i fr H x H':=by obtain⟨p,l,j,h3,ts,y,e⟩:=h;exact⟨p,l,j,h3,ts,y,λih b=>iQ os i fr H c (e ih b)⟩
theorem qMJ.mid{all:Array Oper}{i0 x:Nat}{os:List Oper}{i:Nat}{y c:Fr}{H':AH}{v:Value}(r:vH all fr o=some true)(p:∀ih,vL E ih fr o (zR H (qJ all.toList i [(i0,x)]))=some (v,zR H (qJ all.toList i [(i0,x)])))(q:wR fr o.dst v=some y)(h:qMJ E all i0 x os (i+1) y (jK H (zR H (qJ all.toList i [(i0,x)])) (qJ all.toList i [(i0,x)])) c H'):qMJ E all i0 x (o::os) i fr H c H':=by
 obtain⟨F,l,C,h3,ts,j,B⟩:=h;refine⟨F,l,C,h3,ts,j.less,λih e=>?_⟩;have G:=B ih e;have A:qJ all.toList i ((i0,x)::ts)=qJ all.toList i [(i0,x)]:=by rw[qJ,qJ,j.hid];rfl
 generalize qJ all.toList i [(i0,x)]=W at *;have u:(Nat.ble H.next (zR H W).low||(W.isEmpty&&(((i0,x)::ts).any (λt=>Nat.beq t.1 i&&xO fr o t.2)||yY all.toList ((i0,x)::ts) i H.next (zR H W).low)))=true:=by have:Nat.ble H.next (zR H W).low=true:=bL (lR _);rw[this,Bool.true_or]
 have z:W.all (λb=>Nat.blt b H.next||Nat.ble (zR H W).next b)=true:=by
  rw[List.all_eq_true];intro b _;show(Nat.blt b H.next||Nat.ble H.next b)=true;by_cases w:b<H.next
  ·have:Nat.blt b H.next=true:=bL w;rw[this,Bool.true_or]
  have:Nat.ble H.next b=true:=bL (by omega);rw[this,Bool.or_true]
 simp only[zM,r,cond_true,pE,A,p ih,u,z,Bool.and_self,q,G]
theorem yW.late{all:Array Oper}{os:List Oper}{i b:Nat}{q r:Fr}{H1 H':AH}{v:Value}(I:vH all fr o=some true)(G:mO E fr o (zR H []) v H1)(hs:xO fr o b=true)(c:∀k,k<i->rG (kI all.toList) i k=true)(e:wR fr o.dst v=some q)(h:qMJ E all i b os (i+1) q (jK H H1 []) r H'):yW E all true (o::os) i fr H r H':=by
 obtain⟨A,l,L,h3,ts,z,K⟩:=h;obtain⟨w,B,F,u,C⟩:=G;refine⟨lT w A,B++l,F.append u w L,λa x=>?_,(i,b)::ts,λp e=>?_,λih j=>?_⟩
 ·rcases List.mem_append.1 x with x|x
  ·exact lT (u a x) A
  exact h3 a x
 ·rcases List.mem_cons.1 e with rfl|e
  ·exact⟨lR _,c⟩
  exact z.less p e
 have O:=C ih (λa x=>j a (List.mem_append_left _ x));have N:=K ih (λa x=>j a (List.mem_append_right _ x));have J:qJ all.toList i ((i,b)::ts)=[]:=by rw[qJ,Nat.beq_refl,Bool.true_or,cond_true];exact z.hid
 have y:(Nat.ble H.next H1.low||(([]:List Nat).isEmpty&&(((i,b)::ts).any (λt=>Nat.beq t.1 i&&xO fr o t.2)||yY all.toList ((i,b)::ts) i H.next H1.low)))=true:=by simp only[List.any_cons,Nat.beq_refl,hs,Bool.true_and,Bool.true_or,List.isEmpty_nil,Bool.or_true]
 simp only[zM,I,cond_true,pE,J,O,y,List.all_nil,Bool.and_true,e,N]
theorem qD3(h:qGH o.op=true):∃x:Option Value,∀H,vT E fr o H=one H x:=by
 cases e:o.op<;>rw[e]at h<;>first|(cases h;done)|skip
 ·rename_i x;exact⟨ev E fr x,λH=>by simp only[vT,e]⟩
 ·rename_i x;exact⟨ev E fr x,λH=>by simp only[vT,e]⟩
 ·rename_i c a b;refine⟨match ev E fr c with|some (.bool true)=>ev E fr a|some (.bool false)=>ev E fr b|_=>none,λH=>?_⟩;simp only[vT,e];generalize ev E fr c=q;rcases q with _|v
  ·rfl
  cases v<;>first|rfl|skip
  rename_i b;cases b<;>rfl
 ·rename_i t j;refine⟨match parts? E fr j.toList with|some j=>aN E t j|none=>none,λH=>?_⟩;simp only[vT,e];generalize parts? E fr j.toList=q;cases q<;>rfl
 ·rename_i x;refine⟨match ev E fr x with
   |some (.pointer (some a))=>some (.pointer (some a))
   |some (.iface t v)=>some (.iface t v)
   |some (.func (.func f) a b)=>some (.func (.func f) a b)
   |some (.func (.yield f) a b)=>some (.func (.yield f) a b)
   |_=>none,λH=>?_⟩
  simp only[vT,e];generalize ev E fr x=q;rcases q with _|v
  ·rfl
  cases v<;>first|rfl|skip
  ·rename_i a;cases a<;>rfl
  rename_i f a b;cases f<;>rfl
 ·rename_i l t x y z;refine⟨match ev E fr x,ev E fr y with|some a,some b=>oW E l t x y a b|_,_=>none,λH=>?_⟩;simp only[vT,e];generalize ev E fr x=q;generalize ev E fr y=r;cases q<;>cases r<;>rfl
 ·rename_i l t x;refine⟨match ev E fr x with|some v=>bif zF v then flat? (qS E.prog (Op.unary l v))else none|none=>none,λH=>?_⟩;simp only[vT,e];generalize ev E fr x=q;rcases q with _|v
  ·rfl
  simp only;cases zF v<;>rfl
 ·rename_i s x f;refine⟨match ev E fr x with|some v=>aG E s v f|none=>none,λH=>?_⟩;simp only[vT,e];generalize ev E fr x=q;cases q<;>rfl
 ·rename_i t x i;refine⟨match ev E fr x,(ev E fr i).bind nat? with|some v,some i=>qAk E t v i|_,_=>none,λH=>?_⟩;simp only[vT,e];generalize ev E fr x=q;generalize (ev E fr i).bind nat? = r;cases q<;>cases r<;>rfl
 rename_i x i;refine⟨match ev E fr x with|some (.tuple vs)=>vs.toList[i]? | _=>none,λH=>?_⟩;simp only[vT,e];generalize ev E fr x=q;rcases q with _|v
 ·rfl
 cases v<;>rfl
theorem qIq{H H':AH}{t:TypeId}{x:Value}{lo y mx:Option Value}(h:∀b,H'.blocks.get b=H.blocks.get b):oE E H' t x lo y mx=oE E H t x lo y mx:=by unfold oE;simp only[h]
theorem qLY{H H':AH}{t:TypeId}{x:Value}(h:∀b,H'.blocks.get b=H.blocks.get b):k9 E H' t x=k9 E H t x:=by unfold k9 AH.loads;simp only[h]
theorem qQV(h:qN4 o=true)(H:AH):∃x:Option Value,∀H',(∀b,H'.blocks.get b=H.blocks.get b)->vT E fr o H'=one H' x:=by
 unfold qN4 at h;rw[Bool.or_eq_true]at h;rcases h with h|h
 ·obtain⟨x,r⟩:=qD3 (E:=E) (fr:=fr) h;exact⟨x,λH' _=>r H'⟩
 split at h
 ·rename_i t x lo y mx c;refine⟨match ev E fr x,rO E fr lo.toList,rO E fr y.toList,rO E fr mx.toList with
   |some x,some lo,some y,some mx=>oE E H t x lo.head? y.head? mx.head?
   |_,_,_,_=>none,λH' e=>?_⟩
  simp only[vT,c];generalize ev E fr x=p;generalize rO E fr lo.toList=l;generalize rO E fr y.toList=j;generalize rO E fr mx.toList=i;cases p<;>cases l<;>cases j<;>cases i<;>first|rfl|exact congrArg (one H') (qIq e)
 ·rename_i t a c;refine⟨match ev E fr a with|some v=>k9 E H t v|none=>none,λH' e=>?_⟩;simp only[vT,c];generalize ev E fr a=q;cases q with
  |none=>rfl
  |some v=>exact congrArg (one H') (qLY e)
 cases h
theorem qMh{ih:Cmd->AH->j9}{x:Option Value}{H1:AH}{v:Value}(h:vT E fr o H=one H x)(he:vL E ih fr o H=some (v,H1)):x=some v/\H1=H:=by
 cases x with
 |none=>simp only[vL,h,one,Option.map_none]at he;cases he
 |some u=>simp only[vL,h,one,Option.map_some,oI,Prod.mk.injEq]at he;exact⟨by rw[he.1],he.2.symm⟩
theorem SM.congr(h:SM n0 S ρ ve lb g H)(c:∀b,H2.blocks.get b=H.blocks.get b)(y:H2.next=H.next):SM n0 S ρ ve lb g H2:=by
 have x:H2.blocks.get=H.blocks.get:=funext c
 exact { len:=h.len,wf:=λb k e=>by rw[c]at e;rw[y];exact h.wf b k e,mem:=by rw[x];exact h.mem,base:=by rw[y];exact h.base,fix:=h.fix,vars:=by rw[x];exact h.vars,
         blks:=by rw[x];exact h.blks,sepLG:=h.sepLG,sepFG:=h.sepFG,sepL:=h.sepL,sepF:=h.sepF,sepX:=h.sepX}
theorem SR.congr(h:SR E n0 H0 g0 S ρ ve lb g fr H)(x:∀b,H2.blocks.get b=H.blocks.get b)(y:H2.next=H.next)(c:Nat.min H0.low n0.n<=H2.low):SR E n0 H0 g0 S ρ ve lb g fr H2:=
 {toSM:=h.toSM.congr x y,sz:=h.sz,rd:=h.rd,slots:=h.slots,sav:=h.sav,keep:=λb e=>by rw[x];exact h.keep b e,gk:=h.gk,low:=c,tab:=h.tab}
theorem SR.hide(h:SR E n0 H0 g0 S ρ ve lb g fr H):SR E n0 H0 g0 S ρ ve lb g fr (zR H []):=
 {h with low:=lT (Nat.min_le_right _ _) h.base.1}
theorem SR.restore(c:SR E n0 H0 g0 S ρ ve lb g fr H){S':St}{ρ':List D}{x:Nat->Value}{y:Nat->Nat}{g':zB}{b:Fr}{H1:AH}(h:SR E n0 H0 g0 S' ρ' x y g' b H1):SR E n0 H0 g0 S' ρ' x y g' b (jK H H1 []):=
 {h with low:=Nat.le_min.2 ⟨c.low,h.low⟩}
theorem qME{ih:Cmd->AH->j9}{c:Call}{a:Tmp}{y:Operand}{k:Nat}{v:Value}{H1:AH}(h:SR E n0 H0 g0 S ρ ve lb g fr H)(P:o.op=.call c)(F:c.callee=.builtin .append)(q:c.args.toList=[.tmp a,y])(hk:S.slots.get a=some (.v k))(hf:S.freshV k=true)(he:vL E ih fr o H=some (v,H1)):H.low<=H1.low∨∃B,xO fr o B=true/\H1.blocks.get B=none:=by
 have hv:fr.t.get a=some (ve k):=(h.slots _ _ hk).2;obtain⟨of,O⟩:=zC.1 hf;have G:kW g H.blocks.get n0 (getD ρ k) (ve k):=(h.vars k _ O).2;have C:rO E fr [.tmp a,y]=(ev E fr y).map λx=>[ve k,x]:=by have R:ev E fr (.tmp a)=some (ve k):=hv;simp only[rO,R];cases ev E fr y<;>rfl
 have r:∃x,vT E fr o H=jV E H c.argTypes.toList (ve k) x:=by
  cases X:ev E fr y with
  |none=>
   have:vT E fr o H=none:=by simp only[vT,P,yL,F,q,C,X,Option.map_none]
   simp only[vL,this]at he;cases he
  |some x=>exact⟨x,by simp only[vT,P,yL,F,q,C,X,Option.map_some,xR]⟩
 obtain⟨x,r⟩:=r;simp only[vL,r]at he;have u:∀{w:Value},jV E H c.argTypes.toList (ve k) x=some (.val w,H)->H.low<=H1.low:=λe=>by rw[e]at he;simp only[oI,Prod.mk.injEq]at he;rw[←he.2];exact lR _
 have fresh:∀{w:Value} {Z:AObj},jV E H c.argTypes.toList (ve k) x=some (.val w,H.new Z)->H.low<=H1.low:=λe=>by rw[e]at he;simp only[oI,Prod.mk.injEq]at he;rw[←he.2];exact lR _
 generalize i:jV E H c.argTypes.toList (ve k) x=A at he u fresh;have hA2:=i;unfold jV at i;split at i;case h_2=>rw[←i]at he;cases he
 rename_i t xt rr base len cap hat j;split at i;case h_2=>rw[←i]at he;cases he
 split at i;case h_2=>rw[←i]at he;cases he
 rename_i e hte;split at i;case h_2=>rw[←i]at he;cases he
 rename_i z n new hz hnc;cases J:Nat.ble (Nat.mul (Nat.add (Nat.mul 4 (Nat.add len n)) 4000) (Nat.succ e.bytes)) 100000000000 with
 |false=>rw[J]at i;rw[←i]at he;cases he
 | true=>
  rw[J]at i;simp only[cond_true]at i;cases L:Nat.beq n 0 with
  |true=>rw[L]at i;simp only[cond_true]at i;exact .inl (u i.symm)
  | false=>
   rw[L]at i;simp only[cond_false]at i;rcases G with(⟨G,_⟩|⟨_,ad,G⟩)|⟨B,l,cs,vs,el,rt,sz,es,N⟩|⟨B,es,ck,rt,ks,dd,N⟩
   rotate_left 3
   ·rw[N.v]at j;cases j
   ·rw[G]at j;cases j;exact .inl (fresh i.symm)
   ·rw [G]at j;cases j;obtain⟨b,off,p⟩:=ad;cases p with
    |some _=>rw[←i]at he;cases he
    | none=>
     have V:Nat.ble qT 0=false:=rfl;have h2:Nat.ble (Nat.add 0 n) 0=false:=by
      cases hb:Nat.ble (Nat.add 0 n) 0 with
      |false=>rfl
      |true=>
       have:=o9 hb;have h0:n=0:=by have:0+n<=0:=this;omega
       rw[h0]at L;cases L
     simp only[G,V,h2,cond_false,oR,Nat.beq_refl,cond_true]at i;exact .inl (fresh i.symm)
   have I:=N.v;rw[I]at j;cases j;have V:Nat.ble qT qT=true:=bL (lR _);simp only[V,cond_true]at i;split at i;case h_2=>rw[←i]at he;cases he
   rename_i cs2 W r2 old U _;cases K:(Nat.beq W _&&Nat.beq (Nat.mod 0 e.size) 0)with
   |false=>rw[K]at i;rw[←i]at he;cases he
   |true=>
    rw[K]at i;simp only[cond_true]at i;rw[←i]at he;simp only[oI,Prod.mk.injEq]at he;right;refine⟨B,?_,?_⟩
    ·simp only[xO,P,qEK,F,q,hv,I,Nat.beq_refl]
    rw[←he.2];show((H.blocks.put B none).put H.next _).get B=none;have hlt:=(h.wf B _ U).2;rw[T.get_put,if_neg (by omega),T.get_put,if_pos rfl]
def qPL(E:Env)(Q:Res1->Prop)(n0:Lim)(H0:AH)(g0:zB)(all:Array Oper)(b:List Oper):Prop:=∀(draw:Bool) (i:Nat) {S:St} {ρ:List D} {ve:Nat->Value} {lb:Nat->Nat} {g:zB} {fr:Fr} {H:AH} {κ:St->Tree},SR E n0 H0 g0 S ρ ve lb g fr H->wp E (Holds E) Q (qDE E all draw b i S κ) ρ->
  ∃S' ρ' x y g' h H',SR E n0 H0 g0 S' ρ' x y g' h H'/\wp E (Holds E) Q (κ S') ρ'/\yW E all draw b i fr H h H'
def qSl(E:Env)(Q:Res1->Prop)(n0:Lim)(H0:AH)(g0:zB)(all:Array Oper)(y:List Oper):Prop:=∀(i c e:Nat) {S:St} {ρ:List D} {ve:Nat->Value} {lb:Nat->Nat} {g:zB} {fr:Fr} {H:AH} {κ:St->Tree},SR E n0 H0 g0 S ρ ve lb g fr H->H.blocks.get e=none->tL all.toList c y i=true->wp E (Holds E) Q (qDE E all true y i S κ) ρ->
  ∃S' ρ' x b g' h H',SR E n0 H0 g0 S' ρ' x b g' h H'/\wp E (Holds E) Q (κ S') ρ'/\qMJ E all c e y i fr H h H'
theorem qLJ{all:Array Oper}{o:Oper}{os:List Oper}(hA:qPL E Q n0 H0 g0 all os)(hB:qSl E Q n0 H0 g0 all os):qPL E Q n0 H0 g0 all (o::os):=by
 intro draw i S ρ ve lb g fr H κ h x;simp only[qDE]at x;obtain⟨R,G,x⟩:=qHh h x;rcases x with⟨L,x⟩|⟨L,x⟩
 ·cases draw with
  |false=>
   simp only[Bool.false_and,cond_false]at x;obtain⟨y,S2,ρ2,ve2,W,g2,H2,h2,hb,x,V,_⟩:=eU G x;simp only at x;split at x
   ·rename_i S3 J;obtain⟨P,q,h3⟩:=uY h2 hb J;obtain⟨S',ρ',j,p,g',e,H',C,A,z⟩:=hA false (i+1) h3 x;exact⟨S',ρ',j,p,g',e,H',C,A,.cons L V q z⟩
   cases x
  | true=>
   simp only[Bool.true_and]at x;cases u:(xH E R o&& !(yT all.toList i)&& !(qCs all.toList i o os))with
   |true=>rw[u]at x;cases x
   | false=>
    rw[u]at x;simp only[cond_false]at x;obtain⟨y,S2,ρ2,ve2,W,g2,H2,h2,hb,x,V,K⟩:=eU G.hide x;simp only at x;split at x;case h_2=>cases x
    rename_i S3 J;obtain⟨P,q,h3⟩:=uY h2 hb J;have w:(H.next<=H2.low∨yT all.toList i=true)->∃S' ρ' j p g' e H',SR E n0 H0 g0 S' ρ' j p g' e H'/\wp E (Holds E) Q (κ S') ρ'/\yW E all true (o::os) i fr H e H':=λhc=>by obtain⟨S',ρ',j,p,g',e,H',C,A,z⟩:=hA true (i+1) (G.restore h3) x;exact⟨S',ρ',j,p,g',e,H',C,A,.consD L V hc q z⟩
    have e0:Nat.min (zR H []).low (zR H []).next=H.next:=Nat.min_self _;cases b:xH E R o with
    |false=>have:=K b;rw[e0]at this;exact w (.inl this)
    | true=>
     cases N:yT all.toList i with
     |true=>exact w (.inr N)
     | false=>
      have F:qCs all.toList i o os=true:=by rw[b,N]at u;simpa using u
      unfold qCs at F;simp only[aE]at F;obtain⟨⟨U,q2⟩,q3⟩:=F;split at U;case h_2=>cases U
      rename_i c ho;split at U;case h_2=>cases U
      rename_i a yo O t;have hap:∃k,R.slots.get a=some (.v k)/\R.freshV k=true:=by
       have Z:oB o=false:=by unfold oB;rw[ho]
       unfold xH at b;rw[Z,Bool.false_or,ho]at b;simp only[O,t]at b;cases r:bO R [.tmp a,yo]with
       |none=>rw[r]at b;cases b
       |some l=>
        rw[r]at b;simp only at b;unfold bO at r;split at r;case h_2=>cases r
        rename_i x1 l1 X hl1;cases r;unfold qPD at b;split at b;case h_2=>cases b
        rename_i k _ heq;cases heq;exact⟨k,X,b⟩
      obtain⟨k,hk,hf⟩:=hap;obtain⟨k1,l0,k2,k3,k4⟩:=V;have e1:=k4 (qOu l0) (λa ha=>qCx k2 a ha);rcases qME G.hide ho O t hk hf e1 with hc|⟨B,hs,hB0⟩
      ·exact w (.inl hc)
      have I:∀k,k<i->rG (kI all.toList) i k=true:=λk hk=>List.all_eq_true.1 q2 k (List.mem_range.2 hk);obtain⟨S',ρ',j,p,g',e,H',C,A,z⟩:=hB (i+1) i B (G.restore h3) (H:=jK H H2 []) hB0 q3 x;exact⟨S',ρ',j,p,g',e,H',C,A,.late L ⟨k1,l0,k2,k3,k4⟩ hs I q z⟩
 split at x
 ·rename_i S3 J;obtain⟨P,q,h3⟩:=uY G (y:=.tup []) trivial J;obtain⟨S',ρ',j,p,g',e,H',C,A,z⟩:=hA draw (i+1) h3 x;exact⟨S',ρ',j,p,g',e,H',C,A,.skipped L q z⟩
 cases x
theorem qLI{all:Array Oper}{o:Oper}{os:List Oper}(hA:qPL E Q n0 H0 g0 all (o::os))(hB:qSl E Q n0 H0 g0 all os):qSl E Q n0 H0 g0 all (o::os):=by
 intro i c l S ρ ve lb g fr H κ h C j e;cases O:eT all.toList c (o::os) i with
 |true=>obtain⟨S',ρ',t,u,g',w,H',I,G,F⟩:=hA true i h e;exact⟨S',ρ',t,u,g',w,H',I,G,F.toL O⟩
 | false=>
  rw[tL,O,Bool.or_false]at j;simp only[aE]at j;obtain⟨⟨hm,p⟩,j⟩:=j;have p:o.guard=none:=Option.isNone_iff_eq_none.1 p;have hg:vH all fr o=some true:=by simp only[vH,p]
  simp only[qDE,qCG,p]at e;cases A:(true&&xH E S o&& !(yT all.toList i)&& !(qCs all.toList i o os))with
  |true=>rw[A]at e;cases e
  | false=>
   rw[A]at e;simp only[cond_false]at e;obtain⟨y,S2,ρ2,ve2,J,g2,H2,h2,q,e,X,P⟩:=eU h.hide e;simp only at e;split at e;case h_2=>cases e
   rename_i S3 Z;obtain⟨fr3,N,h3⟩:=uY h2 q Z;obtain⟨k1,U,W,k3,V⟩:=X;have e1:=V (qOu U) (λa ha=>qCx W a ha);obtain⟨x,z⟩:=qQV (E:=E) (fr:=fr) hm (zR H []);obtain⟨L,rfl⟩:=qMh (z _ λ_=>rfl) e1;have hW:∀b,b∈qJ all.toList i [(c,l)]->b=l:=λb q=>by
    rw[qJ]at q;cases R:(Nat.beq c i||rG (kI all.toList) c i)with
    |true=>rw[R]at q;cases q
    |false=>rw[R]at q;exact List.mem_singleton.1 q
   have r:∀b,(zR H (qJ all.toList i [(c,l)])).blocks.get b=(zR H []).blocks.get b:=λb=>by
    show(lK H.blocks _).get b=H.blocks.get b;rw[yO];split
    ·rename_i q;rw[hW b q,C]
    rfl
   have K:∀ih,vL E ih fr o (zR H (qJ all.toList i [(c,l)]))=some (y.val ve2 J,zR H (qJ all.toList i [(c,l)])):=λih=>by simp only[vL,z _ r,L,one,Option.map_some]
   have B:∀b,(jK H (zR H (qJ all.toList i [(c,l)])) (qJ all.toList i [(c,l)])).blocks.get b=(zR H []).blocks.get b:=λb=>by
    show(yI _ _ _).get b=_;rw[xZ];split
    ·rfl
    exact r b
   have h4:=h3.congr (H2:=jK H (zR H (qJ all.toList i [(c,l)])) (qJ all.toList i [(c,l)])) B rfl (Nat.le_min.2 ⟨h.low,lT (Nat.min_le_right _ _) h.base.1⟩);obtain⟨S',ρ',t,u,g',w,H',I,G,F⟩:=hB (i+1) c l h4 (by rw[B];exact C) j e;exact⟨S',ρ',t,u,g',w,H',I,G,.mid hg K N F⟩
theorem qNH{all:Array Oper}:∀(x:List Oper),qPL E Q n0 H0 g0 all x/\qSl E Q n0 H0 g0 all x
 | []=>by have y:qPL E Q n0 H0 g0 all []:=λdraw i S ρ ve lb g fr H κ h c=>⟨S,ρ,ve,lb,g,fr,H,h,c,.nil⟩;exact⟨y,λi e j S ρ ve lb g fr H κ h _ _ c=>⟨S,ρ,ve,lb,g,fr,H,h,c,yW.nil.toL rfl⟩⟩
 |o::x=>by obtain⟨a,b⟩:=qNH x;have y:=qLJ (o:=o) a b;exact⟨y,qLI y b⟩
theorem qNG{all:Array Oper}{draw:Bool}(b:List Oper)(i:Nat){S:St}{ρ:List D}{ve:Nat->Value}{lb:Nat->Nat}{g:zB}{fr:Fr}{H:AH}{κ:St->Tree}(h:SR E n0 H0 g0 S ρ ve lb g fr H)(e:wp E (Holds E) Q (qDE E all draw b i S κ) ρ):
  ∃S' ρ' y c g' x H',SR E n0 H0 g0 S' ρ' y c g' x H'/\wp E (Holds E) Q (κ S') ρ'/\yW E all draw b i fr H x H':=(qNH b).1 draw i h e
end
end Go.Am
