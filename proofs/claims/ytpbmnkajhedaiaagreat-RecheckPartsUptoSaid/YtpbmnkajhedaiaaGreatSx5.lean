/- Symbolic runs: calls that are handed places of the function's own. Conditions: none. -/
import Derived.Test.YtpbmnkajhedaiaaGreatSx3
set_option linter.all false
namespace Go.Am
open Go
def qFS(E:Env)(f:FuncId)(ds:List D)(d:D):Prop:=(∃fn,E.funcs.get f=some fn)/\
 ∀(H:AH) (g:zG) (h:List Value),WF H->zG.le g H.blocks.get->qHK E g->DRs g ds h->∃v H' g',jV E f h H v H'/\H.next<H'.next/\WF H'/\(∀b,b<H.next->H'.blocks.get b=H.blocks.get b)/\Nat.min H.low H.next<=H'.low/\zG.le g g'/\zG.le g' H'.blocks.get/\(∀b,b<H.next->g' b=g b)/\DR g' d v
def qRp(m:Mode)(ve:Nat->Value)(lb:Nat->Nat):Value:=match m.out.slots with
 | [(_,x)]=>x.val ve lb
 |l=>.tuple ⟨SV.vals ve lb (l.map Prod.snd)⟩
def qQG(E:Env)(f:FuncId)(m:Mode)(ds:List D)(d:D):Prop:=(∃fn,E.funcs.get f=some fn)/\∃x,d=gZ x/\x.length=m.out.sts.length/\
 ∀(L:Lim) (H:AH) (g:zG) (ve:Nat->Value) (lb:Nat->Nat) (h:List Value),SR E L H g (m.inp.st m.n) ds ve lb g ⟨m.n,false,T.ofList .leaf 0 h⟩ H->h.length=m.n->(L.F=(List.range m.inp.blks.length).map lb)->∃v H' g' y,jV E f h H v H'/\H.next<H'.next/\SM {L with F:=[]} (m.out.st 0) x y lb g' H'/\(∀b,L.K b->H'.blocks.get b=H.blocks.get b)/\(∀b,L.K b->g' b=g b)/\Nat.min H.low L.n<=H'.low/\v=qRp m y lb
def Holds(E:Env)(f:FuncId)(ds:List D)(d:D):Prop:=(f<cQ/\qFS E f ds d)∨∃x m h,f=Nat.add cQ x/\ds=.mode m::h/\qQG E x m h d
section
variable{E:Env}{n0:Lim}{H0:AH}{g0:zG}{S:St}{ρ:List D}{ve:Nat->Value}{lb:Nat->Nat}{g:zG}{fr:Fr}{H:AH}{Q:Res1->Prop}{o:Oper}{κ:K1}{wm:Bool}
theorem qII{f:FuncId}{m:Mode}{ds:List D}{d:D}(h:Holds E (Nat.add cQ f) (.mode m::ds) d):qQG E f m ds d:=by rcases h with⟨h,_⟩|⟨y,m',x,c,b,h⟩;all_goals grind
theorem qKd{b:Nat}:∀{l:List Nat} {i k:Nat},qSg b l i=some k->∃j,k=i+j/\l[j]? = some b
 | [],_,_,h=>by cases h
 |c::r,i,k,h=>by
  simp only[qSg,qZ]at h;split at h
  ·simp_all
  obtain⟨j,y,x⟩:=qKd h;exact⟨j+1,by omega,by simpa using x⟩
def uB(lb:Nat->Nat)(bm:List Nat):Nat->Nat:=λk=>lb (bm.getD k 0)
mutual
theorem qH3{bm:List Nat}{n m:Nat}{ρ:Nat->D}:∀{x y:SV},x.toC bm=some y->y.val ve (uB lb bm)=x.val ve lb/\y.d ρ=x.d ρ/\(x.bd n m->y.bd n bm.length)
 |.v i,y,h=>by simp only[SV.toC,oI]at h;subst h;exact⟨rfl,rfl,λh=>h⟩
 |.c x,y,h=>by simp only[SV.toC,oI]at h;subst h;exact⟨rfl,rfl,λh=>h⟩
 | .loc b o,y,h=>by
  simp only[SV.toC]at h;split at h
  ·rename_i k B;cases h;obtain⟨j,e,c⟩:=qKd B;have:k=j:=by omega
   subst this;refine⟨?_,rfl,λ_=>(gI c).1⟩;simp only[SV.val,uB,List.getD_eq_getElem?_getD,c,Option.getD_some]
  cases h
 |.ptr _ _ _ _,y,h=>by cases h
 |.pp i o,y,h=>by simp only[SV.toC,oI]at h;subst h;exact⟨rfl,rfl,λh=>h⟩
 |.agg cs,y,h=>by
  simp only[SV.toC]at h;split at h
  ·rename_i l r;cases h;obtain⟨e,c,p⟩:=mP (n:=n) (m:=m) (ρ:=ρ) r;exact⟨by simp only[SV.val,e],by simp only[SV.d,c],p⟩
  cases h
 |.tup cs,y,h=>by
  simp only[SV.toC]at h;split at h
  ·rename_i l r;cases h;obtain⟨e,c,p⟩:=mP (n:=n) (m:=m) (ρ:=ρ) r;exact⟨by simp only[SV.val,e],by simp only[SV.d,c],p⟩
  cases h
 |.fn f a b,y,h=>by
  simp only[SV.toC]at h;split at h
  ·rename_i J I F C;cases h;obtain⟨e,c,p⟩:=mP (n:=n) (m:=m) (ρ:=ρ) F;obtain⟨z,w,u⟩:=mP (n:=n) (m:=m) (ρ:=ρ) C;exact⟨by simp only[SV.val,e,z],by simp only[SV.d,c,w],λq=>⟨p q.1,u q.2⟩⟩
  cases h
 |.ifc t x,y,h=>by
  simp only[SV.toC]at h;split at h
  ·rename_i G A;cases h;obtain⟨e,c,p⟩:=qH3 (n:=n) (m:=m) (ρ:=ρ) A;exact⟨by simp only[SV.val,e],by simp only[SV.d,c],p⟩
  cases h
theorem mP{bm:List Nat}{n m:Nat}{ρ:Nat->D}:∀{xs ys:List SV},SV.toCs bm xs=some ys->SV.vals ve (uB lb bm) ys=SV.vals ve lb xs/\SV.ds ρ ys=SV.ds ρ xs/\(SV.bds n m xs->SV.bds n bm.length ys)
 | [],ys,h=>by simp only[SV.toCs,oI]at h;subst h;exact⟨rfl,rfl,λh=>h⟩
 |x::xs,ys,h=>by
  simp only[SV.toCs]at h;split at h
  ·rename_i y l i j;cases h;obtain⟨t,r,p⟩:=qH3 (n:=n) (m:=m) (ρ:=ρ) i;obtain⟨e,c,b⟩:=mP (n:=n) (m:=m) (ρ:=ρ) j;exact⟨by simp only[SV.vals,t,e],by simp only[SV.ds,r,c],λq=>⟨p q.1,b q.2⟩⟩
  cases h
end
theorem qER{bm:List Nat}{x y:Blk}(h:x.toC bm=some y):x.isL=false/\y.isL=false:=by
 cases x with
 |loop _ _=>cases h
 |tcells _ _=>cases h
 |cells xs=>
  simp only[Blk.toC]at h;split at h
  ·cases h;exact⟨rfl,rfl⟩
  cases h
 |whole x k=>
  simp only[Blk.toC]at h;split at h
  ·cases h;exact⟨rfl,rfl⟩
  cases h
theorem qSX{bm:List Nat}{n m:Nat}{ρ:Nat->D}{x y:Blk}(h:x.toC bm=some y):(∀cs,jT ρ ve lb cs x->jT ρ ve (uB lb bm) cs y)/\(x.bd n m->y.bd n bm.length):=by
 cases x with
 |cells xs=>
  simp only[Blk.toC]at h;split at h
  ·rename_i l c;cases h;obtain⟨i,j,e⟩:=mP (ve:=ve) (lb:=lb) (n:=n) (m:=m) (ρ:=ρ) c;exact⟨λcs b=>by simp only[jT]at b ⊢;rw[i];exact b,e⟩
  cases h
 |loop _ _=>cases h
 |tcells _ _=>cases h
 |whole x k=>
  simp only[Blk.toC]at h;split at h
  ·rename_i l c;cases h;obtain⟨i,j,e⟩:=qH3 (ve:=ve) (lb:=lb) (n:=n) (m:=m) (ρ:=ρ) c;exact⟨λcs b=>by simp only[jT]at b ⊢;rw[i,j];exact b,e⟩
  cases h
theorem qC9{bm:List Nat}:∀{l:List Nat} {e:List (Option Blk)},iD S bm l=some e->e.length=l.length/\(∀b∈l,S.live b)/\∀(k:Nat) (y:Blk),e[k]? = some (some y)->∃(b:Nat) (x:Blk),l[k]? = some b/\S.blks[b]? = some (some x)/\x.toC bm=some y
 | [],e,h=>by simp only[iD,oI]at h;subst h;exact⟨rfl,λ_ h=>(by cases h),λk y h=>by simp at h⟩
 | b::r,e,h=>by
  simp only[iD]at h;split at h
  ·rename_i x l j p;split at h
   ·rename_i y u;cases h;obtain⟨t,q,w⟩:=qC9 p;refine⟨by simp[t],?_,?_⟩
    ·intro c i;rcases List.mem_cons.1 i with rfl|i
     ·exact⟨x,j⟩
     exact q c i
    grind
   cases h
  cases h
theorem fF:∀{l:List Nat},dR l=true->∀(i j a:Nat),l[i]? = some a->l[j]? = some a->i=j
 | [],_,i,j,a,hi,_=>by simp at hi
 | b::r,h,i,j,a,hi,x=>by
  simp only[dR,zR,Bool.not_eq_true']at h;have c:∀k:Nat,r[k]? = some b->False:=λk e=>by have:=List.mem_of_getElem? e;have y:=h.1;rw[List.any_eq_false]at y;exact y b this (Nat.beq_refl b)
  cases i with
  |zero=>grind
  |succ i=>cases j with
   |zero=>simp at x;subst x;exact absurd (by simpa using hi) (c i)
   |succ j=>exact congrArg (·+ 1) (fF h.2 i j a (by simpa using hi) (by simpa using x))
theorem mX{l:List Value}{t:Nat}:(T.ofList .leaf 0 l).get t=l[t]? :=by
 rw[gM];split
 ·rfl
 rename_i h;simp only[T.get];grind
theorem dQ{l:List SV}{t:Nat}:(T.ofList .leaf 0 l).get t=l[t]? :=by
 rw[gM];split
 ·rfl
 rename_i h;simp only[T.get];grind
theorem SR.forC(h:SR E n0 H0 g0 S ρ ve lb g fr H){bm:List Nat}{l u:List SV}{C:List (Option Blk)}(hl:SV.bds S.n S.blks.length l)(K:SV.toCs bm l=some u)(L:iD S bm bm=some C)(J:dR bm=true):SR E {n0 with F:=[],frs:=[],rd:=false} H0 g0 (S.forC u C) ρ ve (uB lb bm) g ⟨u.length,false,T.ofList .leaf 0 (SV.vals ve lb l)⟩ H:=by
 obtain⟨P,b2,O⟩:=qC9 L;have j:∀k,(S.forC u C).live k->∃b:Nat,bm[k]? = some b/\S.live b/\uB lb bm k=lb b:=by intro k ⟨y,I⟩;obtain⟨b,x,G,r,_⟩:=O k y I;exact⟨b,G,⟨x,r⟩,by simp only[uB,List.getD_eq_getElem?_getD,G,Option.getD_some]⟩
 obtain⟨R,_,v3⟩:=mP (ve:=ve) (lb:=lb) (n:=S.n) (m:=S.blks.length) (ρ:=getD ρ) K;refine {len:=h.len,wf:=h.wf,mem:=h.mem,base:=h.base,fix:=⟨Nat.zero_le _,λk a A=>by simp at A⟩,vars:=?_,blks:=?_,sepLG:=?_,sepFG:=h.sepFG,sepL:=?_,sepF:=h.sepF,sepX:=?_,sz:=rfl,rd:=rfl,slots:=?_,sav:=.nil,keep:=h.keep,gk:=h.gk,low:=h.low,tab:=h.tab}
 ·intro i s hs;have:=h.vars i s hs;obtain⟨k,oo⟩:=s;refine⟨this.1,?_⟩;have N:=this.2;cases k<;>try exact N
  rcases N with q|⟨B,l,cs,vs,el,rt,sz,es,q⟩|⟨B,es,ck,rt,ks,dd,q⟩
  ·exact .inl q
  ·exact .inr (.inl ⟨B,l,cs,vs,el,rt,sz,es,{q with rt:=q.rt}⟩)
  exact .inr (.inr ⟨B,es,ck,rt,ks,dd,{q with rt:=q.rt}⟩)
 ·intro k y I;obtain⟨b,x,G,r,p⟩:=O k y I;obtain⟨Z,q0⟩:=h.blks b x r;obtain⟨el,rt,cs,X,W,V⟩:=q0.cells (qER p).1;obtain⟨U,t2⟩:=qSX (ve:=ve) (lb:=lb) (n:=S.n) (m:=S.blks.length) (ρ:=getD ρ) p;have z:uB lb bm k=lb b:=by simp only[uB,List.getD_eq_getElem?_getD,G,Option.getD_some]
  refine⟨?_,.ofCells (qER p).2 ⟨el,rt,cs,by rw[z];exact X,by rw[z];exact W,U cs V⟩⟩;have:=t2 Z;show y.bd S.n C.length;rw[P];exact this
 ·intro k A;obtain⟨b,_,r,p⟩:=j k A;rw[p];exact h.sepLG b r
 ·intro a b ha hb e;obtain⟨c,c1,c2,c3⟩:=j a ha;obtain⟨d,d1,d2,d3⟩:=j b hb;rw[c3,d3]at e;have:=h.sepL c d c2 d2 e;subst this;exact fF J a b c c1 d1
 ·intro k i A hi;obtain⟨b,_,r,p⟩:=j k A;rw[p];exact h.sepX b i r hi
 intro t x w;have w:(T.ofList .leaf 0 u).get t=some x:=w;rw[dQ]at w;refine⟨?_,?_⟩
 ·have hm:=List.mem_of_getElem? w;have:=v3 hl;rw[SV.bds_iff]at this;show x.bd S.n C.length;rw[P];exact this x hm
 show(T.ofList .leaf 0 (SV.vals ve lb l)).get t=_;rw[mX,←R,SV.vals_map,List.getElem?_map,w];rfl
theorem SM.relim(h:SM n0 S ρ ve lb g H)(L:Lim)(j:L.n=n0.n)(G:∀b,L.K b->b<H.next)(p:∀b,S.live b->¬L.K (lb b))(c:∀i B,S.freshV i=true->jB (ve i)=some B->¬L.K B)(I:L.F.length<=S.blks.length/\∀k a,L.F[k]? = some a->lb k=a)(y:∀(b:Nat) (x:Blk),S.blks[b]? = some (some x)->x.isL=false):SM L S ρ ve lb g H:=by
 refine {len:=h.len,wf:=h.wf,mem:=h.mem,base:=⟨by rw[j];exact h.base.1,G⟩,fix:=I,vars:=?_,blks:=?_,sepLG:=h.sepLG,sepFG:=h.sepFG,sepL:=h.sepL,sepF:=h.sepF,sepX:=h.sepX}
 ·intro i s hs;have:=h.vars i s hs;obtain⟨k,r⟩:=s;refine⟨this.1,?_⟩;have t:=this.2;cases k<;>try exact t
  rcases t with q|⟨B,l,cs,vs,el,rt,sz,es,q⟩|⟨B,es,ck,rt,F,J,q⟩
  ·exact .inl q
  ·refine .inr (.inl ⟨B,l,cs,vs,el,rt,sz,es,{q with rt:=⟨by rw[j];exact q.rt.1,c i B (zL.2 ⟨r,hs⟩) ?_⟩}⟩);rw[q.v];simp[jB]
  exact .inr (.inr ⟨B,es,ck,rt,F,J,{q with rt:=⟨by rw[j];exact q.rt.1,c i B (zL.2 ⟨r,hs⟩) q.own⟩}⟩)
 intro b x e;obtain⟨A,C⟩:=h.blks b x e;obtain⟨el,rt,cs,z,w,u⟩:=C.cells (y b x e);exact⟨A,.ofCells (y b x e) ⟨el,rt,cs,z,⟨by rw[j];exact w.1,p b ⟨x,e⟩⟩,u⟩⟩
theorem qI5{p:Pat}{sz:Nat}{azq:List SV}(h:SM n0 S ρ ve lb g H)(e:cW sz p azq S=true){i B b:Nat}(r:(p.st b).freshV i=true)(y:jB (pS ve lb azq i)=some B):∃j,azq[i]? = some (.v j)/\S.freshV j=true/\jB (ve j)=some B:=by
 unfold cW at e;simp only[zR]at e;obtain⟨⟨⟨_,t⟩,_⟩,_⟩:=e;obtain⟨o,hs⟩:=zL.1 r;obtain⟨x,l,_,q⟩:=l7 t hs;simp only at q;simp only[pS,l]at y;rcases iX q with(rfl|⟨j,u,rfl,c⟩)|⟨j,rfl,c⟩
 ·simp[SV.val,jB]at y
 ·have y:jB (ve j)=some B:=y;rw[qFR.own (h.vars j _ c).2]at y;cases y
 exact⟨j,l,c,y⟩
theorem qMb{p:Pat}{sz:Nat}{azq:List SV}(c:cW sz p azq S=true){b h:Nat}(l:(p.st h).live b):S.live b:=by
 unfold cW at c;simp only[zR]at c;obtain⟨⟨⟨⟨_,q⟩,_⟩,_⟩,_⟩:=c;obtain⟨x,i⟩:=l;obtain⟨y,e,j⟩:=nW q i;cases y with
 |none=>cases x<;>cases j
 |some y=>exact⟨y,e⟩
theorem qMa{p:Pat}{sz:Nat}{azq:List SV}(i:cW sz p azq S=true){b e:Nat}{x:Blk}(l:(p.st e).blks[b]? = some (some x))(j:x.isL=true):∃y:Blk,S.blks[b]? = some (some y)/\y.isL=true:=by
 unfold cW at i;simp only[zR]at i;obtain⟨⟨⟨⟨_,q⟩,_⟩,_⟩,_⟩:=i;obtain⟨y,c,h⟩:=nW q l;cases x with
 |cells _=>cases j
 |whole _ _=>cases j
 | loop _ _=>cases y with
  |none=>cases h
  |some y=>cases y with
   |loop _ _=>exact⟨_,c,rfl⟩
   |tcells _ _=>exact⟨_,c,rfl⟩
   |cells _=>cases h
   |whole _ _=>cases h
 | tcells _ _=>cases y with
  |none=>cases h
  |some y=>cases y with
   |loop _ _=>exact⟨_,c,rfl⟩
   |tcells _ _=>exact⟨_,c,rfl⟩
   |cells _=>cases h
   |whole _ _=>cases h
theorem qQl{p:Pat}{sz:Nat}{azq:List SV}(h:cW sz p azq S=true)(x:S.sav=[]):p.sav=[]:=by
 unfold cW at h;simp only[zR]at h;have:=h.2;rw[x]at this;cases y:p.sav with
 |nil=>rfl
 |cons a l=>rw[y]at this;cases this
theorem qLK:∀(l:List VSt) (x:SV),(bI l x).length=l.length:=by intro l x;cases x<;>first|rfl|simp[bI]
theorem yJ:∀(azq:List SV) (l:List VSt),(azq.foldl bI l).length=l.length
 | [],_=>rfl
 |a::azq,l=>by rw[List.foldl_cons,yJ azq,qLK]
theorem qCg:∀(azq:List SV) (l:List VSt) {i:Nat} {s:VSt},(azq.foldl bI l)[i]? = some s->∃s0,l[i]? = some s0/\((s=s0/\(s.k=.fresh->SV.v i∉azq))∨(s=⟨.dead,s0.one⟩))
 | [],l,i,s,h=>⟨s,h,.inl ⟨rfl,λ_ h=>by cases h⟩⟩
 | a::azq,l,i,s,h=>by
  obtain⟨y,x,q⟩:=qCg azq (bI l a) h;have key:∃s0,l[i]? = some s0/\((y=s0/\(y.k=.fresh->SV.v i≠a))∨y=⟨.dead,s0.one⟩):=by
   cases a with
   | v j=>
    simp only[bI,List.getElem?_modify]at x;cases b:l[i]? with
    |none=>rw[b]at x;simp at x
    |some s0=>
     rw[b]at x;refine⟨s0,rfl,?_⟩;change some _=some _ at x;injection x with x;simp only at x;by_cases e:j=i
     ·rw[if_pos e]at x;obtain⟨p,c⟩:=s0;grind
     grind
   |_=>exact⟨y,x,.inl ⟨rfl,λ_ he=>by cases he⟩⟩
  grind
theorem e8{n:Nat}{bm:List Nat}:∀(l:List Nat) (xs B:List (Option Blk)),(sF n bm l xs B).length=B.length
 | [],_,_=>by simp[sF]
 |b::h,[],B=>(e8 h [] _).trans (List.length_set ..)
 |b::h,x::xs,B=>(e8 h xs _).trans (List.length_set ..)
theorem qBM{n:Nat}{bm:List Nat}:∀(l:List Nat) (xs B:List (Option Blk)) {c:Nat} {y:Blk},(sF n bm l xs B)[c]? = some (some y)->(c∉l/\B[c]? = some (some y))∨∃(k:Nat) (x:Blk),l[k]? = some c/\xs[k]? = some (some x)/\y=x.ofC n bm
 | [],_,B,c,y,h=>.inl ⟨λh=>(by cases h),by simpa[sF]using h⟩
 |b::j,[],B,c,y,h=>by have h:(sF n bm j [] (B.set b none))[c]? = some (some y):=h;rcases qBM j [] _ h with⟨p,i⟩|⟨k,x,p,i,_⟩;all_goals grind
 | b::j,x::xs,B,c,y,h=>by
  have h:(sF n bm j xs (B.set b (x.map (Blk.ofC n bm))))[c]? = some (some y):=h;rcases qBM j xs _ h with⟨p,i⟩|⟨k,q,p,i,r⟩
  ·rw[List.getElem?_set]at i;split at i
   ·rename_i e;subst e;split at i
    ·cases x with
     |none=>cases i
     |some x=>exact .inr ⟨0,x,rfl,rfl,by simpa using i.symm⟩
    cases i
   grind
  exact .inr ⟨k+1,q,by simpa using p,by simpa using i,r⟩
section
variable{n k M:Nat}{bm:List Nat}{ve3 ve2:Nat->Value}{ρ3 ρ2:Nat->D}
mutual
theorem uN(hv:∀i,ve3 (n+i)=ve2 i)(hd:∀i,ρ3 (n+i)=ρ2 i)(y:∀j,j<bm.length->bm.getD j 0<M):∀{x:SV},(x.ofC n bm).val ve3 lb=x.val ve2 (uB lb bm)/\(x.ofC n bm).d ρ3=x.d ρ2/\(x.bd k bm.length->(x.ofC n bm).bd (n+k) M)
 |.v i=>⟨hv i,hd i,λh=>Nat.add_lt_add_left h n⟩
 |.c _=>⟨rfl,rfl,λh=>h⟩
 |.loc b o=>⟨rfl,rfl,λh=>y b h⟩
 |.ptr s i _ _=>by obtain⟨a1,a2,a3⟩:=uN hv hd y (x:=s);obtain⟨e,l,c⟩:=uN hv hd y (x:=i);exact⟨by simp only[SV.ofC,SV.val,a1,e],rfl,λh=>⟨a3 h.1,c h.2⟩⟩
 |.pp i o=>⟨by simp only[SV.ofC,SV.val];rw[show Nat.add n i=n+i from rfl,hv i],by simp only[SV.ofC,SV.d];rw[show Nat.add n i=n+i from rfl,hd i],λh=>Nat.add_lt_add_left h n⟩
 |.agg cs=>by obtain⟨a1,a2,a3⟩:=mY hv hd y (xs:=cs);exact⟨by simp only[SV.ofC,SV.val,a1],by simp only[SV.ofC,SV.d,a2],a3⟩
 |.tup cs=>by obtain⟨a1,a2,a3⟩:=mY hv hd y (xs:=cs);exact⟨by simp only[SV.ofC,SV.val,a1],by simp only[SV.ofC,SV.d,a2],a3⟩
 |.fn f a b=>by obtain⟨a1,a2,a3⟩:=mY hv hd y (xs:=a);obtain⟨e,l,c⟩:=mY hv hd y (xs:=b);exact⟨by simp only[SV.ofC,SV.val,a1,e],by simp only[SV.ofC,SV.d,a2,l],λh=>⟨a3 h.1,c h.2⟩⟩
 |.ifc t x=>by obtain⟨a1,a2,a3⟩:=uN hv hd y (x:=x);exact⟨by simp only[SV.ofC,SV.val,a1],by simp only[SV.ofC,SV.d,a2],a3⟩
 |.yld b=>⟨rfl,rfl,λh=>y b h⟩
theorem mY(hv:∀i,ve3 (n+i)=ve2 i)(hd:∀i,ρ3 (n+i)=ρ2 i)(y:∀j,j<bm.length->bm.getD j 0<M):∀{xs:List SV},SV.vals ve3 lb (SV.ofCs n bm xs)=SV.vals ve2 (uB lb bm) xs/\SV.ds ρ3 (SV.ofCs n bm xs)=SV.ds ρ2 xs/\(SV.bds k bm.length xs->SV.bds (n+k) M (SV.ofCs n bm xs))
 | []=>⟨rfl,rfl,λh=>h⟩
 |x::xs=>by obtain⟨a1,a2,a3⟩:=uN hv hd y (x:=x);obtain⟨e,c,b⟩:=mY hv hd y (xs:=xs);exact⟨by simp only[SV.ofCs,SV.vals,a1,e],by simp only[SV.ofCs,SV.ds,a2,c],λh=>⟨a3 h.1,b h.2⟩⟩
end
theorem qSY(hv:∀i,ve3 (n+i)=ve2 i)(hd:∀i,ρ3 (n+i)=ρ2 i)(y:∀j,j<bm.length->bm.getD j 0<M){x:Blk}:(∀cs,jT ρ2 ve2 (uB lb bm) cs x->jT ρ3 ve3 lb cs (x.ofC n bm))/\(x.bd k bm.length->(x.ofC n bm).bd (n+k) M):=by
 cases x with
 |cells xs=>obtain⟨a1,a2,a3⟩:=mY (lb:=lb) (k:=k) hv hd y (xs:=xs);exact⟨λcs h=>by simp only[Blk.ofC,jT]at h ⊢;rw[a1];exact h,a3⟩
 |loop _ _=>exact⟨λcs h=>h,λh=>h⟩
 |tcells t xs=>obtain⟨a1,a2,a3⟩:=mY (lb:=lb) (k:=k) hv hd y (xs:=xs);exact⟨λcs h=>by simp only[Blk.ofC,jT]at h ⊢;rw[a1];exact h,a3⟩
 |whole x q=>obtain⟨a1,a2,a3⟩:=uN (lb:=lb) (k:=k) hv hd y (x:=x);exact⟨λcs h=>by simp only[Blk.ofC,jT]at h ⊢;rw[a1,a2];exact h,a3⟩
end
end
theorem mH.of_call{E:Env}{fr:Fr}{o:Oper}{H H':AH}{f:FuncId}{args:List Value}{v:Value}(x:v9 E fr o H=some (.enter f args,H))(b:jV E f args H v H')(h:H.next<H'.next):mH E fr o H v H':=by
 refine⟨Nat.le_of_lt h,[{f:=f,args:=args,H:=H,v:=v,H':=H'}],⟨⟨h,b⟩,vE _,trivial⟩,λa x=>?_,λc y=>?_⟩
 ·grind
 have:=y _ (List.mem_singleton.2 rfl);simp only[jL.cmd]at this;simp only[vS,x];rw[this]
section
variable{E:Env}{n0:Lim}{H0:AH}{g0:zG}{S:St}{ρ:List D}{ve:Nat->Value}{lb:Nat->Nat}{g:zG}{fr:Fr}{H:AH}{Q:Res1->Prop}{o:Oper}{κ:K1}{wm:Bool}
theorem SR.after(h:SR E n0 H0 g0 S ρ ve lb g fr H){m:Mode}{bm:List Nat}{azq:List SV}(hnd:dR bm=true)(O:∀b∈bm,S.live b){L:Lim}{H':AH}{g':zG}{ve2:Nat->Value}{ds:List D}(hLn:L.n=n0.n)(Z:∀b,L.K b↔b<H.next/\(∀c∈bm,lb c≠b)/\(∀i,SV.v i∈azq->S.freshV i=true->jB (ve i)≠some b))(hLF:L.F=[])(w:SM L (m.out.st 0) ds ve2 (uB lb bm) g' H')(P:∀b,L.K b->H'.blocks.get b=H.blocks.get b)(W:∀b,L.K b->g' b=g b)(hlow:Nat.min H.low L.n<=H'.low)(hnx:H.next<H'.next)(hln:m.out.blks.length<=bm.length)(hnl:m.out.blks.all fG=true):SR E n0 H0 g0 (S.after m bm azq) (ρ++ds) (λi=>if i<S.n then ve i else ve2 (i-S.n)) lb g' fr H':=by
 have hlen:ρ.length=S.n:=h.len;have hds:ds.length=m.out.sts.length:=w.len;have hn:(S.after m bm azq).n=S.n+m.out.sts.length:=by show(azq.foldl bI S.sts++m.out.sts).length=_;rw[List.length_append,yJ];rfl
 have X:(S.after m bm azq).blks.length=S.blks.length:=e8 _ _ _;have e1:∀i,i<S.n->(λi=>if i<S.n then ve i else ve2 (i-S.n)) i=ve i:=λi r=>if_pos r;have e2:∀i,(λi=>if i<S.n then ve i else ve2 (i-S.n)) (S.n+i)=ve2 i:=λi=>by grind
 have d1:∀i,i<S.n->getD (ρ++ds) i=getD ρ i:=λi r=>by simp only[getD,List.getD_eq_getElem?_getD];grind
 have d2:∀i,getD (ρ++ds) (S.n+i)=getD ds i:=λi=>by simp only[getD,List.getD_eq_getElem?_getD];grind
 have hM:∀j,j<bm.length->bm.getD j 0<S.blks.length:=λj hj=>by
  have:bm.getD j 0=bm[j]:=by simp[List.getD_eq_getElem?_getD,List.getElem?_eq_getElem hj]
  rw[this];exact qBe (O _ (List.getElem_mem hj))
 have Ksub:∀b,n0.K b->L.K b:=λb z=>(Z b).2 ⟨h.base.2 b z,λc V e=>(xQ h.toSM (O c V)).2 (by rw[e];exact z),λi _ r e=>by
  obtain⟨oo,hs⟩:=zL.1 r;rcases(h.vars i _ hs).2 with q|⟨B,l,cs,vs,el,rt,sz,es,q⟩|⟨B,es,ck,rt,ks,dd,q⟩
  ·rw[q.own]at e;cases e
  rotate_left
  ·rw[q.own]at e;cases e;exact q.rt.2 z
  ·rw[q.v]at e;simp only[jB,vE,if_true,oI]at e;subst e;exact q.rt.2 z⟩
 have I:∀b rt,L.own b rt->n0.own b rt:=λb rt q=>⟨by rw[←hLn];exact q.1,λz=>q.2 (Ksub b z)⟩;have hle:zG.le g g':=λb k z=>by have hbn:=qPn h.toSM z;have:L.K b:=(Z b).2 ⟨hbn,λc V e=>(by rw[←e,h.sepLG c (O c V)]at z;cases z),λi _ r e=>(by rw[h.sepFG i b r e]at z;cases z)⟩;rw[W b this];exact z
 have F:∀i,(S.after m bm azq).freshV i=true->i<S.n->S.freshV i=true/\SV.v i∉azq:=by
  intro i r A;obtain⟨oo,hs⟩:=zL.1 r;have hs:(azq.foldl bI S.sts++m.out.sts)[i]? = some ⟨.fresh,oo⟩:=hs;rw[List.getElem?_append_left (by rw[yJ];exact A)]at hs;obtain⟨s0,k1,U⟩:=qCg azq S.sts hs;rcases U with⟨rfl,U⟩|U
  ·exact⟨zL.2 ⟨oo,k1⟩,U rfl⟩
  ·cases U
 have G:∀i,(S.after m bm azq).freshV i=true->¬i<S.n->(m.out.st 0).freshV (i-S.n)=true:=by intro i r A;obtain⟨oo,hs⟩:=zL.1 r;have hs:(azq.foldl bI S.sts++m.out.sts)[i]? = some ⟨.fresh,oo⟩:=hs;rw[List.getElem?_append_right (by rw[yJ];exact Nat.le_of_not_lt A),yJ]at hs;exact zL.2 ⟨oo,hs⟩
 have R:∀i B,S.freshV i=true->SV.v i∉azq->jB (ve i)=some B->L.K B:=by intro i B r hm J;refine(Z B).2 ⟨(oA h.toSM r J).1,λc V e=>h.sepX c i (O c V) r (by rw[e];exact J),λj hj hfj e=>?_⟩;have:=h.sepF i j B r hfj J e;subst this;exact hm hj
 have N:∀b,S.live b->b∉bm->L.K (lb b):=by intro b z hm;refine(Z _).2 ⟨(xQ h.toSM z).1,λc V e=>?_,λi _ r=>h.sepX b i z r⟩;have:=h.sepL c b (O c V) z e;subst this;exact hm V
 have K:∀i B,(m.out.st 0).freshV i=true->jB (ve2 i)=some B->¬L.K B:=by
  intro i B r J;obtain⟨oo,hs⟩:=zL.1 r;rcases(w.vars i _ hs).2 with q|⟨B',l,cs,vs,el,rt,sz,es,q⟩|⟨B',es,ck,rt,ks,dd,q⟩
  ·rw[q.own]at J;cases J
  rotate_left
  ·rw[q.own]at J;cases J;exact q.rt.2
  ·rw[q.v]at J;simp only[jB,vE,if_true,oI]at J;subst J;exact q.rt.2
 have blk:∀c y,(S.after m bm azq).blks[c]? = some (some y)->(c∉bm/\S.blks[c]? = some (some y))∨∃(k:Nat) (x:Blk),bm[k]? = some c/\(m.out.st 0).blks[k]? = some (some x)/\y=x.ofC S.n bm:=λc y hy=>qBM _ _ _ hy;have lbk:∀{k c:Nat},bm[k]? = some c->uB lb bm k=lb c:=λ{k c} hk=>by simp only[uB,List.getD_eq_getElem?_getD,hk,Option.getD_some]
 have lv:∀c,(S.after m bm azq).live c->(c∉bm/\S.live c)∨∃k,bm[k]? = some c/\(m.out.st 0).live k:=by
  intro c ⟨y,hy⟩;rcases blk c y hy with⟨C,u⟩|⟨k,x,C,u,_⟩
  ·exact .inl ⟨C,y,u⟩
  ·exact .inr ⟨k,C,x,u⟩
 have lv0:∀c,(S.after m bm azq).live c->S.live c:=by
  intro c V;rcases lv c V with⟨_,u⟩|⟨k,C,_⟩
  ·exact u
  ·exact O c (List.mem_of_getElem? C)
 refine { len:=?_,wf:=w.wf,mem:=w.mem,base:=h.base.mono (Nat.le_of_lt hnx),fix:=⟨by rw[X];exact h.fix.1,h.fix.2⟩,vars:=?_,blks:=?_,sepLG:=?_,sepFG:=?_,sepL:=λa b ha z=>h.sepL a b (lv0 a ha) (lv0 b z),sepF:=?_,sepX:=?_,
          sz:=h.sz,rd:=h.rd,slots:=?_,sav:=h.sav.congr (by rw[hn];omega) (by rw[X];exact vE _) e1 (λ_ _=>rfl),keep:=λb z=>by rw[P b (Ksub b z)];exact h.keep b z,gk:=λb z=>by rw[W b (Ksub b z)];exact h.gk b z,low:=?_,tab:=λp hp=>by have q:=h.tab p hp;rw[W p.1 ((Z p.1).2 ⟨qPn h.toSM q,λc V e=>(by rw[←e,h.sepLG c (O c V)]at q;cases q),λi _ r e=>(by rw[h.sepFG i p.1 r e]at q;cases q)⟩)];exact q}
 ·show(ρ++ds).length=(azq.foldl bI S.sts++m.out.sts).length;rw[List.length_append,List.length_append,yJ,hds,hlen];rfl
 ·intro i s hs;have hs:(azq.foldl bI S.sts++m.out.sts)[i]? = some s:=hs;by_cases r:i<S.n
  ·rw[List.getElem?_append_left (by rw[yJ];exact r)]at hs;obtain⟨s0,k1,U⟩:=qCg azq S.sts hs;simp only[if_pos r];rw[d1 i r];have hv:=h.vars i s0 k1;rcases U with⟨rfl,U⟩|U
   ·refine hv.mono hle λhk B J=>P B ?_;obtain⟨k,oo⟩:=s;simp only at hk;subst hk;exact R i B (zL.2 ⟨oo,k1⟩) (U rfl) J
   ·subst U;exact⟨hv.1,trivial⟩
  ·rw[List.getElem?_append_right (by rw[yJ];exact Nat.le_of_not_lt r),yJ]at hs;have hv:=w.vars (i-S.n) s hs;simp only[if_neg r];have hd:=d2 (i-S.n);rw[show S.n+(i-S.n)=i by omega]at hd;rw[hd];obtain⟨k,oo⟩:=s;refine⟨hv.1,?_⟩;have u:=hv.2;cases k<;>try exact u
   rcases u with q|⟨B,l,cs,vs,el,rt,sz,es,q⟩|⟨B,es,ck,rt,ks,dd,q⟩
   ·exact .inl q
   ·exact .inr (.inl ⟨B,l,cs,vs,el,rt,sz,es,{q with rt:=I _ _ q.rt}⟩)
   ·exact .inr (.inr ⟨B,es,ck,rt,ks,dd,{q with rt:=I _ _ q.rt}⟩)
 ·intro c y hy;rcases blk c y hy with⟨C,u⟩|⟨k,x,C,u,rfl⟩
  ·obtain⟨q1,q2⟩:=h.blks c y u;exact⟨Blk.bd_mono (by rw[hn];omega) (by rw[X];exact vE _) q1,q2.congr (P _ (N c ⟨y,u⟩ C)) rfl λ_ q4=>q4.congr e1 (λ_ _=>rfl) d1 q1⟩
  ·obtain⟨q1,q0⟩:=w.blks k x u;have hxl:x.isL=false:=by
    rw[List.all_eq_true]at hnl;have:=hnl _ (List.mem_of_getElem? (show m.out.blks[k]? = some (some x)from u));cases x with
    |loop _ _=>cases this
    |tcells _ _=>cases this
    |cells _=>rfl
    |whole _ _=>rfl
   obtain⟨el,rt,cs,q2,q3,q4⟩:=q0.cells hxl;obtain⟨t1,t2⟩:=qSY (lb:=lb) (k:=(m.out.st 0).n) (M:=S.blks.length) (ve3:=λi=>if i<S.n then ve i else ve2 (i-S.n)) (ve2:=ve2) (ρ3:=getD (ρ++ds)) (ρ2:=getD ds) e2 d2 hM (x:=x);have hk:uB lb bm k=lb c:=lbk C;rw[hk]at q2 q3;refine⟨?_,.ofCells (by cases x<;>first|rfl|cases hxl) ⟨el,rt,cs,q2,I _ _ q3,t1 cs q4⟩⟩;rw[hn,X];exact t2 (Blk.bd_mono (vE _) hln q1)
 ·intro b z;rcases lv b z with⟨C,u⟩|⟨k,C,u⟩
  ·rw[W _ (N b u C)];exact h.sepLG b u
  ·have:=w.sepLG k u;rw[lbk C]at this;exact this
 ·intro i B r J;by_cases A:i<S.n
  ·obtain⟨k1,U⟩:=F i r A;simp only[if_pos A]at J;rw[W _ (R i B k1 U J)];exact h.sepFG i B k1 J
  ·simp only[if_neg A]at J;exact w.sepFG _ B (G i r A) J
 ·intro i j B r hj C u;by_cases a1:i<S.n<;>by_cases a2:j<S.n
  ·simp only[if_pos a1]at C;simp only[if_pos a2]at u;exact h.sepF i j B (F i r a1).1 (F j hj a2).1 C u
  ·simp only[if_pos a1]at C;simp only[if_neg a2]at u;exact absurd (R i B (F i r a1).1 (F i r a1).2 C) (K _ B (G j hj a2) u)
  ·simp only[if_neg a1]at C;simp only[if_pos a2]at u;exact absurd (R j B (F j hj a2).1 (F j hj a2).2 u) (K _ B (G i r a1) C)
  ·simp only[if_neg a1]at C;simp only[if_neg a2]at u;have:=w.sepF _ _ B (G i r a1) (G j hj a2) C u;omega
 ·intro b i z r;by_cases A:i<S.n
  ·simp only[if_pos A];exact h.sepX b i (lv0 b z) (F i r A).1
  ·simp only[if_neg A];rcases lv b z with⟨C,u⟩|⟨k,C,u⟩
   ·intro e;exact K _ _ (G i r A) e (N b u C)
   ·have:=w.sepX k _ u (G i r A);rw[lbk C]at this;exact this
 ·intro t x hx;obtain⟨q1,q2⟩:=h.slots t x hx;exact⟨SV.bd_mono (by rw[hn];omega) (by rw[X];exact vE _) q1,by rw[q2,SV.val_congr e1 (λ_ _=>rfl) q1]⟩
 ·have C:=h.low;have u:Nat.min H.low n0.n<=H'.low:=by rw[←hLn];exact hlow
  exact lT (Nat.le_min.2 ⟨C,Nat.min_le_right _ _⟩) u
theorem qGe{a b:List D}(h:gZ a=gZ b)(c:a.length=b.length):a=b:=by
 match a,b,c with
 | [],[],_=>rfl
 | [x],[y],_=>exact congrArg (λz=>[z]) h
 |x::y::r,i::e::j,_=>injection h
theorem qOC(h:SR E n0 H0 g0 S ρ ve lb g fr H){f:FuncId}{l:List SV}(hl:SV.bds S.n S.blks.length l)(ha:(∃fn,E.funcs.get f=some fn)->v9 E fr o H=some (.enter f (SV.vals ve lb l),H))(w:wp E (Holds E) Q (qJa E f l S κ) ρ):jZ true E (Holds E) Q n0 H0 g0 fr H o κ:=by
 unfold qJa at w;simp only at w;generalize qI6 S 3 ((lC l).foldl qXZ [])=bm at w;split at w;case h_2=>cases w
 rename_i fn O bs hfn U hbs;generalize qPe (S.forC O bs) (qIJ E f) fn.resultTypes.size O bs=mi at w;obtain⟨m,azq⟩:=mi;simp only at w;obtain⟨g2,ex,h2⟩:=xF (g9 m.inp.sts azq) h;generalize vR S (g9 m.inp.sts azq)=p at w ex h2;obtain⟨W,w⟩:=jC w;simp only[zR]at W;obtain⟨⟨⟨⟨⟨⟨R,t⟩,G⟩,u⟩,hob⟩,N⟩,hnl⟩:=W;have G:=vP G;have N:=oK N;simp only[wp]at w;obtain⟨ds,hh,hdl,w⟩:=w;have hM:=qII hh;obtain⟨hfe,ds',hd',V,hM⟩:=hM;have hds:=qGe hd' (by rw[hdl,V]);subst hds;have hl2:SV.bds p.n p.blks.length l:=ex.bds hl;have qIK:iD p bm bm=some bs:=by
  have:∀r,iD p bm r=iD S bm r:=by
   intro r;induction r with
   |nil=>rfl
   |cons b r ih=>simp only[iD,ex.blks,ih]
  rw[this];exact hbs
 obtain⟨b1,b2,b3⟩:=qC9 qIK;have hC:=h2.forC hl2 U qIK R;have A:=qKF hC t (Nat.zero_le _);have hvals:SV.vals ve lb l=SV.vals ve lb l:=rfl;have X:(SV.vals ve lb l).length=O.length:=by have:=(mP (ve:=ve) (lb:=lb) (n:=S.n) (m:=S.blks.length) (ρ:=getD ρ) U).1;rw[←this,SV.vals_map,List.length_map]
 let L:Lim:={n:=n0.n,K:=λb=>b<H.next/\(∀c∈bm,lb c≠b)/\(∀i,SV.v i∈azq->p.freshV i=true->jB (ve i)≠some b),F:=(List.range m.inp.blks.length).map (uB lb bm)};have C:∀k,(m.inp.st O.length).live k->∃c:Nat,bm[k]? = some c:=by intro k hk;obtain⟨y,hy⟩:=qMb t hk;obtain⟨b,x,e1,_,_⟩:=b3 k y hy;exact⟨b,e1⟩
 have hSM:SM L (m.inp.st O.length) (SV.ds (getD ρ) azq) (pS ve (uB lb bm) azq) (uB lb bm) g2 H:=by
  refine A.toSM.relim L rfl (λb hb=>hb.1) ?_ ?_ ⟨?_,?_⟩ ?_
  ·intro k hk hK;obtain⟨c,W⟩:=C k hk;refine hK.2.1 c (List.mem_of_getElem? W) ?_;simp only[uB,List.getD_eq_getElem?_getD,W,Option.getD_some]
  ·intro i B hi hB hK;obtain⟨j,j1,j2,j3⟩:=qI5 (lb:=uB lb bm) hC.toSM t hi hB;exact hK.2.2 j (List.mem_of_getElem? j1) j2 j3
  ·show((List.range m.inp.blks.length).map (uB lb bm)).length<=m.inp.blks.length;simp
  ·grind
  intro b x hx;cases hxl:x.isL with
  |false=>rfl
  |true=>obtain⟨y,hy,P⟩:=qMa t hx hxl;obtain⟨_,z,_,_,hz⟩:=b3 b y hy;rw[(qER hz).2]at P;cases P
 have hSR:SR E L H g2 (m.inp.st m.n) (SV.ds (getD ρ) azq) (pS ve (uB lb bm) azq) (uB lb bm) g2 ⟨m.n,false,T.ofList .leaf 0 (SV.vals ve lb l)⟩ H:=by rw[G];exact {hSM with tab:=A.tab,sz:=A.sz,rd:=A.rd,slots:=A.slots,sav:=by rw[show(m.inp.st O.length).sav=[]from qQl t rfl];exact .nil,keep:=λ_ _=>rfl,gk:=λ_ _=>rfl,low:=Nat.min_le_left _ _}
 obtain⟨v,H',g',ve2,c1,c2,c3,c4,c5,c6,c7⟩:=hM L H g2 _ _ _ hSR (by rw[X,G]) rfl;have hA:=h2.after (m:=m) (bm:=bm) (azq:=azq) R b2 (L:={L with F:=[]}) rfl (λb=>Iff.rfl) rfl c3 c4 c5 c6 c2 N hnl;have hlen:ρ.length=p.n:=h2.len;have e2:∀i,(λi=>if i<p.n then ve i else ve2 (i-p.n)) (p.n+i)=ve2 i:=λi=>by grind
 have d2:∀i,getD (ρ++ds) (p.n+i)=getD ds i:=λi=>by simp only[getD,List.getD_eq_getElem?_getD];grind
 have Z:∀j,j<bm.length->bm.getD j 0<p.blks.length:=λj hj=>by
  have:bm.getD j 0=bm[j]:=by simp[List.getD_eq_getElem?_getD,List.getElem?_eq_getElem hj]
  rw[this];exact qBe (b2 _ (List.getElem_mem hj))
 have hn:(p.after m bm azq).n=p.n+m.out.sts.length:=by show(azq.foldl bI p.sts++m.out.sts).length=_;rw[List.length_append,yJ];rfl
 have hbl:(p.after m bm azq).blks.length=p.blks.length:=e8 _ _ _;have J:(qJO m p.n bm).val (λi=>if i<p.n then ve i else ve2 (i-p.n)) lb=v/\(qJO m p.n bm).bd (p.after m bm azq).n (p.after m bm azq).blks.length:=by
  rw[c7,hn,hbl];rw[List.all_eq_true]at u;unfold qJO qRp;generalize m.out.slots=sl at u;have I:∀l:List (Nat×SV),(∀q∈l,qMz m.out.sts.length bm.length q.2=true)->(SV.tup (SV.ofCs p.n bm (l.map Prod.snd))).val (λi=>if i<p.n then ve i else ve2 (i-p.n)) lb=.tuple ⟨SV.vals ve2 (uB lb bm) (l.map Prod.snd)⟩/\(SV.tup (SV.ofCs p.n bm (l.map Prod.snd))).bd (p.n+m.out.sts.length) p.blks.length:=by intro l hl;obtain⟨t1,_,t3⟩:=mY (lb:=lb) (k:=m.out.sts.length) (M:=p.blks.length) (ve3:=λi=>if i<p.n then ve i else ve2 (i-p.n)) (ve2:=ve2) (ρ3:=getD (ρ++ds)) (ρ2:=getD ds) e2 d2 Z (xs:=l.map Prod.snd);refine⟨by simp only[SV.val,t1],t3 ?_⟩;rw[SV.bds_iff];intro x hx;obtain⟨q,hq,rfl⟩:=List.mem_map.1 hx;exact cT (hl q hq)
  match sl,u with
  | [],u=>exact I [] u
  | [(q,x)],u=>obtain⟨t1,_,t3⟩:=uN (lb:=lb) (k:=m.out.sts.length) (M:=p.blks.length) (ve3:=λi=>if i<p.n then ve i else ve2 (i-p.n)) (ve2:=ve2) (ρ3:=getD (ρ++ds)) (ρ2:=getD ds) e2 d2 Z (x:=x);exact⟨t1,t3 (cT (u (q,x) (List.mem_singleton.2 rfl)))⟩
  |a::b::r,u=>exact I (a::b::r) u
 refine⟨_,_,_,_,_,_,_,hA,J.2,w,?_,λe=>by cases e⟩;rw[J.1];exact .of_call (ha hfe) c1 c2
end
section
variable{E:Env}{n0:Lim}{H0:AH}{g0:zG}{S:St}{ρ:List D}{ve:Nat->Value}{lb:Nat->Nat}{g:zG}{fr:Fr}{H:AH}{Q:Res1->Prop}{o:Oper}{κ:K1}{wm:Bool}
theorem SR.grow(h:SR E n0 H0 g0 S ρ ve lb g fr H){g':zG}(e:zG.le g g')(q:zG.le g' H.blocks.get)(n:Nat)(p:n0.base n)(y:∀b,b<n->g' b=g b)(r:∀b,S.live b->lb b<n)(t:∀i B,S.freshV i=true->jB (ve i)=some B->B<n):SR E n0 H0 g0 S ρ ve lb g' fr H:=by
 refine {h with mem:=q,vars:=?_,sepLG:=?_,sepFG:=?_,gk:=?_,tab:=h.tab.mono e}
 ·intro i s l;exact(h.vars i s l).mono e (λ_ _ _=>rfl)
 ·intro b x;rw[y _ (r b x)];exact h.sepLG b x
 ·intro i B c j;rw[y _ (t i B c j)];exact h.sepFG i B c j
 intro b x;rw[y b (p.2 b x)];exact h.gk b x
theorem qDj{g g':zG}:∀{ds:List D} {vs:List Value},tX ds=true->DRs g ds vs->DRs g' ds vs
 | [],_,_,.nil=>.nil
 |.leaf x::ds,_,h,.cons (.leaf b) y=>.cons (.leaf b) (qDj (ds:=ds) h y)
 |.agg _::_,_,h,_=>by cases h
 |.nil::_,_,h,_=>by cases h
 |.sl _ _ _::_,_,h,_=>by cases h
 |.tup _::_,_,h,_=>by cases h
 |.ptr _ _::_,_,h,_=>by cases h
 |.clo _ _ _::_,_,h,_=>by cases h
 |.iface _ _::_,_,h,_=>by cases h
 |.mode _::_,_,h,_=>by cases h
theorem qSr{g g':zG}{y:Nat}{d:D}{v:Value}(b:y≠0)(h:qEp y d=true)(hd:DR g d v):DR g' d v/\(Nat.beq y 1=true->d.one=true):=by
 match y,b with
 | 1,_=>
  cases d with
  |leaf x=>cases hd with
   |leaf c=>exact⟨.leaf c,λ_=>rfl⟩
  |_=>cases h
 | n+2,_=>
  refine⟨?_,λe=>by cases e⟩;cases d with
  |tup l=>cases hd with
   |tup c=>exact .tup (qDj h c)
  |_=>cases h
theorem qB4(h:SR E n0 H0 g0 S ρ ve lb g fr H){F:Tgt}{args:List SV}{P:Nat}(W:gW o=false)(ha:∀{g':zG} {f:FuncId} {ds:List D},qBA E F (SV.ds (getD ρ) args)=some (f,ds)->DRs g' (SV.ds (getD ρ) args) (SV.vals ve lb args)->∃azq,DRs g' ds azq/\((∃fn,E.funcs.get f=some fn)->v9 E fr o H=some (.enter f azq,H)))(x:wp E (Holds E) Q (qHs E F args P S κ) ρ):jZ wm E (Holds E) Q n0 H0 g0 fr H o κ:=by
 obtain⟨O,e1,c⟩:=xF args h
 have call:args.all (wH (vR S args))=true->∀{f:FuncId} {ds:List D} {d:D},qBA E F (SV.ds (getD ρ) args)=some (f,ds)->Holds E f ds d->
   ∃v H' g',mH E fr o H v H'/\H.next<H'.next/\WF H'/\(∀b,b<H.next->H'.blocks.get b=H.blocks.get b)/\Nat.min H.low H.next<=H'.low/\zG.le O g'/\zG.le g' H'.blocks.get/\(∀b,b<H.next->g' b=O b)/\DR g' d v:=by
  intro p f ds d u y
  rw[List.all_eq_true]at p
  have L:=mV c.toSM p
  obtain⟨azq,w,I⟩:=ha u L
  rcases y with⟨_,y⟩|⟨f0,m0,ds0,_,rfl,_⟩
  ·obtain⟨v,H',g',V,l,t,r,j,C,A,z,q⟩:=y.2 H O azq h.wf c.mem c.tab w
   exact⟨v,H',g',.of_call (I y.1) V l,l,t,r,j,C,A,z,q⟩
  cases w with
  |cons c _=>cases c
 unfold qHs at x;split at x
 ·simp only at x;obtain⟨p,x⟩:=jC x;simp only[wp]at x;split at x;case h_2=>cases x
  rename_i f ds u;obtain⟨d,y,_,x⟩:=x;obtain⟨v,H',g',G,l,t,r,j,C,A,z,q⟩:=call p u y;have N:=c.heap r t (Nat.le_of_lt l) (lT (Nat.le_min.2 ⟨h.low,lT (Nat.min_le_right _ _) h.base.1⟩) j);have h3:=N.grow C A H.next h.base z (λb Z=>(xQ c.toSM Z).1) (λi B X hB=>(oA c.toSM X hB).1);exact⟨_,_,_,_,_,_,_,h3.new (k:=.pure) (o:=false) (by simp) (v:=v) ⟨(λe=>by cases e),q⟩,oV,x,by simpa only[SV.val,jA]using G,λ_=>j⟩
 rename_i J;obtain⟨p,x⟩:=jC x;simp only[wp]at x;split at x;case h_2=>cases x
 rename_i f ds u;obtain⟨d,y,K,x⟩:=x;obtain⟨v,H',g',G,l,t,r,j,C,A,z,q⟩:=call p u y;obtain⟨U,R⟩:=qSr (g':=g) (λe=>J e) K q;have N:=h.heap r t (Nat.le_of_lt l) (lT (Nat.le_min.2 ⟨h.low,lT (Nat.min_le_right _ _) h.base.1⟩) j);exact⟨_,_,_,_,_,_,_,N.new (k:=.pure) (o:=Nat.beq P 1) (by simp) (v:=v) ⟨R,U⟩,oV,x,by simpa only[SV.val,jA]using G,λ_=>j⟩
theorem yS(ve:Nat->Value)(lb:Nat->Nat)(a b:List SV):SV.vals ve lb (a++b)=SV.vals ve lb a++SV.vals ve lb b:=by rw[SV.vals_map,SV.vals_map,SV.vals_map,List.map_append]
theorem qRN(h:SR E n0 H0 g0 S ρ ve lb g fr H){c:Call}(w:o.op=.call c)(e:wp E (Holds E) Q (vZ E o S κ) ρ):jZ (xO E S o) E (Holds E) Q n0 H0 g0 fr H o κ:=by
 unfold vZ at e;rw[w]at e;simp only at e;split at e
 ·cases e
 rename_i u q;obtain⟨ab,G⟩:=rL (E:=E) h q;split at e
 ·rename_i b K;unfold qHv at e;split at e
  ·split at e
   ·rename_i t ts x I;exact qWo h w K I (by simpa[SV.vals]using G) e
   cases e
  ·split at e
   ·rename_i t ts i k I;have A:xO E S o=true:=by simp only[xO,w,K,q,Bool.or_true]
    rw[A];exact qRL h w K (by simpa[SV.vals]using G) I e
   cases e
  ·split at e
   ·rename_i s x;have A:xO E S o=qJj S [s,x]:=by simp only[xO,gW,w,K,q,Bool.false_or]
    rw[A];exact qLt h w K (by simpa[SV.vals]using G) ab.1 ab.2.1 e
   cases e
  ·split at e
   ·exact qUO h (mx:=false) w K (by simpa[SV.vals]using G) e
   cases e
  ·split at e
   ·exact qUO h (mx:=true) w K (by simpa[SV.vals]using G) e
   cases e
  cases e
 ·rename_i r name hr;have C:gW o=false:=by simp[gW,w]
  split at e;case h_2=>cases e
  rename_i y hy;obtain⟨yb,ye⟩:=zQ (E:=E) h hy;refine qB4 h C (λ{g' f ds} ht j=>?_) e;simp only[SV.ds,SV.vals]at ht j;generalize y.d (getD ρ)=U at ht j;generalize SV.ds (getD ρ) u=rd at ht j;generalize B:y.val ve lb=yv at j;generalize L:SV.vals ve lb u=av at j;cases j with
  | @cons _ _ _ _ P Z=>
   cases U with
   |iface t d=>
    simp only[qBA]at ht;split at ht;case h_2=>cases ht
    rename_i i ti hi V;split at ht;case h_2=>cases ht
    rename_i p f' ptr J;obtain⟨hc,ht⟩:=qX ht;cases ht;cases P with
    |@iface _ _ v P=>refine⟨v::av,.cons P Z,?_⟩;intro⟨fn,z⟩;unfold v9;rw[w];simp only[kD,G,L,hr,ye,B,pG,hi,V,J,hc,cond_true,pX,z]
   |_=>cases ht
 rename_i f R;have C:gW o=false:=by simp[gW,w]
 split at e
 ·rename_i gf first cap F
  obtain⟨fb,N⟩:=zQ (E:=E) h F;rw[cond_eq_ite]at e;split at e
  ·rename_i O;have A:xO E S o=true:=by simp only[xO,w,R,q,F,O,Bool.or_true]
   rw[A];refine qOC h (l:=first++u++cap) ?_ (λ⟨fn,z⟩=>?_) e
   ·rw[SV.bds_iff]at ab ⊢;have f1:=SV.bds_iff.1 fb.1;have f2:=SV.bds_iff.1 fb.2;grind
   simp only[SV.val]at N;unfold v9;rw[w];simp only[kD,G,R,N,pK,z,yS]
  refine qB4 h C (λ{g' f' ds} ht j=>?_) e;simp only[qBA,oI,Prod.mk.injEq]at ht;obtain⟨rfl,rfl⟩:=ht;refine⟨_,j,?_⟩;intro⟨fn,z⟩;simp only[SV.val]at N;unfold v9;rw[w];simp only[kD,G,R,N,pK,z,yS]
 ·rename_i i F;obtain⟨fb,N⟩:=zQ (E:=E) h F;refine qB4 h C (λ{g' f' ds} ht j=>?_) e;simp only[SV.ds,SV.vals]at ht j;simp only[SV.val]at N;generalize hyd:(SV.v i).d (getD ρ)=U at ht j;generalize SV.ds (getD ρ) u=rd at ht j;generalize B:(SV.v i).val ve lb=yv at j;generalize L:SV.vals ve lb u=av at j;simp only[SV.val]at B;cases j with
  | cons P Z=>
   cases U with
   | clo fnn first cap=>
    cases fnn with
    |func gf=>
     simp only[qBA,oI,Prod.mk.injEq]at ht;obtain⟨rfl,rfl⟩:=ht;cases P with
     |@clo _ _ _ f1 c1 hp W X=>refine⟨f1++av++c1,(W.append Z).append X,?_⟩;intro⟨fn,z⟩;unfold v9;rw[w];simp only[kD,G,L,R,N,B,pK,z]
    |_=>cases ht
   |_=>cases ht
 cases e
theorem eU(h:SR E n0 H0 g0 S ρ ve lb g fr H)(q:wp E (Holds E) Q (vZ E o S κ) ρ):jZ (xO E S o) E (Holds E) Q n0 H0 g0 fr H o κ:=by
 cases r:o.op with
 |move x=>exact qJY h (.inl r) (by unfold vZ at q;rw[r]at q;exact q)
 |assign x=>exact qJY h (.inr r) (by unfold vZ at q;rw[r]at q;exact q)
 |pick c a b=>exact qRG h r q
 |alloc t=>exact qOF h r q
 |box t x=>exact qWp h r q
 |build t U=>exact qOE h r q
 |buildSlice t n U=>exact qDx h r q
 |load t a=>
  unfold vZ at q;rw[r]at q;simp only at q;split at q
  ·rename_i Z A;obtain⟨C,B⟩:=zQ (E:=E) h A;obtain⟨y,S',ρ',O,g',e,X,J,R,P⟩:=qBb h C q;refine .same X R J ?_;unfold v9;rw[r];simp only[B,P,one,Option.map_some]
  cases q
 |store t a x=>
  have u:xO E S o=true:=by simp[xO,gW,r]
  rw[u];unfold vZ at q;rw[r]at q;simp only at q;split at q
  ·rename_i i j sz off N A I;obtain⟨C,B⟩:=zQ (E:=E) h A;obtain⟨K,F⟩:=zQ (E:=E) h I;exact qWl h r B F q
  ·rename_i Z N _ A I;obtain⟨C,B⟩:=zQ (E:=E) h A;obtain⟨K,F⟩:=zQ (E:=E) h I;exact qOx h r B F C K q
  cases q
 |makeSlice t l c=>exact qZI h r q
 |makeMap t x=>cases x with
  |none=>exact qRJ h r q
  |some x=>unfold vZ at q;rw[r]at q;cases q
 |lookup t x k ok=>exact qRK h r q
 |range t x=>exact qOz h r q
 | next it G=>cases G with
  |true=>
   have u:xO E S o=true:=by simp[xO,r]
   rw[u];exact qRH h r q
  |false=>unfold vZ at q;rw[r]at q;cases q
 |mapUpdate t m k x=>
  have u:xO E S o=true:=by simp[xO,r]
  rw[u];exact qRI h r q
 |nilCheck x=>exact qGs h r q
 |binOp V t x y p=>exact qWq h (b:=λ_=>true) r q
 |unOp V t x=>exact qZH h r q
 | convert s d x=>
  cases w:fR E s d with
  |some el=>exact qOD h r w q
  |none=>cases z:tU E s d with
   |true=>exact qWk h r w z q
   |false=>exact qRM h r w z q
 |makeInterface t x=>exact qWm h r q
 |makeFunc f a b=>exact qGt h r q
 |slice t x lo W mx=>cases L:((lo.isNone||aJ lo)&&aJ W&&aJ mx)with
  |true=>exact(by unfold vZ at q;rw[r]at q;simp only[L,cond_true]at q;cases q)
  |false=>exact qOy h r L q
 |fieldAddr t x f=>exact qFb h r q
 |field t x f=>exact qOB h r q
 |indexAddr t x i=>exact qFa h r q
 |index t x i=>exact qOA h r q
 |extract x i=>exact qIm h r q
 |call c=>exact qRN h r q
 |_=>unfold vZ at q;rw[r]at q;cases q
end
section
variable{E:Env}{n0:Lim}{H0:AH}{g0:zG}{S:St}{ρ:List D}{ve:Nat->Value}{lb:Nat->Nat}{g:zG}{fr:Fr}{H H2:AH}{Q:Res1->Prop}{o:Oper}{HS:FuncId->List D->D->Prop}
theorem qGS(h:SR E n0 H0 g0 S ρ ve lb g fr H){all:Array Oper}{p w:St->Tree}(x:wp E HS Q (qCv all o S p w) ρ):∃S',SR E n0 H0 g0 S' ρ ve lb g fr H/\((vT all fr o=some true/\wp E HS Q (p S') ρ)∨(vT all fr o=some false/\wp E HS Q (w S') ρ)):=by
 unfold qCv at x;split at x
 ·rename_i e;exact⟨S,h,.inl ⟨by simp only[vT,e],x⟩⟩
 rename_i j l e;split at x;case h_2=>cases x
 rename_i d I G F C B A;have y:∀{v:Value},fr.t.get d=some v->dE all fr j=(match v with|.bool b=>some (some b)|_=>some none):=by intro v hv;simp only[dE,A,hv];cases v<;>rfl
 split at x
 ·rename_i b q;have hv:=(h.slots _ _ q).2;have c:=y hv;simp only[SV.val]at c;rw[cond_eq_ite]at x;split at x
  ·rename_i u;exact⟨S,h,.inl ⟨by simp only[vT,e,c,u],x⟩⟩
  rename_i u;have r:(b==l)=false:=by simpa using u
  exact⟨S,h,.inr ⟨by simp only[vT,e,c,r],x⟩⟩
 ·rename_i q;have hv:=(h.slots _ _ q).2;have c:=y hv;simp only[SV.val]at c;exact⟨S,h,.inr ⟨by simp only[vT,e,c],x⟩⟩
 ·rename_i i q;obtain⟨z,x⟩:=jC x;obtain⟨t,hd,x⟩:=qBh x;have hv:=(h.slots _ _ q).2;simp only[SV.val,tV h.toSM z hd]at hv;have c:=y hv;simp only at c;refine⟨S.known i t,nQ h z hd,?_⟩;cases t<;>cases l
  ·exact .inl ⟨by simp only[vT,e,c];rfl,x⟩
  ·exact .inr ⟨by simp only[vT,e,c];rfl,x⟩
  ·exact .inr ⟨by simp only[vT,e,c];rfl,x⟩
  exact .inl ⟨by simp only[vT,e,c];rfl,x⟩
 cases x
theorem gD.append{n m:Nat}:∀{l h:List jL},gD E n l->(∀a∈l,a.H'.next<=m)->n<=m->gD E m h->gD E n (l++h)
 | [],_,_,_,hn,x=>x.mono hn
 |a::l,h,⟨i,e,c⟩,hm,_,x=>⟨i,e,gD.append c (λb y=>hm b (mC _ y)) (hm a List.mem_cons_self) x⟩
theorem yP.nil{all:Array Oper}{draw:Bool}{i:Nat}:yP E all draw [] i fr H fr H:=
 ⟨vE _,[],trivial,λ_ h=>(by cases h),[],λ_ h=>(by cases h),λ_ _=>rfl⟩
theorem yP.skipped{all:Array Oper}{draw:Bool}{os:List Oper}{i:Nat}{x y:Fr}{H':AH}(j:vT all fr o=some false)(e:yC fr o.dst (.tuple #[])=some x)(h:yP E all draw os (i+1) x H y H'):yP E all draw (o::os) i fr H y H':=by obtain⟨t,l,r,q,ts,ht,p⟩:=h;exact⟨t,l,r,q,ts,ht.less,λc b=>by simp only[vF,j,e];exact p c b⟩
theorem yP.cons{all:Array Oper}{os:List Oper}{i:Nat}{b c:Fr}{H1 H':AH}{v:Value}(A:vT all fr o=some true)(w:mH E fr o H v H1)(z:yC fr o.dst v=some b)(h:yP E all false os (i+1) b H1 c H'):yP E all false (o::os) i fr H c H':=by
 obtain⟨q,l,F,C,ts,ht,B⟩:=h;obtain⟨j,r,u,e,t⟩:=w;refine⟨lT j q,r++l,u.append e j F,λa x=>?_,ts,ht.less,λp y=>?_⟩
 ·rcases List.mem_append.1 x with x|x
  ·exact lT (e a x) q
  exact C a x
 have I:=t p (λa x=>y a (List.mem_append_left _ x));have G:=B p (λa x=>y a (List.mem_append_right _ x));simp only[vF,A,cond_false,qPA I,z,G]
theorem yP.consD{all:Array Oper}{os:List Oper}{i:Nat}{e j:Fr}{H1 H':AH}{v:Value}(F:vT all fr o=some true)(B:mH E fr o (vA H []) v H1)(c:H.next<=H1.low∨yM all.toList i=true)(C:yC fr o.dst v=some e)(h:yP E all true os (i+1) e (jK H H1 []) j H'):yP E all true (o::os) i fr H j H':=by
 obtain⟨u,l,K,J,ts,ht,I⟩:=h;obtain⟨q,w,A,p,z⟩:=B;refine⟨lT q u,w++l,A.append p q K,λa x=>?_,ts,ht.less,λr b=>?_⟩
 ·rcases List.mem_append.1 x with x|x
  ·exact lT (p a x) u
  exact J a x
 have N:=z r (λa x=>b a (List.mem_append_left _ x));have L:=I r (λa x=>b a (List.mem_append_right _ x));have G:qJ all.toList i ts=[]:=ht.hid;have y:(Nat.ble H.next H1.low||(([]:List Nat).isEmpty&&(ts.any (λt=>Nat.beq t.1 i&&xV fr o t.2)||yR all.toList ts i H.next H1.low)))=true:=by
  rcases c with c|c
  ·rw[bL c];rfl
  rw[qIT c];simp
 simp only[vF,F,cond_true,oP,G,N,y,List.all_nil,Bool.and_true,C,L]
theorem qPh{all:List Oper}{i x y:Nat}{ts:List (Nat×Nat)}(h:pL (yX all) x i=true):qJ all i ((x,y)::ts)=qJ all i ts:=by rw[qJ,h,Bool.or_true,cond_true]
theorem qL6{y:Cmd->AH->gV}{all:List Oper}{i x j:Nat}{ts:List (Nat×Nat)}{r:Value×AH}(p:pL (yX all) x i=true)(h:oP E y ts all i fr o H=some r):oP E y ((x,j)::ts) all i fr o H=some r:=by
 unfold oP at h ⊢;simp only[qPh p]at h ⊢;cases he:vS E y fr o (vA H (qJ all i ts))with
 |none=>rw[he]at h;cases h
 |some q=>
  obtain⟨v,Q⟩:=q;rw[he]at h;simp only at h ⊢;obtain⟨e,l⟩:=qX h;have c:((Nat.ble H.next Q.low||((qJ all i ts).isEmpty&&(((x,j)::ts).any (λt=>Nat.beq t.1 i&&xV fr o t.2)||yR all ((x,j)::ts) i H.next Q.low)))&&(qJ all i ts).all (λb=>Nat.blt b H.next||Nat.ble Q.next b))=true:=by simp only[List.any_cons,zR,Bool.or_eq_true]at e ⊢;exact⟨e.1.imp id λh=>⟨h.1,h.2.imp (λh=>.inr h) qFw⟩,e.2⟩
  rw[c];exact l
theorem iM{x:Cmd->AH->gV}{all:Array Oper}{i0 y:Nat}{ts:List (Nat×Nat)}{r:Fr×AH}:∀(os:List Oper) (i:Nat) (fr:Fr) (H:AH),eS all.toList i0 os i=true->vF E x all true ts os i fr H=some r->vF E x all true ((i0,y)::ts) os i fr H=some r
 | [],_,_,_,_,h=>h
 | o::os,i,fr,H,ht,h=>by
  simp only[eS,zR]at ht;simp only[vF]at h ⊢;split at h
  ·cases h
  ·split at h
   ·exact iM os (i+1) _ _ ht.2 h
   cases h
  simp only[cond_true]at h ⊢;split at h
  ·cases h
  rename_i v H1 hd;rw[qL6 ht.1 hd];simp only;split at h
  ·cases h
  exact iM os (i+1) _ _ ht.2 h
def qMu(E:Env)(all:Array Oper)(y b:Nat)(os:List Oper)(i:Nat)(fr:Fr)(H:AH)(h:Fr)(H':AH):Prop:=
 H.next<=H'.next/\∃l,gD E H.next l/\(∀a∈l,a.H'.next<=H'.next)/\∃ts,qHE all.toList i ts/\∀x,qJr l x->vF E x all true ((y,b)::ts) os i fr H=some (h,H')
theorem yP.toL{all:Array Oper}{i0 t:Nat}{os:List Oper}{i:Nat}{x:Fr}{H':AH}(h:yP E all true os i fr H x H')(e:eS all.toList i0 os i=true):qMu E all i0 t os i fr H x H':=by obtain⟨r,l,q,p,ts,y,j⟩:=h;exact⟨r,l,q,p,ts,y,λc b=>iM os i fr H e (j c b)⟩
theorem qMu.mid{all:Array Oper}{i0 x:Nat}{os:List Oper}{i:Nat}{y c:Fr}{H':AH}{v:Value}(r:vT all fr o=some true)(p:∀e,vS E e fr o (vA H (qJ all.toList i [(i0,x)]))=some (v,vA H (qJ all.toList i [(i0,x)])))(q:yC fr o.dst v=some y)(h:qMu E all i0 x os (i+1) y (jK H (vA H (qJ all.toList i [(i0,x)])) (qJ all.toList i [(i0,x)])) c H'):qMu E all i0 x (o::os) i fr H c H':=by
 obtain⟨F,l,C,B,ts,ht,A⟩:=h;refine⟨F,l,C,B,ts,ht.less,λe j=>?_⟩;have G:=A e j;have z:qJ all.toList i ((i0,x)::ts)=qJ all.toList i [(i0,x)]:=by rw[qJ,qJ,ht.hid];rfl
 generalize qJ all.toList i [(i0,x)]=W at *;have u:(Nat.ble H.next (vA H W).low||(W.isEmpty&&(((i0,x)::ts).any (λt=>Nat.beq t.1 i&&xV fr o t.2)||yR all.toList ((i0,x)::ts) i H.next (vA H W).low)))=true:=by have:Nat.ble H.next (vA H W).low=true:=bL (vE _);rw[this,Bool.true_or]
 have w:W.all (λb=>Nat.blt b H.next||Nat.ble (vA H W).next b)=true:=by
  rw[List.all_eq_true];intro b _;show(Nat.blt b H.next||Nat.ble H.next b)=true;by_cases I:b<H.next
  ·simp_all
  simp_all
 simp only[vF,r,cond_true,oP,z,p e,u,w,Bool.and_self,q,G]
theorem yP.late{all:Array Oper}{os:List Oper}{i b:Nat}{q r:Fr}{H1 H':AH}{v:Value}(I:vT all fr o=some true)(G:mH E fr o (vA H []) v H1)(hs:xV fr o b=true)(c:∀k,k<i->pL (yX all.toList) i k=true)(e:yC fr o.dst v=some q)(h:qMu E all i b os (i+1) q (jK H H1 []) r H'):yP E all true (o::os) i fr H r H':=by
 obtain⟨A,l,N,L,ts,ht,K⟩:=h;obtain⟨w,B,F,u,C⟩:=G;refine⟨lT w A,B++l,F.append u w N,λa x=>?_,(i,b)::ts,λp e=>?_,λz j=>?_⟩
 ·rcases List.mem_append.1 x with x|x
  ·exact lT (u a x) A
  exact L a x
 ·rcases List.mem_cons.1 e with rfl|e
  ·exact⟨vE _,c⟩
  exact ht.less p e
 have P:=C z (λa x=>j a (List.mem_append_left _ x));have O:=K z (λa x=>j a (List.mem_append_right _ x));have J:qJ all.toList i ((i,b)::ts)=[]:=by rw[qJ,Nat.beq_refl,Bool.true_or,cond_true];exact ht.hid
 have y:(Nat.ble H.next H1.low||(([]:List Nat).isEmpty&&(((i,b)::ts).any (λt=>Nat.beq t.1 i&&xV fr o t.2)||yR all.toList ((i,b)::ts) i H.next H1.low)))=true:=by simp only[List.any_cons,Nat.beq_refl,hs,Bool.true_and,Bool.true_or,List.isEmpty_nil,Bool.or_true]
 simp only[vF,I,cond_true,oP,J,P,y,List.all_nil,Bool.and_true,e,O]
theorem qDW(h:qGk o.op=true):∃x:Option Value,∀H,v9 E fr o H=one H x:=by
 cases e:o.op<;>rw[e]at h<;>first|(cases h;done)|skip
 ·rename_i x;exact⟨ev E fr x,λH=>by simp only[v9,e]⟩
 ·rename_i x;exact⟨ev E fr x,λH=>by simp only[v9,e]⟩
 ·rename_i c a b;refine⟨match ev E fr c with|some (.bool true)=>ev E fr a|some (.bool false)=>ev E fr b|_=>none,λH=>?_⟩;simp only[v9,e];generalize ev E fr c=q;rcases q with _|v
  ·rfl
  cases v<;>first|rfl|skip
  rename_i b;cases b<;>rfl
 ·rename_i t j;refine⟨match parts? E fr j.toList with|some j=>qAn E t j|none=>none,λH=>?_⟩;simp only[v9,e];generalize parts? E fr j.toList=q;cases q<;>rfl
 ·rename_i x;refine⟨match ev E fr x with
   |some (.pointer (some a))=>some (.pointer (some a))
   |some (.iface t v)=>some (.iface t v)
   |some (.func (.func f) a b)=>some (.func (.func f) a b)
   |some (.func (.yield f) a b)=>some (.func (.yield f) a b)
   |_=>none,λH=>?_⟩
  simp only[v9,e];generalize ev E fr x=q;rcases q with _|v
  ·rfl
  cases v<;>first|rfl|skip
  ·rename_i a;cases a<;>rfl
  rename_i f a b;cases f<;>rfl
 ·rename_i l t x y z;refine⟨match ev E fr x,ev E fr y with|some a,some b=>oL E l t x y a b|_,_=>none,λH=>?_⟩;simp only[v9,e];generalize ev E fr x=q;generalize ev E fr y=r;cases q<;>cases r<;>rfl
 ·rename_i l t x;refine⟨match ev E fr x with|some v=>bif zK v then flat? (qT E.prog (Op.unary l v))else none|none=>none,λH=>?_⟩;simp only[v9,e];generalize ev E fr x=q;rcases q with _|v
  ·rfl
  simp only;cases zK v<;>rfl
 ·rename_i s x f;refine⟨match ev E fr x with|some v=>qAg E s v f|none=>none,λH=>?_⟩;simp only[v9,e];generalize ev E fr x=q;cases q<;>rfl
 ·rename_i t x i;refine⟨match ev E fr x,(ev E fr i).bind nat? with|some v,some i=>qCn E t v i|_,_=>none,λH=>?_⟩;simp only[v9,e];generalize ev E fr x=q;generalize (ev E fr i).bind nat? = r;cases q<;>cases r<;>rfl
 rename_i x i;refine⟨match ev E fr x with|some (.tuple vs)=>vs.toList[i]? | _=>none,λH=>?_⟩;simp only[v9,e];generalize ev E fr x=q;rcases q with _|v
 ·rfl
 cases v<;>rfl
theorem qIa{H H':AH}{t:TypeId}{x:Value}{lo y mx:Option Value}(h:∀b,H'.blocks.get b=H.blocks.get b):oT E H' t x lo y mx=oT E H t x lo y mx:=by unfold oT;simp only[h]
theorem qRY(h:qOU o=true)(H:AH):∃x:Option Value,∀H',(∀b,H'.blocks.get b=H.blocks.get b)->v9 E fr o H'=one H' x:=by
 unfold qOU at h;rw[Bool.or_eq_true]at h;rcases h with h|h
 ·obtain⟨x,l⟩:=qDW (E:=E) (fr:=fr) h;exact⟨x,λH' _=>l H'⟩
 split at h
 ·rename_i t x lo y mx p;refine⟨match ev E fr x,rV E fr lo.toList,rV E fr y.toList,rV E fr mx.toList with
   |some x,some lo,some y,some mx=>oT E H t x lo.head? y.head? mx.head?
   |_,_,_,_=>none,λH' q=>?_⟩
  simp only[v9,p];generalize ev E fr x=j;generalize rV E fr lo.toList=i;generalize rV E fr y.toList=e;generalize rV E fr mx.toList=c;cases j<;>cases i<;>cases e<;>cases c<;>first|rfl|exact congrArg (one H') (qIa q)
 cases h
theorem qL2{y:Cmd->AH->gV}{x:Option Value}{H1:AH}{v:Value}(h:v9 E fr o H=one H x)(he:vS E y fr o H=some (v,H1)):x=some v/\H1=H:=by
 cases x with
 |none=>simp only[vS,h,one,Option.map_none]at he;cases he
 |some u=>simp only[vS,h,one,Option.map_some,oI,Prod.mk.injEq]at he;exact⟨by rw[he.1],he.2.symm⟩
theorem SM.congr(h:SM n0 S ρ ve lb g H)(c:∀b,H2.blocks.get b=H.blocks.get b)(y:H2.next=H.next):SM n0 S ρ ve lb g H2:=by
 have x:H2.blocks.get=H.blocks.get:=funext c
 exact { len:=h.len,wf:=λb k e=>by rw[c]at e;rw[y];exact h.wf b k e,mem:=by rw[x];exact h.mem,base:=by rw[y];exact h.base,fix:=h.fix,vars:=by rw[x];exact h.vars,
         blks:=by rw[x];exact h.blks,sepLG:=h.sepLG,sepFG:=h.sepFG,sepL:=h.sepL,sepF:=h.sepF,sepX:=h.sepX}
theorem SR.congr(h:SR E n0 H0 g0 S ρ ve lb g fr H)(x:∀b,H2.blocks.get b=H.blocks.get b)(y:H2.next=H.next)(c:Nat.min H0.low n0.n<=H2.low):SR E n0 H0 g0 S ρ ve lb g fr H2:=
 {toSM:=h.toSM.congr x y,sz:=h.sz,rd:=h.rd,slots:=h.slots,sav:=h.sav,keep:=λb e=>by rw[x];exact h.keep b e,gk:=h.gk,low:=c,tab:=h.tab}
theorem SR.hide(h:SR E n0 H0 g0 S ρ ve lb g fr H):SR E n0 H0 g0 S ρ ve lb g fr (vA H []):=
 {h with low:=lT (Nat.min_le_right _ _) h.base.1}
theorem SR.restore(c:SR E n0 H0 g0 S ρ ve lb g fr H){S':St}{ρ':List D}{x:Nat->Value}{y:Nat->Nat}{g':zG}{b:Fr}{H1:AH}(h:SR E n0 H0 g0 S' ρ' x y g' b H1):SR E n0 H0 g0 S' ρ' x y g' b (jK H H1 []):=
 {h with low:=Nat.le_min.2 ⟨c.low,h.low⟩}
theorem qMp{ih:Cmd->AH->gV}{c:Call}{a:Tmp}{y:Operand}{k:Nat}{v:Value}{H1:AH}(h:SR E n0 H0 g0 S ρ ve lb g fr H)(P:o.op=.call c)(F:c.callee=.builtin .append)(q:c.args.toList=[.tmp a,y])(hk:S.slots.get a=some (.v k))(hf:S.freshV k=true)(he:vS E ih fr o H=some (v,H1)):H.low<=H1.low∨∃B,xV fr o B=true/\H1.blocks.get B=none:=by
 have hv:fr.t.get a=some (ve k):=(h.slots _ _ hk).2;obtain⟨of,O⟩:=zL.1 hf;have G:rA g H.blocks.get n0 (getD ρ k) (ve k):=(h.vars k _ O).2;have C:rV E fr [.tmp a,y]=(ev E fr y).map λx=>[ve k,x]:=by have R:ev E fr (.tmp a)=some (ve k):=hv;simp only[rV,R];cases ev E fr y<;>rfl
 have r:∃x,v9 E fr o H=j6 E H c.argTypes.toList (ve k) x:=by
  cases X:ev E fr y with
  |none=>
   have:v9 E fr o H=none:=by simp only[v9,P,kD,F,q,C,X,Option.map_none]
   simp only[vS,this]at he;cases he
  |some x=>exact⟨x,by simp only[v9,P,kD,F,q,C,X,Option.map_some,xY]⟩
 obtain⟨x,r⟩:=r;simp only[vS,r]at he;have u:∀{w:Value},j6 E H c.argTypes.toList (ve k) x=some (.val w,H)->H.low<=H1.low:=λe=>by grind
 have fresh:∀{w:Value} {Z:AObj},j6 E H c.argTypes.toList (ve k) x=some (.val w,H.new Z)->H.low<=H1.low:=λe=>by rw[e]at he;simp only[oI,Prod.mk.injEq]at he;rw[←he.2];exact vE _
 generalize i:j6 E H c.argTypes.toList (ve k) x=A at he u fresh;have hA2:=i;unfold j6 at i;split at i;case h_2=>rw[←i]at he;cases he
 rename_i t xt rr base len cap hat j;split at i;case h_2=>rw[←i]at he;cases he
 split at i;case h_2=>rw[←i]at he;cases he
 rename_i e hte;split at i;case h_2=>rw[←i]at he;cases he
 rename_i z n new hz hnc;cases J:Nat.ble (Nat.mul (Nat.add (Nat.mul 4 (Nat.add len n)) 4000) (Nat.succ e.bytes)) 100000000000 with
 |false=>rw[J]at i;rw[←i]at he;cases he
 | true=>
  rw[J]at i;simp only[cond_true]at i;cases L:Nat.beq n 0 with
  |true=>rw[L]at i;simp only[cond_true]at i;exact .inl (u i.symm)
  | false=>
   rw[L]at i;simp only[cond_false]at i;rcases G with(⟨G,_⟩|⟨_,ad,G⟩)|⟨B,l,cs,vs,el,rt,sz,es,N⟩|⟨B,es,ck,rt,ks,dd,N⟩
   rotate_left 3
   ·rw[N.v]at j;cases j
   ·rw[G]at j;cases j;exact .inl (fresh i.symm)
   ·rw [G]at j;cases j;obtain⟨b,off,p⟩:=ad;cases p with
    |some _=>rw[←i]at he;cases he
    | none=>
     have V:Nat.ble zI 0=false:=rfl;have h2:Nat.ble (Nat.add 0 n) 0=false:=by
      cases hb:Nat.ble (Nat.add 0 n) 0 with
      |false=>rfl
      |true=>
       have:=oK hb;have h0:n=0:=by have:0+n<=0:=this;omega
       rw[h0]at L;cases L
     simp only[G,V,h2,cond_false,oE,Nat.beq_refl,cond_true]at i;exact .inl (fresh i.symm)
   have I:=N.v;rw[I]at j;cases j;have V:Nat.ble zI zI=true:=bL (vE _);simp only[V,cond_true]at i;split at i;case h_2=>rw[←i]at he;cases he
   rename_i cs2 W r2 old U _;cases K:(Nat.beq W _&&Nat.beq (Nat.mod 0 e.size) 0)with
   |false=>rw[K]at i;rw[←i]at he;cases he
   |true=>
    rw[K]at i;simp only[cond_true]at i;rw[←i]at he;simp only[oI,Prod.mk.injEq]at he;right;refine⟨B,?_,?_⟩
    ·simp only[xV,P,qEF,F,q,hv,I,Nat.beq_refl]
    rw[←he.2];show((H.blocks.put B none).put H.next _).get B=none;have hlt:=(h.wf B _ U).2;rw[T.get_put,if_neg (by omega),T.get_put,if_pos rfl]
def qQD(E:Env)(Q:Res1->Prop)(n0:Lim)(H0:AH)(g0:zG)(all:Array Oper)(os:List Oper):Prop:=∀(draw:Bool) (i:Nat) {S:St} {ρ:List D} {ve:Nat->Value} {lb:Nat->Nat} {g:zG} {fr:Fr} {H:AH} {κ:St->Tree},SR E n0 H0 g0 S ρ ve lb g fr H->wp E (Holds E) Q (qDw E all draw os i S κ) ρ->
  ∃S' ρ' x y g' h H',SR E n0 H0 g0 S' ρ' x y g' h H'/\wp E (Holds E) Q (κ S') ρ'/\yP E all draw os i fr H h H'
def qTc(E:Env)(Q:Res1->Prop)(n0:Lim)(H0:AH)(g0:zG)(all:Array Oper)(os:List Oper):Prop:=∀(i b c:Nat) {S:St} {ρ:List D} {ve:Nat->Value} {lb:Nat->Nat} {g:zG} {fr:Fr} {H:AH} {κ:St->Tree},SR E n0 H0 g0 S ρ ve lb g fr H->H.blocks.get c=none->s8 all.toList b os i=true->wp E (Holds E) Q (qDw E all true os i S κ) ρ->
  ∃S' ρ' x y g' h H',SR E n0 H0 g0 S' ρ' x y g' h H'/\wp E (Holds E) Q (κ S') ρ'/\qMu E all b c os i fr H h H'
theorem qLr{all:Array Oper}{o:Oper}{os:List Oper}(hA:qQD E Q n0 H0 g0 all os)(hB:qTc E Q n0 H0 g0 all os):qQD E Q n0 H0 g0 all (o::os):=by
 intro draw i S ρ ve lb g fr H κ h x;simp only[qDw]at x;obtain⟨P,F,x⟩:=qGS h x;rcases x with⟨L,x⟩|⟨L,x⟩
 ·cases draw with
  |false=>
   simp only[Bool.false_and,cond_false]at x;obtain⟨y,S2,ρ2,ve2,V,g2,H2,h2,hb,x,U,_⟩:=eU F x;simp only at x;split at x
   ·rename_i S3 K;obtain⟨O,q,C⟩:=uK h2 hb K;obtain⟨S',ρ',j,p,g',e,H',z,w,u⟩:=hA false (i+1) C x;exact⟨S',ρ',j,p,g',e,H',z,w,.cons L U q u⟩
   cases x
  | true=>
   simp only[Bool.true_and]at x;cases I:(xO E P o&& !(yM all.toList i)&& !(qCf all.toList i o os))with
   |true=>rw[I]at x;cases x
   | false=>
    rw[I]at x;simp only[cond_false]at x;obtain⟨y,S2,ρ2,ve2,V,g2,H2,h2,hb,x,U,hlow⟩:=eU F.hide x;simp only at x;split at x;case h_2=>cases x
    rename_i S3 K;obtain⟨O,q,C⟩:=uK h2 hb K;have G:(H.next<=H2.low∨yM all.toList i=true)->∃S' ρ' j p g' e H',SR E n0 H0 g0 S' ρ' j p g' e H'/\wp E (Holds E) Q (κ S') ρ'/\yP E all true (o::os) i fr H e H':=λhc=>by obtain⟨S',ρ',j,p,g',e,H',z,w,u⟩:=hA true (i+1) (F.restore C) x;exact⟨S',ρ',j,p,g',e,H',z,w,.consD L U hc q u⟩
    have e0:Nat.min (vA H []).low (vA H []).next=H.next:=Nat.min_self _;cases b:xO E P o with
    |false=>grind
    | true=>
     cases hfe:yM all.toList i with
     |true=>exact G (.inr hfe)
     | false=>
      have A:qCf all.toList i o os=true:=by grind
      unfold qCf at A;simp only[zR]at A;obtain⟨⟨R,q2⟩,q3⟩:=A;split at R;case h_2=>cases R
      rename_i c Z;split at R;case h_2=>cases R
      rename_i a yo N t;have hap:∃k,P.slots.get a=some (.v k)/\P.freshV k=true:=by
       have X:gW o=false:=by unfold gW;rw[Z]
       unfold xO at b;rw[X,Bool.false_or,Z]at b;simp only[N,t]at b;cases r:cL P [.tmp a,yo]with
       |none=>rw[r]at b;cases b
       |some l=>
        rw[r]at b;simp only at b;unfold cL at r;split at r;case h_2=>cases r
        rename_i x1 l1 W hl1;cases r;unfold qJj at b;split at b;case h_2=>cases b
        rename_i k _ heq;cases heq;exact⟨k,W,b⟩
      obtain⟨k,hk,hf⟩:=hap;obtain⟨k1,l0,k2,k3,k4⟩:=U;have e1:=k4 (qPg l0) (λa ha=>qCo k2 a ha);rcases qMp F.hide Z N t hk hf e1 with hc|⟨B,hs,hB0⟩
      ·exact G (.inl hc)
      have J:∀k,k<i->pL (yX all.toList) i k=true:=λk hk=>List.all_eq_true.1 q2 k (List.mem_range.2 hk);obtain⟨S',ρ',j,p,g',e,H',z,w,u⟩:=hB (i+1) i B (F.restore C) (H:=jK H H2 []) hB0 q3 x;exact⟨S',ρ',j,p,g',e,H',z,w,.late L ⟨k1,l0,k2,k3,k4⟩ hs J q u⟩
 split at x
 ·rename_i S3 K;obtain⟨O,q,C⟩:=uK F (y:=.tup []) trivial K;obtain⟨S',ρ',j,p,g',e,H',z,w,u⟩:=hA draw (i+1) C x;exact⟨S',ρ',j,p,g',e,H',z,w,.skipped L q u⟩
 cases x
theorem qLq{all:Array Oper}{o:Oper}{os:List Oper}(hA:qQD E Q n0 H0 g0 all (o::os))(hB:qTc E Q n0 H0 g0 all os):qTc E Q n0 H0 g0 all (o::os):=by
 intro i c l S ρ ve lb g fr H κ h N j e;cases ht:eS all.toList c (o::os) i with
 |true=>obtain⟨S',ρ',r,t,g',w,H',G,F,C⟩:=hA true i h e;exact⟨S',ρ',r,t,g',w,H',G,F,C.toL ht⟩
 | false=>
  rw[s8,ht,Bool.or_false]at j;simp only[zR]at j;obtain⟨⟨hm,p⟩,j⟩:=j;have p:o.guard=none:=Option.isNone_iff_eq_none.1 p;have hg:vT all fr o=some true:=by simp only[vT,p]
  simp only[qDw,qCv,p]at e;cases A:(true&&xO E S o&& !(yM all.toList i)&& !(qCf all.toList i o os))with
  |true=>rw[A]at e;cases e
  | false=>
   rw[A]at e;simp only[cond_false]at e;obtain⟨y,S2,ρ2,ve2,I,g2,H2,h2,u,e,X,P⟩:=eU h.hide e;simp only at e;split at e;case h_2=>cases e
   rename_i S3 Z;obtain⟨fr3,L,h3⟩:=uK h2 u Z;obtain⟨k1,U,W,k3,V⟩:=X;have e1:=V (qPg U) (λa ha=>qCo W a ha);obtain⟨x,z⟩:=qRY (E:=E) (fr:=fr) hm (vA H []);obtain⟨K,rfl⟩:=qL2 (z _ λ_=>rfl) e1;have hW:∀b,b∈qJ all.toList i [(c,l)]->b=l:=λb u=>by
    rw[qJ]at u;cases R:(Nat.beq c i||pL (yX all.toList) c i)with
    |true=>rw[R]at u;cases u
    |false=>rw[R]at u;exact List.mem_singleton.1 u
   have q:∀b,(vA H (qJ all.toList i [(c,l)])).blocks.get b=(vA H []).blocks.get b:=λb=>by show(lG H.blocks _).get b=H.blocks.get b;rw[yK];grind
   have J:∀O,vS E O fr o (vA H (qJ all.toList i [(c,l)]))=some (y.val ve2 I,vA H (qJ all.toList i [(c,l)])):=λO=>by simp only[vS,z _ q,K,one,Option.map_some]
   have B:∀b,(jK H (vA H (qJ all.toList i [(c,l)])) (qJ all.toList i [(c,l)])).blocks.get b=(vA H []).blocks.get b:=λb=>by
    show(yG _ _ _).get b=_;rw[wF];split
    ·rfl
    exact q b
   have h4:=h3.congr (H2:=jK H (vA H (qJ all.toList i [(c,l)])) (qJ all.toList i [(c,l)])) B rfl (Nat.le_min.2 ⟨h.low,lT (Nat.min_le_right _ _) h.base.1⟩);obtain⟨S',ρ',r,t,g',w,H',G,F,C⟩:=hB (i+1) c l h4 (by rw[B];exact N) j e;exact⟨S',ρ',r,t,g',w,H',G,F,.mid hg J L C⟩
theorem qOw{all:Array Oper}:∀(os:List Oper),qQD E Q n0 H0 g0 all os/\qTc E Q n0 H0 g0 all os
 | []=>by have x:qQD E Q n0 H0 g0 all []:=λdraw i S ρ ve lb g fr H κ h y=>⟨S,ρ,ve,lb,g,fr,H,h,y,.nil⟩;exact⟨x,λi c e S ρ ve lb g fr H κ h _ _ y=>⟨S,ρ,ve,lb,g,fr,H,h,y,yP.nil.toL rfl⟩⟩
 |o::os=>by obtain⟨a,b⟩:=qOw os;have x:=qLr (o:=o) a b;exact⟨x,qLq x b⟩
theorem qOv{all:Array Oper}{draw:Bool}(os:List Oper)(i:Nat){S:St}{ρ:List D}{ve:Nat->Value}{lb:Nat->Nat}{g:zG}{fr:Fr}{H:AH}{κ:St->Tree}(h:SR E n0 H0 g0 S ρ ve lb g fr H)(c:wp E (Holds E) Q (qDw E all draw os i S κ) ρ):
  ∃S' ρ' y b g' x H',SR E n0 H0 g0 S' ρ' y b g' x H'/\wp E (Holds E) Q (κ S') ρ'/\yP E all draw os i fr H x H':=(qOw os).1 draw i h c
end
end Go.Am
