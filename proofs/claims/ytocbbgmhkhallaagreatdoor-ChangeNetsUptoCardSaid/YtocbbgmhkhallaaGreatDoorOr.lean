/- What came in, opened, with its bulk: the data are not larger than what was read. Conditions: none. -/
import Derived.Test.YtocbbgmhkhallaaGreatDoorOp
import Derived.Test.YtocbbgmhkhallaaGreatDoorUv
set_option linter.unusedVariables false
set_option linter.unusedSimpArgs false
namespace Go.Am
open Go
mutual
def l7:D->Nat
 |.leaf (.string s)=>s.size+1
 |.leaf (.int k n)=>bif decide (k.min<=n)&&decide (n<=k.max)then 1 else 1000000000000
 |.leaf _=>1
 |.nil=>1
 |.sl _ _ es=>xA es+1
 |.agg cs=>Nat.max 1 (xA cs)
 |.gd cs=>xA cs+1
 |_=>1
def xA:LR->Nat
 | []=>0
 |d::r=>l7 d+xA r
end
mutual
def wR{H:Type}:DataW H->Nat
 |.lit (.string bytes)=>bytes.length+1
 |.lit _=>1
 |.nil=>1
 |.ptr d=>wR d+1
 |.slice y h=>gF y+gF h+1
 |.agg x=>gF x+1
 |.iface _ d=>wR d+1
 |.map _=>1
 |.held _=>1
def gF{H:Type}:List (DataW H)->Nat
 | []=>0
 |d::r=>wR d+gF r
end
theorem qDf:∀a b:LR,xA (a++b)=xA a+xA b
 | [],b=>by simp[xA]
 |x::a,b=>by simp only[ej,xA,qDf a b];omega
theorem qMF(d:D):1<=l7 d:=by unfold l7;split<;>first|omega|exact Nat.le_max_left _ _|(rename_i k n;cases(decide (k.min<=n)&&decide (n<=k.max))<;>decide)
theorem qD8{H:Type}(d:DataW H):1<=wR d:=by unfold wR;split<;>omega
theorem qP2(st:Bool)(ds:LR):l7 (qRB st ds)<=Nat.max 1 (xA ds):=by
 cases st with
 |true=>exact vP _
 |false=>cases ds with
  |nil=>exact Nat.le_max_left _ _
  |cons d ds=>exact lT (jx _ _) (Nat.le_max_right _ _)
theorem qDd:∀{l:LR} {x:D},x∈l->l7 x<=xA l
 |y::l,x,h=>by
  simp only[xA];rcases bl.1 h with rfl|h
  ·omega
  have:=qDd h;omega
theorem qDe:∀l:LR,l.length<=xA l
 | []=>by simp[xA]
 |x::l=>by have:=qMF x;have:=qDe l;simp only[xA,dj];omega
mutual
theorem qEI{B:Nat}:∀{s:Sh} {d:D},zE s d->l7 d<=B->qF B s d
 |.int k,d,h,_=>by simp only[zE]at h;simp only[qF];exact h
 |.bool,d,h,_=>by simp only[zE]at h;simp only[qF];exact h
 |.str,d,h,y=>by simp only[zE]at h;obtain⟨s,rfl⟩:=h;simp only[l7]at y;simp only[qF];exact⟨s,rfl,by omega⟩
 |.st fs,d,h,y=>by simp only[zE]at h;obtain⟨cs,rfl,h⟩:=h;simp only[l7]at y;simp only[qF];exact⟨cs,rfl,aV h (lT (Nat.le_max_right _ _) y)⟩
 |.sl el sz e,d,h,y=>by
  simp only[zE]at h;simp only[qF];rcases h with rfl|⟨es,rfl,_,c⟩
  ·exact .inl rfl
  simp only[l7]at y;have:=qDe es;exact .inr ⟨es,rfl,by omega,λx b=>qEI (c x b) (by have:=qDd b;omega)⟩
theorem aV{B:Nat}:∀{ss:List Sh} {ds:LR},jG ss ds->xA ds<=B->jL B ss ds
 | [],ds,h,_=>by simp only[jG]at h;simp only[jL];exact h
 |s::ss,ds,h,x=>by simp only[jG]at h;obtain⟨d,r,rfl,b,y⟩:=h;simp only[xA]at x;simp only[jL];exact⟨d,r,rfl,qEI b (by omega),aV y (by omega)⟩
end
variable{B:Nat}{L L0:List Bk}{cs:LA}{p:List MemPlace}{s:Sh}{ss:List Sh}
section
variable{E:Env}{H:Type}{enc:LN×LQ->H}{P:LK}{W:LP}{m:Nat}
def yG(E:Env)(m:Nat)(W:LP)(L0:List Bk)(ss:List Sh)(cs:LA)(B:Nat):Prop:=
 ∃(h:List Bk) (vs:LA) (ds:LR),qDM E m W (L0++h)/\VRs (mJ E m (L0++h)) vs cs/\DRs (eP E m (L0++h)).blocks.get ds vs/\jG ss ds/\vs.all qU=true/\xA ds<=B
theorem yG.app{ts:List Sh}{es:LA}{C:Nat}(x:yG E m W L0 ss cs B)(h:∀L,qDM E m W L->yG E m W L ts es C):yG E m W L0 (ss++ts) (cs++es) (B+C):=by
 obtain⟨i,vs,ds,a1,a2,a3,e,q,o⟩:=x;obtain⟨g,us,xs,l,c,b,y,k,j⟩:=h _ a1;refine⟨i++g,vs++us,ds++xs,?_,?_,?_,aU e y,?_,by rw[qDf];omega⟩
 ·grind
 ·rw[←ay];exact qBv (a2.mono bV) c
 ·rw[←ay];exact(a3.mono eO).append b
 grind
theorem yG.le{C:Nat}(h:yG E m W L0 ss cs B)(x:B<=C):yG E m W L0 ss cs C:=by obtain⟨e,vs,ds,a1,a2,a3,c,b,y⟩:=h;exact⟨e,vs,ds,a1,a2,a3,c,b,lT y x⟩
theorem tN{rec:LN->Option (List Sh)}{cs:LA}(ih:∀(f:Field) (s:List Sh),rec f.type=some s->P.cellsOf f.type=s.length->∀(x:DataW H×List MemPlace) (k:Nat),DataW.trod enc P W 0 (λ_=>true) true k f.type ((cs.drop f.offset).take (P.cellsOf f.type))=some x->
   ∀L,qDM E m W L->yG E m W L s ((cs.drop f.offset).take (P.cellsOf f.type)) (wR x.1)):
  ∀(fs:List Field) (xs:List (DataW H×List MemPlace)) (acc ss:List Sh) (B:Nat),qN8 P rec fs acc=some ss->xs.length=fs.length->(∀(i:Nat) f,fs[i]? = some f->∃x,xs[i]? = some x/\∃k,DataW.trod enc P W 0 (λ_=>true) true k f.type ((cs.drop f.offset).take (P.cellsOf f.type))=some x)->
   (∀L,qDM E m W L->yG E m W L acc (cs.take acc.length) B)->ss.length<=cs.length->∀L,qDM E m W L->yG E m W L ss (cs.take ss.length) (B+gF (xs.map (·.1)))
 | [],[],acc,ss,B,h,_,_,q,_=>by
  simp only[qN8,oI]at h;subst h
  simpa[gF]using q
 | [],_::_,_,_,_,_,h,_,_,_=>by simp at h
 |_::_,[],_,_,_,_,h,_,_,_=>by simp at h
 | f::fs,x::xs,acc,ss,B,h,l,t,q,z=>by
  simp only[qN8]at h
  cases o:Nat.beq f.offset acc.length with
  |false=>rw[o]at h;cases h
  | true=>
   rw[o]at h
   simp only[ai]at h
   have b:=vW o
   split at h
   case h_2=>cases h
   rename_i s w
   cases e:Nat.beq (P.cellsOf f.type) s.length with
   |false=>rw[e]at h;cases h
   | true=>
    rw[e]at h
    simp only[ai]at h
    have y:=vW e
    intro L0 r
    obtain⟨G,j,k,A⟩:=t 0 f rfl
    cases j
    have c:=tN ih fs xs (acc++s) ss (B+wR x.1) h (by simpa using l) (λi g C=>t (i+1) g (by simpa using C)) (λL F=>?_) z L0 r
    ·refine c.le ?_
     simp only[fa,gF];omega
    have u:=ih f s w y x k A
    rw[y,b]at u
    have I:=(q L F).app u
    grind
theorem qAZ{e:LN}{ss:List Sh}(ih:∀k cs x,DataW.trod enc P W 0 (λ_=>true) true k e cs=some x->∀L,qDM E m W L->yG E m W L ss cs (wR x.1)):
  ∀(l:List (LA)) (xs:List (DataW H)),xs.length=l.length->(∀(i:Nat) cs,l[i]? = some cs->∃k x,DataW.trod enc P W 0 (λ_=>true) true k e cs=some x/\xs[i]? = some x.1)->∀L,qDM E m W L->
   ∃(g:List Bk) (vs:LA) (b:List (LR)),qDM E m W (L++g)/\VRs (mJ E m (L++g)) vs l.flatten/\DRs (eP E m (L++g)).blocks.get b.flatten vs/\b.length=l.length/\(∀ds∈b,jG ss ds)/\vs.all qU=true/\∀st,xA (b.map (qRB st))<=gF xs
 | [],[],_,_,L,o=>⟨[],[],[],by rw[cr];exact o,.nil,.nil,rfl,λ_ h=>(by cases h),rfl,λ_=>vP _⟩
 | [],_::_,h,_,_,_=>by simp at h
 |_::_,[],h,_,_,_=>by simp at h
 |cs::l,y::ys,j,h,L,o=>by
  obtain⟨k,x,r,q⟩:=h 0 cs rfl
  cases q
  obtain⟨g,vs,ds,a1,a2,a3,O,G,F⟩:=ih k cs x r L o
  obtain⟨I,us,b,N,C,A,z,M,w,u⟩:=qAZ ih l ys (by simpa using j) (λi c t=>h (i+1) c (by simpa using t)) _ a1
  refine⟨g++I,vs++us,ds::b,?_,?_,?_,by simp[z],?_,by rw[fh,G,w];rfl,?_⟩
  ·grind
  ·rw[←ay,jc];exact qBv (a2.mono bV) C
  ·rw[←ay,jc];exact(a3.mono eO).append A
  ·grind
  intro st
  have K:=qP2 st ds
  have J:Nat.max 1 (xA ds)<=wR x.1:=Nat.max_le.2 ⟨qD8 _,F⟩
  have h3:=u st
  simp only[fa,xA,gF];omega
theorem qIY(hsz:∀t ti,E.types.get t=some ti->ti.size=P.cellsOf t)(hm:m=E.prog.globals.size){t e:LN}{n:Nat}(ht:P.underlying t=some (.slice e))(hn:oQ P n e=some ss)(hs:qHV P e ss=some s)(F:P.cellsOf e=ss.length)(hz:0<ss.length)(ih:∀k cs x,DataW.trod enc P W 0 (λ_=>true) true k e cs=some x->∀L,qDM E m W L->yG E m W L ss cs (wR x.1)){k:Nat}{x:DataW H×List MemPlace}(h:DataW.trod enc P W 0 (λ_=>true) true k t cs=some x)(hL:qDM E m W L):yG E m W L [.sl e ss.length s] cs (wR x.1):=by
 rcases Deep.open_slice ht h with⟨rfl,rfl⟩|⟨a,len,cap,g,nn,Dx,Pl,rfl,_,U,hcap,hmm,rfl,hx⟩
 ·exact⟨[],[.slice none 0 0],[.nil],by rw[cr];exact hL,.cons (.leaf rfl) .nil,.cons .nil .nil,⟨.nil,[],rfl,.inl rfl,rfl⟩,rfl,vP _⟩
 simp only[dn]at hmm;subst hmm;rw[F]at hx;obtain⟨f,hf⟩:=Deep.choose_lt (α:=LA) (p:=λi c=>W.cells? 0 (a.add (i*ss.length)) ss.length=some c/\DataW.trod enc P W 0 (λ_=>true) true nn e c=some (Dx i,Pl i)) hx;have V:∀i,i<g->(f i).length=ss.length:=λi r=>(World.cells?_some (hf i r).1).2.1;obtain⟨G,vs,K,a1,a2,a3,a4,a5,a6,a7⟩:=qAZ ih ((List.range len).map f) ((List.range len).map Dx) (by simp) (λi c F=>by
  rw[cw]at F;have r:i<len:=by
   rcases ir i len with h|h
   ·exact h
   rw[List.getElem?_eq_none (by simpa using h)]at F;cases F
  rw[gb r]at F;cases F;exact⟨nn,_,(hf i (by omega)).2,by rw[cw,gb r];rfl⟩) L hL
 rw[bk,gm]at a4;obtain⟨st,Q⟩:=qSE hn hs;have O:vs.length=len*ss.length:=by have J:=VRs.length a2;rw[←J,qBc _ (sz:=ss.length) (λc F=>by obtain⟨i,r,rfl⟩:=dy.1 F;exact V i (by have:=je.1 r;omega)),bk,gm]
 have I:(K.map (qRB st)).flatMap D.cells=K.flatten:=qH7 _ (λd hd=>(Q d (a5 d hd)).2);have A:len<zX:=by
  have:maxLen<zX:=by unfold maxLen zX;decide
  omega
 have X:g<zX:=by
  have:maxLen<zX:=by unfold maxLen zX;decide
  omega
 have hsh:zE (.sl e ss.length s) (.sl e ss.length (K.map (qRB st))):=by refine .inr ⟨_,rfl,by rw[bk,a4];exact A,λy hy=>?_⟩;obtain⟨d,hd,rfl⟩:=dy.1 hy;exact(Q d (a5 d hd)).1
 have fin:∀(o:Option Loc),(∀l,o=some l->∃ob,W.heap[l.hS]? = some ob/\m9 E (mJ E m (L++G)) l false (.cells vs e) ob)->
   (VR (mJ E m (L++G++[⟨o,vs,e⟩])) (.slice (some ⟨m+(L++G).length,0,none⟩) len g) (.slice (some a) len g))->yG E m W L [.sl e ss.length s] [.slice (some a) len g] (wR (DataW.slice ((List.range len).map Dx) ((List.range (g-len)).map λj=>Dx (len+j)))):=by
  intro o ho hv
  refine⟨G++[⟨o,vs,e⟩],[.slice (some ⟨m+(L++G).length,0,none⟩) len g],[.sl e ss.length (K.map (qRB st))],?_,?_,?_,⟨_,[],rfl,hsh,rfl⟩,rfl,by have:=a7 st;simp only[xA,l7,wR];omega⟩
  ·rw[←ay];exact a1.snoc ho
  ·rw[←ay];exact .cons hv .nil
  rw[←ay]
  have hb:(eP E m (L++G++[⟨o,vs,e⟩])).blocks.get (m+(L++G).length)=some ⟨.cells vs e,0,false⟩:=by
   rw[tX,bo (by omega),Nat.add_sub_cancel_left]
   simp[Bk.a]
  refine .cons (.sl hb ?_ ?_ (by rw[bk,a4]) ?_ U A a6) .nil
  ·rw[jr];exact take?_all vs _ O.symm
  ·rw[I];exact a3.mono eO
  intro y hy
  obtain⟨d,hd,rfl⟩:=dy.1 hy
  rw[(Q d (a5 d hd)).2]
  exact qCJ (a5 d hd)
 by_cases hc0:g=0
 ·have hl0:len=0:=by omega
  subst hl0 hc0;exact fin none (λl hl=>by cases hl) (.ki (.inl rfl))
 have C:∀i j,i<g->j<ss.length->W.cell? ((a.add (i*ss.length)).add j)=(f i)[j]? :=λi j r hj=>(World.cells?_some (hf i r).1).2.2 j hj;have z:∀i j,i<g->j<ss.length->∃v,(f i)[j]? = some v:=λi j r hj=>⟨_,ak (by rw[V i r];exact hj)⟩;have u:=C 0 0 (by omega) hz;have hadd0:((a.add (0*ss.length)).add 0)=a:=by simp[Addr.add]
 rw[hadd0]at u;obtain⟨hS,off,spot⟩:=a;obtain⟨v0,hv0⟩:=z 0 0 (by omega) hz;rw[hv0]at u;have R:spot=none/\∃w M fz,W.heap[hS]? = some (.cells w M fz):=by
  unfold World.cell? at u;split at u
  ·rename_i w M fz hb;refine⟨?_,w,M,fz,hb⟩;cases spot with
   |none=>rfl
   |some s=>simp at u
  simp at u
 obtain⟨rfl,w,M,fz,hb⟩:=R;have Z:∀i j,((⟨hS,off,none⟩:Addr).add (i*ss.length)).add j=⟨hS,off+(i*ss.length+j),none⟩:=by intro i j;unfold Addr.add;by_cases J:i*ss.length=0<;>by_cases h2:j=0<;>simp[J,h2,gr]
 have N:∀i j,i<g->j<ss.length->w[off+(i*ss.length+j)]? = (f i)[j]? :=by intro i j r hj;rw[←C i j r hj,Z];simp[World.cell?,hb]
 have S:off+g*ss.length<=w.size:=by
  have J:=N (g-1) (ss.length-1) (by omega) (by omega);obtain⟨v,hv⟩:=z (g-1) (ss.length-1) (by omega) (by omega);rw[hv]at J;have h2:=(cu.1 J).1;have h3:g*ss.length=(g-1)*ss.length+ss.length:=by obtain⟨q,rfl⟩:∃q,g=q+1:=⟨g-1,by omega⟩;rw[Nat.add_sub_cancel,jf]
  omega
 refine fin (some ⟨hS,off,g*ss.length,ss.length⟩) (λl hl=>?_) ?_
 ·cases hl;refine⟨_,hb,?_⟩;simp only[m9];refine⟨λe=>absurd e (by decide),S,by rw[O];exact eu _ U,λti hti=>by rw[hsz _ _ hti,F],λi v r=>?_⟩;have hone:qU v=true:=al.1 a6 v (be r);obtain⟨v',J,h2⟩:=qVx a2 r;refine⟨hone,v',?_,h2⟩;have hil:i<len*ss.length:=by rw[←O];exact(gI r).1
  rw[qHE f (λj hj=>V j (by omega)) hz i hil]at J;have hdl:i/ss.length<len:=Nat.div_lt_of_lt_mul (by rw[Nat.mul_comm];exact hil);have:=N (i/ss.length) (i%ss.length) (by omega) (Nat.mod_lt _ hz);rw[Nat.div_add_mod' i ss.length,J]at this;exact this
 have hσ:mJ E m (L++G++[⟨some ⟨hS,off,g*ss.length,ss.length⟩,vs,e⟩]) (m+(L++G).length)=some ⟨hS,off,g*ss.length,ss.length⟩:=by unfold mJ;rw[bf (by omega),Nat.add_sub_cancel_left];simp
 have:=VR.ka (b:=m+(L++G).length) (i:=0) (l:=len) (c:=g) hσ U X;exact this
theorem qHa(w:∀t A,E.types.get t=some A->A.size=P.cellsOf t)(G:m=E.prog.globals.size):∀(n:Nat) (t:LN) (ss:List Sh),oQ P n t=some ss->∀(k:Nat) (cs:LA) (x:DataW H×List MemPlace),DataW.trod enc P W 0 (λ_=>true) true k t cs=some x->∀L,qDM E m W L->yG E m W L ss cs (wR x.1):=by
 intro n;induction n with
 |zero=>intro t ss h;cases h
 | succ n ih=>
  intro t ss h k cs x l L j;simp only[oQ]at h;split at h
  ·rename_i hu;cases h;obtain⟨b,rfl,rfl⟩:=DataW.trod_bool hu l;exact⟨[],[.bool b],[.leaf (.bool b)],by rw[cr];exact j,.cons (.leaf rfl) .nil,.cons (.leaf rfl) .nil,⟨_,[],rfl,⟨b,rfl⟩,rfl⟩,rfl,by simp[xA,l7,wR]⟩
  ·rename_i r hu;cases h;obtain⟨b,rfl,rfl,u⟩:=DataW.trod_int hu l;have u:(decide (r.min<=b)&&decide (b<=r.max))=true:=u;exact⟨[],[.int r b],[.leaf (.int r b)],by rw[cr];exact j,.cons (.leaf rfl) .nil,.cons (.leaf rfl) .nil,⟨_,[],rfl,⟨b,rfl⟩,rfl⟩,rfl,by simp only[xA,l7,wR,u,ai];exact vP _⟩
  ·rename_i hu;cases h;obtain⟨b,rfl,rfl,_⟩:=DataW.trod_string hu l;exact⟨[],[.string b],[.leaf (.string b)],by rw[cr];exact j,.cons (.leaf rfl) .nil,.cons (.leaf rfl) .nil,⟨_,[],rfl,⟨b,rfl⟩,rfl⟩,rfl,by simp[xA,l7,wR]⟩
  ·rename_i e hu;split at h
   ·rename_i c g;split at h
    ·rename_i s z;cases y:(Nat.beq (P.cellsOf e) c.length&&Nat.blt 0 c.length)with
     |false=>rw[y]at h;cases h
     |true=>rw[y]at h;simp only[ai,oI]at h;subst h;simp only[aE]at y;exact qIY w G hu g z (vW y.1) (oA y.2) (ih e c g) l j
    cases h
   cases h
  ·rename_i fs hu;split at h
   ·rename_i c g;cases y:Nat.beq (P.cellsOf t) c.length with
    |false=>rw[y]at h;cases h
    | true=>
     rw[y]at h;simp only[ai,oI]at h;subst h;have J:=vW y;obtain⟨xs,K,rfl,rfl,M,o,I⟩:=DataW.trod_struct hu l;have:=tN (E:=E) (enc:=enc) (P:=P) (W:=W) (m:=m) (cs:=cs) (rec:=oQ P n) (λf s z _ x k l L j=>ih f.type s z k _ x l L j) fs.toList xs [] c 0 g (by rw[o];simp) (λi f C=>by
      have F:=I i f (by simpa using C);have q:i<xs.length:=by have:=(gI C).1;rw[o];simpa using this
      rw[ak q]at F;exact⟨_,ak q,_,F⟩) (λL j=>⟨[],[],[],by rw[cr];exact j,.nil,.nil,rfl,rfl,vP _⟩) (by omega) L j
     rw[dc (by omega)]at this;exact this.le (by simp only[wR];omega)
   cases h
  cases h
def qDJ(E:Env)(m:Nat)(W:LP)(L0:List Bk)(s:Sh)(v':LQ)(B:Nat):Prop:=
 ∃(h:List Bk) (v:LQ) (d:D),qDM E m W (L0++h)/\VR (mJ E m (L0++h)) v v'/\DR (eP E m (L0++h)).blocks.get d v/\zE s d/\l7 d<=B
theorem qG8{v':LQ}(h:yG E m W L0 [s] [v'] B):qDJ E m W L0 s v' B:=by
 obtain⟨g,vs,ds,a1,a2,a3,x,i,e⟩:=h;simp only[jG]at x;obtain⟨d,l,rfl,x,rfl⟩:=x;cases a3 with
 |cons h b=>
  cases b;cases a2 with
  |cons c y=>exact⟨g,_,d,a1,c,h,x,by simpa[xA]using e⟩
theorem qLW(i:∀t o,E.types.get t=some o->o.size=P.cellsOf t)(z:m=E.prog.globals.size){n:Nat}{t:LN}(y:oQ P n t=some ss)(b:qHV P t ss=some s){v:LQ}{d:DataW H}(hv:Value.okWide P W .any 0 t v)(h:DataW.Trod enc P W 0 (λ_=>true) true t v d p)(F:qDM E m W L):qDJ E m W L s v (wR d):=by
 obtain⟨k,A⟩:=h;have g:=qHa i z n t ss y k _ _ A L F;have x:(∀cs,v≠.agg cs)->ss=[s]->qDJ E m W L s v (wR d):=by
  intro r q;rw[q]at g;have C:v.cells.toList=[v]:=by cases v<;>first|rfl|exact absurd rfl (r _)
  rw[C]at g;exact qG8 g
 have one:(∀fs,P.underlying t≠some (.struct fs))->(∀k e,P.underlying t≠some (.array k e))->ss=[s]:=by intro r q;unfold qHV at b;grind
 cases n with
 |zero=>cases y
 | succ n=>
  have w:=y;simp only[oQ]at y;split at y
  ·rename_i hu;refine x (λcs e=>?_) (one (λ_ e=>by rw[hu]at e;cases e) (λ_ _ e=>by rw[hu]at e;cases e));subst e;simp only[Value.okWide,hu,Cell.okWide]at hv;simp[Cell.ok]at hv
  ·rename_i K hu;refine x (λcs e=>?_) (one (λ_ e=>by rw[hu]at e;cases e) (λ_ _ e=>by rw[hu]at e;cases e));subst e;simp only[Value.okWide,hu,Cell.okWide]at hv;simp[Cell.ok]at hv
  ·rename_i hu;refine x (λcs e=>?_) (one (λ_ e=>by rw[hu]at e;cases e) (λ_ _ e=>by rw[hu]at e;cases e));obtain⟨s,hv⟩:=Go.WideShapes.okWide_string hu hv;rw[hv]at e;cases e
  ·rename_i e hu;refine x (λcs e=>?_) (one (λ_ e=>by rw[hu]at e;cases e) (λ_ _ e=>by rw[hu]at e;cases e));obtain⟨a,l,c,hv⟩:=Go.WideShapes.okWide_slice hu hv;rw[hv]at e;cases e
  ·rename_i fs hu;have j:s=.st ss:=by unfold qHV at b;rw[hu]at b;simp only[oI]at b;exact b.symm
   subst j;simp only[Value.okWide,hu]at hv;obtain⟨cs,rfl,_⟩:=hv;obtain⟨J,vs,ds,a1,a2,a3,I,u,G⟩:=g;refine⟨J,.agg ⟨vs⟩,.agg ds,a1,?_,.agg a3 u,⟨ds,rfl,I⟩,Nat.max_le.2 ⟨qD8 _,G⟩⟩;obtain⟨cs⟩:=cs;exact .agg a2 u
  cases y
theorem qCo(b:∀t g,E.types.get t=some g->g.size=P.cellsOf t)(i:m=E.prog.globals.size){n:Nat}:∀(ts:List LN) (ss:List Sh) (vs:LA) (ds:List (DataW H)) (p:List MemPlace) (L:List Bk),
  qAM P n ts=some ss->DataW.TrodAll enc P W 0 (λ_=>true) true ts vs ds p->(∀(j:Nat) t v,ts[j]? = some t->vs[j]? = some v->Value.okWide P W .any 0 t v)->qDM E m W L->
  ∃(y:List Bk) (us:LA) (xs:LR),qDM E m W (L++y)/\VRs (mJ E m (L++y)) us vs/\DRs (eP E m (L++y)).blocks.get xs us/\jG ss xs/\xA xs<=gF ds
 | [],ss,[],[],_,L,h,_,_,e=>by
  simp only[qAM,oI]at h;subst h
  exact⟨[],[],[],by rw[cr];exact e,.nil,.nil,rfl,vP _⟩
 | t::ts,ss,v::vs,d::ds,_,L,h,⟨p,q,k,hr,_⟩,c,e=>by
  simp only[qAM]at h
  split at h
  ·rename_i s1 o
   split at h
   ·rename_i s r l h3
    simp only[oI]at h;subst h
    obtain⟨y,u,x,a1,a2,a3,F,K⟩:=qLW b i o l (c 0 t v rfl rfl) k e
    obtain⟨G,us,xs,J,C,A,z,I⟩:=qCo b i ts r vs ds q (L++y) h3 hr (λj t v h w=>c (j+1) t v (by simpa using h) (by simpa using w)) a1
    refine⟨y++G,u::us,x::xs,?_,?_,?_,⟨x,xs,rfl,F,z⟩,by simp only[xA,gF];omega⟩
    ·grind
    ·rw[←ay];exact .cons (a2.mono bV) C
    rw[←ay];exact .cons (a3.mono eO) A
   cases h
  cases h
 | [],_,_::_,_,_,_,_,h,_,_=>h.elim
 | [],_,[],_::_,_,_,_,h,_,_=>h.elim
 |_::_,_,[],_,_,_,_,h,_,_=>h.elim
 |_::_,_,_::_,[],_,_,_,h,_,_=>h.elim
theorem qJc{W:LP}{n:Nat}{f:LO}{ts:List LN}(q:E.prog=P)(y:∀t g,E.types.get t=some g->g.size=P.cellsOf t)(b:qAM P n ts=some ss)(x:∀ds,jL B ss ds->qA E f ds (dB true)){args:LA}{ds:List (DataW H)}(u:DataW.TrodAll enc P W 0 (λ_=>true) true ts args ds p)(c:∀(j:Nat) t v,ts[j]? = some t->args[j]? = some v->Value.okWide P W .any 0 t v)(r:gF ds<=B)(o:TabOK E E.prog.globals.size W:=by exact qLz rfl):Calls P f ⟨args⟩ W λe w'=>e=.returned (.bool true)/\Kept W w':=by obtain⟨A,us,xs,a1,a2,a3,z,w⟩:=qCo (E:=E) (m:=E.prog.globals.size) y rfl ts ss args ds p [] b u c (λi k l h=>by cases h);rw[←q];exact qHu rfl o (x xs (aV z (lT w r))) a1 a3 a2
end
end Go.Am
