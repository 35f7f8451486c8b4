/- What came in, opened, with its bulk: the data are not larger than what was read. Conditions: none. -/
import Derived.Test.YtminhjecpnpaeaaGreatDoorOp
import Derived.Test.YtminhjecpnpaeaaGreatDoorUv
set_option linter.unusedVariables false
set_option linter.unusedSimpArgs false
namespace Go.Am
open Go
mutual
def lN:D->Nat
 |.leaf (.string s)=>s.size+1
 |.leaf (.int k n)=>bif decide (k.min<=n)&&decide (n<=k.max)then 1 else 1000000000000
 |.leaf _=>1
 |.nil=>1
 |.sl _ _ es=>jU es+1
 |.agg cs=>Nat.max 1 (jU cs)
 |.tup cs=>jU cs+1
 |_=>1
def jU:List D->Nat
 | []=>0
 |d::r=>lN d+jU r
end
mutual
def xX{H:Type}:DataW H->Nat
 |.lit (.string bytes)=>bytes.length+1
 |.lit _=>1
 |.nil=>1
 |.ptr d=>xX d+1
 |.slice y h=>kT y+kT h+1
 |.agg x=>kT x+1
 |.iface _ d=>xX d+1
 |.map _=>1
 |.held _=>1
def kT{H:Type}:List (DataW H)->Nat
 | []=>0
 |d::r=>xX d+kT r
end
theorem qC6:∀a b:List D,jU (a++b)=jU a+jU b
 | [],b=>by simp[jU]
 |x::a,b=>by simp only[List.cons_append,jU,qC6 a b];omega
theorem qMp(d:D):1<=lN d:=by unfold lN;split<;>first|omega|exact Nat.le_max_left _ _|(rename_i k n;cases(decide (k.min<=n)&&decide (n<=k.max))<;>decide)
theorem qDN{H:Type}(d:DataW H):1<=xX d:=by unfold xX;split<;>omega
theorem qPk(st:Bool)(ds:List D):lN (qQT st ds)<=Nat.max 1 (jU ds):=by
 cases st with
 |true=>exact lR _
 |false=>cases ds with
  |nil=>exact Nat.le_max_left _ _
  |cons d ds=>exact lT (Nat.le_add_right _ _) (Nat.le_max_right _ _)
theorem qC4:∀{l:List D} {x:D},x∈l->lN x<=jU l
 |y::l,x,h=>by
  simp only[jU];rcases List.mem_cons.1 h with rfl|h
  ·omega
  have:=qC4 h;omega
theorem qC5:∀l:List D,l.length<=jU l
 | []=>by simp[jU]
 |x::l=>by have:=qMp x;have:=qC5 l;simp only[jU,List.length_cons];omega
mutual
theorem qEm{B:Nat}:∀{s:Sh} {d:D},vF s d->lN d<=B->qC B s d
 |.int k,d,h,_=>by simp only[vF]at h;simp only[qC];exact h
 |.bool,d,h,_=>by simp only[vF]at h;simp only[qC];exact h
 |.str,d,h,y=>by simp only[vF]at h;obtain⟨s,rfl⟩:=h;simp only[lN]at y;simp only[qC];exact⟨s,rfl,by omega⟩
 |.st g,d,h,y=>by simp only[vF]at h;obtain⟨cs,rfl,h⟩:=h;simp only[lN]at y;simp only[qC];exact⟨cs,rfl,aC h (lT (Nat.le_max_right _ _) y)⟩
 |.sl el sz e,d,h,y=>by
  simp only[vF]at h;simp only[qC];rcases h with rfl|⟨es,rfl,_,c⟩
  ·exact .inl rfl
  simp only[lN]at y;have:=qC5 es;exact .inr ⟨es,rfl,by omega,λx b=>qEm (c x b) (by have:=qC4 b;omega)⟩
theorem aC{B:Nat}:∀{ss:List Sh} {ds:List D},jB ss ds->jU ds<=B->j8 B ss ds
 | [],ds,h,_=>by simp only[jB]at h;simp only[j8];exact h
 |s::ss,ds,h,x=>by simp only[jB]at h;obtain⟨d,r,rfl,b,y⟩:=h;simp only[jU]at x;simp only[j8];exact⟨d,r,rfl,qEm b (by omega),aC y (by omega)⟩
end
section
variable{E:Env}{H:Type}{enc:TypeId×Value->H}{P:Program}{W:World}{m:Nat}
def wP(E:Env)(m:Nat)(W:World)(x:List Bk)(ss:List Sh)(cs:List Value)(B:Nat):Prop:=
 ∃(h:List Bk) (vs:List Value) (ds:List D),qEO E m W (x++h)/\VRs (mQ E m (x++h)) vs cs/\DRs (fW E m (x++h)).blocks.get ds vs/\jB ss ds/\vs.all qE=true/\jU ds<=B
theorem wP.app{h:List Bk}{ss ts:List Sh}{cs es:List Value}{B C:Nat}(y:wP E m W h ss cs B)(x:∀L,qEO E m W L->wP E m W L ts es C):wP E m W h (ss++ts) (cs++es) (B+C):=by
 obtain⟨i,vs,ds,a1,a2,a3,a4,a5,o⟩:=y;obtain⟨g,us,xs,l,e,c,b,k,j⟩:=x _ a1;refine⟨i++g,vs++us,ds++xs,?_,?_,?_,qCB a4 b,?_,by rw[qC6];omega⟩
 ·grind
 ·rw[←List.append_assoc];exact qEX (a2.mono dP) e
 ·rw[←List.append_assoc];exact(a3.mono tO).append c
 grind
theorem wP.le{x:List Bk}{ss:List Sh}{cs:List Value}{B C:Nat}(h:wP E m W x ss cs B)(y:B<=C):wP E m W x ss cs C:=by obtain⟨c,vs,ds,a1,a2,a3,a4,a5,b⟩:=h;exact⟨c,vs,ds,a1,a2,a3,a4,a5,lT b y⟩
theorem tD{rec:TypeId->Option (List Sh)}{cs:List Value}(ih:∀(f:Field) (s:List Sh),rec f.type=some s->P.cellsOf f.type=s.length->∀(x:DataW H×List MemPlace) (k:Nat),DataW.trod enc P W 0 (λ_=>true) true k f.type ((cs.drop f.offset).take (P.cellsOf f.type))=some x->
   ∀L,qEO E m W L->wP E m W L s ((cs.drop f.offset).take (P.cellsOf f.type)) (xX x.1)):
  ∀(c:List Field) (xs:List (DataW H×List MemPlace)) (acc ss:List Sh) (B:Nat),qNm P rec c acc=some ss->xs.length=c.length->(∀(i:Nat) f,c[i]? = some f->∃x,xs[i]? = some x/\∃k,DataW.trod enc P W 0 (λ_=>true) true k f.type ((cs.drop f.offset).take (P.cellsOf f.type))=some x)->
   (∀L,qEO E m W L->wP E m W L acc (cs.take acc.length) B)->ss.length<=cs.length->∀L,qEO E m W L->wP E m W L ss (cs.take ss.length) (B+kT (xs.map (·.1)))
 | [],[],acc,ss,B,h,_,_,q,_=>by
  simp only[qNm,oI]at h;subst h
  simpa[kT]using q
 | [],_::_,_,_,_,_,h,_,_,_=>by simp at h
 |_::_,[],_,_,_,_,h,_,_,_=>by simp at h
 | f::c,x::xs,acc,ss,B,h,o,t,q,z=>by
  simp only[qNm]at h
  cases p:Nat.beq f.offset acc.length with
  |false=>rw[p]at h;cases h
  | true=>
   rw[p]at h
   simp only[cond_true]at h
   have b:=vE p
   split at h
   case h_2=>cases h
   rename_i s w
   cases j:Nat.beq (P.cellsOf f.type) s.length with
   |false=>rw[j]at h;cases h
   | true=>
    rw[j]at h
    simp only[cond_true]at h
    have y:=vE j
    intro F r
    obtain⟨G,l,k,A⟩:=t 0 f rfl
    cases l
    have e:=tD ih c xs (acc++s) ss (B+xX x.1) h (by simpa using o) (λi g C=>t (i+1) g (by simpa using C)) (λL hL=>?_) z F r
    ·refine e.le ?_
     simp only[List.map_cons,kT];omega
    have u:=ih f s w y x k A
    rw[y,b]at u
    have I:=(q L hL).app u
    grind
theorem qAR{e:TypeId}{ss:List Sh}(ih:∀k cs x,DataW.trod enc P W 0 (λ_=>true) true k e cs=some x->∀L,qEO E m W L->wP E m W L ss cs (xX x.1)):
  ∀(l:List (List Value)) (xs:List (DataW H)),xs.length=l.length->(∀(i:Nat) cs,l[i]? = some cs->∃k x,DataW.trod enc P W 0 (λ_=>true) true k e cs=some x/\xs[i]? = some x.1)->∀L,qEO E m W L->
   ∃(g:List Bk) (vs:List Value) (b:List (List D)),qEO E m W (L++g)/\VRs (mQ E m (L++g)) vs l.flatten/\DRs (fW E m (L++g)).blocks.get b.flatten vs/\b.length=l.length/\(∀ds∈b,jB ss ds)/\vs.all qE=true/\∀st,jU (b.map (qQT st))<=kT xs
 | [],[],_,_,L,hL=>⟨[],[],[],by rw[List.append_nil];exact hL,.nil,.nil,rfl,λ_ h=>(by cases h),rfl,λ_=>lR _⟩
 | [],_::_,h,_,_,_=>by simp at h
 |_::_,[],h,_,_,_=>by simp at h
 |cs::l,y::ys,j,h,L,hL=>by
  obtain⟨k,x,p,o⟩:=h 0 cs rfl
  cases o
  obtain⟨g,vs,ds,a1,a2,a3,a4,a5,A⟩:=ih k cs x p L hL
  obtain⟨B,us,b,I,z,w,u,G,t,r⟩:=qAR ih l ys (by simpa using j) (λi c q=>h (i+1) c (by simpa using q)) _ a1
  refine⟨g++B,vs++us,ds::b,?_,?_,?_,by simp[u],?_,by rw[List.all_append,a5,t];rfl,?_⟩
  ·grind
  ·rw[←List.append_assoc,List.flatten_cons];exact qEX (a2.mono dP) z
  ·rw[←List.append_assoc,List.flatten_cons];exact(a3.mono tO).append w
  ·grind
  intro st
  have F:=qPk st ds
  have C:Nat.max 1 (jU ds)<=xX x.1:=Nat.max_le.2 ⟨qDN _,A⟩
  have h3:=r st
  simp only[List.map_cons,jU,kT];omega
theorem qID(hsz:∀t ti,E.types.get t=some ti->ti.size=P.cellsOf t)(hm:m=E.prog.globals.size){t e:TypeId}{ss:List Sh}{s:Sh}{n:Nat}(ht:P.underlying t=some (.slice e))(hn:oG P n e=some ss)(hs:qHF P e ss=some s)(B:P.cellsOf e=ss.length)(hz:0<ss.length)(ih:∀k cs x,DataW.trod enc P W 0 (λ_=>true) true k e cs=some x->∀L,qEO E m W L->wP E m W L ss cs (xX x.1)){k:Nat}{cs:List Value}{x:DataW H×List MemPlace}(h:DataW.trod enc P W 0 (λ_=>true) true k t cs=some x){L:List Bk}(hL:qEO E m W L):wP E m W L [.sl e ss.length s] cs (xX x.1):=by
 rcases Deep.open_slice ht h with⟨rfl,rfl⟩|⟨a,len,cap,g,nn,Dx,Pl,rfl,_,R,hcap,hmm,rfl,hx⟩
 ·exact⟨[],[.slice none 0 0],[.nil],by rw[List.append_nil];exact hL,.cons (.leaf rfl) .nil,.cons .nil .nil,⟨.nil,[],rfl,.inl rfl,rfl⟩,rfl,lR _⟩
 simp only[if_true]at hmm;subst hmm;rw[B]at hx;obtain⟨f,hf⟩:=Deep.choose_lt (α:=List Value) (p:=λi c=>W.cells? 0 (a.add (i*ss.length)) ss.length=some c/\DataW.trod enc P W 0 (λ_=>true) true nn e c=some (Dx i,Pl i)) hx;have S:∀i,i<g->(f i).length=ss.length:=λi r=>(World.cells?_some (hf i r).1).2.1;obtain⟨C,vs,I,a1,a2,a3,a4,a5,a6,a7⟩:=qAR ih ((List.range len).map f) ((List.range len).map Dx) (by simp) (λi c B=>by
  rw[List.getElem?_map]at B;have r:i<len:=by
   rcases Nat.lt_or_ge i len with h|h
   ·exact h
   rw[List.getElem?_eq_none (by simpa using h)]at B;cases B
  rw[List.getElem?_range r]at B;cases B;exact⟨nn,_,(hf i (by omega)).2,by rw[List.getElem?_map,List.getElem?_range r];rfl⟩) L hL
 rw[List.length_map,List.length_range]at a4;obtain⟨st,N⟩:=qRQ hn hs;have M:vs.length=len*ss.length:=by have G:=VRs.length a2;rw[←G,qA2 _ (sz:=ss.length) (λc B=>by obtain⟨i,r,rfl⟩:=List.mem_map.1 B;exact S i (by have:=List.mem_range.1 r;omega)),List.length_map,List.length_range]
 have F:(I.map (qQT st)).flatMap D.cells=I.flatten:=qHS _ (λd hd=>(N d (a5 d hd)).2);have z:len<qT:=by
  have:maxLen<qT:=by unfold maxLen qT;decide
  omega
 have U:g<qT:=by
  have:maxLen<qT:=by unfold maxLen qT;decide
  omega
 have hsh:vF (.sl e ss.length s) (.sl e ss.length (I.map (qQT st))):=by refine .inr ⟨_,rfl,by rw[List.length_map,a4];exact z,λy hy=>?_⟩;obtain⟨d,hd,rfl⟩:=List.mem_map.1 hy;exact(N d (a5 d hd)).1
 have fin:∀(o:Option Loc),(∀l,o=some l->∃ob,W.heap[l.blk]? = some ob/\oA E (mQ E m (L++C)) l false (.cells vs e) ob)->
   (VR (mQ E m (L++C++[⟨o,vs,e⟩])) (.slice (some ⟨m+(L++C).length,0,none⟩) len g) (.slice (some a) len g))->wP E m W L [.sl e ss.length s] [.slice (some a) len g] (xX (DataW.slice ((List.range len).map Dx) ((List.range (g-len)).map λj=>Dx (len+j)))):=by
  intro o ho hv
  refine⟨C++[⟨o,vs,e⟩],[.slice (some ⟨m+(L++C).length,0,none⟩) len g],[.sl e ss.length (I.map (qQT st))],?_,?_,?_,⟨_,[],rfl,hsh,rfl⟩,rfl,by have:=a7 st;simp only[jU,lN,xX];omega⟩
  ·rw[←List.append_assoc];exact a1.snoc ho
  ·rw[←List.append_assoc];exact .cons hv .nil
  rw[←List.append_assoc]
  have hb:(fW E m (L++C++[⟨o,vs,e⟩])).blocks.get (m+(L++C).length)=some ⟨.cells vs e,0,false⟩:=by
   rw[tN,if_pos (by omega),Nat.add_sub_cancel_left]
   simp[Bk.a]
  refine .cons (.sl hb ?_ ?_ (by rw[List.length_map,a4]) ?_ R z a6) .nil
  ·rw[List.drop_zero];exact take?_all vs _ M.symm
  ·rw[F];exact a3.mono tO
  intro y hy
  obtain⟨d,hd,rfl⟩:=List.mem_map.1 hy
  rw[(N d (a5 d hd)).2]
  exact qCA (a5 d hd)
 by_cases hc0:g=0
 ·have hl0:len=0:=by omega
  subst hl0 hc0;exact fin none (λl hl=>by cases hl) (.sliceZ (.inl rfl))
 have A:∀i j,i<g->j<ss.length->W.cell? ((a.add (i*ss.length)).add j)=(f i)[j]? :=λi j r Z=>(World.cells?_some (hf i r).1).2.2 j Z;have w:∀i j,i<g->j<ss.length->∃v,(f i)[j]? = some v:=λi j r Z=>⟨_,List.getElem?_eq_getElem (by rw[S i r];exact Z)⟩;have u:=A 0 0 (by omega) hz;have X:((a.add (0*ss.length)).add 0)=a:=by simp[Addr.add]
 rw[X]at u;obtain⟨blk,off,spot⟩:=a;obtain⟨v0,hv0⟩:=w 0 0 (by omega) hz;rw[hv0]at u;have O:spot=none/\∃ccs J fz,W.heap[blk]? = some (.cells ccs J fz):=by
  unfold World.cell? at u;split at u
  ·rename_i ccs J fz hb;refine⟨?_,ccs,J,fz,hb⟩;cases spot with
   |none=>rfl
   |some s=>simp at u
  simp at u
 obtain⟨rfl,ccs,J,fz,hb⟩:=O;have V:∀i j,((⟨blk,off,none⟩:Addr).add (i*ss.length)).add j=⟨blk,off+(i*ss.length+j),none⟩:=by intro i j;unfold Addr.add;by_cases G:i*ss.length=0<;>by_cases h2:j=0<;>simp[G,h2,Nat.add_assoc]
 have K:∀i j,i<g->j<ss.length->ccs[off+(i*ss.length+j)]? = (f i)[j]? :=by intro i j r Z;rw[←A i j r Z,V];simp[World.cell?,hb]
 have Q:off+g*ss.length<=ccs.size:=by
  have G:=K (g-1) (ss.length-1) (by omega) (by omega);obtain⟨v,hv⟩:=w (g-1) (ss.length-1) (by omega) (by omega);rw[hv]at G;have h2:=(Array.getElem?_eq_some_iff.1 G).1;have h3:g*ss.length=(g-1)*ss.length+ss.length:=by obtain⟨q,rfl⟩:∃q,g=q+1:=⟨g-1,by omega⟩;rw[Nat.add_sub_cancel,Nat.succ_mul]
  omega
 refine fin (some ⟨blk,off,g*ss.length,ss.length⟩) (λl hl=>?_) ?_
 ·cases hl;refine⟨_,hb,?_⟩;simp only[oA];refine⟨λe=>absurd e (by decide),Q,by rw[M];exact Nat.mul_le_mul_right _ R,λti hti=>by rw[hsz _ _ hti,B],λi v r=>?_⟩;have hone:qE v=true:=List.all_eq_true.1 a6 v (List.mem_of_getElem? r);obtain⟨v',G,h2⟩:=qTN a2 r;refine⟨hone,v',?_,h2⟩;have hil:i<len*ss.length:=by rw[←M];exact(gI r).1
  rw[qHq f (λj Z=>S j (by omega)) hz i hil]at G;have hdl:i/ss.length<len:=Nat.div_lt_of_lt_mul (by rw[Nat.mul_comm];exact hil);have:=K (i/ss.length) (i%ss.length) (by omega) (Nat.mod_lt _ hz);rw[Nat.div_add_mod' i ss.length,G]at this;exact this
 have hσ:mQ E m (L++C++[⟨some ⟨blk,off,g*ss.length,ss.length⟩,vs,e⟩]) (m+(L++C).length)=some ⟨blk,off,g*ss.length,ss.length⟩:=by unfold mQ;rw[if_neg (by omega),Nat.add_sub_cancel_left];simp
 have:=VR.sliceE (b:=m+(L++C).length) (i:=0) (l:=len) (c:=g) hσ R U;exact this
theorem qGO(r:∀t w,E.types.get t=some w->w.size=P.cellsOf t)(B:m=E.prog.globals.size):∀(n:Nat) (t:TypeId) (ss:List Sh),oG P n t=some ss->∀(k:Nat) (cs:List Value) (x:DataW H×List MemPlace),DataW.trod enc P W 0 (λ_=>true) true k t cs=some x->∀L,qEO E m W L->wP E m W L ss cs (xX x.1):=by
 intro n;induction n with
 |zero=>intro t ss h;cases h
 | succ n ih=>
  intro t ss h k cs x j L hL;simp only[oG]at h;split at h
  ·rename_i hu;cases h;obtain⟨b,rfl,rfl⟩:=DataW.trod_bool hu j;exact⟨[],[.bool b],[.leaf (.bool b)],by rw[List.append_nil];exact hL,.cons (.leaf rfl) .nil,.cons (.leaf rfl) .nil,⟨_,[],rfl,⟨b,rfl⟩,rfl⟩,rfl,by simp[jU,lN,xX]⟩
  ·rename_i p hu;cases h;obtain⟨b,rfl,rfl,q⟩:=DataW.trod_int hu j;have q:(decide (p.min<=b)&&decide (b<=p.max))=true:=q;exact⟨[],[.int p b],[.leaf (.int p b)],by rw[List.append_nil];exact hL,.cons (.leaf rfl) .nil,.cons (.leaf rfl) .nil,⟨_,[],rfl,⟨b,rfl⟩,rfl⟩,rfl,by simp only[jU,lN,xX,q,cond_true];exact lR _⟩
  ·rename_i hu;cases h;obtain⟨b,rfl,rfl,_⟩:=DataW.trod_string hu j;exact⟨[],[.string b],[.leaf (.string b)],by rw[List.append_nil];exact hL,.cons (.leaf rfl) .nil,.cons (.leaf rfl) .nil,⟨_,[],rfl,⟨b,rfl⟩,rfl⟩,rfl,by simp[jU,lN,xX]⟩
  ·rename_i e hu;split at h
   ·rename_i c g;split at h
    ·rename_i s u;cases y:(Nat.beq (P.cellsOf e) c.length&&Nat.blt 0 c.length)with
     |false=>rw[y]at h;cases h
     |true=>rw[y]at h;simp only[cond_true,oI]at h;subst h;simp only[aE]at y;exact qID r B hu g u (vE y.1) (o9 y.2) (ih e c g) j hL
    cases h
   cases h
  ·rename_i G hu;split at h
   ·rename_i c g;cases y:Nat.beq (P.cellsOf t) c.length with
    |false=>rw[y]at h;cases h
    | true=>
     rw[y]at h;simp only[cond_true,oI]at h;subst h;have F:=vE y;obtain⟨xs,I,rfl,rfl,J,l,C⟩:=DataW.trod_struct hu j;have:=tD (E:=E) (enc:=enc) (P:=P) (W:=W) (m:=m) (cs:=cs) (rec:=oG P n) (λf s u _ x k j L hL=>ih f.type s u k _ x j L hL) G.toList xs [] c 0 g (by rw[l];simp) (λi f z=>by
      have A:=C i f (by simpa using z);have o:i<xs.length:=by have:=(gI z).1;rw[l];simpa using this
      rw[List.getElem?_eq_getElem o]at A;exact⟨_,List.getElem?_eq_getElem o,_,A⟩) (λL hL=>⟨[],[],[],by rw[List.append_nil];exact hL,.nil,.nil,rfl,rfl,lR _⟩) (by omega) L hL
     rw[List.take_of_length_le (by omega)]at this;exact this.le (by simp only[xX];omega)
   cases h
  cases h
def qDw(E:Env)(m:Nat)(W:World)(x:List Bk)(s:Sh)(v':Value)(B:Nat):Prop:=
 ∃(h:List Bk) (v:Value) (d:D),qEO E m W (x++h)/\VR (mQ E m (x++h)) v v'/\DR (fW E m (x++h)).blocks.get d v/\vF s d/\lN d<=B
theorem qGM{x:List Bk}{s:Sh}{v':Value}{B:Nat}(h:wP E m W x [s] [v'] B):qDw E m W x s v' B:=by
 obtain⟨g,vs,ds,a1,a2,a3,a4,a5,e⟩:=h;simp only[jB]at a4;obtain⟨d,l,rfl,a4,rfl⟩:=a4;cases a3 with
 |cons h b=>
  cases b;cases a2 with
  |cons c y=>exact⟨g,_,d,a1,c,h,a4,by simpa[jU]using e⟩
theorem qLK(g:∀t j,E.types.get t=some j->j.size=P.cellsOf t)(w:m=E.prog.globals.size){n:Nat}{t:TypeId}{ss:List Sh}{s:Sh}(x:oG P n t=some ss)(y:qHF P t ss=some s){v:Value}{d:DataW H}{p:List MemPlace}(hv:Value.okWide P W .any 0 t v)(h:DataW.Trod enc P W 0 (λ_=>true) true t v d p){L:List Bk}(hL:qEO E m W L):qDw E m W L s v (xX d):=by
 obtain⟨k,z⟩:=h;have b:=qGO g w n t ss x k _ _ z L hL;have flat:(∀cs,v≠.agg cs)->ss=[s]->qDw E m W L s v (xX d):=by
  intro q o;rw[o]at b;have A:v.cells.toList=[v]:=by cases v<;>first|rfl|exact absurd rfl (q _)
  rw[A]at b;exact qGM b
 have one:(∀r,P.underlying t≠some (.struct r))->(∀k e,P.underlying t≠some (.array k e))->ss=[s]:=by intro q o;unfold qHF at y;grind
 cases n with
 |zero=>cases x
 | succ n=>
  have u:=x;simp only[oG]at x;split at x
  ·rename_i hu;refine flat (λcs e=>?_) (one (λ_ e=>by rw[hu]at e;cases e) (λ_ _ e=>by rw[hu]at e;cases e));subst e;simp only[Value.okWide,hu,Cell.okWide]at hv;simp[Cell.ok]at hv
  ·rename_i F hu;refine flat (λcs e=>?_) (one (λ_ e=>by rw[hu]at e;cases e) (λ_ _ e=>by rw[hu]at e;cases e));subst e;simp only[Value.okWide,hu,Cell.okWide]at hv;simp[Cell.ok]at hv
  ·rename_i hu;refine flat (λcs e=>?_) (one (λ_ e=>by rw[hu]at e;cases e) (λ_ _ e=>by rw[hu]at e;cases e));obtain⟨s,hv⟩:=Go.WideShapes.okWide_string hu hv;rw[hv]at e;cases e
  ·rename_i e hu;refine flat (λcs e=>?_) (one (λ_ e=>by rw[hu]at e;cases e) (λ_ _ e=>by rw[hu]at e;cases e));obtain⟨a,l,c,hv⟩:=Go.WideShapes.okWide_slice hu hv;rw[hv]at e;cases e
  ·rename_i r hu;have i:s=.st ss:=by unfold qHF at y;rw[hu]at y;simp only[oI]at y;exact y.symm
   subst i;simp only[Value.okWide,hu]at hv;obtain⟨cs,rfl,_⟩:=hv;obtain⟨C,vs,ds,a1,a2,a3,a4,a5,B⟩:=b;refine⟨C,.agg ⟨vs⟩,.agg ds,a1,?_,.agg a3 a5,⟨ds,rfl,a4⟩,Nat.max_le.2 ⟨qDN _,B⟩⟩;obtain⟨cs⟩:=cs;exact .agg a2 a5
  cases x
theorem qCg(b:∀t e,E.types.get t=some e->e.size=P.cellsOf t)(g:m=E.prog.globals.size){n:Nat}:∀(ts:List TypeId) (ss:List Sh) (vs:List Value) (ds:List (DataW H)) (p:List MemPlace) (L:List Bk),
  qAC P n ts=some ss->DataW.TrodAll enc P W 0 (λ_=>true) true ts vs ds p->(∀(j:Nat) t v,ts[j]? = some t->vs[j]? = some v->Value.okWide P W .any 0 t v)->qEO E m W L->
  ∃(y:List Bk) (us:List Value) (xs:List D),qEO E m W (L++y)/\VRs (mQ E m (L++y)) us vs/\DRs (fW E m (L++y)).blocks.get xs us/\jB ss xs/\jU xs<=kT ds
 | [],ss,[],[],_,L,h,_,_,hL=>by
  simp only[qAC,oI]at h;subst h
  exact⟨[],[],[],by rw[List.append_nil];exact hL,.nil,.nil,rfl,lR _⟩
 | t::ts,ss,v::vs,d::ds,_,L,h,⟨p,q,i,hr,_⟩,c,hL=>by
  simp only[qAC]at h
  split at h
  ·rename_i C l
   split at h
   ·rename_i s r k h3
    simp only[oI]at h;subst h
    obtain⟨y,u,x,a1,a2,a3,a4,a5⟩:=qLK b g l k (c 0 t v rfl rfl) i hL
    obtain⟨B,us,xs,G,A,z,w,F⟩:=qCg b g ts r vs ds q (L++y) h3 hr (λj t v h o=>c (j+1) t v (by simpa using h) (by simpa using o)) a1
    refine⟨y++B,u::us,x::xs,?_,?_,?_,⟨x,xs,rfl,a4,w⟩,by simp only[jU,kT];omega⟩
    ·grind
    ·rw[←List.append_assoc];exact .cons (a2.mono dP) A
    rw[←List.append_assoc];exact .cons (a3.mono tO) z
   cases h
  cases h
 | [],_,_::_,_,_,_,_,h,_,_=>h.elim
 | [],_,[],_::_,_,_,_,h,_,_=>h.elim
 |_::_,_,[],_,_,_,_,h,_,_=>h.elim
 |_::_,_,_::_,[],_,_,_,h,_,_=>h.elim
theorem qIX{W:World}{n B:Nat}{f:FuncId}{ts:List TypeId}{ss:List Sh}(r:E.prog=P)(b:∀t o,E.types.get t=some o->o.size=P.cellsOf t)(c:qAC P n ts=some ss)(y:∀ds,j8 B ss ds->Holds E f ds (dB true)){args:List Value}{ds:List (DataW H)}{p:List MemPlace}(w:DataW.TrodAll enc P W 0 (λ_=>true) true ts args ds p)(g:∀(j:Nat) t v,ts[j]? = some t->args[j]? = some v->Value.okWide P W .any 0 t v)(u:kT ds<=B)(q:TabOK E E.prog.globals.size W:=by exact x rfl):Calls P f ⟨args⟩ W λe w'=>e=.returned (.bool true)/\Kept W w':=by obtain⟨z,us,xs,a1,a2,a3,a4,a5⟩:=qCg (E:=E) (m:=E.prog.globals.size) b rfl ts ss args ds p [] c w g (λi k l h=>by cases h);rw[←r];exact qHd rfl q (y xs (aC a4 (lT a5 u))) a1 a3 a2
end
end Go.Am
