/- What came in, opened, with its bulk: the data are not larger than what was read. Conditions: none. -/
import Derived.Test.YtpbmnkajhedaiaaGreatOp
import Derived.Test.YtpbmnkajhedaiaaGreatUv
set_option linter.all false
namespace Go.Am
open Go
mutual
def pQ:D->Nat
 |.leaf (.string s)=>s.size+1
 |.leaf (.int k n)=>bif decide (k.min<=n)&&decide (n<=k.max)then 1 else 1000000000000
 |.leaf _=>1
 |.nil=>1
 |.sl _ _ es=>jP es+1
 |.agg cs=>Nat.max 1 (jP cs)
 |.tup cs=>jP cs+1
 |_=>1
def jP:List D->Nat
 | []=>0
 |d::r=>pQ d+jP r
end
mutual
def wE{H:Type}:DataW H->Nat
 |.lit (.string bytes)=>bytes.length+1
 |.lit _=>1
 |.nil=>1
 |.ptr d=>wE d+1
 |.slice y h=>kP y+kP h+1
 |.agg x=>kP x+1
 |.iface _ d=>wE d+1
 |.map _=>1
 |.held _=>1
def kP{H:Type}:List (DataW H)->Nat
 | []=>0
 |d::r=>wE d+kP r
end
theorem qCV:∀a b:List D,jP (a++b)=jP a+jP b
 | [],b=>by simp[jP]
 |x::a,b=>by simp only[List.cons_append,jP,qCV a b];omega
theorem qL9(d:D):1<=pQ d:=by unfold pQ;split<;>first|omega|exact Nat.le_max_left _ _|(rename_i k n;cases(decide (k.min<=n)&&decide (n<=k.max))<;>decide)
theorem qPc{k:IntKind}{n:Int}(h:pQ (.leaf (.int k n))<1000000000000):k.min<=n/\n<=k.max:=by simp only[pQ]at h;grind
theorem qDH{H:Type}(d:DataW H):1<=wE d:=by unfold wE;split<;>omega
theorem qQf(st:Bool)(ds:List D):pQ (qRW st ds)<=Nat.max 1 (jP ds):=by
 cases st with
 |true=>exact vE _
 |false=>cases ds with
  |nil=>exact Nat.le_max_left _ _
  |cons d ds=>exact lT (Nat.le_add_right _ _) (Nat.le_max_right _ _)
theorem qCT:∀{l:List D} {x:D},x∈l->pQ x<=jP l
 |y::l,x,h=>by
  simp only[jP];rcases List.mem_cons.1 h with rfl|h
  ·omega
  have:=qCT h;omega
theorem qCU:∀l:List D,l.length<=jP l
 | []=>by simp[jP]
 |x::l=>by have:=qL9 x;have:=qCU l;simp only[jP,List.length_cons];omega
mutual
theorem qEi{B:Nat}:∀{s:Sh} {d:D},wY s d->pQ d<=B->qC B s d
 |.int k,d,h,_=>by simp only[wY]at h;simp only[qC];exact h
 |.bool,d,h,_=>by simp only[wY]at h;simp only[qC];exact h
 |.str,d,h,y=>by simp only[wY]at h;obtain⟨s,rfl⟩:=h;simp only[pQ]at y;simp only[qC];exact⟨s,rfl,by omega⟩
 |.st fs,d,h,y=>by simp only[wY]at h;obtain⟨cs,rfl,h⟩:=h;simp only[pQ]at y;simp only[qC];exact⟨cs,rfl,iW h (lT (Nat.le_max_right _ _) y)⟩
 |.sl el sz e,d,h,y=>by
  simp only[wY]at h;simp only[qC];rcases h with rfl|⟨es,rfl,_,c⟩
  ·exact .inl rfl
  simp only[pQ]at y;have:=qCU es;exact .inr ⟨es,rfl,by omega,λx b=>qEi (c x b) (by have:=qCT b;omega)⟩
theorem iW{B:Nat}:∀{ss:List Sh} {ds:List D},jG ss ds->jP ds<=B->j4 B ss ds
 | [],ds,h,_=>by simp only[jG]at h;simp only[j4];exact h
 |s::ss,ds,h,x=>by simp only[jG]at h;obtain⟨d,r,rfl,b,y⟩:=h;simp only[jP]at x;simp only[j4];exact⟨d,r,rfl,qEi b (by omega),iW y (by omega)⟩
end
section
variable{E:Env}{H:Type}{enc:TypeId×Value->H}{P:Program}{W:World}{m:Nat}
def wS(E:Env)(m:Nat)(W:World)(x:List Bk)(ss:List Sh)(cs:List Value)(B:Nat):Prop:=
 ∃(h:List Bk) (vs:List Value) (ds:List D),qDp E m W (x++h)/\VRs (nI E m (x++h)) vs cs/\DRs (dY E m (x++h)).blocks.get ds vs/\jG ss ds/\vs.all qH=true/\jP ds<=B
theorem wS.app{h:List Bk}{ss ts:List Sh}{cs es:List Value}{B C:Nat}(y:wS E m W h ss cs B)(x:∀L,qDp E m W L->wS E m W L ts es C):wS E m W h (ss++ts) (cs++es) (B+C):=by
 obtain⟨i,vs,ds,a1,a2,a3,a4,a5,o⟩:=y;obtain⟨g,us,xs,l,e,c,b,k,j⟩:=x _ a1;refine⟨i++g,vs++us,ds++xs,?_,?_,?_,iV a4 b,?_,by rw[qCV];omega⟩
 ·grind
 ·rw[←List.append_assoc];exact qA5 (a2.mono l8) e
 ·rw[←List.append_assoc];exact(a3.mono dX).append c
 grind
theorem wS.le{x:List Bk}{ss:List Sh}{cs:List Value}{B C:Nat}(h:wS E m W x ss cs B)(y:B<=C):wS E m W x ss cs C:=by obtain⟨c,vs,ds,a1,a2,a3,a4,a5,b⟩:=h;exact⟨c,vs,ds,a1,a2,a3,a4,a5,lT b y⟩
theorem sT{rec:TypeId->Option (List Sh)}{cs:List Value}(q:∀(f:Field) (s:List Sh),rec f.type=some s->P.cellsOf f.type=s.length->∀(x:DataW H×List MemPlace) (k:Nat),DataW.trod enc P W 0 (λ_=>true) true k f.type ((cs.drop f.offset).take (P.cellsOf f.type))=some x->
   ∀L,qDp E m W L->wS E m W L s ((cs.drop f.offset).take (P.cellsOf f.type)) (wE x.1)):
  ∀(fs:List Field) (xs:List (DataW H×List MemPlace)) (acc ss:List Sh) (B:Nat),qOb P rec fs acc=some ss->xs.length=fs.length->(∀(i:Nat) f,fs[i]? = some f->∃x,xs[i]? = some x/\∃k,DataW.trod enc P W 0 (λ_=>true) true k f.type ((cs.drop f.offset).take (P.cellsOf f.type))=some x)->
   (∀L,qDp E m W L->wS E m W L acc (cs.take acc.length) B)->ss.length<=cs.length->∀L,qDp E m W L->wS E m W L ss (cs.take ss.length) (B+kP (xs.map (·.1)))
 | [],[],acc,ss,B,h,_,_,o,_=>by
  simp only[qOb,oI]at h;subst h
  simpa[kP]using o
 | [],_::_,_,_,_,_,h,_,_,_=>by simp at h
 |_::_,[],_,_,_,_,h,_,_,_=>by simp at h
 | f::fs,x::xs,acc,ss,B,h,j,r,o,w=>by
  simp only[qOb]at h
  cases l:Nat.beq f.offset acc.length with
  |false=>rw[l]at h;cases h
  | true=>
   rw[l]at h
   simp only[cond_true]at h
   have b:=vP l
   split at h
   case h_2=>cases h
   rename_i s u
   cases c:Nat.beq (P.cellsOf f.type) s.length with
   |false=>rw[c]at h;cases h
   | true=>
    rw[c]at h
    simp only[cond_true]at h
    have y:=vP c
    intro C p
    obtain⟨F,e,k,z⟩:=r 0 f rfl
    cases e
    have key:=sT q fs xs (acc++s) ss (B+wE x.1) h (by simpa using j) (λi g A=>r (i+1) g (by simpa using A)) (λL hL=>?_) w C p
    ·refine key.le ?_
     simp only[List.map_cons,kP];omega
    have t:=q f s u y x k z
    rw[y,b]at t
    have G:=(o L hL).app t
    grind
theorem qAF{e:TypeId}{ss:List Sh}(o:∀k cs x,DataW.trod enc P W 0 (λ_=>true) true k e cs=some x->∀L,qDp E m W L->wS E m W L ss cs (wE x.1)):
  ∀(l:List (List Value)) (xs:List (DataW H)),xs.length=l.length->(∀(i:Nat) cs,l[i]? = some cs->∃k x,DataW.trod enc P W 0 (λ_=>true) true k e cs=some x/\xs[i]? = some x.1)->∀L,qDp E m W L->
   ∃(g:List Bk) (vs:List Value) (b:List (List D)),qDp E m W (L++g)/\VRs (nI E m (L++g)) vs l.flatten/\DRs (dY E m (L++g)).blocks.get b.flatten vs/\b.length=l.length/\(∀ds∈b,jG ss ds)/\vs.all qH=true/\∀st,jP (b.map (qRW st))<=kP xs
 | [],[],_,_,L,hL=>⟨[],[],[],by rw[List.append_nil];exact hL,.nil,.nil,rfl,λ_ h=>(by cases h),rfl,λ_=>vE _⟩
 | [],_::_,h,_,_,_=>by simp at h
 |_::_,[],h,_,_,_=>by simp at h
 |cs::l,y::ys,j,h,L,hL=>by
  obtain⟨k,x,q,p⟩:=h 0 cs rfl
  cases p
  obtain⟨g,vs,ds,a1,a2,a3,a4,a5,B⟩:=o k cs x q L hL
  obtain⟨C,us,b,K,A,z,w,J,u,t⟩:=qAF o l ys (by simpa using j) (λi c r=>h (i+1) c (by simpa using r)) _ a1
  refine⟨g++C,vs++us,ds::b,?_,?_,?_,by simp[w],?_,by rw[List.all_append,a5,u];rfl,?_⟩
  ·grind
  ·rw[←List.append_assoc,List.flatten_cons];exact qA5 (a2.mono l8) A
  ·rw[←List.append_assoc,List.flatten_cons];exact(a3.mono dX).append z
  ·grind
  intro st
  have I:=qQf st ds
  have G:Nat.max 1 (jP ds)<=wE x.1:=Nat.max_le.2 ⟨qDH _,B⟩
  have F:=t st
  simp only[List.map_cons,jP,kP];omega
theorem qIl(hsz:∀t ti,E.types.get t=some ti->ti.size=P.cellsOf t)(hm:m=E.prog.globals.size){t e:TypeId}{ss:List Sh}{s:Sh}{n:Nat}(ht:P.underlying t=some (.slice e))(hn:gX P n e=some ss)(hs:qHe P e ss=some s)(B:P.cellsOf e=ss.length)(hz:0<ss.length)(ih:∀k cs x,DataW.trod enc P W 0 (λ_=>true) true k e cs=some x->∀L,qDp E m W L->wS E m W L ss cs (wE x.1)){k:Nat}{cs:List Value}{x:DataW H×List MemPlace}(h:DataW.trod enc P W 0 (λ_=>true) true k t cs=some x){L:List Bk}(hL:qDp E m W L):wS E m W L [.sl e ss.length s] cs (wE x.1):=by
 rcases Deep.open_slice ht h with⟨rfl,rfl⟩|⟨a,len,cap,g,nn,Dx,Pl,rfl,_,R,hcap,hmm,rfl,hx⟩
 ·exact⟨[],[.slice none 0 0],[.nil],by rw[List.append_nil];exact hL,.cons (.leaf rfl) .nil,.cons .nil .nil,⟨.nil,[],rfl,.inl rfl,rfl⟩,rfl,vE _⟩
 simp only[if_true]at hmm;subst hmm;rw[B]at hx;obtain⟨f,hf⟩:=Deep.choose_lt (α:=List Value) (p:=λi c=>W.cells? 0 (a.add (i*ss.length)) ss.length=some c/\DataW.trod enc P W 0 (λ_=>true) true nn e c=some (Dx i,Pl i)) hx;have S:∀i,i<g->(f i).length=ss.length:=λi hi=>(World.cells?_some (hf i hi).1).2.1;obtain⟨C,vs,I,a1,a2,a3,a4,a5,a6,a7⟩:=qAF ih ((List.range len).map f) ((List.range len).map Dx) (by simp) (λi c B=>by
  rw[List.getElem?_map]at B;have hi:i<len:=by
   rcases Nat.lt_or_ge i len with h|h
   ·exact h
   rw[List.getElem?_eq_none (by simpa using h)]at B;cases B
  rw[List.getElem?_range hi]at B;cases B;exact⟨nn,_,(hf i (by omega)).2,by rw[List.getElem?_map,List.getElem?_range hi];rfl⟩) L hL
 rw[List.length_map,List.length_range]at a4;obtain⟨st,N⟩:=qSC hn hs;have M:vs.length=len*ss.length:=by have G:=VRs.length a2;rw[←G,qAM _ (sz:=ss.length) (λc B=>by obtain⟨i,hi,rfl⟩:=List.mem_map.1 B;exact S i (by have:=List.mem_range.1 hi;omega)),List.length_map,List.length_range]
 have F:(I.map (qRW st)).flatMap D.cells=I.flatten:=qHp _ (λd hd=>(N d (a5 d hd)).2);have z:len<zI:=by
  have:maxLen<zI:=by unfold maxLen zI;decide
  omega
 have U:g<zI:=by
  have:maxLen<zI:=by unfold maxLen zI;decide
  omega
 have hsh:wY (.sl e ss.length s) (.sl e ss.length (I.map (qRW st))):=by refine .inr ⟨_,rfl,by rw[List.length_map,a4];exact z,λy hy=>?_⟩;obtain⟨d,hd,rfl⟩:=List.mem_map.1 hy;exact(N d (a5 d hd)).1
 have fin:∀(o:Option Loc),(∀l,o=some l->∃ob,W.heap[l.blk]? = some ob/\pC E (nI E m (L++C)) l false (.cells vs e) ob)->
   (VR (nI E m (L++C++[⟨o,vs,e⟩])) (.slice (some ⟨m+(L++C).length,0,none⟩) len g) (.slice (some a) len g))->wS E m W L [.sl e ss.length s] [.slice (some a) len g] (wE (DataW.slice ((List.range len).map Dx) ((List.range (g-len)).map λj=>Dx (len+j)))):=by
  intro o ho hv
  refine⟨C++[⟨o,vs,e⟩],[.slice (some ⟨m+(L++C).length,0,none⟩) len g],[.sl e ss.length (I.map (qRW st))],?_,?_,?_,⟨_,[],rfl,hsh,rfl⟩,rfl,by have:=a7 st;simp only[jP,pQ,wE];omega⟩
  ·rw[←List.append_assoc];exact a1.snoc ho
  ·rw[←List.append_assoc];exact .cons hv .nil
  rw[←List.append_assoc]
  have hb:(dY E m (L++C++[⟨o,vs,e⟩])).blocks.get (m+(L++C).length)=some ⟨.cells vs e,0,false⟩:=by
   rw[tA,if_pos (by omega),Nat.add_sub_cancel_left]
   simp[Bk.a]
  refine .cons (.sl hb ?_ ?_ (by rw[List.length_map,a4]) ?_ R z a6) .nil
  ·rw[List.drop_zero];exact take?_all vs _ M.symm
  ·rw[F];exact a3.mono dX
  intro y hy
  obtain⟨d,hd,rfl⟩:=List.mem_map.1 hy
  rw[(N d (a5 d hd)).2]
  exact qCs (a5 d hd)
 by_cases hc0:g=0
 ·have hl0:len=0:=by omega
  subst hl0 hc0;exact fin none (λl hl=>by cases hl) (.sliceZ (.inl rfl))
 have A:∀i j,i<g->j<ss.length->W.cell? ((a.add (i*ss.length)).add j)=(f i)[j]? :=λi j hi Z=>(World.cells?_some (hf i hi).1).2.2 j Z;have w:∀i j,i<g->j<ss.length->∃v,(f i)[j]? = some v:=λi j hi Z=>⟨_,List.getElem?_eq_getElem (by rw[S i hi];exact Z)⟩;have r:=A 0 0 (by omega) hz;have X:((a.add (0*ss.length)).add 0)=a:=by simp[Addr.add]
 rw[X]at r;obtain⟨blk,off,spot⟩:=a;obtain⟨v0,hv0⟩:=w 0 0 (by omega) hz;rw[hv0]at r;have O:spot=none/\∃u J fz,W.heap[blk]? = some (.cells u J fz):=by
  unfold World.cell? at r;split at r
  ·rename_i u J fz hb;refine⟨?_,u,J,fz,hb⟩;cases spot with
   |none=>rfl
   |some s=>simp at r
  simp at r
 obtain⟨rfl,u,J,fz,hb⟩:=O;have V:∀i j,((⟨blk,off,none⟩:Addr).add (i*ss.length)).add j=⟨blk,off+(i*ss.length+j),none⟩:=by intro i j;unfold Addr.add;by_cases G:i*ss.length=0<;>by_cases h2:j=0<;>simp[G,h2,Nat.add_assoc]
 have K:∀i j,i<g->j<ss.length->u[off+(i*ss.length+j)]? = (f i)[j]? :=by intro i j hi Z;rw[←A i j hi Z,V];simp[World.cell?,hb]
 have Q:off+g*ss.length<=u.size:=by
  have G:=K (g-1) (ss.length-1) (by omega) (by omega);obtain⟨v,hv⟩:=w (g-1) (ss.length-1) (by omega) (by omega);rw[hv]at G;have h2:=(Array.getElem?_eq_some_iff.1 G).1;have h3:g*ss.length=(g-1)*ss.length+ss.length:=by obtain⟨q,rfl⟩:∃q,g=q+1:=⟨g-1,by omega⟩;rw[Nat.add_sub_cancel,Nat.succ_mul]
  omega
 refine fin (some ⟨blk,off,g*ss.length,ss.length⟩) (λl hl=>?_) ?_
 ·cases hl;refine⟨_,hb,?_⟩;simp only[pC];refine⟨λe=>absurd e (by decide),Q,by rw[M];exact Nat.mul_le_mul_right _ R,λti hti=>by rw[hsz _ _ hti,B],λi v hi=>?_⟩;have hone:qH v=true:=List.all_eq_true.1 a6 v (List.mem_of_getElem? hi);obtain⟨v',G,h2⟩:=qVl a2 hi;refine⟨hone,v',?_,h2⟩;have hil:i<len*ss.length:=by rw[←M];exact(gI hi).1
  rw[qG1 f (λj Z=>S j (by omega)) hz i hil]at G;have hdl:i/ss.length<len:=Nat.div_lt_of_lt_mul (by rw[Nat.mul_comm];exact hil);have:=K (i/ss.length) (i%ss.length) (by omega) (Nat.mod_lt _ hz);rw[Nat.div_add_mod' i ss.length,G]at this;exact this
 have hσ:nI E m (L++C++[⟨some ⟨blk,off,g*ss.length,ss.length⟩,vs,e⟩]) (m+(L++C).length)=some ⟨blk,off,g*ss.length,ss.length⟩:=by unfold nI;rw[if_neg (by omega),Nat.add_sub_cancel_left];simp
 have:=VR.sliceE (b:=m+(L++C).length) (i:=0) (l:=len) (c:=g) hσ R U;exact this
theorem qGr(r:∀t w,E.types.get t=some w->w.size=P.cellsOf t)(C:m=E.prog.globals.size):∀(n:Nat) (t:TypeId) (ss:List Sh),gX P n t=some ss->∀(k:Nat) (cs:List Value) (x:DataW H×List MemPlace),DataW.trod enc P W 0 (λ_=>true) true k t cs=some x->∀L,qDp E m W L->wS E m W L ss cs (wE x.1):=by
 intro n;induction n with
 |zero=>intro t ss h;cases h
 | succ n z=>
  intro t ss h k cs x j L hL;simp only[gX]at h;split at h
  ·rename_i hu;cases h;obtain⟨b,rfl,rfl⟩:=DataW.trod_bool hu j;exact⟨[],[.bool b],[.leaf (.bool b)],by rw[List.append_nil];exact hL,.cons (.leaf rfl) .nil,.cons (.leaf rfl) .nil,⟨_,[],rfl,⟨b,rfl⟩,rfl⟩,rfl,by simp[jP,pQ,wE]⟩
  ·rename_i p hu;cases h;obtain⟨b,rfl,rfl,q⟩:=DataW.trod_int hu j;have q:(decide (p.min<=b)&&decide (b<=p.max))=true:=q;exact⟨[],[.int p b],[.leaf (.int p b)],by rw[List.append_nil];exact hL,.cons (.leaf rfl) .nil,.cons (.leaf rfl) .nil,⟨_,[],rfl,⟨b,rfl⟩,rfl⟩,rfl,by simp only[jP,pQ,wE,q,cond_true];exact vE _⟩
  ·rename_i hu;cases h;obtain⟨b,rfl,rfl,_⟩:=DataW.trod_string hu j;exact⟨[],[.string b],[.leaf (.string b)],by rw[List.append_nil];exact hL,.cons (.leaf rfl) .nil,.cons (.leaf rfl) .nil,⟨_,[],rfl,⟨b,rfl⟩,rfl⟩,rfl,by simp[jP,pQ,wE]⟩
  ·rename_i e hu;split at h
   ·rename_i c g;split at h
    ·rename_i s u;cases y:(Nat.beq (P.cellsOf e) c.length&&Nat.blt 0 c.length)with
     |false=>rw[y]at h;cases h
     |true=>rw[y]at h;simp only[cond_true,oI]at h;subst h;simp only[zR]at y;exact qIl r C hu g u (vP y.1) (oK y.2) (z e c g) j hL
    cases h
   cases h
  ·rename_i fs hu;split at h
   ·rename_i c g;cases y:Nat.beq (P.cellsOf t) c.length with
    |false=>rw[y]at h;cases h
    | true=>
     rw[y]at h;simp only[cond_true,oI]at h;subst h;have G:=vP y;obtain⟨xs,I,rfl,rfl,J,l,F⟩:=DataW.trod_struct hu j;have:=sT (E:=E) (enc:=enc) (P:=P) (W:=W) (m:=m) (cs:=cs) (rec:=gX P n) (λf s u _ x k j L hL=>z f.type s u k _ x j L hL) fs.toList xs [] c 0 g (by rw[l];simp) (λi f A=>by
      have B:=F i f (by simpa using A);have o:i<xs.length:=by have:=(gI A).1;rw[l];simpa using this
      rw[List.getElem?_eq_getElem o]at B;exact⟨_,List.getElem?_eq_getElem o,_,B⟩) (λL hL=>⟨[],[],[],by rw[List.append_nil];exact hL,.nil,.nil,rfl,rfl,vE _⟩) (by omega) L hL
     rw[List.take_of_length_le (by omega)]at this;exact this.le (by simp only[wE];omega)
   cases h
  cases h
def qDk(E:Env)(m:Nat)(W:World)(x:List Bk)(s:Sh)(v':Value)(B:Nat):Prop:=
 ∃(h:List Bk) (v:Value) (d:D),qDp E m W (x++h)/\VR (nI E m (x++h)) v v'/\DR (dY E m (x++h)).blocks.get d v/\wY s d/\pQ d<=B
theorem qGp{x:List Bk}{s:Sh}{v':Value}{B:Nat}(h:wS E m W x [s] [v'] B):qDk E m W x s v' B:=by
 obtain⟨g,vs,ds,a1,a2,a3,a4,a5,e⟩:=h;simp only[jG]at a4;obtain⟨d,l,rfl,a4,rfl⟩:=a4;cases a3 with
 |cons h b=>
  cases b;cases a2 with
  |cons c y=>exact⟨g,_,d,a1,c,h,a4,by simpa[jP]using e⟩
theorem qLs(g:∀t j,E.types.get t=some j->j.size=P.cellsOf t)(u:m=E.prog.globals.size){n:Nat}{t:TypeId}{ss:List Sh}{s:Sh}(x:gX P n t=some ss)(y:qHe P t ss=some s){v:Value}{d:DataW H}{p:List MemPlace}(hv:Value.okWide P W .any 0 t v)(h:DataW.Trod enc P W 0 (λ_=>true) true t v d p){L:List Bk}(hL:qDp E m W L):qDk E m W L s v (wE d):=by
 obtain⟨k,w⟩:=h;have b:=qGr g u n t ss x k _ _ w L hL;have flat:(∀cs,v≠.agg cs)->ss=[s]->qDk E m W L s v (wE d):=by
  intro q o;rw[o]at b;have z:v.cells.toList=[v]:=by cases v<;>first|rfl|exact absurd rfl (q _)
  rw[z]at b;exact qGp b
 have one:(∀fs,P.underlying t≠some (.struct fs))->(∀k e,P.underlying t≠some (.array k e))->ss=[s]:=by intro q o;unfold qHe at y;grind
 cases n with
 |zero=>cases x
 | succ n=>
  have r:=x;simp only[gX]at x;split at x
  ·rename_i hu;refine flat (λcs e=>?_) (one (λ_ e=>by rw[hu]at e;cases e) (λ_ _ e=>by rw[hu]at e;cases e));subst e;simp only[Value.okWide,hu,Cell.okWide]at hv;simp[Cell.ok]at hv
  ·rename_i C hu;refine flat (λcs e=>?_) (one (λ_ e=>by rw[hu]at e;cases e) (λ_ _ e=>by rw[hu]at e;cases e));subst e;simp only[Value.okWide,hu,Cell.okWide]at hv;simp[Cell.ok]at hv
  ·rename_i hu;refine flat (λcs e=>?_) (one (λ_ e=>by rw[hu]at e;cases e) (λ_ _ e=>by rw[hu]at e;cases e));obtain⟨s,hv⟩:=Go.WideShapes.okWide_string hu hv;rw[hv]at e;cases e
  ·rename_i e hu;refine flat (λcs e=>?_) (one (λ_ e=>by rw[hu]at e;cases e) (λ_ _ e=>by rw[hu]at e;cases e));obtain⟨a,l,c,hv⟩:=Go.WideShapes.okWide_slice hu hv;rw[hv]at e;cases e
  ·rename_i fs hu;have i:s=.st ss:=by unfold qHe at y;rw[hu]at y;simp only[oI]at y;exact y.symm
   subst i;simp only[Value.okWide,hu]at hv;obtain⟨cs,rfl,_⟩:=hv;obtain⟨B,vs,ds,a1,a2,a3,a4,a5,A⟩:=b;refine⟨B,.agg ⟨vs⟩,.agg ds,a1,?_,.agg a3 a5,⟨ds,rfl,a4⟩,Nat.max_le.2 ⟨qDH _,A⟩⟩;obtain⟨cs⟩:=cs;exact .agg a2 a5
  cases x
theorem qB3(b:∀t e,E.types.get t=some e->e.size=P.cellsOf t)(g:m=E.prog.globals.size){n:Nat}:∀(ts:List TypeId) (ss:List Sh) (vs:List Value) (ds:List (DataW H)) (p:List MemPlace) (L:List Bk),
  qAq P n ts=some ss->DataW.TrodAll enc P W 0 (λ_=>true) true ts vs ds p->(∀(j:Nat) t v,ts[j]? = some t->vs[j]? = some v->Value.okWide P W .any 0 t v)->qDp E m W L->
  ∃(y:List Bk) (us:List Value) (xs:List D),qDp E m W (L++y)/\VRs (nI E m (L++y)) us vs/\DRs (dY E m (L++y)).blocks.get xs us/\jG ss xs/\jP xs<=kP ds
 | [],ss,[],[],_,L,h,_,_,hL=>by
  simp only[qAq,oI]at h;subst h
  exact⟨[],[],[],by rw[List.append_nil];exact hL,.nil,.nil,rfl,vE _⟩
 | t::ts,ss,v::vs,d::ds,_,L,h,⟨p,q,ht,hr,_⟩,c,hL=>by
  simp only[qAq]at h
  split at h
  ·rename_i C l
   split at h
   ·rename_i s r k i
    simp only[oI]at h;subst h
    obtain⟨y,u,x,a1,a2,a3,a4,a5⟩:=qLs b g l k (c 0 t v rfl rfl) ht hL
    obtain⟨B,us,xs,G,A,z,w,F⟩:=qB3 b g ts r vs ds q (L++y) i hr (λj t v h o=>c (j+1) t v (by simpa using h) (by simpa using o)) a1
    refine⟨y++B,u::us,x::xs,?_,?_,?_,⟨x,xs,rfl,a4,w⟩,by simp only[jP,kP];omega⟩
    ·grind
    ·rw[←List.append_assoc];exact .cons (a2.mono l8) A
    rw[←List.append_assoc];exact .cons (a3.mono dX) z
   cases h
  cases h
 | [],_,_::_,_,_,_,_,h,_,_=>h.elim
 | [],_,[],_::_,_,_,_,h,_,_=>h.elim
 |_::_,_,[],_,_,_,_,h,_,_=>h.elim
 |_::_,_,_::_,[],_,_,_,h,_,_=>h.elim
theorem qIC{W:World}{n B:Nat}{f:FuncId}{ts:List TypeId}{ss:List Sh}(q:E.prog=P)(y:∀t g,E.types.get t=some g->g.size=P.cellsOf t)(b:qAq P n ts=some ss)(x:∀ds,jG ss ds->jP ds<=B->Holds E f ds (dB true)){args:List Value}{ds:List (DataW H)}{p:List MemPlace}(u:DataW.TrodAll enc P W 0 (λ_=>true) true ts args ds p)(c:∀(j:Nat) t v,ts[j]? = some t->args[j]? = some v->Value.okWide P W .any 0 t v)(r:kP ds<=B)(o:TabOK E E.prog.globals.size W:=by exact qK1 rfl):Calls P f ⟨args⟩ W λe w'=>e=.returned (.bool true)/\Kept W w':=by obtain⟨w,us,xs,a1,a2,a3,a4,a5⟩:=qB3 (E:=E) (m:=E.prog.globals.size) y rfl ts ss args ds p [] b u c (λi k l h=>by cases h);rw[←q];exact qGP rfl o (x xs a4 (lT a5 r)) a1 a3 a2
end
end Go.Am
