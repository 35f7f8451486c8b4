/- Symbolic runs: fields, arithmetic, conversions. Conditions: none. -/
import Derived.Test.YtocbbgmhkhallaaGreatDoorSx2
set_option linter.unusedVariables false
set_option linter.unusedSimpArgs false
namespace Go.Am
open Go
abbrev cj:=@Bool.and_self
abbrev dh:=@List.length_drop
abbrev dm:=@List.mem_of_mem_take
abbrev dx:=@List.mem_of_mem_drop
abbrev er:=@Bool.and_true
abbrev fk:=@decide_eq_true_eq
abbrev gi:=@List.length_replicate
abbrev gp:=@List.eq_of_mem_replicate
abbrev ij:=@List.mem_or_eq_of_mem_set
abbrev im:=@List.flatMap_append
abbrev iu:=@List.all_nil
abbrev jw:=@and_self
mutual
theorem qIC{g:zR}:∀{d:D} {v u:LQ},DR g d v->d.mg=some u->v=u
 |.leaf x,v,u,h,hu=>by simp only[D.mg,oI]at hu;rw[h.de.1,hu]
 |.agg cs,v,u,h,hu=>by
  simp only[D.mg,aa]at hu;obtain⟨l,y,rfl⟩:=hu;cases h with
  |agg h o=>rw[qJ5 h y]
 |.nil,v,u,h,hu=>by simp only[D.mg,oI]at hu;cases h;exact hu
 |.sl _ _ _,_,_,_,hu=>by cases hu
 |.gd _,_,_,_,hu=>by cases hu
 |.ptr _ _,_,_,_,hu=>by cases hu
 |.kr _ _ _,_,_,_,hu=>by cases hu
 |.iface _ _,_,_,_,hu=>by cases hu
theorem qJ5{g:zR}:∀{ds:LR} {vs us:LA},DRs g ds vs->D.oh ds=some us->vs=us
 | [],_,_,.nil,hu=>by simpa[D.oh]using hu
 |d::ds,_,us,.cons h y,hu=>by
  simp only[D.oh]at hu;split at hu
  ·rename_i a b j e;cases hu;rw[qIC h j,qJ5 y e]
  cases hu
end
theorem tV{v:LG}{d:D}(h:dL v=some d):∃u,v=some u/\d=.leaf u/\rU u=true:=by unfold dL at h;grind
variable{f i off:Nat}{op:BinOp}{t:LN}{x:LM}
section
variable{E:Env}{n0:Lim}{H0:AH}{g0:zR}{S:St}{ρ:LR}{ve:LH}{lb:LI}{g:zR}{fr:Fr}{H:AH}{HS:LO->LR->La}{Q:Res1->Prop}{o:Oper}{κ:K1}{wm:Bool}
theorem j7.new(h:SR E n0 H0 g0 S ρ ve lb g fr H){k:VK}{one:Bool}{d:D}{v:LQ}(e:k≠.fresh)(hv:qBj g H.blocks.get n0 ⟨k,one⟩ d v)(y:wp E HS Q (κ (.v S.n) (S.new k one)) (ρ++[d]))(j:jH E fr o H=some (.val v,H)):j7 wm E HS Q n0 H0 g0 fr H o κ:=
 .same (h.new e hv) pQ y (by simp only[SV.val,jR];exact j)
theorem qBh{j:TI}(h:iB E t f=some (off,j)):∃fs e sz z ag fd,E.types.get t=some ⟨.struct fs,sz,e,z,ag⟩/\fs[f]? = some fd/\E.types.get fd.type=some j/\fd.offset=off:=by
 unfold iB at h;split at h
 ·rename_i fs sz e z ag q;split at h
  ·rename_i fd r;split at h
   ·rename_i l y;cases h;exact⟨fs,e,sz,z,ag,fd,q,r,y,rfl⟩
   cases h
  cases h
 cases h
theorem qJt{y:TI}(h:iB E t f=some (off,y))(e:Nat.beq y.size 0=false)(b i:Nat):aY E t (.pointer (some ⟨b,i,none⟩)) f=some (.pointer (some ⟨b,i+off,none⟩)):=by obtain⟨fs,r,sz,z,ag,fd,q,l,h3,j⟩:=qBh h;simp only[aY,q,l,h3,bn,e,bc,qBN,j];rfl
theorem qOo(s i:LQ)(sz a b:Nat):∃y h,qCk s i sz a=.pointer (some ⟨y,h,none⟩)/\qCk s i sz (a+b)=.pointer (some ⟨y,h+b,none⟩):=by unfold qCk;split;all_goals grind
theorem qRg(p:LQ)(a b:Nat):∃y h,qRh p a=.pointer (some ⟨y,h,none⟩)/\qRh p (a+b)=.pointer (some ⟨y,h+b,none⟩):=by unfold qRh;split;all_goals grind
theorem qFM(h:SR E n0 H0 g0 S ρ ve lb g fr H)(K:o.op=.fieldAddr t x f)(l:wp E HS Q (jM E o S κ) ρ):j7 wm E HS Q n0 H0 g0 fr H o κ:=by
 unfold jM at l;rw[K]at l;simp only at l;split at l;case h_2=>cases l
 rename_i y off M O P;obtain⟨R,he⟩:=zZ (E:=E) h O;cases I:Nat.beq M.size 0 with
 |true=>rw[I]at l;cases l
 |false=>
  rw[I]at l;simp only[bc]at l;obtain⟨L,S',ρ',q,g',e,U,j,w,N⟩:=qHW h R l;rw[←N]at he;have u:∀(z:SV) (b i:Nat),z.bd S'.n S'.ae.length->L.val q lb=.pointer (some ⟨b,i,none⟩)->z.val q lb=.pointer (some ⟨b,i+off,none⟩)->wp E HS Q (κ z S') ρ'->j7 wm E HS Q n0 H0 g0 fr H o κ:=by intro z b i G hv F l;refine .same U G l ?_;unfold jH;rw[K];simp only[he,hv,qJt P I,one,aj,F]
  simp only at j;split at j
  ·rename_i b r;exact u (.loc b (Nat.add r off)) (lb b) r w rfl rfl j
  ·rename_i s i sz r;obtain⟨J,C,B,A⟩:=qOo (s.val q lb) (i.val q lb) sz r off;exact u (.ptr s i sz (Nat.add r off)) J C w B A j
  ·rename_i i r;obtain⟨J,C,B,A⟩:=qRg (q i) r off;exact u (.pp i (Nat.add r off)) J C w B A j
  cases j
theorem qOE(h:SR E n0 H0 g0 S ρ ve lb g fr H)(I:o.op=.field t x f)(j:wp E HS Q (jM E o S κ) ρ):j7 wm E HS Q n0 H0 g0 fr H o κ:=by
 unfold jM at j;rw[I]at j;simp only at j;have q:∀{vs:LA} {off:Nat} {l:TI} {v:LQ},ev E fr x=some (.agg ⟨vs⟩)->iB E t f=some (off,l)->nF l.agg l.size off vs=some v->jH E fr o H=some (.val v,H):=by
  intro vs off l v he r u;obtain⟨fs,U,sz,z,ag,fd,K,w,h3,O⟩:=qBh r;subst O;unfold jH;rw[I];simp only[he,K,w];have:iT E fd.type vs fd.offset=some v:=by simp only[iT,h3,bn];exact u
  simp only[this,one,aj]
 split at j
 ·rename_i cs off l A r;obtain⟨J,he⟩:=zZ (E:=E) h A;split at j
  ·rename_i y u;exact .same h (qG7 u J) j (q he r (qG6 u))
  cases j
 ·rename_i i off l A r;obtain⟨J,he⟩:=zZ (E:=E) h A;obtain⟨cs,hd,R,G,P,j⟩:=qLj h j;obtain⟨vs,hv,B,C⟩:=yK G hd;obtain⟨d,K,w,h3⟩:=vL j;have F:getD (ρ++[getD ρ i]) S.n=.agg cs:=by rw[qF3 h.toSM,hd]
  simp only[SV.ds,SV.d,qC7,F,D.cells]at w;obtain⟨v,N,M,L,_⟩:=tK B C w;simp only[SV.val,hv]at he;exact .new P (k:=.pure) (one:=!l.agg) (by simp) ⟨λe=>L (by simpa using e),M⟩ h3 (q he r N)
 cases j
theorem qHb(h:SR E n0 H0 g0 S ρ ve lb g fr H)(r:o.op=.nilCheck x)(j:wp E HS Q (jM E o S κ) ρ):j7 wm E HS Q n0 H0 g0 fr H o κ:=by
 unfold jM at j;rw[r]at j;simp only at j;split at j
 ·rename_i b J q;obtain⟨w,he⟩:=zZ (E:=E) h q;refine .same h w j ?_;unfold jH;rw[r];simp only[SV.val]at he;simp only[he,SV.val]
 ·rename_i f a b q;obtain⟨w,he⟩:=zZ (E:=E) h q;refine .same h w j ?_;unfold jH;rw[r];simp only[SV.val]at he;simp only[he,SV.val]
 ·rename_i t y q;obtain⟨w,he⟩:=zZ (E:=E) h q;refine .same h w j ?_;unfold jH;rw[r];simp only[SV.val]at he;simp only[he,SV.val]
 ·rename_i i q;obtain⟨w,he⟩:=zZ (E:=E) h q;obtain⟨d,I,l,h3⟩:=vL j;have C:=zQ h.toSM (I _ (aw.2 rfl));simp only[SV.ds,SV.d,qVh]at l;simp only[SV.val]at he;have u:DR g (getD ρ i) (ve i)->d=getD ρ i->d.one=true->jH E fr o H=some (.val (ve i),H)->j7 wm E HS Q n0 H0 g0 fr H o κ:=by intro e hd A G;exact .new h (k:=.pure) (one:=true) (by simp) ⟨λ_=>A,by rw[hd];exact e⟩ h3 G
  have e:DR g (getD ρ i) (ve i):=C.dr (by cases F:getD ρ i<;>simp only[SV.d,F]at l ⊢<;>first|rfl|(cases l));split at l
  ·rename_i f a b hd;cases l;refine u e rfl (by rw[hd];rfl) ?_;rw[hd]at e;unfold jH;rw[r];simp only[he];generalize ve i=B at e;cases e with
   |kr _ _ _=>rfl
  ·rename_i cs off hd;cases l;refine u e rfl (by rw[hd];rfl) ?_;rw[hd]at e;unfold jH;rw[r];simp only[he];generalize ve i=B at e;cases e with
   |ptr _ _ _=>rfl
  ·rename_i t d' hd;cases l;refine u e rfl (by rw[hd];rfl) ?_;rw[hd]at e;unfold jH;rw[r];simp only[he];generalize ve i=B at e;cases e with
   |iface _=>rfl
  cases l
 cases j
theorem qL4{y:LM}{neg:Bool}(h:qCu E op t x y neg=true):(∃e r sz z ag,E.types.get t=some ⟨.slice e,sz,r,z,ag⟩)/\pA E op t x y (.slice none 0 0) (.slice none 0 0)=some (.bool !neg)/\(op=.eql/\neg=false∨op=.neq/\neg=true):=by
 unfold qCu yD at h;simp only[aE]at h;obtain⟨⟨l,j⟩,h3⟩:=h;refine⟨?_,?_,?_⟩
 ·split at l
  ·exact⟨_,_,_,_,_,by assumption⟩
  cases l
 ·split at j
  ·rename_i b q;rw[q];simp only[beq_iff_eq]at j;rw[j]
  cases j
 split at h3
 ·left;exact⟨rfl,by simpa using h3⟩
 ·right;exact⟨rfl,h3⟩
 cases h3
theorem qOT{x:SV}(h:qFY x=true):x=.c (.slice none 0 0):=by
 unfold qFY at h;split at h
 ·rfl
 cases h
theorem qWt(h:SR E n0 H0 g0 S ρ ve lb g fr H){y:LM}{b:Option BinOp->Bool}{bb:_}(U:o.op=.binOp op t x y bb)(j:wp E HS Q (jM E o S κ) ρ):j7 wm E HS Q n0 H0 g0 fr H o κ:=by
 unfold jM at j;rw[U]at j;simp only at j;split at j;case h_2=>cases j
 rename_i a c ha W;obtain⟨Z,O⟩:=zZ (E:=E) h ha;obtain⟨X,N⟩:=zZ (E:=E) h W;have C:∀{v:LQ},pA E op t x y (a.val ve lb) (c.val ve lb)=some v->jH E fr o H=some (.val v,H):=by intro v hv;unfold jH;rw[U];simp only[O,N,hv,one,aj]
 cases I:(qFY c&&(qCu E op t x y true||qCu E op t x y false))with
 | true=>
  rw[I]at j;simp only[aE,ai]at I j;have P:=qOT I.1;subst P;obtain⟨d,h1,B,h3⟩:=vL j;have hr:=zQ h.toSM (h1 _ (aw.2 rfl));have A:∃w,qCu E op t x y w=true:=by grind
  obtain⟨w,A⟩:=A;obtain⟨⟨e,bt,sz,z,ag,R⟩,G,F⟩:=qL4 A;have M:qVc op=w:=by rcases F with⟨rfl,rfl⟩|⟨rfl,rfl⟩<;>rfl
  rw[M]at B;simp only[SV.ds,e7]at B;generalize V:a.d (getD ρ)=dd at B hr;cases dd with
  |nil=>
   simp only[oI]at B;subst B;have hv:=hr.dr rfl;generalize J:a.val ve lb=vv at hv;cases hv with
   |nil=>refine .new h (k:=.pure) (one:=true) (by simp) (v:=.bool !w) ⟨λ_=>rfl,.leaf rfl⟩ h3 (C ?_);rw[J];exact G
  |sl el sz es=>
   simp only[oI]at B;subst B;obtain⟨b',o',l,c',_,_,_,_,q⟩:=hr.sl h.mem;refine .new h (k:=.pure) (one:=true) (by simp) (v:=.bool w) ⟨λ_=>rfl,.leaf rfl⟩ h3 (C ?_);rw[q.v];rcases F with⟨rfl,rfl⟩|⟨rfl,rfl⟩
   ·simp[pA,zP,zW,qEs,R,qA0,SV.val]
   simp[pA,zP,zW,qEs,R,qA0,SV.val]
  |_=>cases B
 |false=>
  rw[I]at j;simp only[bc]at j;obtain⟨L,j⟩:=jQ j;simp only[aE]at L;simp only[wp]at j;split at j;case h_2=>cases j
  rename_i d hd;simp only[SV.ds,bH]at hd;split at hd;case h_2=>cases hd
  rename_i u v hu hv;obtain⟨r,hr,rfl,K⟩:=tV hd;have e1:=qIC (j6 h.toSM L.1) hu;have e2:=qIC (j6 h.toSM L.2) hv;exact .new h (k:=.pure) (one:=true) (by simp) (v:=r) ⟨λ_=>rfl,.leaf K⟩ j (C (by rw[e1,e2];exact hr))
theorem zAJ(h:SR E n0 H0 g0 S ρ ve lb g fr H){op:UnOp}(w:o.op=.unOp op t x)(j:wp E HS Q (jM E o S κ) ρ):j7 wm E HS Q n0 H0 g0 fr H o κ:=by
 unfold jM at j;rw[w]at j;simp only at j;split at j;case h_2=>cases j
 rename_i y C;obtain⟨K,he⟩:=zZ (E:=E) h C;split at j
 ·rename_i b G;have:y=.c (.bool b):=by unfold qP8 at G;grind
  subst this;simp only[SV.val]at he;refine .same h (y:=.c (.bool !b)) trivial j ?_;unfold jH;rw[w];simp only[he,SV.val];rfl
 obtain⟨d,I,e,h3⟩:=vL j;have B:=zQ h.toSM (I _ (aw.2 rfl));simp only[SV.ds]at e;generalize F:y.d (getD ρ)=J at e B;cases J with
 |leaf u=>
  rw[zBu]at e;have hv:=(B.dr rfl).de.1;cases A:zP u with
  |false=>rw[A]at e;cases e
  |true=>rw[A]at e;simp only[ai]at e;obtain⟨r,q,rfl,l⟩:=tV e;refine .new h (k:=.pure) (one:=true) (by simp) (v:=r) ⟨λ_=>rfl,.leaf l⟩ h3 ?_;unfold jH;rw[w];rw[hv]at he;simp only[he,A,ai,q,one,aj]
 |_=>cases e
theorem qRt(h:SR E n0 H0 g0 S ρ ve lb g fr H){s d:LN}(I:o.op=.convert s d x)(F:iH E s d=none)(C:uP E s d=false)(j:wp E HS Q (jM E o S κ) ρ):j7 wm E HS Q n0 H0 g0 fr H o κ:=by
 unfold jM at j;rw[I]at j;simp only[F,C,bc]at j;split at j;case h_2=>cases j
 rename_i y J;obtain⟨O,he⟩:=zZ (E:=E) h J;obtain⟨P,L,q,h3⟩:=vL j;have G:=zQ h.toSM (L _ (aw.2 rfl));simp only[SV.ds]at q;generalize K:y.d (getD ρ)=M at q G;cases M with
 | leaf u=>
  rw[qSw]at q;obtain⟨hv,w⟩:=(G.dr rfl).de;obtain⟨r,e,rfl,A⟩:=tV q;refine .new h (k:=.pure) (one:=true) (by simp) (v:=r) ⟨λ_=>rfl,.leaf A⟩ h3 ?_;unfold jH;rw[I];rw[hv]at he;simp only[he];cases u with
  |string b=>
   simp only[qLd]at e;simp only;split at e
   ·cases e
   rename_i N;split
   ·grind
   rw[e];rfl
  |slice a l c=>simp[rU]at w
  |pointer a=>cases e
  |_=>
   simp only[qLd]at e;rw[cond_eq_ite]at e;simp only;rw[cond_eq_ite];split at e
   ·rename_i B;rw[bo B,e];rfl
   cases e
 |_=>cases q
theorem qWp(h:SR E n0 H0 g0 S ρ ve lb g fr H)(u:o.op=.makeInterface t x)(e:wp E HS Q (jM E o S κ) ρ):j7 wm E HS Q n0 H0 g0 fr H o κ:=by
 unfold jM at e;rw[u]at e;simp only at e;cases j:E.types.get t with
 |none=>rw[j]at e;cases e
 | some r=>
  cases l:nA S x with
  |none=>rw[j,l]at e;obtain⟨d,_,_,_,_⟩:=r;cases d<;>cases e
  | some y=>
   rw[j,l]at e;obtain⟨w,he⟩:=zZ (E:=E) h l;have q:wp E HS Q (κ (.ll t y) S) ρ->jH E fr o H=some (.val (.iface t (y.val ve lb)),H)->j7 wm E HS Q n0 H0 g0 fr H o κ:=λe A=>
    .same h (y:=.ll t y) w e A
   obtain⟨d,_,_,_,_⟩:=r;cases d<;>first|(cases e;done)|skip
   all_goals refine q e ?_;unfold jH;rw[u];simp only[he,j,one,aj]
theorem qIZ(h:SR E n0 H0 g0 S ρ ve lb g fr H)(w:o.op=.extract x i)(l:wp E HS Q (jM E o S κ) ρ):j7 wm E HS Q n0 H0 g0 fr H o κ:=by
 unfold jM at l;rw[w]at l;simp only at l;split at l
 ·rename_i cs r;obtain⟨B,he⟩:=zZ (E:=E) h r;split at l
  ·rename_i y A;refine .same h ((SV.hE.1 B) y (be A)) l ?_;unfold jH;rw[w];simp only[SV.val,SV.cb]at he;simp only[he,cw,A,aj,one]
  cases l
 ·rename_i j r;obtain⟨B,he⟩:=zZ (E:=E) h r;obtain⟨d,J,q,h3⟩:=vL l;have u:=zQ h.toSM (J _ (aw.2 rfl));simp only[SV.ds,SV.d]at q u;generalize I:getD ρ j=K at q u;cases K with
  |gd ds=>
   rw[qJz]at q;have hv:=u.dr rfl;simp only[SV.val]at hv he;generalize G:ve j=L at hv he;cases hv with
   |gd hv=>obtain⟨v,F,C⟩:=hv.get _ _ q;refine .new h (k:=.pure) (one:=false) (by simp) (v:=v) ⟨(λe=>by cases e),C⟩ h3 ?_;unfold jH;rw[w];simp only[he,F,one,aj]
  |_=>cases q
 cases l
end
variable{ps:Array (Nat×LM)}{v:LQ}
section
variable{E:Env}{n0:Lim}{H0:AH}{g0:zR}{S:St}{ρ:LR}{ve:LH}{lb:LI}{g:zR}{fr:Fr}{H:AH}{HS:LO->LR->La}{Q:Res1->Prop}{o:Oper}{κ:K1}{wm:Bool}
theorem wF{e:LN}(h:yD E t=some e):∃sz y z ag,E.types.get t=some ⟨.slice e,sz,y,z,ag⟩:=by
 unfold yD at h;split at h
 ·cases h;exact⟨_,_,_,_,by assumption⟩
 cases h
theorem qFL(h:SR E n0 H0 g0 S ρ ve lb g fr H){i:LM}(K:o.op=.indexAddr t x i)(q:wp E HS Q (jM E o S κ) ρ):j7 wm E HS Q n0 H0 g0 fr H o κ:=by
 unfold jM at q;rw[K]at q;simp only at q;split at q;case h_2=>cases q
 rename_i y j el P V F;obtain⟨A,u⟩:=zZ (E:=E) h P;obtain⟨w,r⟩:=zZ (E:=E) h V;obtain⟨sz,bt,z,ag,R⟩:=wF F;split at q;case h_2=>cases q
 rename_i e B;obtain⟨C,q⟩:=jQ q;simp only[aE]at C;obtain⟨d,h1,L,h3⟩:=vL q;have O:=zQ h.toSM C.1;have N:=zQ h.toSM C.2;simp only[SV.ds,qC6,aa]at L;obtain⟨ed,G,rfl⟩:=L;obtain⟨b,o',l,c,k,n,cs,rS,vC,rt,own,J,I,M,w4,_,Z,X,W⟩:=qBK h.mem O N G;have hle:Nat.ble (n+1) l=true:=bL M;have U:=h.new (k:=.pure) (o:=true) (by simp) (d:=.leaf (.bool true)) (v:=.bool true) ⟨λ_=>rfl,.leaf rfl⟩;have ex:ExtS S ρ ve g (S.new .pure true) (ρ++[.leaf (.bool true)]) (cJ ve S.n (.bool true)) g:=yE h.len;refine .same U (y:=.ptr y j e.size 0) ⟨ex.bd A,ex.bd w⟩ h3 ?_;simp only[SV.val,ex.val (lb:=lb) A,ex.val (lb:=lb) w];unfold jH;rw[K];rw[J]at u;rw[I]at r;simp only[u,r,bn,nat?,qAu,R,B,hle,ai,one,aj,J,I,qCk];rfl
theorem qOD(h:SR E n0 H0 g0 S ρ ve lb g fr H){i:LM}(B:o.op=.index t x i)(l:wp E HS Q (jM E o S κ) ρ):j7 wm E HS Q n0 H0 g0 fr H o κ:=by
 unfold jM at l;rw[B]at l;simp only at l;split at l;case h_2=>cases l
 rename_i y j sz V z ag I N J;obtain⟨P,r⟩:=zZ (E:=E) h I;obtain⟨O,q⟩:=zZ (E:=E) h N;obtain⟨d,C,e,h3⟩:=vL l;have u:=zQ h.toSM (C y (by simp));have A:=zQ h.toSM (C j (by simp));simp only[SV.ds]at e;generalize G:y.d (getD ρ)=F at e u;generalize M:j.d (getD ρ)=U at e A
 match F,e,u with
 |.leaf (.string s),e,u=>
  rw[qJA]at e;split at e
  ·rename_i n K;obtain⟨k,L⟩:=cV A K;simp only[aa]at e;obtain⟨R,w,rfl⟩:=e;have hv:=(u.dr rfl).de.1;refine .new h (k:=.pure) (one:=true) (by simp) (v:=.int .u8 R.toNat) ⟨λ_=>rfl,.leaf rfl⟩ h3 ?_;unfold jH;rw[B];rw[hv]at r;rw[L]at q;simp only[r,q,bn,nat?,J,w,one,aj]
  cases e
theorem qCm{r:List (Nat×LM)}{ps:List (Nat×LQ)}(hv:ev E fr x=some v)(j:dQ v)(y:parts? E fr r=some ps):parts? E fr ((i,x)::r)=some ((i,v)::ps):=by
 simp only[parts?,hv];split
 ·rename_i h;cases h
 ·rename_i c h;simp only[oI]at h;exact absurd h (j _)
 rename_i v' e h;simp only[oI]at h;subst h;rw[y];rfl
theorem qDs{place:Nat->Option (Nat×Nat×Bool)}{place':Nat->Option (Nat×Nat)}(w:∀i off size ag,place i=some (off,size,ag)->place' i=some (off,size)):∀(ps:List (Nat×LM)) {S:St} {ρ:LR} {ve:LH} {g:zR} {cs:LS} {κ:LS->St->Tree},
  SR E n0 H0 g0 S ρ ve lb g fr H->SV.kx S.n S.ae.length cs->wp E HS Q (qDu E S place cs ps κ) ρ->
  bK E HS Q n0 H0 g0 S ρ ve lb g fr H κ λl S' _ B _=>SV.kx S'.n S'.ae.length l/\∃vs,parts? E fr ps=some vs/\eI (SV.a8 ve lb cs) vs place'=some (SV.a8 B lb l)
 | [],S,ρ,ve,g,cs,κ,h,A,q=>⟨cs,S,ρ,ve,g,.refl,h,q,A,[],rfl,rfl⟩
 |(i,x)::r,S,ρ,ve,g,cs,κ,h,A,q=>by
  simp only[qDu]at q
  split at q
  case h_2=>cases q
  rename_i off size ag y U R
  obtain⟨C,he⟩:=zZ (E:=E) h R
  obtain⟨l,S1,J,u,g1,I,X,e,s1,s2,O,N⟩:=nY h C q
  simp only at e
  split at e
  case h_2=>cases e
  rename_i cs' bO
  have j:=mH (ve:=u) (lb:=lb) bO
  have G:SV.a8 u lb cs=SV.a8 ve lb cs:=SV.di I.ve (λ_ _=>rfl) A
  rw[G,s2]at j
  obtain⟨P,S2,ρ2,ve2,Z,e2,W,F,M,vs,L,K⟩:=qDs w r X (mI bO (I.kx A) s1) e
  refine⟨P,S2,ρ2,ve2,Z,I.trans e2,W,F,M,_,qCm he N L,?_⟩
  have V:(y.val ve lb).cells.toList.length=size:=by rw[←s2,SV.cb,bk,O]
  simp only[eI,w _ _ _ _ U,V,j,zI,dn]
  exact K
theorem qOH(h:SR E n0 H0 g0 S ρ ve lb g fr H)(I:o.op=.build t ps)(j:wp E HS Q (jM E o S κ) ρ):j7 wm E HS Q n0 H0 g0 fr H o κ:=by
 unfold jM at j;rw[I]at j;simp only at j;split at j
 ·rename_i fs sz P z G;obtain⟨_,j⟩:=jQ j;obtain⟨l,S',ρ',B,g',e,K,r,F,vs,C,w⟩:=qDs (place':=fieldPlace? E fs.toList) (λi off size ag q=>by
   simp only[fieldPlace?];split at q
   ·rename_i f M;simp only[aa,dk]at q;obtain⟨R,O,N,h3,U⟩:=q;have J:fs.toList[i]? = some f:=by simpa using M
    simp only[J,O,aj,N,h3]
   cases q) ps.toList h (qLn _) j
  rw[qFf]at w;refine .same K (y:=.agg l) F r ?_;unfold jH;rw[I];simp only[C,sJ,G,w,aj,one,SV.val]
 ·rename_i n A sz P z G;obtain⟨L,j⟩:=jQ j;cases u:E.types.get A with
  |none=>rw[u]at L;cases L
  |some e=>obtain⟨l,S',ρ',B,g',ex,K,r,F,vs,C,w⟩:=qDs (place':=λi=>some (Nat.mul i e.size,e.size)) (λi off size ag q=>by simp only[u,aj,oI,dk]at q;rw[←q.1,←q.2.1]) ps.toList h (qLn _) j;rw[qFf]at w;refine .same K (y:=.agg l) F r ?_;unfold jH;rw[I];simp only[C,sJ,G,u,bn,w,aj,one,SV.val]
 cases j
theorem qCf(z:LA):∀n,(xX z n).length=n*z.length
 |0=>by simp[xX]
 |n+1=>by simp[xX,qCf z n,fm];omega
theorem fJ:∀(a b c vs:LA),b.length=vs.length->xG (a++(b++c)) a.length vs=some (a++(vs++c))
 | [],b,c,vs,h=>by
  simp only[df,dg];induction vs generalizing b with
  |nil=>cases b with
   |nil=>simp[xG]
   |cons _ _=>simp at h
  |cons v vs ih=>cases b with
   |nil=>simp at h
   |cons x b=>simp only[ej,xG];rw[ih b (by simpa using h)];rfl
 | x::a,b,c,vs,h=>by
  simp only[ej,dj];cases vs with
  |nil=>
   cases b with
   |nil=>simp only[xG,fJ a [] c [] rfl,aj]
   |cons _ _=>simp at h
  |cons v vs=>simp only[xG,fJ a b c (v::vs) h,aj]
theorem qHU{size:Nat}{ag:Bool}{z:LA}(hz:z.length=size):∀(ps:List (Nat×LM)) {S:St} {ρ:LR} {ve:LH} {g:zR} {acc:LS} {done:LA} {κ:LS->St->Tree},
  SR E n0 H0 g0 S ρ ve lb g fr H->SV.kx S.n S.ae.length acc->done.length=acc.length*size->done=(acc.map (SV.val ve lb)).flatMap (λv=>v.cells.toList)->
  (∀x∈acc,(x.d (getD ρ)).cells.length=size/\((x.d (getD ρ)).one=true∨∃cs,x.d (getD ρ)=.agg cs))->wp E HS Q (qAG size ag acc S ps κ) ρ->
  bK E HS Q n0 H0 g0 S ρ ve lb g fr H κ λl S' ρ' q _=>SV.kx S'.n S'.ae.length l/\(∀x∈l,(x.d (getD ρ')).cells.length=size/\((x.d (getD ρ')).one=true∨∃cs,x.d (getD ρ')=.agg cs))/\
   l.length=acc.length+ps.length/\∃vs,parts? E fr ps=some vs/\eI (done++xX z ps.length) vs (λi=>some (Nat.mul i size,size))=some ((l.map (SV.val q lb)).flatMap (λv=>v.cells.toList))
 | [],S,ρ,ve,g,acc,done,κ,h,P,J,hd,hc,w=>⟨acc,S,ρ,ve,g,.refl,h,w,P,hc,rfl,[],rfl,by simp[eI,xX,hd]⟩
 | (i,x)::r,S,ρ,ve,g,acc,done,κ,h,P,J,hd,hc,w=>by
  simp only[qAG]at w
  split at w
  case h_2=>cases w
  rename_i y hy
  obtain⟨U,he⟩:=zZ (E:=E) h hy
  obtain⟨Z,j⟩:=jQ w
  have Z:=vW Z
  subst Z
  have F:∀{G:St} {L:zR},ExtS S ρ ve g G ρ ve L->SR E n0 H0 g0 G ρ ve lb L fr H->yB G y=true->wp E HS Q (.bind (.mz ag size) [y] (qAG size ag (acc++[y]) (G.new .dead false) r κ)) ρ->
    bK E HS Q n0 H0 g0 S ρ ve lb g fr H κ λl S' ρ' q _=>SV.kx S'.n S'.ae.length l/\(∀x∈l,(x.d (getD ρ')).cells.length=size/\((x.d (getD ρ')).one=true∨∃cs,x.d (getD ρ')=.agg cs))/\
     l.length=acc.length+((acc.length,x)::r).length/\∃vs,parts? E fr ((acc.length,x)::r)=some vs/\eI (done++xX z ((acc.length,x)::r).length) vs (λi=>some (Nat.mul i size,size))=some ((l.map (SV.val q lb)).flatMap (λv=>v.cells.toList)):=by
   intro G L e0 C A w
   simp only[wp]at w
   split at w
   case h_2=>cases w
   rename_i d O
   simp only[SV.ds,sA]at O
   obtain⟨rfl,q1,q2⟩:=sI O
   have M:=zQ C.toSM A
   have V:(y.d (getD ρ)).cells.length=size/\((y.d (getD ρ)).one=true∨∃cs,y.d (getD ρ)=.agg cs)/\(y.val ve lb).cells.toList.length=size/\dQ (y.val ve lb):=by
    cases ag with
    |true=>
     obtain⟨cs,B,hl⟩:=q1 rfl
     have N:DR L (y.d (getD ρ)) (y.val ve lb):=M.dr (by rw[B];rfl)
     obtain⟨vs,hv,W,_⟩:=yK N B
     refine⟨by rw[B];exact hl,.inr ⟨cs,B⟩,?_,cD N B⟩
     rw[hv]
     show vs.length=size
     rw[W.length,hl]
    |false=>
     obtain⟨C,h2⟩:=q2 rfl
     obtain⟨h3,h4⟩:=qCh M C
     refine⟨?_,.inl C,by rw[h3];exact h2.symm,h4⟩
     rw[h2]
     generalize y.d (getD ρ)=yd at C
     cases yd<;>first|rfl|(cases C;done)
   obtain⟨y1,y2,R,y4⟩:=V
   have h':=C.new (k:=.dead) (o:=false) (by simp) (d:=y.d (getD ρ)) (v:=.bool true) ⟨(λe=>by cases e),trivial⟩
   have e:ExtS S ρ ve g (G.new .dead false) (ρ++[y.d (getD ρ)]) (cJ ve G.n (.bool true)) L:=e0.trans (yE C.len)
   have K:SV.kx S.n S.ae.length (acc++[y]):=by
    rw[SV.hE]at P ⊢
    intro u hu
    rcases bh.1 hu with hu|hu
    ·exact P u hu
    simp only[aw]at hu;subst hu;exact U
   have I:(acc++[y]).map (SV.val (cJ ve G.n (.bool true)) lb)=(acc++[y]).map (SV.val ve lb):=by
    rw[←SV.cb,←SV.cb]
    exact SV.di e.ve (λ_ _=>rfl) K
   obtain⟨l,S',ρ',q,g',e',r1,r2,r3,r4,r5,vs,r6,r7⟩:=qHU hz r (acc:=acc++[y]) (done:=done++(y.val ve lb).cells.toList) h' (e.kx K) (by simp[J,R,fm]) (by
     rw[I,ga,im,hd];simp) (λu hu=>by
     have X:=(SV.hE.1 K) u hu
     rw[e.d X]
     rcases bh.1 hu with hu|hu
     ·exact hc u hu
     simp only[aw]at hu;subst hu;exact⟨y1,y2⟩) w
   refine⟨l,S',ρ',q,g',e.trans e',r1,r2,r3,r4,by simp at r5 ⊢;omega,_,qCm he y4 r6,?_⟩
   have bO:xG (done++xX z (r.length+1)) (acc.length*size) (y.val ve lb).cells.toList=some (done++((y.val ve lb).cells.toList++xX z r.length)):=by
    have:=fJ done z (xX z r.length) (y.val ve lb).cells.toList (by rw[hz,R])
    rw[J]at this
    exact this
   simp only[dj,eI,R,zI,dn,jt,bO]
   rw[ay]at r7
   exact r7
  rw[cond_eq_ite]at j
  split at j
  ·rename_i A;exact F .refl h A j
  obtain⟨L,e0,C⟩:=mR y h
  obtain⟨A,j⟩:=jQ j
  exact F e0 C A j
end
def zR.add(g:zR)(b:Nat)(k:ABlk):zR:=λc=>if c=b then some k else g c
variable{b:Nat}{g:zR}{k:ABlk}
theorem zR.qp(h:g b=none):zR.le g (g.add b k):=by intro c k' y;simp only[zR.add];grind
theorem zR.oq:g.add b k b=some k:=bo rfl
theorem zR.kn{c:Nat}(h:c≠b):g.add b k c=g c:=bf h
variable{c:Call}{el:LN}{ks vs:LA}{p:LK}{ts:List LN}
section
variable{E:Env}{n0:Lim}{H0:AH}{g0:zR}{S:St}{ρ:LR}{ve:LH}{lb:LI}{g:zR}{fr:Fr}{H:AH}{HS:LO->LR->La}{Q:Res1->Prop}{o:Oper}{κ:K1}{wm:Bool}
theorem qL5(h:WF H):H.blocks.get H.next=none:=by
 cases y:H.blocks.get H.next with
 |none=>rfl
 |some k=>exact absurd (h _ _ y).2 (Nat.lt_irrefl _)
theorem eS(h:SM n0 S ρ ve lb g H):g H.next=none:=by
 cases y:g H.next with
 |none=>rfl
 |some k=>have:=h.mem _ _ y;rw[qL5 h.wf]at this;cases this
theorem SR.qd(h:SR E n0 H0 g0 S ρ ve lb g fr H)(cs:LA)(el:LN):SR E n0 H0 g0 S ρ ve lb (g.add H.next ⟨.cells cs el,H.next,true⟩) fr (H.new (.cells cs el)):=by
 have l:=h.heap (H':=H.new (.cells cs el)) lQ (h.wf.new _) (cx _) h.low;have j:zR.le g (g.add H.next ⟨.cells cs el,H.next,true⟩):=zR.qp (eS h.toSM);refine {l with mem:=?_,vars:=?_,ei:=?_,cn:=?_,gk:=?_,tab:=h.tab.mono j}
 ·intro b k y;by_cases e:b=H.next
  ·subst e;rw[zR.oq]at y;rw[AH.get_new,bo rfl];exact y
  rw[zR.kn e]at y;exact l.mem b k y
 ·intro i s u;exact(l.vars i s u).mono j (λ_ _ _=>rfl)
 ·intro b y;rw[zR.kn (by have:=(wL h.toSM y).1;omega)];exact h.ei b y
 ·intro i B q r;rw[zR.kn (by have:=(pP h.toSM q r).1;omega)];exact h.cn i B q r
 intro b y;rw[zR.kn (by have:=h.base.2 b y;omega)];exact h.gk b y
theorem lL(h:SM n0 S ρ ve lb g H){xs:LS}(e:∀x∈xs,wT S x=true):DRs g (SV.ds (getD ρ) xs) (SV.a8 ve lb xs):=by
 induction xs with
 |nil=>exact .nil
 |cons x xs ih=>exact .cons (j6 h (e x aq)) (ih λy j=>e y (mC _ j))
theorem qJn{ds:LR}(h:DRs g ds vs):DRs g (ds.flatMap D.cells) (vs.flatMap λv=>v.cells.toList):=by
 induction ds generalizing vs with
 |nil=>cases h;exact .nil
 |cons d ds ih=>cases h with
  |cons h y=>simp only[fp];exact h.cells.append (ih y)
theorem qPA{ds:LR}(h:DRs g ds vs)(e:∀d∈ds,d.one=true∨∃cs,d=.agg cs):(vs.flatMap λv=>v.cells.toList).all qU=true:=by
 induction ds generalizing vs with
 |nil=>cases h;rfl
 | cons d ds ih=>cases h with
  |@cons _ v _ vs h q=>
   simp only[fp,fh,aE];refine⟨?_,ih q λx l=>e x (mC _ l)⟩;rcases e d aq with y|⟨cs,y⟩
   ·rw[cells_one h y];have:=h.one;rw[y]at this;simp[this]
   obtain⟨j,rfl,_,h3⟩:=yK h y;exact h3
theorem nZ(h:SR E n0 H0 g0 S ρ ve lb g fr H){G I:zR}{x:Option LM}{l:LS}(e:dS S x.toList=some l)(B:∀y∈l,qE8 G I (y.d (getD ρ)) (y.val ve lb)){j n:Nat}{r:LR}{u:LR}(q:vT x.isSome j (SV.ds (getD ρ) l++r)=some (n,u)):u=r/\∃vs,rS E fr x.toList=some vs/\gH vs.head? j=some n:=by
 obtain⟨J,A⟩:=lZ (E:=E) h e;cases x with
 |none=>simp only[Option.toList,dS,oI]at e;subst e;simp only[vT,Option.isSome_none,bc,SV.ds,df,oI,dk]at q;exact⟨q.2.symm,[],rfl,by rw[←q.1];rfl⟩
 |some x=>
  simp only[Option.toList,dS]at e;split at e
  ·rename_i a K L w;simp only[oI]at w;subst w;simp only[oI]at e;subst e;simp only[vT,Option.isSome_some,ai,SV.ds,ej,df,aa,dk]at q;obtain⟨m,h3,F,h5⟩:=q;obtain⟨k,C⟩:=cV (B a aq) h3;refine⟨h5.symm,_,A,?_⟩;simp only[SV.a8,List.head?_cons,C,gH,nat?,F]
  cases e
theorem qPY(ρ:Nat->D)(a b:LS):SV.ds ρ (a++b)=SV.ds ρ a++SV.ds ρ b:=by rw[SV.lq,SV.lq,SV.lq,ga]
theorem qP7{sz l h:Nat}{es:LR}{o c:Nat}{len:Nat}(hd:DR g (.sl el sz es) (.slice (some ⟨b,o,none⟩) len c))(L:l<=h)(K:h<=es.length)(w C:Nat)(j:w=o+l*sz∨h=l)(A:h-l<=C):DR g (.sl el sz ((es.drop l).take (h-l))) (.slice (some ⟨b,w,none⟩) (h-l) C):=by
 cases hd with
 | sl B F hv G u I J r=>
  rename_i rt cs vs own;have y:((es.drop l).take (h-l)).length=h-l:=by simp;omega
  have q:∀e∈(es.drop l).take (h-l),e.cells.length=sz:=λe he=>u e (dx (dm he));rcases j with j|j
  ·refine .sl (vs:=(vs.drop (l*sz)).take ((h-l)*sz)) B ?_ ?_ y q A (by omega) (bJ r _ _)
   ·rw[j,←gj];refine qEh F ?_;rw[←fm,←G];exact eu sz (by omega)
   have:=(hv.drop (l*sz)).take ((h-l)*sz);rw[pW u,nW (λe he=>u e (dx he))]at this;exact this
  refine .sl (vs:=[]) B ?_ ?_ y q A (by omega) rfl
  ·rw[j,Nat.sub_self,iq];simp[take?]
  rw[j,Nat.sub_self];simp only[List.take_zero,List.flatMap_nil];exact .nil
theorem qOB(h:SR E n0 H0 g0 S ρ ve lb g fr H){lo hi mx:Option LM}(ho:o.op=.slice t x lo hi mx)(hz:((lo.isNone||sQ lo)&&sQ hi&&sQ mx)=false)(q:wp E HS Q (jM E o S κ) ρ):j7 wm E HS Q n0 H0 g0 fr H o κ:=by
 unfold jM at q;rw[ho]at q;simp only[hz,bc]at q;split at q;case h_2=>cases q
 rename_i y l hh hy hl V;obtain⟨hb,he⟩:=zZ (E:=E) h hy;split at q
 ·
  -- a list
  rename_i el sz bt z ag ht;split at q;case h_2=>cases q
  rename_i e U;obtain⟨g',d,e1,h',hp,hd,q⟩:=qAL h q;simp only[SV.ds,qPY,pZ]at hd;have A:=j6 h'.toSM (hp y aq);have I:∀u∈l,qE8 g' H.blocks.get (u.d (getD ρ)) (u.val ve lb):=λu hu=>.inl (j6 h'.toSM (hp u (by simp[hu])));have J:∀u∈hh,qE8 g' H.blocks.get (u.d (getD ρ)) (u.val ve lb):=λu hu=>.inl (j6 h'.toSM (hp u (by simp[hu])));have Z:∀{v:LQ} {lv hv:LA},rS E fr lo.toList=some lv->rS E fr hi.toList=some hv->oN E H t (y.val ve lb) lv.head? hv.head? none=some v->DR g' d v->d.one=true->j7 wm E HS Q n0 H0 g0 fr H o κ:=by intro v lv hv O N M L q5;refine .new h' (k:=.pure) (one:=true) (by simp) (v:=v) ⟨λ_=>q5,L⟩ q ?_;unfold jH;rw[ho];simp only[he,O,N,Option.toList_none,rS,List.head?_nil,M,one,aj]
  generalize hyd:y.d (getD ρ)=yd at hd A;generalize B:y.val ve lb=yv at A;cases yd with
  | sl vC sz' es=>
   simp only at hd;split at hd;case h_2=>cases hd
   rename_i F r C;obtain⟨rfl,lv,O,N⟩:=nZ (E:=E) h hl I C;split at hd;case h_2=>cases hd
   rename_i K j;rw[←cr (SV.ds (getD ρ) hh)]at j;obtain⟨_,hv,M,L⟩:=nZ (E:=E) h V J j;cases R:(Nat.beq vC el&&Nat.beq sz' e.size&&Nat.ble F K&&Nat.ble K es.length)with
   |false=>rw[R]at hd;cases hd
   | true=>
    have W:=hd;rw[R]at W;simp only[ai,oI]at W;simp only[aE]at R;obtain⟨⟨⟨c1,c2⟩,c3⟩,c4⟩:=R;have c1:=vW c1;have c2:=vW c2;have c3':=oA c3;have c4':=oA c4;subst c1 c2 W;have w:=A;cases w with
    | @sl _ _ b o' len c _ rt cs vs own hbk htk hvs hlen hss hc0 hx hone=>
     subst hlen;have hm:=h'.mem _ _ hbk;by_cases P:zX<=c
     ·refine Z O M (v:=.slice (some ⟨b,o'+F*e.size,none⟩) (K-F) zX) ?_ (qP7 A c3' c4' _ _ (.inl rfl) (by omega)) rfl;have X:Nat.ble zX c=true:=bL P;have hbb:Nat.beq vC vC=true:=bj _;rw[B];simp only[oN,ht,N,L,U,c3,ai,X,hm,hbb,c4,cj];rfl
     have X:Nat.ble zX c=false:=by
      cases hb:Nat.ble zX c with
      |false=>rfl
      |true=>exact absurd (oA hb) P
     have hch:Nat.ble K c=true:=bL (by omega);refine Z O M (v:=.slice (some ⟨b,bif Nat.beq c F then o' else Nat.add o' (Nat.mul F e.size),none⟩) (K-F) (c-F)) ?_ (qP7 A c3' c4' _ _ ?_ (by omega)) rfl
     ·rw[B];simp only[oN,ht,N,L,U,c3,ai,X,bc,hch];rfl
     rw[zI];grind
  |nil=>
   simp only at hd;split at hd;case h_2=>cases hd
   rename_i r C;obtain⟨rfl,lv,O,N⟩:=nZ (E:=E) h hl I C;split at hd;case h_2=>cases hd
   rename_i j;rw[←cr (SV.ds (getD ρ) hh)]at j;obtain⟨_,hv,M,L⟩:=nZ (E:=E) h V J j;simp only[oI]at hd;subst hd;have w:=A;cases w with
   |nil=>refine Z O M (v:=.slice none 0 0) ?_ .nil rfl;rw[B];simp only[oN,ht,N,L,U];rfl
  |_=>cases hd
 ·
  -- a string
  rename_i sz bt z ag ht;obtain⟨d,h1,hd,q⟩:=vL q;simp only[SV.ds,qPY]at hd;have G:=zQ h.toSM (h1 y aq);have I:∀u∈l,qE8 g H.blocks.get (u.d (getD ρ)) (u.val ve lb):=λu hu=>zQ h.toSM (h1 u (by simp[hu]));have J:∀u∈hh,qE8 g H.blocks.get (u.d (getD ρ)) (u.val ve lb):=λu hu=>zQ h.toSM (h1 u (by simp[hu]));generalize hyd:y.d (getD ρ)=yd at hd G
  match yd,hd,G with
  |.leaf (.string s),hd,G=>
   rw[qC3]at hd;have B:=(G.dr rfl).de.1;split at hd;case h_2=>cases hd
   rename_i F r C;obtain⟨rfl,lv,O,N⟩:=nZ (E:=E) h hl I C;split at hd;case h_2=>cases hd
   rename_i K j;rw[←cr (SV.ds (getD ρ) hh)]at j;obtain⟨_,hv,M,L⟩:=nZ (E:=E) h V J j;cases R:(Nat.ble F K&&Nat.ble K s.size)with
   |false=>rw[R]at hd;cases hd
   |true=>rw[R]at hd;simp only[ai,oI]at hd;subst hd;refine .new h (k:=.pure) (one:=true) (by simp) (v:=.string (s.extract F K)) ⟨λ_=>rfl,.leaf rfl⟩ q ?_;unfold jH;rw[ho];simp only[he,B,O,M,Option.toList_none,rS,List.head?_nil,oN,ht,N,L,R,Option.isNone_none,er,ai,one,aj]
 cases q
theorem qRC{k k':IntKind}{x y:Int}:flat? (zB p (Builtin.min_ #[] 0 ⟨[.int k x,.int k' y]⟩))=qU7 false (.int k x) (.int k' y):=by simp only[Builtin.min_,List.foldlM_cons,List.foldlM_nil,Builtin.min2,qU7,bc];rfl
theorem qRG{k k':IntKind}{x y:Int}:flat? (zB p (Builtin.max_ #[] 0 ⟨[.int k x,.int k' y]⟩))=qU7 true (.int k x) (.int k' y):=by simp only[Builtin.max_,List.foldlM_cons,List.foldlM_nil,Builtin.max2,qU7,ai];rfl
theorem qRA{mx:Bool}{u:LQ}{r:LQ}(h:qU7 mx u v=some r):∃k x k' y,u=.int k x/\v=.int k' y:=by unfold qU7 at h;grind
theorem qU4(h:SR E n0 H0 g0 S ρ ve lb g fr H){mx:Bool}{x y:SV}(F:o.op=.call c)(j:c.callee=.builtin (bif mx then .max else .min))(e:rS E fr c.args.toList=some [x.val ve lb,y.val ve lb])(q:wp E HS Q (xD (.mm mx) [x,y] .pure true S κ) ρ):j7 wm E HS Q n0 H0 g0 fr H o κ:=by
 obtain⟨d,A,hd,q⟩:=vL q;have hr:=zQ h.toSM (A x aq);have hs:=zQ h.toSM (A y (mC _ aq));simp only[SV.ds]at hd;generalize x.d (getD ρ)=C at hd hr;generalize y.d (getD ρ)=B at hd hs
 match C,B,hd,hr,hs with
 |.leaf u,.leaf v,hd,hr,hs=>
  rw[qPN]at hd;obtain⟨r,l,rfl,w⟩:=tV hd;have hv:=(hr.dr rfl).de.1;have hu:=(hs.dr rfl).de.1;refine .new h (k:=.pure) (one:=true) (by simp) (v:=r) ⟨λ_=>rfl,.leaf w⟩ q ?_;obtain⟨k,a,k',b,rfl,rfl⟩:=qRA l;unfold jH;rw[F];rw[hv,hu]at e;cases mx with
  |false=>simp only[kX,e,j,bc,wJ,eo,iu,zP,cj,ai,qRC,l,one,aj];rfl
  |true=>simp only[kX,e,j,ai,wJ,eo,iu,zP,cj,qRG,l,one,aj];rfl
theorem qKJ(q:zR.le g H.blocks.get){d:D}{ds:LR}(h:qE8 g H.blocks.get d v)(y:keysD d=some (ks,ds)):∃es,qEz H v=some es/\es.map (·.key)=ks/\DRs g ds (es.map (·.val)):=by
 unfold keysD at y;split at y
 ·simp only[oI,dk]at y;obtain⟨rfl,rfl⟩:=y;obtain⟨r,es,ck,rt,own,rfl,l,j,e⟩:=h.keys q;exact⟨es,by simp only[qEz,l],j,e⟩
 ·simp only[oI,dk]at y;obtain⟨rfl,rfl⟩:=y;have hv:=(h.dr rfl).de.1;subst hv;exact⟨[],rfl,rfl,.nil⟩
 cases y
theorem qWr(h:SR E n0 H0 g0 S ρ ve lb g fr H){x:SV}(J:o.op=.call c)(u:c.callee=.builtin .len)(B:c.argTypes.toList=t::ts)(j:rS E fr c.args.toList=some [x.val ve lb])(y:wp E HS Q (match E.types.get t with
   |some {desc:=.string,..}=>xD (.len true) [x] .pure true S κ
   |some {desc:=.slice _,..}=>xD (.len false) [x] .pure true S κ
   |some {desc:=.map _ _,..}=>xD .ox [x] .pure true S κ
   |_=>.fail) ρ):j7 wm E HS Q n0 H0 g0 fr H o κ:=by
 have e:∀{n:Int},qHl E H (t::ts) (x.val ve lb)=some (goInt n)->jH E fr o H=some (.val (goInt n),H):=by
  intro n K
  unfold jH;rw[J]
  simp only[kX,j,u,B,wJ,K,one,aj]
 split at y
 ·rename_i sz C z ag r
  obtain⟨d,w,hd,y⟩:=vL y
  have hr:=zQ h.toSM (w x aq)
  simp only[SV.ds,qC5]at hd
  generalize x.d (getD ρ)=A at hd hr
  match A,hd,hr with
  |.leaf (.string s),hd,hr=>
   simp only[oI]at hd
   subst hd
   have hv:=(hr.dr rfl).de.1
   exact .new h (k:=.pure) (one:=true) (by simp) (v:=goInt s.size) ⟨λ_=>rfl,.leaf rfl⟩ y (e (by rw[hv];simp only[qHl,r]))
 ·rename_i el sz C z ag r
  obtain⟨d,w,hd,y⟩:=vL y
  have hr:=zQ h.toSM (w x aq)
  simp only[SV.ds,qC5]at hd
  generalize x.d (getD ρ)=A at hd hr
  match A,hd,hr with
  |.sl vC F es,hd,hr=>
   simp only[oI]at hd
   subst hd
   obtain⟨b,N,l,P,rt,cs,vs,own,q⟩:=hr.sl h.mem
   refine .new h (k:=.pure) (one:=true) (by simp) (v:=goInt es.length) ⟨λ_=>rfl,.leaf rfl⟩ y (e ?_)
   rw[q.v,q.n];simp only[qHl,r]
  |.nil,hd,hr=>
   simp only[oI]at hd
   subst hd
   have hv:=hr.dr rfl
   generalize x.val ve lb=M at hv e
   cases hv with
   |nil=>exact .new h (k:=.pure) (one:=true) (by simp) (v:=goInt 0) ⟨λ_=>rfl,.leaf rfl⟩ y (e (by simp only[qHl,r];rfl))
 ·rename_i kt O sz C z ag r
  obtain⟨d,w,hd,y⟩:=vL y
  have G:=zQ h.toSM (w x aq)
  simp only[SV.ds,qK0,aa]at hd
  obtain⟨⟨ks,ds⟩,I,rfl⟩:=hd
  obtain⟨es,p1,p2,_⟩:=qKJ h.mem G I
  have L:ks.length=es.length:=by rw[←p2,bk]
  refine .new h (k:=.pure) (one:=true) (by simp) (v:=goInt es.length) ⟨λ_=>rfl,?_⟩ y (e (by simp only[qHl,r,p1,aj]))
  simp only[L]
  exact .leaf rfl
 cases y
end
section
variable{E:Env}{n0:Lim}{H0:AH}{g0:zR}{S:St}{ρ:LR}{ve:LH}{lb:LI}{g:zR}{fr:Fr}{H:AH}{HS:LO->LR->La}{Q:Res1->Prop}{o:Oper}{κ:K1}{wm:Bool}
theorem qQr(h:SM n0 S ρ ve lb g H){cs:LS}(e:∀x∈cs,wT S x=true)(j:∀x∈cs,eJ S x=true):(SV.a8 ve lb cs).all qU=true:=by rw[al];intro v hv;rw[SV.cb]at hv;obtain⟨x,y,rfl⟩:=dy.1 hv;exact qFN h (j x y) (j6 h (e x y))
theorem SR.boxed(h:SR E n0 H0 g0 S ρ ve lb g fr H){b:Nat}{hS:Blk}{ds:LR}{vs:LA}(P:S.ae[b]? = some (some hS))(L:hS.od=false)(hd:∀cs,j5 (getD ρ) ve lb cs hS->cs=vs)(M:DRs g ds vs)(G:vs.all qU=true):∃el rt,SR E n0 H0 g0 (S.boxed b) (ρ++[.ptr ds 0]) (cJ ve S.n (.pointer (some ⟨lb b,0,none⟩))) lb (g.add (lb b) ⟨.cells vs el,rt,true⟩) fr H:=by
 have l:S.live b:=⟨_,P⟩;obtain⟨el,rt,cs',V,q3,U⟩:=(h.ae b _ P).2.cells L;have:=hd _ U;subst this;refine⟨el,rt,?_⟩;have A:zR.le g (g.add (lb b) ⟨.cells cs' el,rt,true⟩):=zR.qp (h.ei b l);have I:qBj (g.add (lb b) ⟨.cells cs' el,rt,true⟩) H.blocks.get n0 ⟨.ptr,true⟩ (.ptr ds 0) (.pointer (some ⟨lb b,0,none⟩)):=⟨λ_=>rfl,.ptr zR.oq (M.mono A) G,_,_,rfl⟩;have e:ExtS S ρ ve g (S.new .ptr true) (ρ++[.ptr ds 0]) (cJ ve S.n (.pointer (some ⟨lb b,0,none⟩))) g:=yE h.len;have u:∀c x,(S.ae.set b none)[c]? = some (some x)->S.ae[c]? = some (some x)/\c≠b:=by grind
 refine {len:=by simp[St.boxed,St.new,h.len],wf:=h.wf,mem:=?_,base:=h.base,fix:=⟨by simp only[St.boxed,ef];exact h.fix.1,h.fix.2⟩,vars:=?_,ae:=?_,ei:=?_,cn:=?_,km:=?_,h7:=?_,hU:=?_,sz:=h.sz,rd:=h.rd,af:=?_,kh:=h.kh.congr (by show S.n<=(S.new .ptr true).n;rw[yC];omega) (by simp[St.boxed]) e.ve (λ_ _=>rfl),hN:=h.hN,low:=h.low,gk:=?_,tab:=h.tab.mono A}
 ·intro c k r;by_cases C:c=lb b
  ·subst C;rw[zR.oq]at r;rw[V];exact r
  rw[zR.kn C]at r;exact h.mem c k r
 ·intro i s W;rcases qCv W with⟨q,w⟩|⟨q,w⟩
  ·rw[e.ve i q,e.ρ i q];exact(h.vars i s w).mono A (λ_ _ _=>rfl)
  subst q w;rw[jR,qF3 h.toSM];exact I
 ·intro c x r;obtain⟨q,_⟩:=u c x r;obtain⟨F,K⟩:=h.ae c x q;refine⟨Blk.h9 ?_ (by simp[St.boxed]) F,K.congr rfl rfl λ_ R=>R.congr e.ve (λ_ _=>rfl) e.ρ F⟩;show S.n<=(S.new .ptr true).n;rw[yC];omega
 ·intro c ⟨x,r⟩;obtain⟨q,w⟩:=u c x r;rw[zR.kn (λC=>w (h.km c b ⟨x,q⟩ l C))];exact h.ei c ⟨x,q⟩
 ·intro i B J N;obtain⟨q,w⟩:=gZ (S:=S) (k:=.ptr) (o:=true) (by simp) J;rw[e.ve i w]at N;rw[zR.kn (λC=>h.hU b i l q (by rw[N,C]))];exact h.cn i B q N
 ·intro c d ⟨x,r⟩ ⟨y,hd⟩ he;exact h.km c d ⟨x,(u c x r).1⟩ ⟨y,(u d y hd).1⟩ he
 ·intro i j B J Z q w;obtain⟨a1,a2⟩:=gZ (S:=S) (k:=.ptr) (o:=true) (by simp) J;obtain⟨b1,b2⟩:=gZ (S:=S) (k:=.ptr) (o:=true) (by simp) Z;rw[e.ve _ a2]at q;rw[e.ve _ b2]at w;exact h.h7 i j B a1 b1 q w
 ·intro c i ⟨x,r⟩ J;obtain⟨a1,a2⟩:=gZ (S:=S) (k:=.ptr) (o:=true) (by simp) J;rw[e.ve _ a2];exact h.hU c i ⟨x,(u c x r).1⟩ a1
 ·intro t x O;simp only[St.boxed,T.get_map,aa]at O;obtain⟨y,q,rfl⟩:=O;obtain⟨F,K⟩:=h.af t y q;have X:S.n<=(S.new .ptr true).n:=by rw[yC];omega
  have hN:SV.bd (S.new .ptr true).n (S.ae.set b none).length y/\fr.t.get t=some (y.val (cJ ve S.n (.pointer (some ⟨lb b,0,none⟩))) lb):=⟨SV.h9 X (by simp) F,by rw[e.val F];exact K⟩;cases y with
  | loc b' off=>
   simp only[zI];split
   ·rename_i eb;subst eb;refine⟨?_,?_⟩
    ·show S.n<(S.new .ptr true).n;rw[yC];omega
    rw[K];simp only[SV.val,jR,qRh,fc]
   exact hN
  |_=>exact hN
 intro c r;rw[zR.kn (by intro e;subst e;exact(wL h.toSM l).2 r)];exact h.gk c r
theorem qGv:∀(xs:LS) {S:St} {ρ:LR} {ve:LH} {g:zR} {acc:LS} {κ:LS->St->Tree},SR E n0 H0 g0 S ρ ve lb g fr H->SV.kx S.n S.ae.length acc->SV.kx S.n S.ae.length xs->wp E HS Q (qIe xs acc S κ) ρ->
  ∃l S' ρ' y g',SR E n0 H0 g0 S' ρ' y lb g' fr H/\S.n<=S'.n/\S'.ae.length=S.ae.length/\(∀i,i<S.n->y i=ve i)/\wp E HS Q (κ l S') ρ'/\SV.kx S'.n S'.ae.length l/\SV.a8 y lb l=SV.a8 ve lb (acc++xs)
 | [],S,ρ,ve,g,acc,κ,h,B,F,e=>⟨acc,S,ρ,ve,g,h,vP _,rfl,λ_ _=>rfl,e,B,by rw[cr]⟩
 | x::r,S,ρ,ve,g,acc,κ,h,B,F,e=>by
  have q:wp E HS Q (qIe r (acc++[x]) S κ) ρ->∃l S' ρ' y g',SR E n0 H0 g0 S' ρ' y lb g' fr H/\S.n<=S'.n/\S'.ae.length=S.ae.length/\(∀i,i<S.n->y i=ve i)/\wp E HS Q (κ l S') ρ'/\SV.kx S'.n S'.ae.length l/\SV.a8 y lb l=SV.a8 ve lb (acc++x::r):=by
   intro e
   obtain⟨l,S',ρ',y,g',Z,r2,X,r4,W,V,U⟩:=qGv r h (acc:=acc++[x]) (by
    rw[SV.hE]at B ⊢
    intro u hu
    rcases bh.1 hu with hu|hu
    ·exact B u hu
    simp only[aw]at hu;subst hu;exact F.1) F.2 e
   grind
  cases x with
  | loc b off=>
   cases off with
   |succ n=>exact q e
   | zero=>
    simp only[qIe]at e
    have go:∀{j:St} {L:zR} {hS:Blk} {ds:LR} {vs:LA},ExtS S ρ ve g j ρ ve L->SR E n0 H0 g0 j ρ ve lb L fr H->j.ae[b]? = some (some hS)->hS.od=false->(∀cs,j5 (getD ρ) ve lb cs hS->cs=vs)->DRs L ds vs->vs.all qU=true->
      wp E HS Q (qIe r (acc++[.pp j.n 0]) (j.boxed b) κ) (ρ++[.ptr ds 0])->
      ∃l S' ρ' y g',SR E n0 H0 g0 S' ρ' y lb g' fr H/\S.n<=S'.n/\S'.ae.length=S.ae.length/\(∀i,i<S.n->y i=ve i)/\wp E HS Q (κ l S') ρ'/\SV.kx S'.n S'.ae.length l/\SV.a8 y lb l=SV.a8 ve lb (acc++.loc b 0::r):=by
     intro j L hS ds vs M K C P hd R I e
     obtain⟨el,rt,h2⟩:=K.boxed C P hd R I
     have hnle:S.n<=j.n:=M.n
     have hnew:(j.boxed b).n=j.n+1:=by show(j.new .ptr true).n=_;rw[yC]
     have w:(j.boxed b).ae.length=S.ae.length:=by simp[St.boxed,M.ae]
     have G:∀i,i<S.n->cJ ve j.n (.pointer (some ⟨lb b,0,none⟩)) i=ve i:=λi hi=>uY (by omega)
     obtain⟨l,S',ρ',y,g',Z,r2,X,r4,W,V,U⟩:=qGv r h2 (acc:=acc++[.pp j.n 0]) (by
      rw[SV.hE]at B ⊢
      intro u hu
      rw[w]
      rcases bh.1 hu with hu|hu
      ·exact SV.h9 (by omega) (vP _) (B u hu)
      ·simp only[aw]at hu;subst hu;show j.n<(j.boxed b).n;omega) (by
      rw[w]
      exact SV.ku (by omega) (vP _) F.2) e
     refine⟨l,S',ρ',y,g',Z,by omega,by rw[X,w],?_,W,V,?_⟩
     ·grind
     rw[U]
     simp only[SV.cb,ga,fa,List.map_nil,ay,ej,df]
     have a1:acc.map (SV.val (cJ ve j.n (.pointer (some ⟨lb b,0,none⟩))) lb)=acc.map (SV.val ve lb):=by
      rw[←SV.cb,←SV.cb];exact SV.di G (λ_ _=>rfl) B
     have a2:r.map (SV.val (cJ ve j.n (.pointer (some ⟨lb b,0,none⟩))) lb)=r.map (SV.val ve lb):=by
      rw[←SV.cb,←SV.cb];exact SV.di G (λ_ _=>rfl) F.2
     rw[a1,a2]
     simp only[SV.val,jR,qRh]
    split at e
    ·rename_i cs C
     obtain⟨L,M,K⟩:=xT cs h
     obtain⟨N,e⟩:=jQ e
     simp only[aE,al]at N
     simp only[wp,qGf]at e
     exact go M K (by rw[M.ae];exact C) rfl (λcs' A=>by simpa[j5]using A) (lL K.toSM N.1) (qQr K.toSM N.1 N.2) e
    ·rename_i x n C
     obtain⟨hp,e⟩:=jQ e
     simp only[wp]at e
     obtain⟨_,_,_,_,_,_,_,dsx,J,_⟩:=h.ae b _ C
     simp only[SV.ds,J,iE]at e
     obtain⟨vs,hv,O,ho⟩:=yK (j6 h.toSM hp) J
     exact go .refl h C rfl (λcs' A=>(by rw[A.1,hv];rfl)) O ho e
    cases e
  |_=>exact q e
theorem qHc(h:SR E n0 H0 g0 S ρ ve lb g fr H){f:Fn}{first cap:Array LM}(j:o.op=.makeFunc f first cap)(e:wp E HS Q (jM E o S κ) ρ):j7 wm E HS Q n0 H0 g0 fr H o κ:=by
 unfold jM at e;rw[j]at e;simp only at e;split at e;case h_2=>cases e
 rename_i a b M L;obtain⟨a1,a2⟩:=lZ (E:=E) h M;obtain⟨A,w⟩:=lZ (E:=E) h L;obtain⟨r,e⟩:=jQ e;cases u:qVa E f with
 |true=>rw[u,ai]at e;refine .same h (y:=.fn f a b) ⟨a1,A⟩ e ?_;unfold jH;rw[j];simp only[a2,w,one,r,dn,aj,SV.val]
 |false=>
 rw[u,bc]at e;obtain⟨l,S',ρ',B,g',K,J,I,G,F,C,q⟩:=qGv b h (acc:=[]) trivial A e;refine .same K (y:=.fn f a l) ⟨by rw[I];exact SV.ku J (vP _) a1,C⟩ F ?_;unfold jH;rw[j];simp only[df]at q;simp only[a2,w,one,r,dn,aj,SV.val,SV.di G (λ_ _=>rfl) a1,q]
end
theorem qZ{α:Type}{b:Bool}{x:Option α}{d:α}(h:(bif b then x else none)=some d):b=true/\x=some d:=by grind
section
variable{E:Env}{n0:Lim}{H0:AH}{g0:zR}{S:St}{ρ:LR}{ve:LH}{lb:LI}{g:zR}{fr:Fr}{H:AH}{HS:LO->LR->La}{Q:Res1->Prop}{o:Oper}{κ:K1}{wm:Bool}
theorem qKI{j:Nat}{s:VSt}(h:(S.kill i).db[j]? = some s):∃s0,S.db[j]? = some s0/\s=if i=j then⟨.dead,s0.one⟩else s0:=by simp only[St.kill,List.getElem?_modify]at h;grind
theorem mO:(S.kill i).n=S.n:=by simp[St.kill,St.n]
theorem jZ{j:Nat}(h:(S.kill i).ca j=true):S.ca j=true/\j≠i:=by
 obtain⟨o,h⟩:=zT.1 h;obtain⟨s0,q,l⟩:=qKI h;split at l
 ·cases l
 rename_i y;subst l;exact⟨zT.2 ⟨_,q⟩,λe=>y e.symm⟩
theorem SR.mw(h:SR E n0 H0 g0 S ρ ve lb g fr H)(i:Nat):SR E n0 H0 g0 (S.kill i) ρ ve lb g fr H:=by
 refine {h with len:=by simp[St.kill,h.len],vars:=?_,ae:=?_,cn:=?_,h7:=?_,hU:=?_,af:=?_,kh:=by rw[mO];exact h.kh}
 ·intro j s C;obtain⟨s0,u,e⟩:=qKI C;have hv:=h.vars j s0 u;split at e
  ·subst e;exact⟨hv.1,trivial⟩
  subst e;exact hv
 ·intro b x y;obtain⟨l,q⟩:=h.ae b x y;exact⟨by rw[mO];exact l,q⟩
 ·intro j B r F;exact h.cn j B (jZ r).1 F
 ·intro a b B G y u e;exact h.h7 a b B (jZ G).1 (jZ y).1 u e
 ·intro b j y r;exact h.hU b j y (jZ r).1
 intro t x A;obtain⟨l,w⟩:=h.af t x A;exact⟨by rw[mO];exact l,w⟩
theorem SR.oe(h:SR E n0 H0 g0 S ρ ve lb g fr H){H':AH}(X:Nat->Prop)(y:∀b,b<H.next->¬X b->H'.blocks.get b=H.blocks.get b)(C:∀b,X b->g b=none)(A:∀b c,X b->S.live c->lb c≠b)(F:∀b i,X b->S.ca i=true->jW (ve i)≠some b)(w:∀b,X b->¬n0.K b)(l:WF H')(K:H.next<=H'.next)(L:Nat.min H0.low n0.n<=H'.low):SR E n0 H0 g0 S ρ ve lb g fr H':=by
 refine {h with wf:=l,mem:=?_,base:=h.base.mono K,vars:=?_,ae:=?_,hN:=?_,low:=L}
 ·intro b k e;rw[y b (qR8 h.toSM e) (λj=>by rw[C b j]at e;cases e)];exact h.mem b k e
 ·intro i s hs;refine(h.vars i s hs).mono (zR.le_refl _) λq B u=>?_;obtain⟨k,o⟩:=s;simp only at q;subst q;have r:=zT.2 ⟨o,hs⟩;exact y B (pP h.toSM r u).1 (λj=>F B i j r u)
 ·intro b x e;obtain⟨J,I⟩:=h.ae b x e;exact⟨J,I.congr (y _ (wL h.toSM ⟨x,e⟩).1 (λj=>A _ b j ⟨x,e⟩ rfl)) rfl λ_ G=>G⟩
 intro b e;rw[y b (h.base.2 b e) (λj=>w b j e)];exact h.hN b e
theorem cU{o:Bool}(h:(S.new .fresh o).ca i=true):(S.ca i=true/\i<S.n)∨i=S.n:=by
 obtain⟨l,j⟩:=zT.1 h;rcases qCv j with⟨y,e⟩|⟨y,e⟩
 ·exact .inl ⟨zT.2 ⟨_,e⟩,y⟩
 exact .inr y
theorem SR.ko(h:SR E n0 H0 g0 S ρ ve lb g fr H){d:D}(hv:bM g H.blocks.get n0 d v)(hd:d.one=true)(J:∀B,jW v=some B->g B=none)(I:∀B c,jW v=some B->S.live c->lb c≠B)(C:∀B i,jW v=some B->S.ca i=true->jW (ve i)≠some B):SR E n0 H0 g0 (S.new .fresh true) (ρ++[d]) (cJ ve S.n v) lb g fr H:=by
 have e:ExtS S ρ ve g (S.new .fresh true) (ρ++[d]) (cJ ve S.n v) g:=yE h.len;refine {len:=by simp[St.new,h.len],wf:=h.wf,mem:=h.mem,base:=h.base,fix:=h.fix,vars:=?_,ae:=?_,ei:=h.ei,cn:=?_,km:=h.km,h7:=?_,hU:=?_,sz:=h.sz,rd:=h.rd,af:=?_,kh:=h.kh.congr e.n (vP _) e.ve (λ_ _=>rfl),hN:=h.hN,low:=h.low,gk:=h.gk,tab:=h.tab}
 ·intro i s M;rcases qCv M with⟨y,l⟩|⟨y,l⟩
  ·rw[e.ve i y,e.ρ i y];exact h.vars i s l
  subst y l;rw[jR,qF3 h.toSM];exact⟨λ_=>hd,hv⟩
 ·intro b x w;obtain⟨r,A⟩:=h.ae b x w;exact⟨Blk.h9 (by rw[yC];omega) (vP _) r,A.congr rfl rfl λ_ K=>K.congr e.ve (λ_ _=>rfl) e.ρ r⟩
 ·intro i B u q;rcases cU u with⟨y,l⟩|rfl
  ·rw[e.ve i l]at q;exact h.cn i B y q
  rw[jR]at q;exact J B q
 ·intro i j B u N y l;rcases cU u with⟨a1,a2⟩|rfl<;>rcases cU N with⟨G,F⟩|rfl
  ·rw[e.ve _ a2]at y;rw[e.ve _ F]at l;exact h.h7 i j B a1 G y l
  ·rw[e.ve _ a2]at y;rw[jR]at l;exact absurd y (C B i l a1)
  ·rw[jR]at y;rw[e.ve _ F]at l;exact absurd l (C B j y G)
  rfl
 ·intro b i w u;rcases cU u with⟨a1,a2⟩|rfl
  ·rw[e.ve _ a2];exact h.hU b i w a1
  rw[jR];intro q;exact I _ b q w rfl
 intro t x L;obtain⟨r,A⟩:=h.af t x L;exact⟨e.bd r,by rw[A,e.val r]⟩
theorem WF.move(h:WF H)(j:H.blocks.get b=some k)(x:AObj):WF (H.move b k x):=by
 intro c k' y;rw[AH.kv]at y;split at y
 ·rename_i e;cases y;subst e;have:=h b k j;exact⟨by show k.root<=_;omega,bw _⟩
 split at y
 ·cases y
 exact⟨(h c k' y).1,dp (h c k' y).2⟩
theorem uG(j:zR.le g H.blocks.get){el sz:Nat}{es:LR}(h:qE8 g H.blocks.get (.sl el sz es) v):∃vs b o c,v=.slice (some ⟨b,o,none⟩) es.length c/\oX H sz es.length v=some vs/\DRs g (es.flatMap D.cells) vs/\vs.all qU=true/\(∀e∈es,e.cells.length=sz)/\es.length<zX:=by
 obtain⟨b,o,l,c,rt,cs,vs,own,q⟩:=h.sl j;have r:=q.n;subst r;refine⟨vs,b,o,c,q.v,?_,q.r,q.o,q.s,q.x⟩;rw[q.v];simp only[oX,zI];split
 ·rename_i u;have:=q.t;rw[u,iq]at this;simp only[take?]at this;exact this
 have y:Nat.ble es.length es.length=true:=bL (vP _);simp only[y,ai,AH.lj,q.b,jt];exact q.t
theorem qKU{a b:LR}{x y:LA}(h:DRs g (a.flatMap D.cells) x)(e:DRs g (b.flatMap D.cells) y):DRs g ((a++b).flatMap D.cells) (x++y):=by rw[im];exact h.append e
theorem tL(h:SM n0 S ρ ve lb g H){sz:LN}{es:LR}(hv:DRs g (es.flatMap D.cells) vs)(j:vs.all qU=true)(hs:∀e∈es,e.cells.length=sz)(y:es.length<zX):bM g (H.new (.cells vs el)).blocks.get n0 (.sl el sz es) (.slice (some ⟨H.next,0,none⟩) es.length zX):=by
 refine .inr (.inl ⟨H.next,es.length,vs,vs,el,H.next,sz,es,rfl,rfl,?_,h.base.new,?_,hv,rfl,hs,y,j⟩)
 ·rw[AH.get_new,bo rfl]
 have l:vs.length=es.length*sz:=by rw[hv.length,lY hs]
 rw[kH (by omega),dc (by omega)]
theorem qLX(h:SR E n0 H0 g0 S ρ ve lb g fr H){s x:SV}(ho:o.op=.call c)(hcal:c.callee=.builtin .append)(hargs:rS E fr c.args.toList=some [s.val ve lb,x.val ve lb])(hsb:s.bd S.n S.ae.length)(hxb:x.bd S.n S.ae.length)(u:wp E HS Q (qYt E c.argTypes.toList s x S κ) ρ):j7 (qQo S [s,x]) E HS Q n0 H0 g0 fr H o κ:=by
 unfold qYt at u;split at u;case h_2=>cases u
 rename_i t xt tr hts;split at u;case h_2=>cases u
 rename_i el xi hel Z;obtain⟨sz0,bt0,z0,ag0,ht⟩:=wF hel;split at u;case h_2=>cases u
 rename_i e xel hte hxd;split at u;case h_2=>cases u
 rename_i z hz;simp only at u;have run:∀{v:LQ} {H':AH},xC E H (t::xt::tr) (s.val ve lb) (x.val ve lb)=some (.val v,H')->jH E fr o H=some (.val v,H'):=by intro v H' ha;unfold jH;rw[ho];simp only[kX,hargs,hcal,hts,wJ,ha]
 have V:∀{wA:Bool} {S':St},(wA=false->qGC g (s.d (getD ρ)) (s.val ve lb))->SR E n0 H0 g0 S' ρ ve lb g fr H->S'.n=S.n->S'.ae=S.ae->(bM g H.blocks.get n0 (s.d (getD ρ)) (s.val ve lb)/\(s.d (getD ρ)).one=true)->
   (∀B,jW (s.val ve lb)=some B->g B=none/\(∀c,S'.live c->lb c≠B)/\(∀i,S'.ca i=true->jW (ve i)≠some B)/\¬n0.K B)->
   wp E HS Q (bif yB S x&&Nat.ble 1 e.size then Tree.bind (.app el e.size e.bytes) [s,x] (κ (.v S.n) (S'.new .fresh true))else .fail) ρ->j7 wA E HS Q n0 H0 g0 fr H o κ:=by
  intro wA S' hwA G hn' hb' hs hex u
  obtain⟨N,u⟩:=jQ u
  simp only[aE]at N
  have hrx:=zQ h.toSM N.1
  simp only[wp]at u
  split at u
  case h_2=>cases u
  rename_i d hd
  simp only[SV.ds,bI]at hd
  obtain⟨hfr,hone⟩:=hs
  have R:∀(hd':d=s.d (getD ρ)),xC E H (t::xt::tr) (s.val ve lb) (x.val ve lb)=some (.val (s.val ve lb),H)->j7 wA E HS Q n0 H0 g0 fr H o κ:=by
   intro hd' ha
   subst hd'
   have O:=G.ko hfr hone (λB A=>(hex B A).1) (λB c A N=>(hex B A).2.1 c N) (λB i A hi=>(hex B A).2.2.1 i hi)
   rw[←hn']at u
   refine⟨.v S'.n,_,_,_,_,_,_,O,pQ,u,.kl (vP _) ?_,λ_=>dw _ _⟩
   simp only[SV.val,jR]
   exact run ha
  have hsr:qE8 g H.blocks.get (s.d (getD ρ)) (s.val ve lb):=by
   rcases hfr with q|⟨B,l,cs,vs,vC,rt,sz,es,q⟩|⟨B,es,F,rt,ks,ds,q⟩
   ·exact .inl q.dr
   ·exact .inr (.inl ⟨n0,B,l,cs,vs,vC,rt,sz,es,q⟩)
   exact .inr (.inr ⟨n0,B,es,F,rt,ks,ds,q⟩)
  generalize hxdd:x.d (getD ρ)=xd at hd hrx
  generalize hsdd:s.d (getD ρ)=U at hd hfr hone hsr R
  have hsl:U=.nil∨∃vC P es',U=.sl vC P es':=by
   rcases hfr with q|⟨B,l,cs,vs,vC,rt,sz,es,q⟩|⟨B,es,F,rt,ks,ds,q⟩
   ·rcases q.sl with q|⟨_,_,q⟩
    ·exact .inl q
    exact .inr ⟨_,_,_,q⟩
   ·exact .inr ⟨_,_,_,q.d⟩
   rw[q.d]at hd;simp[yO]at hd
  have hlen:∃l c base,s.val ve lb=.slice base l c/\yO U=some l/\l=U.es.length:=by
   rcases hsl with rfl|⟨vC,P,es',rfl⟩
   ·have:=hsr.dr rfl
    generalize s.val ve lb=sv at this
    cases this with
    |nil=>exact⟨0,0,none,rfl,rfl,rfl⟩
   obtain⟨vs,b,o',c',q1,_⟩:=uG G.mem hsr
   exact⟨_,_,_,q1,rfl,rfl⟩
  obtain⟨l,cp,base,I,hss,hll⟩:=hlen
  rw[hss]at hd
  have hxs:xd=.nil∨∃el2 sz2 y,xd=.sl el2 sz2 y:=by
   cases xd with
   |nil=>exact .inl rfl
   |sl a b c=>exact .inr ⟨a,b,c,rfl⟩
   |_=>simp only[reduceCtorEq]at hd
  rcases hxs with rfl|⟨el2,sz2,y,rfl⟩
  ·simp only at hd
   obtain⟨hle,hd⟩:=qZ hd
   simp only[oI]at hd
   have hxv:=hrx.dr rfl
   refine R hd.symm ?_
   generalize x.val ve lb=xv at hxv
   cases hxv with
   | nil=>
    rw[I]
    have J:pR H xi e (.slice none 0 0)=some (0,[]):=by
     simp only[pR,hxd,qHm]
     rfl
    have hl0:Nat.add l 0=l:=rfl
    have hle':Nat.ble (Nat.mul (Nat.add (Nat.mul 4 (Nat.add l 0)) 4000) (Nat.succ e.bytes)) 100000000000=true:=by rw[hl0];exact hle
    simp only[xC,ht,Z,hte,hz,J,hle',ai]
    rfl
  simp only at hd
  obtain⟨hcond,hd3⟩:=qZ hd
  clear hd
  simp only[aE]at hcond
  obtain⟨⟨hle,hsz2⟩,w⟩:=hcond
  have hsz2:=vW hsz2
  subst hsz2
  obtain⟨M,nb,no,nc,n1,n2,n3,n4,n5,n6⟩:=uG G.mem hrx
  have J:pR H xi e (x.val ve lb)=some (y.length,M):=by
   have hln:qHm (x.val ve lb)=some y.length:=by rw[n1];rfl
   simp only[pR,hxd,hln,n2,aj]
  simp only[zI]at hd3
  by_cases hn0:y.length=0
  ·rw[bo hn0]at hd3
   have hd:U=d:=du hd3
   refine R hd.symm ?_
   rw[I]
   rw[hn0]at hle J
   simp only[xC,ht,Z,hte,hz,J,hle,ai]
   rfl
  rw[bf hn0]at hd3
  have hd:.sl el e.size (U.es++y)=d:=du hd3
  subst hd
  have hnb:Nat.beq y.length 0=false:=by
   cases hb:Nat.beq y.length 0 with
   |false=>rfl
   |true=>exact absurd (vW hb) hn0
  have hbound:4*(l+y.length)<=100000000000:=by
   have:=oA hle
   simp only[jt,Nat.add_eq,il]at this
   have h1:(4*(l+y.length)+4000)*1<=(4*(l+y.length)+4000)*(e.bytes+1):=Nat.mul_le_mul_left _ (by omega)
   omega
  have hcap:(U.es++y).length<zX:=by
   rw[bx,←hll];unfold zX;omega
  have C:(U.es++y).length=l+y.length:=by rw[bx,←hll]
  have fresh:∀{kp:LA},DRs g (U.es.flatMap D.cells) kp->kp.all qU=true->(∀e'∈U.es,e'.cells.length=e.size)->
    xC E H (t::xt::tr) (s.val ve lb) (x.val ve lb)=some (.val (.slice (some ⟨H.next,0,none⟩) (Nat.add l y.length) zX),H.new (.cells (kp++M) el))->j7 wA E HS Q n0 H0 g0 fr H o κ:=by
   intro kp o1 o2 o3 ha
   have O:=G.heap (H':=H.new (.cells (kp++M) el)) lQ (G.wf.new _) (cx _) G.low
   have L:=tL (el:=el) (sz:=e.size) G.toSM (qKU o1 n3) (by rw[fh,o2,n4];rfl) (λe' he=>by
    rcases bh.1 he with he|he
    ·exact o3 e' he
    exact n5 e' he) hcap
   rw[C]at L
   have A:∀B,jW (.slice (some ⟨H.next,0,none⟩) (l+y.length) zX)=some B->B=H.next:=λB A=>by
    simp only[jW,vP,dn,oI]at A;exact A.symm
   have h3:=O.ko L rfl (λB q=>by rw[A B q];exact eS G.toSM) (λB c q N=>by have:=(wL G.toSM N).1;rw[A B q];omega)
    (λB i q hi hoi=>by have:=(pP G.toSM hi hoi).1;rw[A B q]at this;omega)
   rw[←hn']at u
   refine⟨.v S'.n,_,_,_,_,_,_,h3,pQ,u,.kl (cx _) ?_,λ_=>rG⟩
   simp only[SV.val,jR]
   exact run ha
  rcases hfr with(⟨h1,O⟩|⟨h1,⟨ab,ao,ap⟩,O⟩)|⟨B,l',cs,vs,vC,rt,sz,es',q⟩|⟨B,es',F,rt,ks,ds,q⟩
  rotate_left 3
  ·rw[q.v]at I;cases I
  ·
   -- there was none
   subst O
   have hl0:l=0:=hll
   subst hl0
   refine fresh (kp:=[]) .nil rfl (λe' he=>by cases he) ?_
   rw[h1]
   simp only[xC,ht,Z,hte,hz,J,hle,ai,hnb,bc]
   rfl
  ·
   -- a W of none
   rw[O]at I
   cases I
   have hsd:∃vC P,U=.sl vC P []:=by
    rw[O]at h1
    cases h1 with
    |leaf h0=>simp[rU]at h0
    |sl _ _ _ hl=>exact⟨_,_,by rw[cy.1 hl]⟩
   obtain⟨vC,P,rfl⟩:=hsd
   have hp:ap=none:=by
    rw[O]at h1
    cases h1 with
    |sl=>rfl
   subst hp
   simp only[aE]at w
   have e1:=vW w.1
   have e2:=vW w.2
   subst e1 e2
   refine fresh (kp:=[]) .nil rfl (λe' he=>by cases he) ?_
   have c1:Nat.ble zX 0=false:=rfl
   have c2:Nat.ble (Nat.add 0 y.length) 0=false:=by
    cases hb:Nat.ble (Nat.add 0 y.length) 0 with
    |false=>rfl
    |true=>
     have:=oA hb
     simp only[Nat.add_eq]at this
     have h0:Nat.beq y.length 0=true:=by rw[show y.length=0 by omega];rfl
     rw[h0]at hnb;cases hnb
   rw[O]
   simp only[xC,ht,Z,hte,hz,J,hle,ai,hnb,bc,c1,c2,oX,bj,df]
  -- one of its own
  have hd0:=q.d
  subst hd0
  simp only[aE]at w
  have e1:=vW w.1
  have e2:=vW w.2
  subst e1 e2
  obtain⟨ovs,ob,oo,oc,p1,p2,p3,p4,p5,p6⟩:=uG G.mem hsr
  simp only[D.es]at hll hcap C u
  subst hll
  rw[q.v]at p1 I
  cases p1
  cases I
  obtain⟨X,hX⟩:∃X,X=ovs++M++List.drop (Nat.add 0 (Nat.mul (Nat.add es'.length y.length) e.size)) cs:=⟨_,rfl⟩
  obtain⟨x1,x2,x3,x4⟩:=hex B (by rw[q.v];simp[jW])
  have hmv:∀b,b<H.next->¬b=B->(H.move B ⟨.cells cs vC,rt,true⟩ (.cells X vC)).blocks.get b=H.blocks.get b:=λb hb hne=>by
   rw[AH.kv,bf (by omega),bf hne]
  have hlow:Nat.min H0.low n0.n<=(H.move B ⟨.cells cs vC,rt,true⟩ (.cells X vC)).low:=
   dv.2 ⟨G.low,lT (bq _ _) q.rt.1⟩
  have O:=G.oe (H':=H.move B ⟨.cells cs vC,rt,true⟩ (.cells X vC)) (λb=>b=B) hmv (λb e=>by rw[e];exact x1) (λb c e N=>by rw[e];exact x2 c N) (λb i e hi=>by rw[e];exact x3 i hi) (λb e=>by rw[e];exact x4)
   (G.wf.move q.b _) (cx _) hlow
  have hfl:=qKU p3 n3
  have hal:∀e'∈es'++y,e'.cells.length=e.size:=λe' he=>by
   rcases bh.1 he with he|he
   ·exact p5 e' he
   exact n5 e' he
  have L:bM g (H.move B ⟨.cells cs vC,rt,true⟩ (.cells X vC)).blocks.get n0 (.sl vC e.size (es'++y)) (.slice (some ⟨H.next,0,none⟩) (es'.length+y.length) zX):=by
   refine .inr (.inl ⟨H.next,_,X,ovs++M,vC,rt,e.size,es'++y,rfl,rfl,?_,⟨q.rt.1,G.base.new.2⟩,?_,hfl,C,hal,by rw[←C];exact hcap,by rw[fh,p4,n4];rfl⟩)
   ·rw[AH.kv,bo rfl]
   have hl:(ovs++M).length=(es'.length+y.length)*e.size:=by rw[hfl.length,lY hal,C]
   rw[hX,kH (by rw[bx];omega),List.take_append_of_le_length (by omega),dc (by omega)]
  have A:∀B',jW (.slice (some ⟨H.next,0,none⟩) (es'.length+y.length) zX)=some B'->B'=H.next:=λB' A=>by
   simp only[jW,vP,dn,oI]at A;exact A.symm
  have h3:=O.ko L rfl (λB' r=>by rw[A B' r];exact eS G.toSM) (λB' c r N=>by have:=(wL G.toSM N).1;rw[A B' r];omega)
   (λB' i r hi hoi=>by have:=(pP G.toSM hi hoi).1;rw[A B' r]at this;omega)
  rw[←hn']at u
  refine⟨.v S'.n,_,_,_,_,_,_,h3,pQ,u,.kl (cx _) ?_,λe=>by
   have:=(hwA e).own
   rw[q.v]at this
   simp[jW]at this⟩
  simp only[SV.val,jR]
  refine run ?_
  have c1:Nat.ble zX zX=true:=bL (vP _)
  have c2:Nat.beq (Nat.mod 0 e.size) 0=true:=by
   have:Nat.mod 0 e.size=0:=Nat.zero_mod _
   rw[this];rfl
  have c3:Nat.beq vC vC=true:=bj _
  rw[q.v]at p2 ⊢
  simp only[xC,ht,Z,hte,hz,J,hle,ai,hnb,bc,c1,q.b,p2,c2,c3,cj]
  rw[hX]
  rfl
 split at u
 ·
  -- nil
  exact V (λ_=>.inl ⟨rfl,rfl⟩) h rfl rfl ⟨.inl (.inl ⟨rfl,rfl⟩),rfl⟩ (λB A=>by cases A) u
 ·rename_i i;have hi:i<S.n:=hsb;split at u
  ·
   -- a W of none
   rename_i o1 hst;have hv:=(h.vars i _ hst).2;exact V (λ_=>hv) h rfl rfl ⟨.inl hv,qGC.one hv⟩ (λB A=>by have A:jW (ve i)=some B:=A;rw[qGC.own hv]at A;cases A) u
  ·
   -- a list of the function's own
   rename_i o1 hst;have hf:S.ca i=true:=zT.2 ⟨_,hst⟩;have hv:=h.vars i _ hst;have go:wp E HS Q (bif yB S x&&Nat.ble 1 e.size then Tree.bind (.app el e.size e.bytes) [.v i,x] (κ (.v S.n) ((S.kill i).new .fresh true))else .fail) ρ->j7 true E HS Q n0 H0 g0 fr H o κ:=by
    intro u;refine V (wA:=true) (λe=>by cases e) (h.mw i) mO rfl ⟨hv.2,?_⟩ (λB A=>⟨h.cn i B hf A,λc N e=>h.hU c i N hf (by rw[e];exact A),λj hj hoj=>?_,?_⟩) u
    ·rcases hv.2 with q|⟨B,l,cs,vs,vC,rt,sz,es,q⟩|⟨B,es,F,rt,ks,ds,q⟩
     ·exact q.one
     ·show(getD ρ i).one=true;rw[q.d];rfl
     show(getD ρ i).one=true;rw[q.d];rfl
    ·obtain⟨k1,k2⟩:=jZ hj;exact k2 (h.h7 j i B k1 hf hoj A)
    have K:jW (ve i)=some B:=A;rcases hv.2 with q|⟨B',l,cs,vs,vC,rt,sz,es,q⟩|⟨B',es,F,rt,ks,ds,q⟩
    ·rw[q.own]at K;cases K
    ·rw[q.v]at K;simp only[jW,vP,dn,oI]at K;subst K;exact q.rt.2
    rw[q.own]at K;cases K;exact q.rt.2
   have hap:qQo S [.v i,x]=true:=hf;rw[hap];split at u
   ·rename_i j;rw[cond_eq_ite]at u;split at u
    ·cases u
    exact go u
   exact go u
  cases u
 cases u
end
variable{ag:Bool}{xs:LR}{z:LA}
section
variable{E:Env}{n0:Lim}{H0:AH}{g0:zR}{S:St}{ρ:LR}{ve:LH}{lb:LI}{g:zR}{fr:Fr}{H:AH}{HS:LO->LR->La}{Q:Res1->Prop}{o:Oper}{κ:K1}{wm:Bool}
theorem qDV(h:SR E n0 H0 g0 S ρ ve lb g fr H){n:Nat}(ho:o.op=.buildSlice t n ps)(j:wp E HS Q (jM E o S κ) ρ):j7 wm E HS Q n0 H0 g0 fr H o κ:=by
 unfold jM at j;rw[ho]at j;simp only at j;split at j;case h_2=>cases j
 rename_i el hel;obtain⟨sz,bt,z0,ag,ht⟩:=wF hel;split at j;case h_2=>cases j
 rename_i e hte;split at j;case h_2=>cases j
 rename_i z hz;obtain⟨M,j⟩:=jQ j;simp only[aE]at M;have K:=vW M.1;have hn:=vW M.2;obtain⟨l,S1,r,Z,g1,e1,h1,hw1,r1,r2,r3,vs,r4,O⟩:=qHU (size:=e.size) K ps.toList (acc:=[]) (done:=[]) h trivial (by simp) rfl (λx P=>by cases P) j;obtain⟨g2,d,e2,G,hp,hd,A⟩:=qAL h1 hw1;rw[eZ]at hd;cases y:((SV.ds (getD r) l).all (λe'=>Nat.beq e'.cells.length e.size)&&Nat.ble (Nat.mul (SV.ds (getD r) l).length (Nat.succ e.size)) 1000000)with
 |false=>rw[y]at hd;cases hd
 | true=>
  rw[y]at hd;simp only[ai,oI]at hd;subst hd;simp only[aE]at y;have hlen:(SV.ds (getD r) l).length=n:=by rw[SV.lq,bk,r3,hn];simp
  have V:=lL G.toSM hp;have F:=qJn V;have u:=qPA V (λd hd=>by rw[SV.lq]at hd;obtain⟨x,P,rfl⟩:=dy.1 hd;exact(r2 x P).2);have R:∀x∈SV.ds (getD r) l,x.cells.length=e.size:=λx P=>by have:=y.1;rw[al]at this;exact vW (this x P)
  rw[SV.cb]at F u;generalize hcs:(l.map (SV.val Z lb)).flatMap (λv=>v.cells.toList)=cs at O F u;have hcl:cs.length=n*e.size:=by rw[F.length,lY R,hlen]
  have C:n*(e.size+1)<=1000000:=by have:=oA y.2;rw[hlen]at this;exact this
  have L:n<zX:=by have:n*1<=n*(e.size+1):=Nat.mul_le_mul_left n (by omega);unfold zX;omega
  have h3:=G.heap (H':=H.new (.cells cs el)) lQ (G.wf.new _) (cx _) G.low;have w:∀{c:Nat},c=(bif Nat.beq n 0 then 0 else zX)->jH E fr o H=some (.val (.slice (some ⟨H.next,0,none⟩) n c),H.new (.cells cs el)):=by
   intro c hcc;subst hcc;unfold jH;rw[ho];simp only[df]at O;rw[←hn]at O;have J:Nat.ble (Nat.mul n (Nat.succ e.size)) 1000000=true:=bL C;obtain⟨ed,es,eb,ez,ea⟩:=e;simp only at hz K J O;subst hz;have hb2:Nat.beq z.length es=true:=by rw[K];exact bj _
   simp only[r4,yN,ht,hte,hb2,J,cj,ai,O,aj]
  by_cases h0:n=0
  ·subst h0;have U:SV.ds (getD r) l=[]:=cy.1 hlen;have W:cs=[]:=cy.1 (by rw[hcl,iq]);subst W;have h4:=(G.qd [] el).new (k:=.full) (o:=true) (d:=.sl el e.size []) (v:=.slice (some ⟨H.next,0,none⟩) 0 0) (by simp) ⟨λ_=>rfl,.inr ⟨.sl (cs:=[]) (vs:=[]) (sz:=e.size) zR.oq (by rw[iq];rfl) .nil rfl (λ_ h=>by cases h) (vP _) (by unfold zX;omega) rfl,_,rfl⟩⟩;rw[U]at A;refine⟨_,_,_,_,_,_,_,h4,pQ,A,.kl (cx _) ?_,λ_=>rG⟩;simp only[SV.val,jR];exact w rfl
  have X:Nat.beq n 0=false:=by
   cases M:Nat.beq n 0 with
   |false=>rfl
   |true=>exact absurd (vW M) h0
  rw[X]at A;have I:=tL (el:=el) (sz:=e.size) G.toSM F u R (by rw[hlen];exact L);rw[hlen]at I;have N:∀B,jW (.slice (some ⟨H.next,0,none⟩) n zX)=some B->B=H.next:=λB N=>by simp only[jW,vP,dn,oI]at N;exact N.symm
  have h4:=h3.ko I rfl (λB q=>by rw[N B q];exact eS G.toSM) (λB c q M=>by have:=(wL G.toSM M).1;rw[N B q];omega)
   (λB i q hi hoi=>by have:=(pP G.toSM hi hoi).1;rw[N B q]at this;omega)
  refine⟨_,_,_,_,_,_,_,h4,pQ,A,.kl (cx _) ?_,λ_=>rG⟩;simp only[SV.val,jR];exact w (by rw[X];rfl)
theorem nR{d:D}(h:d.one=true):d.cells=[d]:=by cases d<;>first|rfl|(simp[D.one]at h)
theorem qLH{y:LM}(h:qFv x y=true):y=x:=by
 unfold qFv at h;split at h
 ·rw[vW h]
 ·simp only[aE,fk]at h;rw[h.1,h.2]
 cases h
theorem qTc{sz:Nat}(e:z.length=sz)(h:z.all (λv=>zP v&&qU v)=true)(y:(ag||Nat.beq sz 1)=true):(zD ag z).cells=z.map qIu/\DRs g (z.map qIu) z:=by
 have hr:DRs g (z.map qIu) z:=by
  clear e;induction z with
  |nil=>exact .nil
  |cons v l ih=>simp only[eo,aE]at h;exact .cons (qFR 6 v h.1.1) (ih (by simpa using h.2))
 refine⟨?_,hr⟩;cases ag with
 |true=>rfl
 | false=>
  simp only[Bool.false_or]at y;have q:=vW y;rw[q]at e
  match z,e with
  | [v],_=>
   simp only[eo,iu,er,aE]at h;have hd:DR g (qIu v) v:=qFR 6 v h.1;have j:(qIu v).one=true:=by rw[←hd.one];exact h.2
   show(qIu v).cells=[qIu v];exact nR j
theorem qFC{d:D}{z:LA}(h:DRs g d.cells z):∀n,DRs g ((List.replicate n d).flatMap D.cells) (xX z n)
 |0=>.nil
 |n+1=>by rw[List.replicate_succ,fp];exact h.append (qFC h n)
theorem qCg{z:LA}(h:z.all qU=true):∀n,(xX z n).all qU=true
 |0=>rfl
 |n+1=>by rw[xX,fh,h,qCg h n];rfl
theorem qWq(h:SR E n0 H0 g0 S ρ ve lb g fr H){l c:LM}(ho:o.op=.makeSlice t l c){x:SV}{e:TI}(M:yD E t=some el)(hx:nA S l=some x)(J:E.types.get el=some e)(W:e.zero=some z)(I:wp E HS Q (match nA S c with
     |some y=>bif yB S x&&yB S y then .bind (.mk el e.size e.bytes e.agg z) [x,y] (κ (.v S.n) (S.new .fresh true))else .fail
     |none=>.fail) ρ):j7 wm E HS Q n0 H0 g0 fr H o κ:=by
 obtain⟨Z,bt0,z0,ag0,ht⟩:=wF M
 split at I
 case h_2=>cases I
 rename_i y hy
 obtain⟨C,r⟩:=jQ I
 simp only[aE]at C
 obtain⟨xb,V⟩:=zZ (E:=E) h hx
 obtain⟨yb,U⟩:=zZ (E:=E) h hy
 simp only[wp]at r
 split at r
 case h_2=>cases r
 rename_i d hd
 simp only[SV.ds,qGc]at hd
 split at hd
 case h_2=>cases hd
 rename_i n L hn
 obtain⟨j,hd⟩:=qZ hd
 simp only[aE,jt,Nat.add_eq,il]at j
 obtain⟨⟨⟨c1,c2⟩,c3⟩,X⟩:=j
 simp only[oI]at hd
 subst hd
 obtain⟨k,G⟩:=cV (zQ h.toSM C.1) L
 obtain⟨k',F⟩:=cV (zQ h.toSM C.2) hn
 have h3:=h.heap (H':=H.new (.cells [] el)) lQ (h.wf.new _) (cx _) h.low
 have w:=tL (el:=el) (sz:=e.size) (es:=[]) (vs:=[]) h.toSM .nil rfl (λe' N=>by cases N) (by unfold zX;decide)
 have u:∀B,jW (.slice (some ⟨H.next,0,none⟩) 0 zX)=some B->B=H.next:=λB u=>by
  simp only[jW,vP,dn,oI]at u;exact u.symm
 have h4:=h3.ko w rfl (λB q=>by rw[u B q];exact eS h.toSM) (λB c q C=>by have:=(wL h.toSM C).1;rw[u B q];omega)
  (λB i q hi K=>by have:=(pP h.toSM hi K).1;rw[u B q]at this;omega)
 refine⟨_,_,_,_,_,_,_,h4,pQ,r,.kl (cx _) ?_,λ_=>rG⟩
 unfold jH;rw[ho]
 rw[G]at V
 rw[F]at U
 obtain⟨ed,es,eb,ez,ea⟩:=e
 simp only at W c1 X
 subst W
 have P:Nat.ble 0 n=true:=bL (cq n)
 have O:Nat.ble (Nat.mul n (Nat.succ (Nat.add eb es))) 1000000000=true:=X
 have R:Nat.beq 0 0=true:=rfl
 have A:(bif Nat.beq 0 n then zX else zX)=zX:=by cases Nat.beq 0 n<;>rfl
 simp only[V,U,gV,ht,nat?,J,c1,P,O,cj,ai,R,A,xX,SV.val,jR,dg]
theorem zAK(h:SR E n0 H0 g0 S ρ ve lb g fr H){l c:LM}(O:o.op=.makeSlice t l c)(y:wp E HS Q (jM E o S κ) ρ):j7 wm E HS Q n0 H0 g0 fr H o κ:=by
 unfold jM at y;rw[O]at y;simp only at y;split at y;case h_2=>cases y
 rename_i el x J hx;obtain⟨sz0,bt0,z0,ag0,ht⟩:=wF J;split at y;case h_2=>cases y
 rename_i e G;split at y;case h_2=>cases y
 rename_i z L;cases j:(qFv l c&&yB S x)with
 |false=>rw[j]at y;simp only[bc]at y;exact qWq h O J hx G L y
 |true=>
 rw[j]at y;simp only[ai]at y;have u:=y;have K:=j;simp only[aE]at K;obtain⟨xb,xe⟩:=zZ (E:=E) h hx;have U:=qLH K.1;subst U;simp only[wp]at u;split at u;case h_2=>cases u
 rename_i d hd;simp only[SV.ds,qK1]at hd;split at hd;case h_2=>cases hd
 rename_i n hn;obtain⟨r,hd⟩:=qZ hd;simp only[aE,jt,Nat.add_eq,il]at r;obtain⟨⟨⟨c1,c2⟩,c3⟩,c4⟩:=r;have A:=vW c1;simp only[oI]at hd;subst hd;obtain⟨k,M⟩:=cV (zQ h.toSM K.2) hn;obtain⟨q1,q2⟩:=qTc (g:=g) A c2 (by simpa using c3);have I:z.all qU=true:=by rw[al]at c2 ⊢;intro v hv;have:=c2 v hv;simp only[aE]at this;exact this.2
 have R:=oA c4;have C:n<zX:=by have:n*1<=n*(e.bytes+e.size+1):=Nat.mul_le_mul_left n (by omega);unfold zX;omega
 have h3:=h.heap (H':=H.new (.cells (xX z n) el)) lQ (h.wf.new _) (cx _) h.low;have w:=tL (el:=el) (sz:=e.size) (es:=List.replicate n (zD e.agg z)) h.toSM (qFC (by rw[q1];exact q2) n) (qCg I n) (λe' V=>by rw[gp V,q1,bk,A]) (by rw[gi];exact C);rw[gi]at w;have F:∀B,jW (.slice (some ⟨H.next,0,none⟩) n zX)=some B->B=H.next:=λB F=>by simp only[jW,vP,dn,oI]at F;exact F.symm
 have h4:=h3.ko w rfl (λB q=>by rw[F B q];exact eS h.toSM) (λB c q K=>by have:=(wL h.toSM K).1;rw[F B q];omega)
  (λB i q hi N=>by have:=(pP h.toSM hi N).1;rw[F B q]at this;omega)
 refine⟨_,_,_,_,_,_,_,h4,pQ,u,.kl (cx _) ?_,λ_=>rG⟩;unfold jH;rw[O];rw[M]at xe;obtain⟨ed,es,eb,ez,ea⟩:=e;simp only at L A R c1 c4;subst L;have Z:Nat.beq n n=true:=bj n;have P:(bif Nat.beq n 0 then 0 else n)=n:=by rw[zI];split<;>omega
 have X:Nat.ble n n=true:=bL (vP n);have W:Nat.ble (Nat.mul n (Nat.succ (Nat.add eb es))) 1000000000=true:=c4;simp only[xe,gV,ht,nat?,G,c1,X,W,cj,ai,Z,P,SV.val,jR]
theorem qN0{cs:LR}(h:off+xs.length<=cs.length):(iM cs off xs).length=cs.length:=by simp[iM];omega
theorem qB7{e:D}{sz:Nat}(w:e.cells.length=sz)(j:off+xs.length<=sz)(l:xs.all D.one=true):(aG e off xs).cells=iM e.cells off xs:=by
 have y:e.cells=[e]->(∀cs,e≠.agg cs)->(aG e off xs).cells=iM e.cells off xs:=by
  intro r q;have B:sz=1:=by rw[←w,r];rfl
  have u:aG e off xs=(match (generalizing:=false) xs with
   | [x]=>x
   |_=>e):=by
   cases e with
   |agg cs=>exact absurd rfl (q cs)
   |_=>rfl
  rw[u,r]
  match xs,j,l with
  | [],j,_=>simp only[r,iM,dg,fx,df,jg]
  | [x],j,l=>
   have A:off=0:=by simp at j;omega
   subst A;simp only[eo,iu,er]at l;rw[nR l];simp[iM]
  |_::_::_,j,_=>simp at j;omega
 cases e with
 |agg cs=>rfl
 |_=>exact y rfl (λ_ h=>by cases h)
theorem qPz{es:LR}{sz n:Nat}{e:D}(y:∀e∈es,e.cells.length=sz)(he:es[n]? = some e)(q:off+xs.length<=sz)(r:xs.all D.one=true):(es.set n (aG e off xs)).flatMap D.cells=iM (es.flatMap D.cells) (n*sz+off) xs:=by
 have l:n<es.length:=(gI he).1;have j:=y e (be he);rw[List.set_eq_take_append_cons_drop,bo l,im,fp,qB7 j q r,←nW y,←pW y];have h:(es.flatMap D.cells).drop (n*sz)=e.cells++(es.flatMap D.cells).drop ((n+1)*sz):=by
  rw[pW y,pW y];have:es.drop n=e::es.drop (n+1):=by rw[ew l];congr 1;exact(gI he).2
  rw[this,fp]
 unfold iM;have w:(es.flatMap D.cells).take (n*sz+off)=(es.flatMap D.cells).take (n*sz)++e.cells.take off:=by rw[List.take_add,h,List.take_append_of_le_length (by omega)]
 have u:(es.flatMap D.cells).drop (n*sz+off+xs.length)=e.cells.drop (off+xs.length)++(es.flatMap D.cells).drop ((n+1)*sz):=by rw[gr,←gj,h,List.drop_append_of_le_length (by omega)]
 rw[w,u];simp only[ay]
def qEj{α:Type}(cs:List α)(off:Nat)(xs:List α):List α:=cs.take off++(xs++cs.drop (off+xs.length))
theorem eA{cs xs:LA}(h:i+xs.length<=cs.length):xG cs i xs=some (qEj cs i xs):=by
 have e:cs=cs.take i++((cs.drop i).take xs.length++cs.drop (i+xs.length)):=by rw[←gj,jg,jg]
 have y:(cs.take i).length=i:=by rw[cg];omega
 have:=fJ (cs.take i) ((cs.drop i).take xs.length) (cs.drop (i+xs.length)) xs (by rw[cg,dh];omega);rw[←e,y]at this;exact this
theorem qB4{α:Type}{cs xs:List α}{N:Nat}(h:i+xs.length<=N)(e:N<=cs.length):(qEj cs i xs).take N=qEj (cs.take N) i xs:=by
 have y:(cs.take i).length=i:=by rw[cg];omega
 unfold qEj;rw[jy,y,jy,dc (by omega:(cs.take i).length<=N),dc (by omega:xs.length<=N-i),List.take_take,Nat.min_eq_left (by omega:i<=N),List.drop_take]
 congr 3
 omega
theorem qMJ{g:zR}{size:Nat}{d d':D}(h:cI ag size d=some d')(j:DR g d v):d.cells.length=size/\d.cells.all D.one=true/\dQ v:=by
 obtain⟨_,r,q⟩:=sI h;cases ag with
 |true=>obtain⟨cs,rfl,l⟩:=r rfl;obtain⟨vs,hv,e,y⟩:=yK j rfl;exact⟨l,by show cs.all D.one=true;rw[←e.mf];exact y,cD j rfl⟩
 |false=>obtain⟨y,hs⟩:=q rfl;rw[nR y];exact⟨by rw[hs];rfl,by simp[y],qAk j y⟩
mutual
theorem bZ{i n:Nat}{ve:LH}(h:ve n=ve i):∀(x:SV),(SV.lg i n x).val ve lb=x.val ve lb
 |.v j=>by
  simp only[SV.lg];cases y:Nat.beq j i with
  |false=>rfl
  |true=>have:=vW y;subst this;exact h
 |.c _=>rfl
 |.loc _ _=>rfl
 |.ptr s k sz off=>by simp only[SV.lg,SV.val,bZ h s,bZ h k]
 |.pp _ _=>rfl
 |.agg cs=>by simp only[SV.lg,SV.val,gW h cs]
 |.gd cs=>by simp only[SV.lg,SV.val,gW h cs]
 |.fn f a b=>by simp only[SV.lg,SV.val,gW h a,gW h b]
 |.ll t x=>by simp only[SV.lg,SV.val,bZ h x]
 |.lk _=>rfl
theorem gW{i n:Nat}{ve:LH}(h:ve n=ve i):∀(xs:LS),SV.a8 ve lb (SV.lp i n xs)=SV.a8 ve lb xs
 | []=>rfl
 |x::xs=>by simp only[SV.lp,SV.a8,bZ h x,gW h xs]
end
mutual
theorem fO{i n N m:Nat}(y:n<N):∀{x:SV},x.bd N m->(SV.lg i n x).bd N m
 |.v j,h=>by
  simp only[SV.lg];cases e:Nat.beq j i with
  |false=>exact h
  |true=>exact y
 |.c _,h=>h
 |.loc _ _,h=>h
 |.ptr s k _ _,h=>⟨fO y (x:=s) h.1,fO y (x:=k) h.2⟩
 |.pp _ _,h=>h
 |.agg cs,h=>mK y (xs:=cs) h
 |.gd cs,h=>mK y (xs:=cs) h
 |.fn _ a b,h=>⟨mK y (xs:=a) h.1,mK y (xs:=b) h.2⟩
 |.ll _ x,h=>fO y (x:=x) h
 |.lk _,h=>h
theorem mK{i n N m:Nat}(y:n<N):∀{xs:LS},SV.kx N m xs->SV.kx N m (SV.lp i n xs)
 | [],_=>trivial
 |_::_,h=>⟨fO y h.1,mK y h.2⟩
end
theorem qRa{n N m:Nat}(y:n<N){b:Blk}(h:b.bd N m):(b.lg i n).bd N m:=by
 cases b with
 |cells cs=>exact mK y (xs:=cs) h
 |whole x k=>exact h
 |loop a b=>trivial
 |b5 t cs=>exact mK y (xs:=cs) h
theorem qRb{n l:Nat}{u:zR}{r:Nat->D}{ve:LH}(e:ve n=ve i){b:Blk}(h:nL n0 r ve lb u l b):nL n0 r ve lb u l (b.lg i n):=by
 cases b with
 |cells cs=>obtain⟨el,rt,cs',q,j,y⟩:=h;refine⟨el,rt,cs',q,j,?_⟩;show cs'=SV.a8 ve lb (SV.lp i n cs);rw[gW e];exact y
 |whole x k=>exact h
 |loop a b=>exact h
 |b5 t cs=>cases t with
  |zero=>obtain⟨rt,p,cs',q,j,y⟩:=h;refine⟨rt,p,cs',q,j,?_⟩;show _=SV.a8 ve lb (SV.lp i n cs);rw[gW e];exact y
  |succ t=>obtain⟨rt,p,cs',q,j,w,y⟩:=h;refine⟨rt,p,cs',q,j,w,?_⟩;show cs'=SV.a8 ve lb (SV.lp i n cs);rw[gW e];exact y
theorem nU{d:D}{H':AH}(R:S.ca i=true)(q:SR E n0 H0 g0 ((S.kill i).new .fresh true) (ρ++[d]) (cJ ve S.n (ve i)) lb g fr H'):SR E n0 H0 g0 (S.mapped i) (ρ++[d]) (cJ ve S.n (ve i)) lb g fr H':=by
 have O:i<S.n:=qCQ R;have e:cJ ve S.n (ve i) S.n=cJ ve S.n (ve i) i:=by rw[jR,uY O]
 have J:S.n<((S.kill i).new .fresh true).n:=by rw[yC,mO];omega
 have live:∀b,(S.mapped i).live b->S.live b:=by
  rintro b ⟨x,G⟩;have h:(S.ae.map (λb=>b.map (Blk.lg i S.n)))[b]? = some (some x):=G;rw[cw]at h;cases u:S.ae[b]? with
  |none=>rw[u]at h;cases h
  |some y=>cases y with
   |none=>rw[u]at h;simp at h
   |some y=>exact⟨y,u⟩
 have r:(S.mapped i).ae.length=S.ae.length:=by show(S.ae.map _).length=_;rw[bk]
 exact {
  len:=q.len,wf:=q.wf,mem:=q.mem,base:=q.base
  fix:=by rw[r];exact q.fix
  vars:=q.vars
  ae:=by
   intro b x G;have h:(S.ae.map (λb=>b.map (Blk.lg i S.n)))[b]? = some (some x):=G;rw[cw]at h;cases u:S.ae[b]? with
   |none=>rw[u]at h;cases h
   |some y=>cases y with
    |none=>rw[u]at h;simp at h
    |some y=>rw[u]at h;simp only[aj,oI]at h;subst h;obtain⟨p1,p2⟩:=q.ae b y u;rw[r];exact⟨qRa J p1,qRb e p2⟩
  ei:=λb u=>q.ei b (live b u)
  cn:=q.cn
  km:=λa b P u=>q.km a b (live a P) (live b u)
  h7:=q.h7
  hU:=λb j u=>q.hU b j (live b u)
  sz:=q.sz,rd:=q.rd
  af:=by intro B y F;have A:(S.af.map (SV.lg i S.n)).get B=some y:=F;rw[Go.Am.T.get_map]at A;simp only[aa]at A;obtain⟨K,C,rfl⟩:=A;obtain⟨p1,p2⟩:=q.af B K C;rw[r];exact⟨fO J p1,by rw[bZ e];exact p2⟩
  kh:=by
   intro j l N B y F;have w:(S.kh.map (λl=>l.map (λ(t,x)=>(t,SV.lg i S.n x))))[j]? = some l:=N;rw[cw]at w;cases I:S.kh[j]? with
   |none=>rw[I]at w;cases w
   |some M=>rw[I]at w;simp only[aj,oI]at w;subst w;obtain⟨⟨L,x0⟩,hm,he⟩:=dy.1 F;cases he;obtain⟨p1,f,p2,p3⟩:=q.kh j M I L x0 hm;rw[r];exact⟨fO J p1,f,p2,by rw[bZ e];exact p3⟩
  hN:=q.hN,gk:=q.gk,low:=q.low,tab:=q.tab}
theorem qWo(h:SR E n0 H0 g0 S ρ ve lb g fr H){x1 x2:LM}{j x:SV}{sz:Nat}(ho:o.op=.store t x1 x2)(h1:ev E fr x1=some ((SV.ptr (.v i) j sz off).val ve lb))(h2:ev E fr x2=some (x.val ve lb))(hw:wp E HS Q (qV4 E t i j sz off x S κ) ρ):j7 true E HS Q n0 H0 g0 fr H o κ:=by
 unfold qV4 at hw;split at hw
 ·cases hw
 rename_i ti ht;simp only at hw;obtain⟨g1,e1,q⟩:=mR x h;generalize rL S x=T at hw e1 q;obtain⟨hc,M⟩:=jQ hw;simp only[aE]at hc;obtain⟨⟨c1,c2⟩,O⟩:=hc;simp only[wp]at M;split at M;case h_2=>cases M
 rename_i d hd;simp only[SV.ds,aZ]at hd;have J:=j6 q.toSM c1;have hjr:=zQ q.toSM c2;obtain⟨of,hst⟩:=zT.1 O;have hi:i<T.n:=qCQ O;have hv:=(q.vars i _ hst).2;have G:=q.cn i;split at hd;case h_2=>cases hd
 rename_i el y es n ck hdi hn hck;split at hd;case h_2=>cases hd
 rename_i e he;obtain⟨F,hd⟩:=qZ hd;simp only[aE]at F;have hsz:=vW F.1;have R:=oA F.2;subst hsz;simp only[oI]at hd;obtain⟨k,hjv⟩:=cV hjr hn;obtain⟨x3,x4,x5⟩:=qMJ hck J;have I:getD ρ i=.sl el y es:=hdi;rcases hv with qn|⟨B,l,cs,vs,vC,rt,sz2,es2,w⟩|⟨B,es2,clock,rt,ks,ds,w⟩
 rotate_left 2
 ·have K:=w.d;rw[I]at K;cases K
 ·exfalso;rcases qn.sl with A|⟨_,_,A⟩
  ·rw[I]at A;cases A
  rw[I]at A;cases A;simp at he
 have K:=w.d;rw[I]at K;cases K;have u:jW (ve i)=some B:=by rw[w.v];simp[jW]
 have hnl:n<es.length:=(gI he).1;have L:(x.val ve lb).cells.toList.length=ti.size:=by rw[J.cells.length,x3]
 obtain⟨t1,t2⟩:=pN w.t;have hpos:n*y+off+ti.size<=l*y:=by have:(n+1)*y<=l*y:=eu _ (by rw[←w.n];omega);rw[jf]at this;omega
 have bO:=eA (cs:=cs) (xs:=(x.val ve lb).cells.toList) (i:=n*y+off) (by rw[L];omega);generalize hr:qEj cs (n*y+off) (x.val ve lb).cells.toList=r at bO;have P:=qB1 (t:=t) ht (H:=H) (v:=x.val ve lb) w.b L bO;have W:=qPz w.s he (off:=off) (xs:=(x.d (getD ρ)).cells) (by rw[x3];exact R) x4;have hrl:take? r (l*y)=some (qEj vs (n*y+off) (x.val ve lb).cells.toList):=by
  rw[←hr];have hlen:l*y<=(qEj cs (n*y+off) (x.val ve lb).cells.toList).length:=by simp[qEj,L];omega
  rw[kH hlen,qB4 (by rw[L];exact hpos) t2,←t1]
 have hdrs:DRs g1 ((es.set n (aG e off (x.d (getD ρ)).cells)).flatMap D.cells) (qEj vs (n*y+off) (x.val ve lb).cells.toList):=by rw[W];have hl:(x.d (getD ρ)).cells.length=(x.val ve lb).cells.toList.length:=J.cells.length.symm;unfold iM qEj;rw[hl];exact(w.r.take _).append (J.cells.append (w.r.drop _))
 have hone:(qEj vs (n*y+off) (x.val ve lb).cells.toList).all qU=true:=by
  have h0:=w.o;have hx0:(x.val ve lb).cells.toList.all qU=true:=by rw[J.cells.mf];exact x4
  rw[al]at h0 hx0 ⊢;intro v hv;simp only[qEj,bh]at hv;rcases hv with hv|hv|hv
  ·exact h0 v (dm hv)
  ·exact hx0 v hv
  exact h0 v (dx hv)
 have V:∀e'∈es.set n (aG e off (x.d (getD ρ)).cells),e'.cells.length=y:=by
  intro e' Z;rcases ij Z with Z|rfl
  ·exact w.s e' Z
  have X:=w.s e (be he);rw[qB7 X (by rw[x3];exact R) x4,qN0 (by rw[X,x3];exact R),X]
 have k1:=q.mw i
 have k2:=k1.oe (H':=H.write B ⟨.cells cs el,rt,true⟩ (.cells r el)) (λb=>b=B) (λb _ N=>by rw[AH.ey,bf N]) (λb N=>by subst N;exact G b O u)
  (λb c N hl e=>by subst N;exact q.hU c i hl O (by rw[e];exact u))
  (λb jj N hf U=>by subst N;obtain⟨a1,a2⟩:=jZ hf;exact a2 (q.h7 jj i b a1 O U u))
  (λb N=>by subst N;exact w.rt.2) (q.wf.write w.b _) (vP _) (by show _<=Nat.min H.low rt;exact dv.2 ⟨q.low,lT (bq _ _) w.rt.1⟩)
 have k3:=k2.ko (d:=d) (v:=ve i) (by
   rw[←hd]
   refine .inr (.inl ⟨B,l,r,_,el,rt,y,_,w.v,rfl,by rw[AH.ey,bo rfl],w.rt,hrl,hdrs,by rw[ef];exact w.n,V,w.x,hone⟩)) (by rw[←hd];rfl)
  (λB' C=>by rw[u]at C;cases C;exact G B O u) (λB' c C hc e=>by rw[u]at C;cases C;exact q.hU c i hc O (by rw[e];exact u))
  (λB' jj C hf U=>by rw[u]at C;cases C;obtain⟨a1,a2⟩:=jZ hf;exact a2 (q.h7 jj i B a1 O U u))
 rw[mO]at k3;have k4:SR E n0 H0 g0 (T.mapped i) (ρ++[d]) (cJ ve T.n (ve i)) lb g1 fr (H.write B ⟨.cells cs el,rt,true⟩ (.cells r el)):=nU O k3;refine⟨.gd [],_,_,_,_,_,_,k4,trivial,M,.oj (vP _) ?_,λe=>by cases e⟩;unfold jH;rw[ho];simp only[h1,h2];have hadr:(SV.ptr (.v i) j y off).val ve lb=.pointer (some ⟨B,n*y+off,none⟩):=by simp only[SV.val,hjv,w.v,qCk,fc]
 rw[hadr];generalize x.val ve lb=xv at x5 P;split
 ·rename_i c _ hc;simp only[oI]at hc;exact absurd hc (x5 _)
 ·rename_i a' v' hn' e1' e2';simp only[oI]at e1' e2';subst e1' e2';rw[P];rfl
 rename_i hn';exact absurd rfl (hn' _ _ rfl)
theorem qE3:∀{es:LR} {l:List UInt8} {vs:LA},nD es=some l->DRs g (es.flatMap D.cells) vs->nE vs=some l
 | [],l,vs,h,hr=>by simp only[nD,oI]at h;subst h;cases hr;rfl
 | e::es,l,vs,h,hr=>by
  unfold nD at h;split at h
  ·rename_i y;cases y
  ·rename_i b r y;cases y;simp only[aa]at h;obtain⟨A,w,rfl⟩:=h;have j:DRs g (.leaf (.int .u8 b)::es.flatMap D.cells) vs:=hr;cases j with
   |cons u q=>obtain⟨rfl,_⟩:=u.de;simp only[nE,qE3 w q,aj]
  cases h
theorem qWn(h:SR E n0 H0 g0 S ρ ve lb g fr H){s d:LN}(G:o.op=.convert s d x)(B:iH E s d=none)(e:uP E s d=true)(q:wp E HS Q (jM E o S κ) ρ):j7 wm E HS Q n0 H0 g0 fr H o κ:=by
 unfold jM at q;rw[G]at q;simp only[B,e,ai]at q;split at q;case h_2=>cases q
 rename_i y L;obtain⟨hb,he⟩:=zZ (E:=E) h L;obtain⟨dd,O,j,h3⟩:=vL q;have F:=zQ h.toSM (O _ (aw.2 rfl));simp only[SV.ds,qPM]at j;split at j;case h_2=>cases j
 rename_i el sz es w;rw[w]at F;cases A:Nat.beq sz 1 with
 |false=>rw[A]at j;cases j
 |true=>
  rw[A]at j;have r:=vW A;subst r;simp only[ai,aa]at j;obtain⟨l,N,rfl⟩:=j;obtain⟨vs,b,o',c',K,C,J,q4,Z,X⟩:=uG h.mem F;refine .new h (k:=.pure) (one:=true) (by simp) (v:=.string ⟨⟨l⟩⟩) ⟨λ_=>rfl,.leaf rfl⟩ h3 ?_;unfold jH;rw[G];rw[K]at he C;simp only[he];unfold uP at e;split at e;case h_2=>cases e
  rename_i vC u;obtain⟨I,U,W,V,M⟩:=wF u;split at e;case h_2=>cases e
  rename_i R P;simp only[bQ,M,P,C,R,qE3 N J,aj,one]
end
variable{kd:TypeDesc}{kt:LN}
section
variable{E:Env}
theorem qHh(h:qI6 E t=some (kd,ag,z)):∃kt j sz b l e y,E.types.get t=some ⟨.map kt j,sz,b,l,e⟩/\zB E.prog (underlying kt)=some kd/\qGx kd=true/\E.types.get j=some y/\y.zero=some z/\y.agg=ag:=by unfold qI6 at h;grind
theorem qHr{kd:TypeDesc}{k:LQ}:∀{es:List MapEntry} {i:Nat} {r:Option Nat},qBo kd k (es.map (·.key)) i=some r->∃y,Instr.findNow kd k es i=some y/\y.map Prod.fst=r/\∀j v,y=some (j,v)->i<=j/\∃e,es[j-i]? = some e/\e.val=v/\Instr.sameNow kd k e.key=some true
 | [],i,r,h=>by simp only[List.map_nil,qBo,oI]at h;subst h;exact⟨none,rfl,rfl,λj v e=>by cases e⟩
 | e::es,i,r,h=>by
  simp only[fa,qBo]at h;unfold Instr.findNow;cases l:Instr.sameNow kd k e.key with
  |none=>rw[l]at h;cases h
  |some b=>cases b with
   |true=>grind
   |false=>rw[l]at h;obtain⟨y,u,q,h3⟩:=qHr (es:=es) (i:=i+1) h;grind
theorem qQl{a b:LJ}:(a==b)=true↔a=b:=by
 show(a.data==b.data)=true↔a=b;rw[beq_iff_eq];constructor
 ·intro h;cases a;cases b;simp only at h;rw[h]
 rintro rfl;rfl
theorem qQ4{k k':LQ}(h:Instr.sameNow kd k k'=some true):k'=k/\Instr.sameBits 10000 k' k=true:=by
 unfold Instr.sameNow at h;split at h
 ·split at h
  ·rename_i y;simp only[oI,beq_iff_eq]at h;subst y h;exact⟨rfl,by simp[Instr.sameBits]⟩
  cases h
 ·simp only[oI,qQl]at h;subst h;exact⟨rfl,by show(_==_)=true;rw[qQl]⟩
 ·simp only[oI,beq_iff_eq]at h;subst h;exact⟨rfl,by simp[Instr.sameBits]⟩
 cases h
theorem qH6{k:LQ}{b:Bool}(h:zB E.prog (underlying kt)=some kd)(y:qGx kd=true):zB E.prog (Instr.checkKey b 10000 kt k)=some ():=by show zB E.prog (Instr.checkKey b (9999+1) kt k)=some ();unfold Instr.checkKey;rw[wC,h];simp only[bn];cases kd<;>first|(cases y;done)|(cases k<;>rfl)
theorem cY{k:LQ}{es:List MapEntry}{r:Option Nat}(h:zB E.prog (underlying kt)=some kd)(F:qGx kd=true)(J:zP k=true)(C:qBo kd k (es.map (·.key)) 0=some r)(b:Bool):∃y,zB E.prog (do Instr.checkKey b 10000 kt k;Instr.findKey kt k es)=some y/\y.map Prod.fst=r/\∀j v,y=some (j,v)->∃e,es[j]? = some e/\e.val=v/\e.key=k/\Instr.sameBits 10000 e.key k=true:=by
 obtain⟨y,I,G,h3⟩:=qHr C;refine⟨y,?_,G,λj v q=>?_⟩
 ·rw[wC,qH6 h F];simp only[bn,Instr.findKey,wC,h,I];rfl
 obtain⟨_,e,B,A,w⟩:=h3 j v q;obtain⟨u,l⟩:=qQ4 w;exact⟨e,by simpa using B,A,u,l⟩
theorem pS(h:rU v=true):zP v=true:=by cases v<;>first|rfl|(simp[rU]at h;done)|(simp[rU]at h;subst h;rfl)
variable{n0:Lim}{H0:AH}{g0:zR}{S:St}{ρ:LR}{ve:LH}{lb:LI}{g:zR}{fr:Fr}{H:AH}{HS:LO->LR->La}{Q:Res1->Prop}{o:Oper}{κ:K1}{wm:Bool}
theorem qRq(h:SR E n0 H0 g0 S ρ ve lb g fr H)(l:o.op=.makeMap t none)(e:wp E HS Q (jM E o S κ) ρ):j7 wm E HS Q n0 H0 g0 fr H o κ:=by
 unfold jM at e;rw[l]at e;simp only[wp,SV.ds,qKZ]at e;have h3:=h.heap (H':=H.new (.map [] 0)) lQ (h.wf.new _) (cx _) h.low;have y:∀B,jW (.map (some H.next))=some B->B=H.next:=λB y=>by cases y;rfl
 have w:=h3.ko (d:=.mp [] []) (v:=.map (some H.next)) (.inr (.inr ⟨H.next,[],0,H.next,[],[],rfl,rfl,by rw[AH.get_new,bo rfl],h.base.new,rfl,.nil⟩)) rfl
  (λB q=>by rw[y B q];exact eS h.toSM) (λB c q u=>by have:=(wL h.toSM u).1;rw[y B q];omega)
  (λB i q r j=>by have:=(pP h.toSM r j).1;rw[y B q]at this;omega)
 refine⟨_,_,_,_,_,_,_,w,pQ,e,.kl (cx _) ?_,λ_=>rG⟩;simp only[SV.val,jR];unfold jH;rw[l]
theorem qRr(h:SR E n0 H0 g0 S ρ ve lb g fr H){k:LM}{ok:Bool}(ho:o.op=.lookup t x k ok)(r:wp E HS Q (jM E o S κ) ρ):j7 wm E HS Q n0 H0 g0 fr H o κ:=by
 unfold jM at r;rw[ho]at r;simp only at r;split at r;case h_2=>cases r
 rename_i y z hy hz;obtain⟨yb,ye⟩:=zZ (E:=E) h hy;obtain⟨zb,N⟩:=zZ (E:=E) h hz;obtain⟨d,h1,l,h3⟩:=vL r;have ry:=zQ h.toSM (h1 y (by simp));have O:=zQ h.toSM (h1 z (by simp));simp only[SV.ds,qGd]at l;unfold qA3 at l;split at l;case h_2=>cases l
 rename_i kd ag zz ks ds A G K J;obtain⟨kt,et,sz,b,z0,ag0,ti,Z,X,W,m4,V,U⟩:=qHh G;obtain⟨es,R,P,q3⟩:=qKJ h.mem ry K;rw[J]at O;obtain⟨B,q⟩:=(O.dr rfl).de;have C:∀{v:LQ},rI E H t (y.val ve lb) A ok=some v->jH E fr o H=some (.val v,H):=by intro v hv;unfold jH;rw[ho];rw[B]at N;simp only[ye,N,hv,one,aj]
 have w:∀{v:LQ},DR g d v->rI E H t (y.val ve lb) A ok=some v->j7 wm E HS Q n0 H0 g0 fr H o κ:=by intro v hd hv;exact .new h (k:=.pure) (one:=false) (by simp) ⟨λe=>(by cases e),hd⟩ h3 (C hv)
 split at l
 ·rename_i i u;rw[←P]at u;obtain⟨F,f1,f2,f3⟩:=cY X W (pS q) u es.isEmpty;simp only[aa]at l;obtain⟨d',M,rfl⟩:=l;cases F with
  |none=>cases f2
  |some p=>
   obtain⟨j,v⟩:=p;cases f2;obtain⟨e,e1,e2,_⟩:=f3 j v rfl;obtain⟨v',v1,v2⟩:=q3.get j d' M;rw[cw,e1]at v1;simp only[aj,oI]at v1;rw[←v1,e2]at v2;have I:rI E H t (y.val ve lb) A ok=some (bif ok then .tuple #[v,.bool true]else v):=by unfold rI;simp only[Z,R,qC0,pS q,ai,f1]
   refine w ?_ I;cases ok with
   |true=>exact .gd (.cons v2 (.cons (.leaf rfl) .nil))
   |false=>exact v2
 ·rename_i u;rw[←P]at u;obtain⟨F,f1,f2,f3⟩:=cY X W (pS q) u es.isEmpty;split at l;case h_2=>cases l
  rename_i v hv;obtain⟨L,l⟩:=qZ l;simp only[oI]at l;subst l;cases F with
  |some p=>cases f2
  |none=>
   have I:rI E H t (y.val ve lb) A ok=some (bif ok then .tuple #[v,.bool false]else v):=by unfold rI;obtain⟨td,ts,tb,tz,ta⟩:=ti;simp only at V U;subst V U;simp only[Z,R,qC0,pS q,ai,f1,m4,hv]
   have hd:DR g (qIu v) v:=qFR 6 v L;refine w ?_ I;cases ok with
   |true=>exact .gd (.cons hd (.cons (.leaf rfl) .nil))
   |false=>exact hd
 cases l
theorem qL7(h:SR E n0 H0 g0 S ρ ve lb g fr H){of:Bool}(G:S.db[i]? = some ⟨.fresh,of⟩){B:Nat}{es es':List MapEntry}{ck xV rt:Nat}{ds:LR}(q:OwnM g H.blocks.get n0 (getD ρ i) (ve i) B es ck rt ks ds){r:LA}{w:LR}(N:es'.map (·.key)=r)(hr:DRs g w (es'.map (·.val))):SR E n0 H0 g0 (S.mapped i) (ρ++[.mp r w]) (cJ ve S.n (ve i)) lb g fr (H.write B ⟨.map es ck,rt,true⟩ (.map es' xV)):=by
 have A:S.ca i=true:=zT.2 ⟨_,G⟩;have P:i<S.n:=qCQ A;have y:=q.own;have l:=h.cn i;have L:=h.mw i
 have K:=L.oe (H':=H.write B ⟨.map es ck,rt,true⟩ (.map es' xV)) (λb=>b=B) (λb _ u=>by rw[AH.ey,bf u]) (λb u=>by subst u;exact l b A y)
  (λb c u M e=>by subst u;exact h.hU c i M A (by rw[e];exact y))
  (λb F u I C=>by subst u;obtain⟨a1,a2⟩:=jZ I;exact a2 (h.h7 F i b a1 A C y))
  (λb u=>by subst u;exact q.rt.2) (h.wf.write q.b _) (vP _) (by show _<=Nat.min H.low rt;exact dv.2 ⟨h.low,lT (bq _ _) q.rt.1⟩)
 have J:=K.ko (d:=.mp r w) (v:=ve i) (.inr (.inr ⟨B,es',xV,rt,r,w,q.v,rfl,by rw[AH.ey,bo rfl],q.rt,N,hr⟩)) rfl (λB' j=>by rw[y]at j;cases j;exact l B A y) (λB' c j O e=>by rw[y]at j;cases j;exact h.hU c i O A (by rw[e];exact y)) (λB' F j I C=>by rw[y]at j;cases j;obtain⟨a1,a2⟩:=jZ I;exact a2 (h.h7 F i B a1 A C y));rw[mO]at J;exact nU A J
theorem aQ{α:Type}(f:MapEntry->α):∀{es:List MapEntry} {i:Nat} {k v:LQ} {e:MapEntry},es[i]? = some e->(modify es i k v).map f=(es.map f).set i (f {e with key:=k,val:=v})
 | [],i,k,v,e,h=>by simp at h
 |x::es,0,k,v,e,h=>by simp only[dq,oI]at h;subst h;rfl
 |x::es,i+1,k,v,e,h=>by simp only[modify,fa,List.set_cons_succ];rw[aQ f (by simpa using h)]
theorem DRs.set{g:zR}:∀{ds:LR} {vs:LA},DRs g ds vs->∀(i:Nat) {d:D} {v:LQ},DR g d v->DRs g (ds.set i d) (vs.set i v)
 |_,_,.nil,_,_,_,_=>.nil
 |_,_,.cons _ y,0,_,_,h=>.cons h y
 |_,_,.cons h y,i+1,_,_,e=>.cons h (DRs.set y i e)
theorem qRl(h:SR E n0 H0 g0 S ρ ve lb g fr H)(r:S.ca i=true){ds:LR}(hd:getD ρ i=.mp ks ds):∃of B es ck rt,S.db[i]? = some ⟨.fresh,of⟩/\OwnM g H.blocks.get n0 (getD ρ i) (ve i) B es ck rt ks ds:=by
 obtain⟨of,y⟩:=zT.1 r;rcases(h.vars i _ y).2 with q|⟨B,l,cs,vs,el,rt,sz,es,q⟩|⟨B,es,ck,rt,j,u,q⟩
 ·rcases q.sl with q|⟨_,_,q⟩<;>(rw[hd]at q;cases q)
 ·have:=q.d;rw[hd]at this;cases this
 have e:=q.d;rw[hd]at e;cases e;exact⟨of,B,es,ck,rt,y,q⟩
theorem qRp(h:SR E n0 H0 g0 S ρ ve lb g fr H){m k:LM}(ho:o.op=.mapUpdate t m k x)(A:wp E HS Q (jM E o S κ) ρ):j7 true E HS Q n0 H0 g0 fr H o κ:=by
 unfold jM at A;rw[ho]at A;simp only at A;split at A;case h_2=>cases A
 rename_i i z y hm hz hy;obtain⟨mb,me⟩:=zZ (E:=E) h hm;obtain⟨zb,ze⟩:=zZ (E:=E) h hz;obtain⟨yb,ye⟩:=zZ (E:=E) h hy;unfold zAY at A;simp only at A;obtain⟨g1,L,q⟩:=mR y h;generalize rL S y=T at A L q;obtain⟨hc,w⟩:=jQ A;simp only[aE]at hc;obtain⟨⟨c1,c2⟩,c3⟩:=hc;simp only[wp]at w;split at w;case h_2=>cases w
 rename_i d hd;simp only[SV.ds,qGb]at hd;have yr:=j6 q.toSM c1;have zr:=zQ q.toSM c2;unfold qA2 at hd;split at hd;case h_2=>cases hd
 rename_i kd ag zz ks ds u U W V;obtain⟨kt,et,sz,b,z0,ag0,ti,m1,m2,m3,m4,m5,m6⟩:=qHh U;rw[V]at zr;obtain⟨rzv,C⟩:=(zr.dr rfl).de;have I:getD ρ i=.mp ks ds:=W;obtain⟨of,B,es,ck,rt,P,l⟩:=qRl q c3 I;have hbd:∀{n m:Nat},(SV.gd []).bd n m:=trivial;have K:∀{es':List MapEntry} {xV:Nat} {F:LA} {G:LR},d=.mp F G->es'.map (·.key)=F->DRs g1 G (es'.map (·.val))->rE E H t (ve i) u (y.val ve lb)=some (H.write B ⟨.map es ck,rt,true⟩ (.map es' xV))->j7 true E HS Q n0 H0 g0 fr H o κ:=by intro es' xV F G Z X R hu;subst Z;refine⟨.gd [],_,_,_,_,_,_,qL7 q P l (xV:=xV) X R,trivial,w,.oj (vP _) ?_,λe=>by cases e⟩;unfold jH;rw[ho];simp only[SV.val]at me;grind
 have O:∀{r:Option (Option (Nat×LQ))},zB E.prog (do Instr.checkKey false 10000 kt u;Instr.findKey kt u es)=r->rE E H t (ve i) u (y.val ve lb)=(match r with
   |some (some (i,_))=>match es[i]? with
    |some e=>bif Instr.sameBits 10000 e.key u then some (H.write B ⟨.map es ck,rt,true⟩ (.map (modify es i u (y.val ve lb)) ck))else none
    |none=>none
   |some none=>some (H.write B ⟨.map es ck,rt,true⟩ (.map (es++[{key:=u,val:=y.val ve lb,born:=ck}]) (ck+1)))
   |none=>none):=by
  intro r hr
  subst hr
  unfold rE
  rw[m1,l.v]
  simp only[l.b,pS C,ai]
  rfl
 split at hd
 ·rename_i j J;rw[←l.k]at J;obtain⟨M,f1,f2,f3⟩:=cY m2 m3 (pS C) J false;simp only[oI]at hd;cases M with
  |none=>cases f2
  |some p=>
   obtain⟨N,v⟩:=p;cases f2;obtain⟨e,L,e2,e3,e4⟩:=f3 N v rfl;refine K (es':=modify es N u (y.val ve lb)) (xV:=ck) hd.symm ?_ ?_ ?_
   ·rw[aQ (·.key) L,l.k]
   ·rw[aQ (·.val) L];exact l.r.set N yr
   grind
 ·rename_i J;rw[←l.k]at J;obtain⟨M,f1,f2,f3⟩:=cY m2 m3 (pS C) J false;simp only[oI]at hd;cases M with
  |some p=>cases f2
  |none=>
   refine K (es':=es++[{key:=u,val:=y.val ve lb,born:=ck}]) (xV:=ck+1) hd.symm ?_ ?_ ?_
   ·rw[ga,l.k];rfl
   ·rw[ga];exact l.r.append (.cons yr .nil)
   rw[O f1]
 cases hd
theorem qRs(h:SR E n0 H0 g0 S ρ ve lb g fr H){z:SV}(q:o.op=.call c)(j:c.callee=.builtin .delete)(y:rS E fr c.args.toList=some [(SV.v i).val ve lb,z.val ve lb])(l:c.argTypes.toList=t::ts)(e:wp E HS Q (qX0 t i z S κ) ρ):j7 true E HS Q n0 H0 g0 fr H o κ:=by unfold qX0 at e;cases e
theorem qR0{F:LJ->LH}{a b d:D}(h:qM2 F a b=some d):∃s n,a=.leaf (.string s)/\b=.leaf (.int .i64 (.ofNat n))/\d=.leaf (F s n):=by unfold qM2 at h;split at h;all_goals grind
theorem qOC(h:SR E n0 H0 g0 S ρ ve lb g fr H)(B:o.op=.range t x)(e:wp E HS Q (jM E o S κ) ρ):j7 wm E HS Q n0 H0 g0 fr H o κ:=by
 unfold jM at e;rw[B]at e;simp only at e;split at e;case h_2=>cases e
 rename_i y sz P z ag L M;obtain⟨A,w⟩:=zZ (E:=E) h L;obtain⟨d,O,j,h3⟩:=vL e;have r:=zQ h.toSM (O y (by simp));simp only[SV.ds,qC5]at j;generalize K:y.d (getD ρ)=C at j r
 match C,j,r with
 |.leaf (.string s),j,r=>
  simp only[oI]at j;subst j;have q:=(r.dr rfl).de.1;have J:=h.new (k:=.pure) (o:=true) (d:=.leaf (goInt s.size)) (v:=goInt s.size) (by simp) ⟨λ_=>rfl,.leaf rfl⟩;have u:y.bd (S.new .pure true).n (S.new .pure true).ae.length:=SV.h9 (by rw[yC];omega) (vP _) A;have l:y.val (cJ ve S.n (goInt s.size)) lb=.string s:=by rw[SV.val_congr (λi N=>uY N) (λ_ _=>rfl) A];exact q
  have I:=J.po (o:=.lx s 0) (x:=.b5 0 [y,.c (.int .i64 0)]) ⟨u,trivial,trivial⟩ (λR G F=>⟨_,s,0,G,F,by simp only[j5,SV.a8,l];rfl⟩);refine⟨_,_,_,_,_,_,_,I,qI8 _,h3,.kl (cx _) ?_,λ_=>rG⟩;unfold jH;rw[B];rw[q]at w;simp only[w,M,SV.val,qDN,dn]
theorem qRo(h:SR E n0 H0 g0 S ρ ve lb g fr H){it:LM}(ho:o.op=.next it true)(j:wp E HS Q (jM E o S κ) ρ):j7 true E HS Q n0 H0 g0 fr H o κ:=by
 unfold jM at j;rw[ho]at j;simp only at j;split at j;case h_2=>cases j
 rename_i b M;obtain⟨ib,ie⟩:=zZ (E:=E) h M;split at j;case h_2=>cases j
 rename_i y p A;obtain⟨N,rt,st,n,J,q2,l⟩:=h.ae b _ A;simp only[j5,SV.a8,List.cons.injEq,and_true]at l;obtain⟨l,W⟩:=l;obtain⟨C,F,_⟩:y.bd S.n S.ae.length/\p.bd S.n S.ae.length/\True:=N;obtain⟨d,h1,h2,h3⟩:=vL j;have U:=zQ h.toSM (h1 y (by simp));have V:=zQ h.toSM (h1 p (by simp));simp only[SV.ds,qXC]at h2;obtain⟨s,m,R,P,rfl⟩:=qR0 h2;rw[R]at U;rw[P]at V;have v1:=(U.dr rfl).de.1;have v2:=(V.dr rfl).de.1;rw[v1]at l;rw[v2]at W;cases l;have L:n=m:=by
  have:(n:Int)=(m:Int):=by have:=W;simp only[goInt,Value.int.injEq,true_and]at this;exact this
  omega
 subst L;have q:=h.new (k:=.pure) (o:=true) (d:=.leaf (.bool (Nat.ble (n+1) st.size))) (v:=.bool (Nat.ble (n+1) st.size)) (by simp) ⟨λ_=>rfl,.leaf rfl⟩;have x1:ExtS S ρ ve g (S.new .pure true) (ρ++[.leaf (.bool (Nat.ble (n+1) st.size))]) (cJ ve S.n (.bool (Nat.ble (n+1) st.size))) g:=yE h.len;have O:getD (ρ++[D.leaf (.bool (Nat.ble (n+1) st.size))]) S.n=.leaf (.bool (Nat.ble (n+1) st.size)):=by have:=@uA ρ (.leaf (.bool (Nat.ble (n+1) st.size)));rw[h.len]at this;exact this
 simp only[wp,SV.d,O]at h3;have ha:jH E fr o H=qA1 H (.pointer (some ⟨lb b,0,none⟩)) true:=by unfold jH;rw[ho];simp only[SV.val]at ie;simp only[ie]
 cases G:Nat.ble (n+1) st.size with
 |false=>rw[G]at h3 q;simp only at h3;refine⟨.gd [.c (.bool false)],_,_,_,_,_,_,q,(show True/\True from⟨trivial,trivial⟩),h3,.kl (vP _) ?_,λe=>by cases e⟩;rw[ha];simp only[qA1,J,G,bc,SV.val,SV.a8]
 | true=>
  rw[G]at h3 q x1;simp only at h3;obtain⟨d2,p1,p2,p3⟩:=vL h3;simp only[SV.ds,qXE,x1.d C,x1.d F,R,P,qM2,oI]at p2;subst p2;have Z:=q.new (k:=.pure) (o:=true) (d:=.leaf (.int .i32 (Utf8.decode st n).1)) (v:=.int .i32 (Utf8.decode st n).1) (by simp) ⟨λ_=>rfl,.leaf rfl⟩;have x2:=x1.trans (yE (k:=.pure) (o:=true) (d:=.leaf (.int .i32 (Utf8.decode st n).1)) (v:=.int .i32 (Utf8.decode st n).1) (ve:=cJ ve S.n (.bool true)) (g:=g) q.len);obtain⟨d3,p4,p5,p6⟩:=vL p3;simp only[SV.ds,qXD,x2.d C,x2.d F,R,P,qM2,oI]at p5;subst p5;have X:=Z.new (k:=.pure) (o:=true) (d:=.leaf (goInt ((n+(Utf8.decode st n).2:Nat):Int))) (v:=goInt ((n+(Utf8.decode st n).2:Nat):Int)) (by simp) ⟨λ_=>rfl,.leaf rfl⟩;have x3:=x2.trans (yE (k:=.pure) (o:=true) (d:=.leaf (goInt ((n+(Utf8.decode st n).2:Nat):Int))) (v:=goInt ((n+(Utf8.decode st n).2:Nat):Int)) (ve:=cJ (cJ ve S.n (.bool true)) (S.new .pure true).n (.int .i32 (Utf8.decode st n).1)) (g:=g) Z.len);generalize B:((S.new .pure true).new .pure true).new .pure true=I at p6 X x3;have w:I.ae[b]? = some (some (.b5 0 [y,p])):=by rw[←B];exact A
  have r:I.n=S.n+3:=by rw[←B,yC,yC,yC]
  have k4:=X.oi (x:=.b5 0 [y,.v ((S.new .pure true).new .pure true).n]) (o:=.lx st (n+(Utf8.decode st n).2)) w J ⟨x3.bd C,by show _<I.n;rw[r,yC,yC];omega,trivial⟩
   (λbs r1 r2=>⟨rt,st,_,r1,r2,by simp only[j5,SV.a8,x3.val C,v1,SV.val,jR]⟩)
  refine⟨.gd [.c (.bool true),p,.v (S.new .pure true).n],_,_,_,_,_,_,k4,⟨trivial,?_,?_,trivial⟩,p6,.kl (vP _) ?_,λe=>by cases e⟩
  ·have:=x3.bd F;simpa[St.kj,St.n]using this
  ·show(S.new .pure true).n<I.n;rw[r,yC];omega
  rw[ha];have K:=x3.val (lb:=lb) F;have u:(SV.v (S.new .pure true).n).val (cJ (cJ (cJ ve S.n (.bool true)) (S.new .pure true).n (.int .i32 (Utf8.decode st n).1)) ((S.new .pure true).new .pure true).n (goInt ((n+(Utf8.decode st n).2:Nat):Int))) lb=.int .i32 (Utf8.decode st n).1:=by simp only[SV.val];rw[uY (by simp only[yC];omega),jR]
  simp only[qA1,J,G,ai];simp only[SV.val,SV.a8,K,v2]at u ⊢;rw[u];rfl
end
section
variable{E:Env}{n0:Lim}{H0:AH}{g0:zR}{S:St}{ρ:LR}{ve:LH}{lb:LI}{g:zR}{fr:Fr}{H:AH}{HS:LO->LR->La}{Q:Res1->Prop}{o:Oper}{κ:K1}{wm:Bool}
theorem qNi{g:zR}:∀l:List UInt8,DRs g ((l.map λb=>D.leaf (.int .u8 b.toNat)).flatMap D.cells) (l.map λx=>Value.int .u8 x.toNat)
 | []=>.nil
 |b::l=>.cons (.leaf rfl) (qNi l)
theorem qOG(h:SR E n0 H0 g0 S ρ ve lb g fr H){s d:LN}(P:o.op=.convert s d x)(j:iH E s d=some el)(r:wp E HS Q (jM E o S κ) ρ):j7 wm E HS Q n0 H0 g0 fr H o κ:=by
 unfold jM at r;rw[P]at r;simp only[j]at r;split at r;case h_2=>cases r
 rename_i y W;obtain⟨hb,he⟩:=zZ (E:=E) h W;obtain⟨I,r⟩:=jQ r;have I:=zQ h.toSM I;simp only[wp]at r;split at r;case h_2=>cases r
 rename_i dd hd;simp only[SV.ds,qPQ]at hd;split at hd;case h_2=>cases hd
 rename_i str N;rw[N]at I;have J:=(I.dr rfl).de.1;cases A:Nat.ble str.data.toList.length 1000000000 with
 |false=>rw[A]at hd;cases hd
 | true=>
  rw[A]at hd;simp only[ai,oI]at hd;subst hd;have F:=oA A;unfold iH at j;split at j;case h_2=>cases j
  rename_i U bt1 z1 ag1 vC hs M;obtain⟨V,bt0,z0,ag0,X⟩:=wF M;split at j;case h_2=>cases j
  rename_i b1 b2 b3 b4 K;cases u:Nat.beq b1 1 with
  |false=>rw[u]at j;cases j
  | true=>
   rw[u]at j;simp only[ai,oI]at j;subst j;obtain⟨l,G⟩:∃l,str.data.toList=l:=⟨_,rfl⟩;rw[G]at A F r;have h3:=h.heap (H':=H.new (.cells (l.map λx=>.int .u8 x.toNat) vC)) lQ (h.wf.new _) (cx _) h.low;have R:(l.map λb=>D.leaf (.int .u8 b.toNat)).length=l.length:=by simp
   have w:=tL (el:=vC) (sz:=1) h.toSM (qNi (g:=g) l) (by rw[al];intro v hv;obtain⟨b,_,rfl⟩:=dy.1 hv;rfl) (λe he=>by obtain⟨b,_,rfl⟩:=dy.1 he;rfl) (by rw[R];unfold zX;omega);rw[R]at w;have C:∀B,jW (.slice (some ⟨H.next,0,none⟩) l.length zX)=some B->B=H.next:=λB C=>by simp only[jW,vP,dn,oI]at C;exact C.symm
   have h4:=h3.ko w rfl (λB q=>by rw[C B q];exact eS h.toSM) (λB c q A=>by have:=(wL h.toSM A).1;rw[C B q];omega)
    (λB i q Z L=>by have:=(pP h.toSM Z L).1;rw[C B q]at this;omega)
   refine⟨_,_,_,_,_,_,_,h4,pQ,r,.kl (cx _) ?_,λ_=>rG⟩;unfold jH;rw[P];have u:=vW u;subst u;have O:Nat.beq 1 1=true:=rfl;simp only[he,J,hs,X,mY,K,G,A,O,cj,ai,SV.val,jR]
end
theorem qGS{a b:LQ}(h:qKg a b=true):a=b:=by unfold qKg at h;grind
section
variable{ve:LH}{lb:LI}{ρ:Nat->D}
mutual
theorem qB9:∀{x y:SV},qAU x y=true->x=y
 |.v i,.v j,h=>by rw[vW h]
 |.c x,.c y,h=>by rw[qGS h]
 |.loc b o,.loc l e,h=>by simp only[qAU,aE]at h;simp_all
 |.pp i o,.pp j e,h=>by simp only[qAU,aE]at h;simp_all
 |.agg cs,.agg cs',h=>by rw[bX (xs:=cs) (ys:=cs') h]
 |.gd cs,.gd cs',h=>by rw[bX (xs:=cs) (ys:=cs') h]
 |.fn (.func f) a b,.fn (.func r) u l,h=>by simp only[qAU,aE]at h;rw[vW h.1.1,bX h.1.2,bX h.2]
 |.ll t x,.ll q y,h=>by simp only[qAU,aE]at h;rw[vW h.1,qB9 h.2]
theorem bX:∀{xs ys:LS},aH xs ys=true->xs=ys
 | [],[],_=>rfl
 |x::xs,y::ys,h=>by simp only[aH,aE]at h;rw[qB9 h.1,bX h.2]
end
def pC(ve:LH)(lb:LI)(az:LS):LH:=λi=>match az[i]? with
 |some x=>x.val ve lb
 |none=>.bool false
def qAN(ρ:Nat->D)(az:LS):Nat->D:=λi=>match az[i]? with
 |some x=>x.d ρ
 |none=>.nil
theorem qMP(ρ:Nat->D)(az:LS):getD (SV.ds ρ az)=qAN ρ az:=by
 funext i;simp only[getD,qAN,SV.lq];cases h:az[i]? with
 |none=>simp[h]
 |some x=>simp[h]
mutual
theorem yS{az:LS}:∀{x y:SV},fits az x y=true->x.val (pC ve lb az) lb=y.val ve lb/\x.d (qAN ρ az)=y.d ρ
 |.v i,y,h=>by
  simp only[fits]at h;split at h
  ·rename_i x u;have:=qB9 h;subst this;simp only[SV.val,SV.d,pC,qAN,u,jw]
  cases h
 |.c x,.c y,h=>by have:=qGS h;subst this;exact⟨rfl,rfl⟩
 |.loc b o,.loc q r,h=>by simp only[fits,aE]at h;rw[vW h.1,vW h.2];exact⟨rfl,rfl⟩
 |.pp i o,.pp j r,h=>by
  simp only[fits,aE]at h;have l:=vW h.1;have e:=h.2;split at e
  ·rename_i k w;have:=vW e;subst this l;simp only[SV.val,SV.d,pC,qAN,w,jw]
  cases e
 |.agg cs,.agg cs',h=>by obtain⟨l,e⟩:=rR (xs:=cs) (ys:=cs') h;simp only[SV.val,SV.d,l,e,jw]
 |.gd cs,.gd cs',h=>by obtain⟨l,e⟩:=rR (xs:=cs) (ys:=cs') h;simp only[SV.val,SV.d,l,e,jw]
 |.fn (.func f) a b,.fn (.func C) F q,h=>by simp only[fits,aE]at h;obtain⟨l,e⟩:=rR h.1.2;obtain⟨h3,A⟩:=rR h.2;have:=vW h.1.1;subst this;simp only[SV.val,SV.d,l,e,h3,A,jw]
 |.lk b,.lk q,h=>by have:=vW h;subst this;exact⟨rfl,rfl⟩
 |.ll t x,.ll B y,h=>by simp only[fits,aE]at h;obtain⟨l,e⟩:=yS h.2;have:=vW h.1;subst this;simp only[SV.val,SV.d,l,e,jw]
theorem rR{az:LS}:∀{xs ys:LS},uE az xs ys=true->SV.a8 (pC ve lb az) lb xs=SV.a8 ve lb ys/\SV.ds (qAN ρ az) xs=SV.ds ρ ys
 | [],[],_=>⟨rfl,rfl⟩
 |x::xs,y::ys,h=>by simp only[uE,aE]at h;obtain⟨l,j⟩:=yS (x:=x) (y:=y) h.1;obtain⟨h3,e⟩:=rR h.2;simp only[SV.a8,SV.ds,l,j,h3,e,jw]
end
mutual
theorem dH{n m:Nat}:∀{x:SV},qM5 n m x=true->x.bd n m
 |.v i,h=>oA h
 |.c _,_=>trivial
 |.loc b _,h=>oA h
 |.ptr s i _ _,h=>by simp only[qM5,aE]at h;exact⟨dH h.1,dH h.2⟩
 |.pp i _,h=>oA h
 |.agg cs,h=>dG (xs:=cs) h
 |.gd cs,h=>dG (xs:=cs) h
 |.fn _ a b,h=>by simp only[qM5,aE]at h;exact⟨dG h.1,dG h.2⟩
 |.ll _ x,h=>dH (x:=x) h
 |.lk b,h=>oA h
theorem dG{n m:Nat}:∀{xs:LS},qGw n m xs=true->SV.kx n m xs
 | [],_=>trivial
 |x::xs,h=>by simp only[qGw,aE]at h;exact⟨dH h.1,dG h.2⟩
end
theorem qCS:∀(l:List (Nat×SV)) (e:T SV) {t:Nat} {x:SV},(l.foldl (λt (p:Nat×SV)=>t.put p.1 (some p.2)) e).get t=some x->(t,x)∈l∨e.get t=some x
 | [],_,_,_,h=>.inr h
 |(k,y)::l,e,t,x,h=>by
  rcases qCS l (e.put k (some y)) h with j|j
  ·grind
  rw[T.ch]at j;grind
theorem qHw:∀{l:List (Nat×SV)} {t:Nat} {x:SV},qPt t l=some x->(t,x)∈l
 | [],_,_,h=>by cases h
 |(u,y)::l,t,x,h=>by
  simp only[qPt,zI]at h;split at h
  ·grind
  exact mC _ (qHw h)
theorem qEQ{n m:Nat}{az:LS}:∀{ps ss:List (List (Nat×SV))} {j:Nat} {l:List (Nat×SV)} {t:Nat} {x:SV},qCZ n m az ps ss=true->ps[j]? = some l->(t,x)∈l->
  x.bd n m/\∃u y,ss[j]? = some u/\(t,y)∈u/\fits az x y=true
 | [],_,_,_,_,_,_,h,_=>by simp at h
 |r::ps,[],_,_,_,_,h,_,_=>by cases h
 | r::ps,s0::ss,0,l,t,x,h,e,q=>by
  simp only[qCZ,aE,al]at h
  simp at e
  subst e
  have B:=h.1 _ q
  obtain⟨A,h3⟩:=B
  split at h3
  ·rename_i y w
   exact⟨dH A,s0,y,rfl,qHw w,h3⟩
  cases h3
 |r::ps,s0::ss,j+1,l,t,x,h,e,q=>by
  simp only[qCZ,aE]at h
  simpa using qEQ (j:=j) h.2 (by simpa using e) q
theorem mU{az:LS}:∀{e cs:List (Option Blk)} {b:Nat} {x:Blk},uF az e cs=true->e[b]? = some (some x)->∃y,cs[b]? = some y/\qAA az (some x) y=true
 | [],_,_,_,_,h=>by simp at h
 |x0::e,[],_,_,h,_=>by cases h
 |x0::e,l::cs,0,x,h,j=>by simp only[uF,aE]at h;grind
 |x0::e,l::cs,b+1,x,h,j=>by simp only[uF,aE]at h;simpa using mU h.2 (by simpa using j)
theorem bU{S:St}:∀{db:List VSt} {az:LS} {i:Nat} {s:VSt},aF S db az=true->db[i]? = some s->∃x,az[i]? = some x/\(s.one=true->eJ S x=true)/\(match s.k with
   |.pure=>wT S x=true
   |.full=>∃j o,x=.v j/\S.db[j]? = some ⟨.full,o⟩
   |.ptr=>∃j,x=.v j/\S.pa j=true
   |.fresh=>qAx S x=true
   |.dead=>s.one=false)
 | [],_,_,_,_,h=>by simp at h
 |⟨k,o⟩::db,[],_,_,h,_=>by cases h
 |⟨k,o⟩::db,a::az,0,s,h,hs=>by
  simp only[aF,aE]at h
  grind
 |⟨k,o⟩::db,a::az,i+1,s,h,hs=>by
  simp only[aF,aE]at h
  simpa using bU h.2 (by simpa using hs)
theorem aW{S:St}{x:SV}(h:qAx S x=true):(x=.c (.slice none 0 0)∨∃j o,x=.v j/\S.db[j]? = some ⟨.full,o⟩)∨∃j,x=.v j/\S.ca j=true:=by
 unfold qAx at h;split at h
 ·exact .inl (.inl rfl)
 ·rename_i j;simp only[dt]at h;rcases h with h|h
  ·exact .inr ⟨_,rfl,h⟩
  unfold St.rj at h;grind
 cases h
theorem qB3{S:St}:∀{db:List VSt} {az:LS},aF S db az=true->az.length=db.length
 | [],[],_=>rfl
 | [],_::_,h=>by cases h
 |⟨k,o⟩::db,[],h=>by cases h
 |⟨k,o⟩::db,a::az,h=>by simp only[aF,aE]at h;simp[qB3 h.2]
end
section
variable{E:Env}{n0:Lim}{H0:AH}{g0:zR}{S:St}{ρ:LR}{ve:LH}{lb:LI}{g:zR}{fr:Fr}{H:AH}{Q:Res1->Prop}{HS:LO->LR->La}
theorem qLc{S1:St}{g1:zR}(u:SR E n0 H0 g0 S1 ρ ve lb g1 fr H){p:Pat}{sz:Nat}{az:LS}(hc:dN sz p az S1=true)(hF:n0.F.length<=p.ae.length):SR E n0 H0 g0 (p.st sz) (SV.ds (getD ρ) az) (pC ve lb az) lb g1 fr H:=by
 unfold dN at hc;simp only[aE]at hc;obtain⟨⟨⟨⟨⟨⟨c1,c2⟩,c3⟩,c4⟩,c5⟩,c6⟩,c7⟩:=hc;have c1:=vW c1;rw[al]at c2 c3;have hlen:=qB3 c5;have P:getD (SV.ds (getD ρ) az)=qAN (getD ρ) az:=qMP _ _;have var:∀i s,p.db[i]? = some s->∃x,az[i]? = some x/\pC ve lb az i=x.val ve lb/\qAN (getD ρ) az i=x.d (getD ρ):=by intro i s hs;obtain⟨x,w,_⟩:=bU c5 hs;exact⟨x,w,by simp only[pC,w],by simp only[qAN,w]⟩
 have fresh:∀i B,(p.st sz).ca i=true->jW (pC ve lb az i)=some B->∃j,az[i]? = some (.v j)/\S1.ca j=true/\jW (ve j)=some B:=by
  intro i B J F;obtain⟨o,hs⟩:=zT.1 J;obtain⟨x,w,_,I⟩:=bU c5 hs;simp only at I;simp only[pC,w]at F;rcases aW I with(rfl|⟨j,M,rfl,G⟩)|⟨j,rfl,G⟩
  ·simp[SV.val,jW]at F
  ·have F:jW (ve j)=some B:=F;rw[qGC.own (u.vars j _ G).2]at F;cases F
  ·exact⟨j,w,G,F⟩
 have live:∀b,(p.st sz).live b->S1.live b:=by
  intro b ⟨x,w⟩;obtain⟨y,R,r⟩:=mU c4 w;cases y with
  |none=>cases x<;>cases r
  |some y=>exact⟨y,R⟩
 refine { len:=?_,wf:=u.wf,mem:=u.mem,base:=u.base,fix:=⟨hF,u.fix.2⟩,vars:=?_,ae:=?_,ei:=λb hb=>u.ei b (live b hb),cn:=?_,km:=λa b ha hb=>u.km a b (live a ha) (live b hb),h7:=?_,hU:=?_,
          sz:=?_,rd:=u.rd,af:=?_,kh:=?_,hN:=u.hN,low:=u.low,gk:=u.gk,tab:=u.tab}
 ·rw[SV.lq,bk,hlen];rfl
 ·intro i s hs;obtain⟨x,w,X,I⟩:=bU c5 hs;rw[P];have U:pC ve lb az i=x.val ve lb:=by simp only[pC,w]
  have hdd:qAN (getD ρ) az i=x.d (getD ρ):=by simp only[qAN,w]
  rw[U,hdd];obtain⟨k,o⟩:=s;have one:DR g1 (x.d (getD ρ)) (x.val ve lb)->o=true->(x.d (getD ρ)).one=true:=λhd e=>by rw[←hd.one];exact qFN u.toSM (X e) hd
  cases k<;>simp only at I
  ·have:=j6 u.toSM I;exact⟨one this,this⟩
  ·obtain⟨j,M,rfl,G⟩:=I;have:=(u.vars j _ G).2;exact⟨one this.dr,this⟩
  ·rcases aW I with(rfl|⟨j,M,rfl,G⟩)|⟨j,rfl,G⟩
   ·exact⟨λ_=>rfl,.inl (.inl ⟨rfl,rfl⟩)⟩
   ·exact⟨λ_=>qGC.one (u.vars j _ G).2,.inl (u.vars j _ G).2⟩
   ·obtain⟨M,hj'⟩:=zT.1 G;exact⟨λe=>qI0 u.toSM (X e),(u.vars j _ hj').2⟩
  ·exact⟨λe=>(by simp only at e I;rw[I]at e;cases e),trivial⟩
  ·obtain⟨j,rfl,G⟩:=I;have:=qIV u.toSM G;exact⟨one this.1,this⟩
 ·intro b x w;obtain⟨y,R,r⟩:=mU c4 w;have K:=c3 _ (be w);cases y with
  |none=>cases x<;>cases r
  | some y =>
   obtain⟨q1,q⟩:=u.ae b y R;rw[P];refine⟨?_,?_⟩
   ·cases x with
    |cells xs=>exact dG K
    |whole x n=>exact dH K
    |loop _ _=>trivial
    |b5 _ xs=>exact dG K
   · have A:∀{z:Blk},z.od=false->y.od=false->(∀cs,j5 (getD ρ) ve lb cs y->j5 (qAN (getD ρ) az) (pC ve lb az) lb cs z)->nL n0 (qAN (getD ρ) az) (pC ve lb az) lb H.blocks.get (lb b) z:=by
       intro z hz hyl X
       obtain⟨el,rt,cs,q2,q3,C⟩:=q.cells hyl
       cases z with
       |loop _ _=>cases hz
       |b5 _ _=>cases hz
       |cells _=>exact⟨el,rt,cs,q2,q3,X _ C⟩
       |whole _ _=>exact⟨el,rt,cs,q2,q3,X _ C⟩
     cases x with
     | loop st pd=>
       cases y with
       | loop st' pd'=>
         simp only[qAA,aE]at r
         rw[vW r.1,vW r.2]
         exact q
       |cells _=>cases r
       |whole _ _=>cases r
       |b5 _ _=>cases r
     | cells xs=>
       cases y with
       | cells ys=>
         refine A rfl rfl λcs C=>?_
         simp only[j5]at C ⊢
         rw[C]
         exact(rR (ρ:=getD ρ) r).1.symm
       |whole y m=>cases r
       |loop _ _=>cases r
       |b5 _ _=>cases r
     | b5 t xs=>
       cases y with
       | b5 t' ys=>
         simp only[qAA,aE]at r
         have ht:=vW r.1
         subst ht
         cases t with
         | zero=>
           obtain⟨rt,p0,cs,b1,L,b3⟩:=q
           refine⟨rt,p0,cs,b1,L,?_⟩
           simp only[j5]at b3 ⊢
           rw[b3]
           exact(rR (ρ:=getD ρ) r.2).1.symm
         | succ t=>
           obtain⟨rt,p0,cs,b1,L,b4,b3⟩:=q
           refine⟨rt,p0,cs,b1,L,b4,?_⟩
           simp only[j5]at b3 ⊢
           rw[b3]
           exact(rR (ρ:=getD ρ) r.2).1.symm
       |cells _=>cases r
       |whole _ _=>cases r
       |loop _ _=>cases r
     | whole x n=>
       cases y with
       |loop _ _=>cases r
       |b5 _ _=>cases r
       | cells ys=>
         refine A rfl rfl λcs C=>?_
         simp only[qAA,aE]at r
         obtain⟨f1,f2⟩:=yS (ve:=ve) (lb:=lb) (ρ:=getD ρ) r.2
         simp only[j5]at C ⊢
         rw[f1,f2,C]
         refine⟨rfl,SV.ds (getD ρ) ys,rfl,?_⟩
         rw[SV.lq,bk];exact(vW r.1).symm
       | whole y m=>
         refine A rfl rfl λcs C=>?_
         simp only[qAA,aE]at r
         obtain⟨f1,f2⟩:=yS (ve:=ve) (lb:=lb) (ρ:=getD ρ) r.2
         simp only[j5]at C ⊢
         rw[f1,f2,vW r.1]
         exact C
 ·intro i B J F;obtain⟨j,_,O,N⟩:=fresh i B J F;exact u.cn j B O N
 ·intro i i' B J Z F hB';obtain⟨j,j1,O,N⟩:=fresh i B J F;obtain⟨j',k1,k2,k3⟩:=fresh i' B Z hB';have hjj:=u.h7 j j' B O k2 N k3;subst hjj;obtain⟨o,hs⟩:=zT.1 J;obtain⟨M,W⟩:=zT.1 Z;have l1:i<p.db.length:=(gI hs).1;have l2:i'<p.db.length:=(gI W).1;have hd:=c6;unfold qEW at hd;rw[al]at hd;have hd1:=hd i (je.2 l1);rw[al]at hd1;have hd2:=hd1 i' (je.2 l2);have hs2:p.db[i]? = some ⟨.fresh,o⟩:=hs;have V:p.db[i']? = some ⟨.fresh,M⟩:=W;simp only[qVk,hs2,V,j1,k1,bj,Bool.not_true,Bool.or_false]at hd2;exact vW hd2
 ·intro b i hb J F;obtain⟨j,_,O,N⟩:=fresh i _ J F;exact u.hU b j (live b hb) O N
 ·rw[u.sz];exact c1
 ·intro t x w;have hm:(t,x)∈p.af:=by
   rcases qCS p.af .leaf w with h|h
   ·exact h
   ·cases h
  have:=c2 _ hm;simp only[aE]at this;obtain⟨b1,L⟩:=this;split at L
  ·rename_i y R;obtain⟨f1,_⟩:=yS (ve:=ve) (lb:=lb) (ρ:=getD ρ) L;refine⟨dH b1,?_⟩;rw[f1];exact(u.af t y R).2
  ·cases L
 ·intro j l hl t x w;obtain⟨q1,l',y,q2,q3,C⟩:=qEQ c7 hl w;obtain⟨_,f,q5,q6⟩:=u.kh j l' q2 t y q3;exact⟨q1,f,q5,by rw[(yS (ve:=ve) (lb:=lb) (ρ:=getD ρ) C).1];exact q6⟩
theorem qHs(h:SR E n0 H0 g0 S ρ ve lb g fr H){p:Pat}{sz:Nat}{fin:LS->Tree}(y:wp E HS Q (qKK fin sz p S) ρ)(q:n0.F.length<=p.ae.length):∃az e g',SR E n0 H0 g0 (p.st sz) (SV.ds (getD ρ) az) e lb g' fr H/\wp E HS Q (fin az) ρ:=by
 unfold qKK at y;split at y
 ·cases y
 rename_i az l;simp only at y;obtain⟨u,w,r⟩:=xT (oS p.db az) h;obtain⟨j,y⟩:=jQ y;exact⟨az,_,u,qLc r j q,y⟩
theorem qBE(h:SR E n0 H0 g0 S ρ ve lb g fr H){p:Pat}{sz k:Nat}(e:wp E HS Q (wN sz p k S) ρ)(j:n0.F.length<=p.ae.length):∃ds y g',SR E n0 H0 g0 (p.st sz) ds y lb g' fr H/\Q (.jump k ds):=by obtain⟨az,y,g',q,l⟩:=qHs h e j;exact⟨_,y,g',q,l⟩
end
end Go.Am
