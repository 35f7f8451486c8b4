/- Symbolic runs: fields, arithmetic, conversions. Conditions: none. -/
import Derived.Test.YtminhjecpnpaeaaGreatDoorSx2
set_option linter.unusedVariables false
set_option linter.unusedSimpArgs false
namespace Go.Am
open Go
mutual
theorem qIj{g:zB}:∀{d:D} {v u:Value},DR g d v->d.toV=some u->v=u
 |.leaf x,v,u,h,hu=>by simp only[D.toV,oI]at hu;rw[h.leaf_inv.1,hu]
 |.agg cs,v,u,h,hu=>by
  simp only[D.toV,Option.map_eq_some_iff]at hu;obtain⟨l,y,rfl⟩:=hu;cases h with
  |agg h o=>rw[qJO h y]
 |.nil,v,u,h,hu=>by simp only[D.toV,oI]at hu;cases h;exact hu
 |.sl _ _ _,_,_,_,hu=>by cases hu
 |.tup _,_,_,_,hu=>by cases hu
 |.ptr _ _,_,_,_,hu=>by cases hu
 |.clo _ _ _,_,_,_,hu=>by cases hu
 |.iface _ _,_,_,_,hu=>by cases hu
theorem qJO{g:zB}:∀{ds:List D} {vs us:List Value},DRs g ds vs->D.toVs ds=some us->vs=us
 | [],_,_,.nil,hu=>by simpa[D.toVs]using hu
 |d::ds,_,us,.cons h x,hu=>by
  simp only[D.toVs]at hu;split at hu
  ·rename_i a b c y;cases hu;rw[qIj h c,qJO x y]
  cases hu
end
theorem tK{v:Option Value}{d:D}(h:cX v=some d):∃u,v=some u/\d=.leaf u/\wJ u=true:=by unfold cX at h;grind
section
variable{E:Env}{n0:Lim}{H0:AH}{g0:zB}{S:St}{ρ:List D}{ve:Nat->Value}{lb:Nat->Nat}{g:zB}{fr:Fr}{H:AH}{HS:FuncId->List D->D->Prop}{Q:Res1->Prop}{o:Oper}{κ:K1}{wm:Bool}
theorem jS.new(h:SR E n0 H0 g0 S ρ ve lb g fr H){k:VK}{one:Bool}{d:D}{v:Value}(y:k≠.fresh)(hv:qA8 g H.blocks.get n0 ⟨k,one⟩ d v)(x:wp E HS Q (κ (.v S.n) (S.new k one)) (ρ++[d]))(b:vT E fr o H=some (.val v,H)):jS wm E HS Q n0 H0 g0 fr H o κ:=
 .same (h.new y hv) pJ x (by simp only[SV.val,jA];exact b)
theorem qA6{t:TypeId}{f off:Nat}{c:TI}(h:fN E t f=some (off,c)):∃x b sz z ag fd,E.types.get t=some ⟨.struct x,sz,b,z,ag⟩/\x[f]? = some fd/\E.types.get fd.type=some c/\fd.offset=off:=by
 unfold fN at h;split at h
 ·rename_i x sz b z ag i;split at h
  ·rename_i fd j;split at h
   ·rename_i e y;cases h;exact⟨x,b,sz,z,ag,fd,i,j,y,rfl⟩
   cases h
  cases h
 cases h
theorem qJc{t:TypeId}{f off:Nat}{x:TI}(h:fN E t f=some (off,x))(y:Nat.beq x.size 0=false)(b i:Nat):aG E t (.pointer (some ⟨b,i,none⟩)) f=some (.pointer (some ⟨b,i+off,none⟩)):=by obtain⟨k,l,sz,z,ag,fd,j,e,h3,c⟩:=qA6 h;simp only[aG,j,e,h3,Option.bind_some,y,cond_false,qBz,c];rfl
theorem qNz(s i:Value)(sz a b:Nat):∃x h,qCc s i sz a=.pointer (some ⟨x,h,none⟩)/\qCc s i sz (a+b)=.pointer (some ⟨x,h+b,none⟩):=by unfold qCc;split;all_goals grind
theorem qQy(p:Value)(a b:Nat):∃x h,qQz p a=.pointer (some ⟨x,h,none⟩)/\qQz p (a+b)=.pointer (some ⟨x,h+b,none⟩):=by unfold qQz;split;all_goals grind
theorem qFr(h:SR E n0 H0 g0 S ρ ve lb g fr H){t:TypeId}{x:Operand}{f:Nat}(G:o.op=.fieldAddr t x f)(j:wp E HS Q (vZ E o S κ) ρ):jS wm E HS Q n0 H0 g0 fr H o κ:=by
 unfold vZ at j;rw[G]at j;simp only at j;split at j;case h_2=>cases j
 rename_i y off J L M;obtain⟨N,he⟩:=zJ (E:=E) h L;cases C:Nat.beq J.size 0 with
 |true=>rw[C]at j;cases j
 |false=>
  rw[C]at j;simp only[cond_false]at j;obtain⟨I,S',ρ',k,g',e,O,c,q,K⟩:=qHH h N j;rw[←K]at he;have p:∀(z:SV) (b i:Nat),z.bd S'.n S'.blks.length->I.val k lb=.pointer (some ⟨b,i,none⟩)->z.val k lb=.pointer (some ⟨b,i+off,none⟩)->wp E HS Q (κ z S') ρ'->jS wm E HS Q n0 H0 g0 fr H o κ:=by intro z b i B hv A j;refine .same O B j ?_;unfold vT;rw[G];simp only[he,hv,qJc M C,one,Option.map_some,A]
  simp only at c;split at c
  ·rename_i b l;exact p (.loc b (Nat.add l off)) (lb b) l q rfl rfl c
  ·rename_i s i sz l;obtain⟨F,w,u,r⟩:=qNz (s.val k lb) (i.val k lb) sz l off;exact p (.ptr s i sz (Nat.add l off)) F w q u r c
  ·rename_i i l;obtain⟨F,w,u,r⟩:=qQy (k i) l off;exact p (.pp i (Nat.add l off)) F w q u r c
  cases c
theorem qNM(h:SR E n0 H0 g0 S ρ ve lb g fr H){t:TypeId}{x:Operand}{f:Nat}(C:o.op=.field t x f)(b:wp E HS Q (vZ E o S κ) ρ):jS wm E HS Q n0 H0 g0 fr H o κ:=by
 unfold vZ at b;rw[C]at b;simp only at b;have j:∀{vs:List Value} {off:Nat} {c:TI} {v:Value},ev E fr x=some (.agg ⟨vs⟩)->fN E t f=some (off,c)->nB c.agg c.size off vs=some v->vT E fr o H=some (.val v,H):=by
  intro vs off c v he l p;obtain⟨O,P,sz,z,ag,fd,G,q,h3,L⟩:=qA6 l;subst L;unfold vT;rw[C];simp only[he,G,q];have:hZ E fd.type vs fd.offset=some v:=by simp only[hZ,h3,Option.bind_some];exact p
  simp only[this,one,Option.map_some]
 split at b
 ·rename_i cs off c r l;obtain⟨F,he⟩:=zJ (E:=E) h r;split at b
  ·rename_i y p;exact .same h (qGL p F) b (j he l (qGK p))
  cases b
 ·rename_i i off c r l;obtain⟨F,he⟩:=zJ (E:=E) h r;obtain⟨cs,hd,N,B,M,b⟩:=qK7 h b;obtain⟨vs,hv,u,w⟩:=wT B hd;obtain⟨d,G,q,h3⟩:=zV b;have A:getD (ρ++[getD ρ i]) S.n=.agg cs:=by rw[qFJ h.toSM,hd]
  simp only[SV.ds,SV.d,qCX,A,D.cells]at q;obtain⟨v,K,J,I,_⟩:=s8 u w q;simp only[SV.val,hv]at he;exact .new M (k:=.pure) (one:=!c.agg) (by simp) ⟨λe=>I (by simpa using e),J⟩ h3 (j he l K)
 cases b
theorem qGP(h:SR E n0 H0 g0 S ρ ve lb g fr H){x:Operand}(p:o.op=.nilCheck x)(e:wp E HS Q (vZ E o S κ) ρ):jS wm E HS Q n0 H0 g0 fr H o κ:=by
 unfold vZ at e;rw[p]at e;simp only at e;split at e
 ·rename_i b F l;obtain⟨r,he⟩:=zJ (E:=E) h l;refine .same h r e ?_;unfold vT;rw[p];simp only[SV.val]at he;simp only[he,SV.val]
 ·rename_i f a b l;obtain⟨r,he⟩:=zJ (E:=E) h l;refine .same h r e ?_;unfold vT;rw[p];simp only[SV.val]at he;simp only[he,SV.val]
 ·rename_i t y l;obtain⟨r,he⟩:=zJ (E:=E) h l;refine .same h r e ?_;unfold vT;rw[p];simp only[SV.val]at he;simp only[he,SV.val]
 ·rename_i i l;obtain⟨r,he⟩:=zJ (E:=E) h l;obtain⟨d,C,j,h3⟩:=zV e;have z:=zE h.toSM (C _ (List.mem_singleton.2 rfl));simp only[SV.ds,SV.d,qYt]at j;simp only[SV.val]at he;have q:DR g (getD ρ i) (ve i)->d=getD ρ i->d.one=true->vT E fr o H=some (.val (ve i),H)->jS wm E HS Q n0 H0 g0 fr H o κ:=by intro c hd u B;exact .new h (k:=.pure) (one:=true) (by simp) ⟨λ_=>u,by rw[hd];exact c⟩ h3 B
  have c:DR g (getD ρ i) (ve i):=z.dr (by cases A:getD ρ i<;>simp only[SV.d,A]at j ⊢<;>first|rfl|(cases j));split at j
  ·rename_i f a b hd;cases j;refine q c rfl (by rw[hd];rfl) ?_;rw[hd]at c;unfold vT;rw[p];simp only[he];generalize ve i=w at c;cases c with
   |clo _ _ _=>rfl
  ·rename_i cs off hd;cases j;refine q c rfl (by rw[hd];rfl) ?_;rw[hd]at c;unfold vT;rw[p];simp only[he];generalize ve i=w at c;cases c with
   |ptr _ _ _=>rfl
  ·rename_i t d' hd;cases j;refine q c rfl (by rw[hd];rfl) ?_;rw[hd]at c;unfold vT;rw[p];simp only[he];generalize ve i=w at c;cases c with
   |iface _=>rfl
  cases j
 cases e
theorem qLS{op:BinOp}{t:TypeId}{x y:Operand}{neg:Bool}(h:qCl E op t x y neg=true):(∃e k sz z ag,E.types.get t=some ⟨.slice e,sz,k,z,ag⟩)/\oW E op t x y (.slice none 0 0) (.slice none 0 0)=some (.bool !neg)/\(op=.eql/\neg=false∨op=.neq/\neg=true):=by
 unfold qCl wM at h;simp only[aE]at h;obtain⟨⟨i,c⟩,h3⟩:=h;refine⟨?_,?_,?_⟩
 ·split at i
  ·exact⟨_,_,_,_,_,by assumption⟩
  cases i
 ·split at c
  ·rename_i b j;rw[j];simp only[beq_iff_eq]at c;rw[c]
  cases c
 split at h3
 ·left;exact⟨rfl,by simpa using h3⟩
 ·right;exact⟨rfl,h3⟩
 cases h3
theorem qNX{x:SV}(h:qFD x=true):x=.c (.slice none 0 0):=by
 unfold qFD at h;split at h
 ·rfl
 cases h
theorem qUw(h:SR E n0 H0 g0 S ρ ve lb g fr H){op:BinOp}{t:TypeId}{x y:Operand}{b:Option BinOp->Bool}{bb:_}(P:o.op=.binOp op t x y bb)(i:wp E HS Q (vZ E o S κ) ρ):jS wm E HS Q n0 H0 g0 fr H o κ:=by
 unfold vZ at i;rw[P]at i;simp only at i;split at i;case h_2=>cases i
 rename_i a c X U;obtain⟨W,M⟩:=zJ (E:=E) h X;obtain⟨V,L⟩:=zJ (E:=E) h U;have A:∀{v:Value},oW E op t x y (a.val ve lb) (c.val ve lb)=some v->vT E fr o H=some (.val v,H):=by intro v hv;unfold vT;rw[P];simp only[M,L,hv,one,Option.map_some]
 cases F:(qFD c&&(qCl E op t x y true||qCl E op t x y false))with
 | true=>
  rw[F]at i;simp only[aE,cond_true]at F i;have N:=qNX F.1;subst N;obtain⟨d,Z,w,h3⟩:=zV i;have hr:=zE h.toSM (Z _ (List.mem_singleton.2 rfl));have p:∃j,qCl E op t x y j=true:=by grind
  obtain⟨j,p⟩:=p;obtain⟨⟨e,bt,sz,z,ag,O⟩,C,B⟩:=qLS p;have K:qTu op=j:=by rcases B with⟨rfl,rfl⟩|⟨rfl,rfl⟩<;>rfl
  rw[K]at w;simp only[SV.ds,eG]at w;generalize R:a.d (getD ρ)=dd at w hr;cases dd with
  |nil=>
   simp only[oI]at w;subst w;have hv:=hr.dr rfl;generalize G:a.val ve lb=vv at hv;cases hv with
   |nil=>refine .new h (k:=.pure) (one:=true) (by simp) (v:=.bool !j) ⟨λ_=>rfl,.leaf rfl⟩ h3 (A ?_);rw[G];exact C
  |sl el sz es=>
   simp only[oI]at w;subst w;obtain⟨b',o',l,c',_,_,_,_,q⟩:=hr.sl h.mem;refine .new h (k:=.pure) (one:=true) (by simp) (v:=.bool j) ⟨λ_=>rfl,.leaf rfl⟩ h3 (A ?_);rw[q.v];rcases B with⟨rfl,rfl⟩|⟨rfl,rfl⟩
   ·simp[oW,zF,zK,qD6,O,qAT,SV.val]
   simp[oW,zF,zK,qD6,O,qAT,SV.val]
  |_=>cases w
 |false=>
  rw[F]at i;simp only[cond_false]at i;obtain⟨J,i⟩:=jC i;simp only[aE]at J;simp only[wp]at i;split at i;case h_2=>cases i
  rename_i d hd;simp only[SV.ds,aI]at hd;split at hd;case h_2=>cases hd
  rename_i u v hu hv;obtain⟨r,hr,rfl,I⟩:=tK hd;have e1:=qIj (jQ h.toSM J.1) hu;have e2:=qIj (jQ h.toSM J.2) hv;exact .new h (k:=.pure) (one:=true) (by simp) (v:=r) ⟨λ_=>rfl,.leaf I⟩ i (A (by rw[e1,e2];exact hr))
theorem qXM(h:SR E n0 H0 g0 S ρ ve lb g fr H){op:UnOp}{t:TypeId}{x:Operand}(l:o.op=.unOp op t x)(e:wp E HS Q (vZ E o S κ) ρ):jS wm E HS Q n0 H0 g0 fr H o κ:=by
 unfold vZ at e;rw[l]at e;simp only at e;split at e;case h_2=>cases e
 rename_i y w;obtain⟨F,he⟩:=zJ (E:=E) h w;split at e
 ·rename_i b A;have:y=.c (.bool b):=by unfold qPp at A;grind
  subst this;simp only[SV.val]at he;refine .same h (y:=.c (.bool !b)) trivial e ?_;unfold vT;rw[l];simp only[he,SV.val];rfl
 obtain⟨d,B,c,h3⟩:=zV e;have q:=zE h.toSM (B _ (List.mem_singleton.2 rfl));simp only[SV.ds]at c;generalize z:y.d (getD ρ)=C at c q;cases C with
 |leaf u=>
  rw[qYs]at c;have hv:=(q.dr rfl).leaf_inv.1;cases p:zF u with
  |false=>rw[p]at c;cases c
  |true=>rw[p]at c;simp only[cond_true]at c;obtain⟨r,j,rfl,i⟩:=tK c;refine .new h (k:=.pure) (one:=true) (by simp) (v:=r) ⟨λ_=>rfl,.leaf i⟩ h3 ?_;unfold vT;rw[l];rw[hv]at he;simp only[he,p,cond_true,j,one,Option.map_some]
 |_=>cases c
theorem qQM(h:SR E n0 H0 g0 S ρ ve lb g fr H){s d:TypeId}{x:Operand}(B:o.op=.convert s d x)(z:fR E s d=none)(w:uJ E s d=false)(i:wp E HS Q (vZ E o S κ) ρ):jS wm E HS Q n0 H0 g0 fr H o κ:=by
 unfold vZ at i;rw[B]at i;simp only[z,w,cond_false]at i;split at i;case h_2=>cases i
 rename_i y C;obtain⟨K,he⟩:=zJ (E:=E) h C;obtain⟨L,G,j,h3⟩:=zV i;have A:=zE h.toSM (G _ (List.mem_singleton.2 rfl));simp only[SV.ds]at j;generalize F:y.d (getD ρ)=I at j A;cases I with
 | leaf u=>
  rw[qRI]at j;obtain⟨hv,p⟩:=(A.dr rfl).leaf_inv;obtain⟨r,e,rfl,q⟩:=tK j;refine .new h (k:=.pure) (one:=true) (by simp) (v:=r) ⟨λ_=>rfl,.leaf q⟩ h3 ?_;unfold vT;rw[B];rw[hv]at he;simp only[he];cases u with
  |string b=>
   simp only[qKZ]at e;simp only;split at e
   ·cases e
   rename_i J;split
   ·grind
   rw[e];rfl
  |slice a l c=>simp[wJ]at p
  |pointer a=>cases e
  |_=>
   simp only[qKZ]at e;rw[cond_eq_ite]at e;simp only;rw[cond_eq_ite];split at e
   ·rename_i t;rw[if_pos t,e];rfl
   cases e
 |_=>cases j
theorem qUs(h:SR E n0 H0 g0 S ρ ve lb g fr H){t:TypeId}{x:Operand}(k:o.op=.makeInterface t x)(b:wp E HS Q (vZ E o S κ) ρ):jS wm E HS Q n0 H0 g0 fr H o κ:=by
 unfold vZ at b;rw[k]at b;simp only at b;cases c:E.types.get t with
 |none=>rw[c]at b;cases b
 | some j=>
  cases e:rP S x with
  |none=>rw[c,e]at b;obtain⟨d,_,_,_,_⟩:=j;cases d<;>cases b
  | some y=>
   rw[c,e]at b;obtain⟨l,he⟩:=zJ (E:=E) h e;have i:wp E HS Q (κ (.ifc t y) S) ρ->vT E fr o H=some (.val (.iface t (y.val ve lb)),H)->jS wm E HS Q n0 H0 g0 fr H o κ:=λb p=>
    .same h (y:=.ifc t y) l b p
   obtain⟨d,_,_,_,_⟩:=j;cases d<;>first|(cases b;done)|skip
   all_goals refine i b ?_;unfold vT;rw[k];simp only[he,c,one,Option.map_some]
theorem qIE(h:SR E n0 H0 g0 S ρ ve lb g fr H){x:Operand}{i:Nat}(q:o.op=.extract x i)(b:wp E HS Q (vZ E o S κ) ρ):jS wm E HS Q n0 H0 g0 fr H o κ:=by
 unfold vZ at b;rw[q]at b;simp only at b;split at b
 ·rename_i cs l;obtain⟨t,he⟩:=zJ (E:=E) h l;split at b
  ·rename_i y r;refine .same h ((SV.bds_iff.1 t) y (List.mem_of_getElem? r)) b ?_;unfold vT;rw[q];simp only[SV.val,SV.vals_map]at he;simp only[he,List.getElem?_map,r,Option.map_some,one]
  cases b
 ·rename_i j l;obtain⟨t,he⟩:=zJ (E:=E) h l;obtain⟨d,B,c,h3⟩:=zV b;have p:=zE h.toSM (B _ (List.mem_singleton.2 rfl));simp only[SV.ds,SV.d]at c p;generalize A:getD ρ j=C at c p;cases C with
  |tup ds=>
   rw[qO5]at c;have hv:=p.dr rfl;simp only[SV.val]at hv he;generalize z:ve j=F at hv he;cases hv with
   |tup hv=>obtain⟨v,w,u⟩:=hv.get _ _ c;refine .new h (k:=.pure) (one:=false) (by simp) (v:=v) ⟨(λe=>by cases e),u⟩ h3 ?_;unfold vT;rw[q];simp only[he,w,one,Option.map_some]
  |_=>cases c
 cases b
end
end Go.Am
namespace Go.Am
open Go
section
variable{E:Env}{n0:Lim}{H0:AH}{g0:zB}{S:St}{ρ:List D}{ve:Nat->Value}{lb:Nat->Nat}{g:zB}{fr:Fr}{H:AH}{HS:FuncId->List D->D->Prop}{Q:Res1->Prop}{o:Oper}{κ:K1}{wm:Bool}
theorem xM{t e:TypeId}(h:wM E t=some e):∃sz x z ag,E.types.get t=some ⟨.slice e,sz,x,z,ag⟩:=by
 unfold wM at h;split at h
 ·cases h;exact⟨_,_,_,_,by assumption⟩
 cases h
theorem qFq(h:SR E n0 H0 g0 S ρ ve lb g fr H){t:TypeId}{x i:Operand}(J:o.op=.indexAddr t x i)(p:wp E HS Q (vZ E o S κ) ρ):jS wm E HS Q n0 H0 g0 fr H o κ:=by
 unfold vZ at p;rw[J]at p;simp only at p;split at p;case h_2=>cases p
 rename_i y j el O U C;obtain⟨w,r⟩:=zJ (E:=E) h O;obtain⟨u,q⟩:=zJ (E:=E) h U;obtain⟨sz,bt,z,ag,P⟩:=xM C;split at p;case h_2=>cases p
 rename_i e A;obtain⟨B,p⟩:=jC p;simp only[aE]at B;obtain⟨d,h1,K,h3⟩:=zV p;have N:=zE h.toSM B.1;have M:=zE h.toSM B.2;simp only[SV.ds,qJj,Option.map_eq_some_iff]at K;obtain⟨ed,F,rfl⟩:=K;obtain⟨b,o',l,c,k,n,cs,rO,zS,rt,own,I,G,L,Z,_,X,W,V⟩:=qBv h.mem N M F;have hle:Nat.ble (n+1) l=true:=bL L;have R:=h.new (k:=.pure) (o:=true) (by simp) (d:=.leaf (.bool true)) (v:=.bool true) ⟨λ_=>rfl,.leaf rfl⟩;have ex:ExtS S ρ ve g (S.new .pure true) (ρ++[.leaf (.bool true)]) (mW ve S.n (.bool true)) g:=wN h.len;refine .same R (y:=.ptr y j e.size 0) ⟨ex.bd w,ex.bd u⟩ h3 ?_;simp only[SV.val,ex.val (lb:=lb) w,ex.val (lb:=lb) u];unfold vT;rw[J];rw[I]at r;rw[G]at q;simp only[r,q,Option.bind_some,nat?,qAk,P,A,hle,cond_true,one,Option.map_some,I,G,qCc];rfl
theorem qNL(h:SR E n0 H0 g0 S ρ ve lb g fr H){t:TypeId}{x i:Operand}(u:o.op=.index t x i)(c:wp E HS Q (vZ E o S κ) ρ):jS wm E HS Q n0 H0 g0 fr H o κ:=by
 unfold vZ at c;rw[u]at c;simp only at c;split at c;case h_2=>cases c
 rename_i y j sz P z ag C K F;obtain⟨M,l⟩:=zJ (E:=E) h C;obtain⟨L,e⟩:=zJ (E:=E) h K;obtain⟨d,w,b,h3⟩:=zV c;have p:=zE h.toSM (w y (by simp));have r:=zE h.toSM (w j (by simp));simp only[SV.ds]at b;generalize B:y.d (getD ρ)=A at b p;generalize J:j.d (getD ρ)=O at b r
 match A,b,p with
 |.leaf (.string s),b,p=>
  rw[qO8]at b;split at b
  ·rename_i n G;obtain⟨k,I⟩:=cJ r G;simp only[Option.map_eq_some_iff]at b;obtain⟨N,q,rfl⟩:=b;have hv:=(p.dr rfl).leaf_inv.1;refine .new h (k:=.pure) (one:=true) (by simp) (v:=.int .u8 N.toNat) ⟨λ_=>rfl,.leaf rfl⟩ h3 ?_;unfold vT;rw[u];rw[hv]at l;rw[I]at e;simp only[l,e,Option.bind_some,nat?,F,q,one,Option.map_some]
  cases b
theorem qCe{i:Nat}{x:Operand}{r:List (Nat×Operand)}{v:Value}{ps:List (Nat×Value)}(hv:ev E fr x=some v)(e:dC v)(y:parts? E fr r=some ps):parts? E fr ((i,x)::r)=some ((i,v)::ps):=by
 simp only[parts?,hv];split
 ·rename_i h;cases h
 ·rename_i c h;simp only[oI]at h;exact absurd h (e _)
 rename_i v' b h;simp only[oI]at h;subst h;rw[y];rfl
theorem qDj{place:Nat->Option (Nat×Nat×Bool)}{place':Nat->Option (Nat×Nat)}(p:∀i off size ag,place i=some (off,size,ag)->place' i=some (off,size)):∀(B:List (Nat×Operand)) {S:St} {ρ:List D} {ve:Nat->Value} {g:zB} {cs:List SV} {κ:List SV->St->Tree},
  SR E n0 H0 g0 S ρ ve lb g fr H->SV.bds S.n S.blks.length cs->wp E HS Q (qDl E S place cs B κ) ρ->
  lY E HS Q n0 H0 g0 S ρ ve lb g fr H κ λl S' _ t _=>SV.bds S'.n S'.blks.length l/\∃vs,parts? E fr B=some vs/\dU (SV.vals ve lb cs) vs place'=some (SV.vals t lb l)
 | [],S,ρ,ve,g,cs,κ,h,q,e=>⟨cs,S,ρ,ve,g,.refl,h,e,q,[],rfl,rfl⟩
 |(i,x)::r,S,ρ,ve,g,cs,κ,h,q,e=>by
  simp only[qDl]at e
  split at e
  case h_2=>cases e
  rename_i off size ag y L K
  obtain⟨u,he⟩:=zJ (E:=E) h K
  obtain⟨l,U,C,j,g1,A,O,b,s1,s2,I,G⟩:=nL h u e
  simp only at b
  split at b
  case h_2=>cases b
  rename_i cs' k
  have c:=nU (ve:=j) (lb:=lb) k
  have z:SV.vals j lb cs=SV.vals ve lb cs:=SV.vals_congr A.ve (λ_ _=>rfl) q
  rw[z,s2]at c
  obtain⟨J,R,ρ2,ve2,g2,P,N,w,F,vs,t2,t3⟩:=qDj p r O (nV k (A.bds q) s1) b
  refine⟨J,R,ρ2,ve2,g2,A.trans P,N,w,F,_,qCe he G t2,?_⟩
  have M:(y.val ve lb).cells.toList.length=size:=by rw[←s2,SV.vals_map,List.length_map,I]
  simp only[dU,p _ _ _ _ L,M,c,qY,if_true]
  exact t3
theorem qNP(h:SR E n0 H0 g0 S ρ ve lb g fr H){t:TypeId}{ps:Array (Nat×Operand)}(A:o.op=.build t ps)(x:wp E HS Q (vZ E o S κ) ρ):jS wm E HS Q n0 H0 g0 fr H o κ:=by
 unfold vZ at x;rw[A]at x;simp only at x;split at x
 ·rename_i G sz L z w;obtain⟨_,x⟩:=jC x;obtain⟨l,S',ρ',q,g',e,C,c,u,vs,r,k⟩:=qDj (place':=fieldPlace? E G.toList) (λi off size ag b=>by
   simp only[fieldPlace?];split at b
   ·rename_i f I;simp only[Option.map_eq_some_iff,Prod.mk.injEq]at b;obtain⟨M,K,J,h3,N⟩:=b;have B:G.toList[i]? = some f:=by simpa using I
    simp only[B,K,Option.map_some,J,h3]
   cases b) ps.toList h (qLc _) x
  rw[qE1]at k;refine .same C (y:=.agg l) u c ?_;unfold vT;rw[A];simp only[r,aN,w,k,Option.map_some,one,SV.val]
 ·rename_i n p sz L z w;obtain⟨F,x⟩:=jC x;cases j:E.types.get p with
  |none=>rw[j]at F;cases F
  |some e=>obtain⟨l,S',ρ',q,g',ex,C,c,u,vs,r,k⟩:=qDj (place':=λi=>some (Nat.mul i e.size,e.size)) (λi off size ag b=>by simp only[j,Option.map_some,oI,Prod.mk.injEq]at b;rw[←b.1,←b.2.1]) ps.toList h (qLc _) x;rw[qE1]at k;refine .same C (y:=.agg l) u c ?_;unfold vT;rw[A];simp only[r,aN,w,j,Option.bind_some,k,Option.map_some,one,SV.val]
 cases x
theorem qB6(z:List Value):∀n,(xG z n).length=n*z.length
 |0=>by simp[xG]
 |n+1=>by simp[xG,qB6 z n,Nat.add_mul];omega
theorem eX:∀(a b c vs:List Value),b.length=vs.length->j4 (a++(b++c)) a.length vs=some (a++(vs++c))
 | [],b,c,vs,h=>by
  simp only[List.nil_append,List.length_nil];induction vs generalizing b with
  |nil=>cases b with
   |nil=>simp[j4]
   |cons _ _=>simp at h
  |cons v vs ih=>cases b with
   |nil=>simp at h
   |cons x b=>simp only[List.cons_append,j4];rw[ih b (by simpa using h)];rfl
 | x::a,b,c,vs,h=>by
  simp only[List.cons_append,List.length_cons];cases vs with
  |nil=>
   cases b with
   |nil=>simp only[j4,eX a [] c [] rfl,Option.map_some]
   |cons _ _=>simp at h
  |cons v vs=>simp only[j4,eX a b c (v::vs) h,Option.map_some]
theorem qHE{size:Nat}{ag:Bool}{z:List Value}(Z:z.length=size):∀(K:List (Nat×Operand)) {S:St} {ρ:List D} {ve:Nat->Value} {g:zB} {acc:List SV} {done:List Value} {κ:List SV->St->Tree},
  SR E n0 H0 g0 S ρ ve lb g fr H->SV.bds S.n S.blks.length acc->done.length=acc.length*size->done=(acc.map (SV.val ve lb)).flatMap (λv=>v.cells.toList)->
  (∀x∈acc,(x.d (getD ρ)).cells.length=size/\((x.d (getD ρ)).one=true∨∃cs,x.d (getD ρ)=.agg cs))->wp E HS Q (qAv size ag acc S K κ) ρ->
  lY E HS Q n0 H0 g0 S ρ ve lb g fr H κ λl S' ρ' c _=>SV.bds S'.n S'.blks.length l/\(∀x∈l,(x.d (getD ρ')).cells.length=size/\((x.d (getD ρ')).one=true∨∃cs,x.d (getD ρ')=.agg cs))/\
   l.length=acc.length+K.length/\∃vs,parts? E fr K=some vs/\dU (done++xG z K.length) vs (λi=>some (Nat.mul i size,size))=some ((l.map (SV.val c lb)).flatMap (λv=>v.cells.toList))
 | [],S,ρ,ve,g,acc,done,κ,h,L,C,hd,V,j=>⟨acc,S,ρ,ve,g,.refl,h,j,L,V,rfl,[],rfl,by simp[dU,xG,hd]⟩
 | (i,x)::r,S,ρ,ve,g,acc,done,κ,h,L,C,hd,V,j=>by
  simp only[qAv]at j
  split at j
  case h_2=>cases j
  rename_i y hy
  obtain⟨M,he⟩:=zJ (E:=E) h hy
  obtain⟨U,b⟩:=jC j
  have U:=vE U
  subst U
  have w:∀{A:St} {g1:zB},ExtS S ρ ve g A ρ ve g1->SR E n0 H0 g0 A ρ ve lb g1 fr H->wB A y=true->wp E HS Q (.bind (.chk ag size) [y] (qAv size ag (acc++[y]) (A.new .dead false) r κ)) ρ->
    lY E HS Q n0 H0 g0 S ρ ve lb g fr H κ λl S' ρ' c _=>SV.bds S'.n S'.blks.length l/\(∀x∈l,(x.d (getD ρ')).cells.length=size/\((x.d (getD ρ')).one=true∨∃cs,x.d (getD ρ')=.agg cs))/\
     l.length=acc.length+((acc.length,x)::r).length/\∃vs,parts? E fr ((acc.length,x)::r)=some vs/\dU (done++xG z ((acc.length,x)::r).length) vs (λi=>some (Nat.mul i size,size))=some ((l.map (SV.val c lb)).flatMap (λv=>v.cells.toList)):=by
   intro A g1 W t p j
   simp only[wp]at j
   split at j
   case h_2=>cases j
   rename_i d J
   simp only[SV.ds,aH]at J
   obtain⟨rfl,q1,q2⟩:=aM J
   have G:=zE t.toSM p
   have N:(y.d (getD ρ)).cells.length=size/\((y.d (getD ρ)).one=true∨∃cs,y.d (getD ρ)=.agg cs)/\(y.val ve lb).cells.toList.length=size/\dC (y.val ve lb):=by
    cases ag with
    |true=>
     obtain⟨cs,q,hl⟩:=q1 rfl
     have I:DR g1 (y.d (getD ρ)) (y.val ve lb):=G.dr (by rw[q];rfl)
     obtain⟨vs,hv,O,_⟩:=wT I q
     refine⟨by rw[q];exact hl,.inr ⟨cs,q⟩,?_,bG I q⟩
     rw[hv]
     show vs.length=size
     rw[O.length,hl]
    |false=>
     obtain⟨t,h2⟩:=q2 rfl
     obtain⟨h3,h4⟩:=qB8 G t
     refine⟨?_,.inl t,by rw[h3];exact h2.symm,h4⟩
     rw[h2]
     generalize y.d (getD ρ)=yd at t
     cases yd<;>first|rfl|(cases t;done)
   obtain⟨y1,y2,y3,y4⟩:=N
   have h':=t.new (k:=.dead) (o:=false) (by simp) (d:=y.d (getD ρ)) (v:=.bool true) ⟨(λe=>by cases e),trivial⟩
   have e:ExtS S ρ ve g (A.new .dead false) (ρ++[y.d (getD ρ)]) (mW ve A.n (.bool true)) g1:=W.trans (wN t.len)
   have F:SV.bds S.n S.blks.length (acc++[y]):=by
    rw[SV.bds_iff]at L ⊢
    intro u hu
    rcases List.mem_append.1 hu with hu|hu
    ·exact L u hu
    simp only[List.mem_singleton]at hu;subst hu;exact M
   have B:(acc++[y]).map (SV.val (mW ve A.n (.bool true)) lb)=(acc++[y]).map (SV.val ve lb):=by
    rw[←SV.vals_map,←SV.vals_map]
    exact SV.vals_congr e.ve (λ_ _=>rfl) F
   obtain⟨l,S',ρ',c,g',e',r1,r2,r3,r4,r5,vs,r6,X⟩:=qHE Z r (acc:=acc++[y]) (done:=done++(y.val ve lb).cells.toList) h' (e.bds F) (by simp[C,y3,Nat.add_mul]) (by
     rw[B,List.map_append,List.flatMap_append,hd];simp) (λu hu=>by
     have P:=(SV.bds_iff.1 F) u hu
     rw[e.d P]
     rcases List.mem_append.1 hu with hu|hu
     ·exact V u hu
     simp only[List.mem_singleton]at hu;subst hu;exact⟨y1,y2⟩) j
   refine⟨l,S',ρ',c,g',e.trans e',r1,r2,r3,r4,by simp at r5 ⊢;omega,_,qCe he y4 r6,?_⟩
   have R:j4 (done++xG z (r.length+1)) (acc.length*size) (y.val ve lb).cells.toList=some (done++((y.val ve lb).cells.toList++xG z r.length)):=by
    have:=eX done z (xG z r.length) (y.val ve lb).cells.toList (by rw[Z,y3])
    rw[C]at this
    exact this
   simp only[List.length_cons,dU,y3,qY,if_true,Nat.mul_eq,R]
   rw[List.append_assoc]at X
   exact X
  rw[cond_eq_ite]at b
  split at b
  ·rename_i p;exact w .refl h p b
  obtain⟨g1,W,t⟩:=mD y h
  obtain⟨p,b⟩:=jC b
  exact w W t p b
end
end Go.Am
namespace Go.Am
open Go
def zB.add(g:zB)(b:Nat)(k:ABlk):zB:=λc=>if c=b then some k else g c
theorem zB.le_add{g:zB}{b:Nat}{k:ABlk}(h:g b=none):zB.le g (g.add b k):=by intro c k' x;simp only[zB.add];grind
theorem zB.add_at{g:zB}{b:Nat}{k:ABlk}:g.add b k b=some k:=if_pos rfl
theorem zB.add_ne{g:zB}{b c:Nat}{k:ABlk}(h:c≠b):g.add b k c=g c:=if_neg h
section
variable{E:Env}{n0:Lim}{H0:AH}{g0:zB}{S:St}{ρ:List D}{ve:Nat->Value}{lb:Nat->Nat}{g:zB}{fr:Fr}{H:AH}{HS:FuncId->List D->D->Prop}{Q:Res1->Prop}{o:Oper}{κ:K1}{wm:Bool}
theorem qLT(h:WF H):H.blocks.get H.next=none:=by
 cases x:H.blocks.get H.next with
 |none=>rfl
 |some k=>exact absurd (h _ _ x).2 (Nat.lt_irrefl _)
theorem d9(h:SM n0 S ρ ve lb g H):g H.next=none:=by
 cases x:g H.next with
 |none=>rfl
 |some k=>have:=h.mem _ _ x;rw[qLT h.wf]at this;cases this
theorem SR.allocPure(h:SR E n0 H0 g0 S ρ ve lb g fr H)(cs:List Value)(el:TypeId):SR E n0 H0 g0 S ρ ve lb (g.add H.next ⟨.cells cs el,H.next,true⟩) fr (H.new (.cells cs el)):=by
 have c:=h.heap (H':=H.new (.cells cs el)) lG (h.wf.new _) (Nat.le_succ _) h.low;have y:zB.le g (g.add H.next ⟨.cells cs el,H.next,true⟩):=zB.le_add (d9 h.toSM);refine {c with mem:=?_,vars:=?_,sepLG:=?_,sepFG:=?_,gk:=?_,tab:=h.tab.mono y}
 ·intro b k x;by_cases e:b=H.next
  ·subst e;rw[zB.add_at]at x;rw[AH.get_new,if_pos rfl];exact x
  rw[zB.add_ne e]at x;exact c.mem b k x
 ·intro i s p;exact(c.vars i s p).mono y (λ_ _ _=>rfl)
 ·intro b x;rw[zB.add_ne (by have:=(xL h.toSM x).1;omega)];exact h.sepLG b x
 ·intro i B j l;rw[zB.add_ne (by have:=(oM h.toSM j l).1;omega)];exact h.sepFG i B j l
 intro b x;rw[zB.add_ne (by have:=h.base.2 b x;omega)];exact h.gk b x
theorem lC(h:SM n0 S ρ ve lb g H){xs:List SV}(b:∀x∈xs,wC S x=true):DRs g (SV.ds (getD ρ) xs) (SV.vals ve lb xs):=by
 induction xs with
 |nil=>exact .nil
 |cons x xs ih=>exact .cons (jQ h (b x List.mem_cons_self)) (ih λy c=>b y (mC _ c))
theorem qI6{ds:List D}{vs:List Value}(h:DRs g ds vs):DRs g (ds.flatMap D.cells) (vs.flatMap λv=>v.cells.toList):=by
 induction ds generalizing vs with
 |nil=>cases h;exact .nil
 |cons d ds ih=>cases h with
  |cons h x=>simp only[List.flatMap_cons];exact h.cells.append (ih x)
theorem qOK{ds:List D}{vs:List Value}(h:DRs g ds vs)(b:∀d∈ds,d.one=true∨∃cs,d=.agg cs):(vs.flatMap λv=>v.cells.toList).all qE=true:=by
 induction ds generalizing vs with
 |nil=>cases h;rfl
 | cons d ds ih=>cases h with
  |@cons _ v _ vs h i=>
   simp only[List.flatMap_cons,List.all_append,aE];refine⟨?_,ih i λx e=>b x (mC _ e)⟩;rcases b d List.mem_cons_self with y|⟨cs,y⟩
   ·rw[cells_one h y];have:=h.one;rw[y]at this;simp[this]
   obtain⟨c,rfl,_,h3⟩:=wT h y;exact h3
theorem nM(h:SR E n0 H0 g0 S ρ ve lb g fr H){g2 z:zB}{x:Option Operand}{l:List SV}(b:bO S x.toList=some l)(q:∀y∈l,qEN g2 z (y.d (getD ρ)) (y.val ve lb)){c n:Nat}{r:List D}{i:List D}(e:vS x.isSome c (SV.ds (getD ρ) l++r)=some (n,i)):i=r/\∃vs,rO E fr x.toList=some vs/\kV vs.head? c=some n:=by
 obtain⟨A,p⟩:=rF (E:=E) h b;cases x with
 |none=>simp only[Option.toList,bO,oI]at b;subst b;simp only[vS,Option.isSome_none,cond_false,SV.ds,List.nil_append,oI,Prod.mk.injEq]at e;exact⟨e.2.symm,[],rfl,by rw[←e.1];rfl⟩
 |some x=>
  simp only[Option.toList,bO]at b;split at b
  ·rename_i a B C j;simp only[oI]at j;subst j;simp only[oI]at b;subst b;simp only[vS,Option.isSome_some,cond_true,SV.ds,List.cons_append,List.nil_append,Option.map_eq_some_iff,Prod.mk.injEq]at e;obtain⟨m,h3,w,u⟩:=e;obtain⟨k,t⟩:=cJ (q a List.mem_cons_self) h3;refine⟨u.symm,_,p,?_⟩;simp only[SV.vals,List.head?_cons,t,kV,nat?,w]
  cases b
theorem qPe(ρ:Nat->D)(a b:List SV):SV.ds ρ (a++b)=SV.ds ρ a++SV.ds ρ b:=by rw[SV.ds_map,SV.ds_map,SV.ds_map,List.map_append]
theorem qPo{el:TypeId}{sz l h:Nat}{es:List D}{b o c:Nat}{len:Nat}(hd:DR g (.sl el sz es) (.slice (some ⟨b,o,none⟩) len c))(F:l<=h)(C:h<=es.length)(p t:Nat)(y:p=o+l*sz∨h=l)(q:h-l<=t):DR g (.sl el sz ((es.drop l).take (h-l))) (.slice (some ⟨b,p,none⟩) (h-l) t):=by
 cases hd with
 | sl r u hv w k z B j=>
  rename_i A cs vs own;have x:((es.drop l).take (h-l)).length=h-l:=by simp;omega
  have i:∀e∈(es.drop l).take (h-l),e.cells.length=sz:=λe he=>k e (List.mem_of_mem_drop (List.mem_of_mem_take he));rcases y with y|y
  ·refine .sl (vs:=(vs.drop (l*sz)).take ((h-l)*sz)) r ?_ ?_ x i q (by omega) (lX j _ _)
   ·rw[y,←List.drop_drop];refine qDT u ?_;rw[←Nat.add_mul,←w];exact Nat.mul_le_mul_right sz (by omega)
   have:=(hv.drop (l*sz)).take ((h-l)*sz);rw[kP k,gU (λe he=>k e (List.mem_of_mem_drop he))]at this;exact this
  refine .sl (vs:=[]) r ?_ ?_ x i q (by omega) rfl
  ·rw[y,Nat.sub_self,Nat.zero_mul];simp[take?]
  rw[y,Nat.sub_self];simp only[List.take_zero,List.flatMap_nil];exact .nil
theorem qNJ(h:SR E n0 H0 g0 S ρ ve lb g fr H){t:TypeId}{x:Operand}{lo hi mx:Option Operand}(ho:o.op=.slice t x lo hi mx)(hz:((lo.isNone||aY lo)&&aY hi&&aY mx)=false)(j:wp E HS Q (vZ E o S κ) ρ):jS wm E HS Q n0 H0 g0 fr H o κ:=by
 unfold vZ at j;rw[ho]at j;simp only[hz,cond_false]at j;split at j;case h_2=>cases j
 rename_i y l hh hy hl R;obtain⟨hb,he⟩:=zJ (E:=E) h hy;split at j
 ·
  -- a list
  rename_i el sz bt z ag X;split at j;case h_2=>cases j
  rename_i e P;obtain⟨g',d,e1,h',hp,hd,j⟩:=qAB h j;simp only[SV.ds,qPe,mH]at hd;have q:=jQ h'.toSM (hp y List.mem_cons_self);have F:∀u∈l,qEN g' H.blocks.get (u.d (getD ρ)) (u.val ve lb):=λu hu=>.inl (jQ h'.toSM (hp u (by simp[hu])));have G:∀u∈hh,qEN g' H.blocks.get (u.d (getD ρ)) (u.val ve lb):=λu hu=>.inl (jQ h'.toSM (hp u (by simp[hu])));have W:∀{v:Value} {lv hv:List Value},rO E fr lo.toList=some lv->rO E fr hi.toList=some hv->oE E H t (y.val ve lb) lv.head? hv.head? none=some v->DR g' d v->d.one=true->jS wm E HS Q n0 H0 g0 fr H o κ:=by intro v lv hv M L K J q5;refine .new h' (k:=.pure) (one:=true) (by simp) (v:=v) ⟨λ_=>q5,J⟩ j ?_;unfold vT;rw[ho];simp only[he,M,L,Option.toList_none,rO,List.head?_nil,K,one,Option.map_some]
  generalize hyd:y.d (getD ρ)=yd at hd q;generalize w:y.val ve lb=yv at q;cases yd with
  | sl zS sz' es=>
   simp only at hd;split at hd;case h_2=>cases hd
   rename_i B r A;obtain⟨rfl,lv,M,L⟩:=nM (E:=E) h hl F A;split at hd;case h_2=>cases hd
   rename_i I i;rw[←List.append_nil (SV.ds (getD ρ) hh)]at i;obtain⟨_,hv,K,J⟩:=nM (E:=E) h R G i;cases O:(Nat.beq zS el&&Nat.beq sz' e.size&&Nat.ble B I&&Nat.ble I es.length)with
   |false=>rw[O]at hd;cases hd
   | true=>
    have U:=hd;rw[O]at U;simp only[cond_true,oI]at U;simp only[aE]at O;obtain⟨⟨⟨c1,c2⟩,c3⟩,c4⟩:=O;have c1:=vE c1;have c2:=vE c2;have c3':=o9 c3;have c4':=o9 c4;subst c1 c2 U;have p:=q;cases p with
    | @sl _ _ b o' len c _ rt cs vs own hbk htk hvs Z hss hc0 hx hone=>
     subst Z;have hm:=h'.mem _ _ hbk;by_cases N:qT<=c
     ·refine W M K (v:=.slice (some ⟨b,o'+B*e.size,none⟩) (I-B) qT) ?_ (qPo q c3' c4' _ _ (.inl rfl) (by omega)) rfl;have V:Nat.ble qT c=true:=bL N;have hbb:Nat.beq zS zS=true:=Nat.beq_refl _;rw[w];simp only[oE,X,L,J,P,c3,cond_true,V,hm,hbb,c4,Bool.and_self];rfl
     have V:Nat.ble qT c=false:=by
      cases hb:Nat.ble qT c with
      |false=>rfl
      |true=>exact absurd (o9 hb) N
     have hch:Nat.ble I c=true:=bL (by omega);refine W M K (v:=.slice (some ⟨b,bif Nat.beq c B then o' else Nat.add o' (Nat.mul B e.size),none⟩) (I-B) (c-B)) ?_ (qPo q c3' c4' _ _ ?_ (by omega)) rfl
     ·rw[w];simp only[oE,X,L,J,P,c3,cond_true,V,cond_false,hch];rfl
     rw[qY];grind
  |nil=>
   simp only at hd;split at hd;case h_2=>cases hd
   rename_i r A;obtain⟨rfl,lv,M,L⟩:=nM (E:=E) h hl F A;split at hd;case h_2=>cases hd
   rename_i i;rw[←List.append_nil (SV.ds (getD ρ) hh)]at i;obtain⟨_,hv,K,J⟩:=nM (E:=E) h R G i;simp only[oI]at hd;subst hd;have p:=q;cases p with
   |nil=>refine W M K (v:=.slice none 0 0) ?_ .nil rfl;rw[w];simp only[oE,X,L,J,P];rfl
  |_=>cases hd
 ·
  -- a string
  rename_i sz bt z ag X;obtain⟨d,h1,hd,j⟩:=zV j;simp only[SV.ds,qPe]at hd;have C:=zE h.toSM (h1 y List.mem_cons_self);have F:∀u∈l,qEN g H.blocks.get (u.d (getD ρ)) (u.val ve lb):=λu hu=>zE h.toSM (h1 u (by simp[hu]));have G:∀u∈hh,qEN g H.blocks.get (u.d (getD ρ)) (u.val ve lb):=λu hu=>zE h.toSM (h1 u (by simp[hu]));generalize hyd:y.d (getD ρ)=yd at hd C
  match yd,hd,C with
  |.leaf (.string s),hd,C=>
   rw[qOZ]at hd;have w:=(C.dr rfl).leaf_inv.1;split at hd;case h_2=>cases hd
   rename_i B r A;obtain⟨rfl,lv,M,L⟩:=nM (E:=E) h hl F A;split at hd;case h_2=>cases hd
   rename_i I i;rw[←List.append_nil (SV.ds (getD ρ) hh)]at i;obtain⟨_,hv,K,J⟩:=nM (E:=E) h R G i;cases O:(Nat.ble B I&&Nat.ble I s.size)with
   |false=>rw[O]at hd;cases hd
   |true=>rw[O]at hd;simp only[cond_true,oI]at hd;subst hd;refine .new h (k:=.pure) (one:=true) (by simp) (v:=.string (s.extract B I)) ⟨λ_=>rfl,.leaf rfl⟩ j ?_;unfold vT;rw[ho];simp only[he,w,M,K,Option.toList_none,rO,List.head?_nil,oE,X,L,J,O,Option.isNone_none,Bool.and_true,cond_true,one,Option.map_some]
 cases j
theorem qQU{p:Program}{k k':IntKind}{x y:Int}:flat? (qS p (Builtin.min_ #[] 0 ⟨[.int k x,.int k' y]⟩))=qTo false (.int k x) (.int k' y):=by simp only[Builtin.min_,List.foldlM_cons,List.foldlM_nil,Builtin.min2,qTo,cond_false];rfl
theorem qQX{p:Program}{k k':IntKind}{x y:Int}:flat? (qS p (Builtin.max_ #[] 0 ⟨[.int k x,.int k' y]⟩))=qTo true (.int k x) (.int k' y):=by simp only[Builtin.max_,List.foldlM_cons,List.foldlM_nil,Builtin.max2,qTo,cond_true];rfl
theorem qQS{mx:Bool}{u v:Value}{r:Value}(h:qTo mx u v=some r):∃k x k' y,u=.int k x/\v=.int k' y:=by unfold qTo at h;grind
theorem qTl(h:SR E n0 H0 g0 S ρ ve lb g fr H){c:Call}{mx:Bool}{x y:SV}(z:o.op=.call c)(i:c.callee=.builtin (bif mx then .max else .min))(e:rO E fr c.args.toList=some [x.val ve lb,y.val ve lb])(l:wp E HS Q (jX (.mm mx) [x,y] .pure true S κ) ρ):jS wm E HS Q n0 H0 g0 fr H o κ:=by
 obtain⟨d,q,hd,l⟩:=zV l;have hr:=zE h.toSM (q x List.mem_cons_self);have hs:=zE h.toSM (q y (mC _ List.mem_cons_self));simp only[SV.ds]at hd;generalize x.d (getD ρ)=w at hd hr;generalize y.d (getD ρ)=t at hd hs
 match w,t,hd,hr,hs with
 |.leaf u,.leaf v,hd,hr,hs=>
  rw[qYu]at hd;obtain⟨r,j,rfl,p⟩:=tK hd;have hv:=(hr.dr rfl).leaf_inv.1;have hu:=(hs.dr rfl).leaf_inv.1;refine .new h (k:=.pure) (one:=true) (by simp) (v:=r) ⟨λ_=>rfl,.leaf p⟩ l ?_;obtain⟨k,a,k',b,rfl,rfl⟩:=qQS j;unfold vT;rw[z];rw[hv,hu]at e;cases mx with
  |false=>simp only[yL,e,i,cond_false,xR,List.all_cons,List.all_nil,zF,Bool.and_self,cond_true,qQU,j,one,Option.map_some];rfl
  |true=>simp only[yL,e,i,cond_true,xR,List.all_cons,List.all_nil,zF,Bool.and_self,qQX,j,one,Option.map_some];rfl
theorem qKt(i:zB.le g H.blocks.get){d:D}{v:Value}{y:List Value}{ds:List D}(h:qEN g H.blocks.get d v)(x:qCu d=some (y,ds)):∃es,qEd H v=some es/\es.map (·.key)=y/\DRs g ds (es.map (·.val)):=by
 unfold qCu at x;split at x
 ·simp only[oI,Prod.mk.injEq]at x;obtain⟨rfl,rfl⟩:=x;obtain⟨r,es,ck,rt,own,rfl,e,c,b⟩:=h.keys i;exact⟨es,by simp only[qEd,e],c,b⟩
 ·simp only[oI,Prod.mk.injEq]at x;obtain⟨rfl,rfl⟩:=x;have hv:=(h.dr rfl).leaf_inv.1;subst hv;exact⟨[],rfl,rfl,.nil⟩
 cases x
theorem qUu(h:SR E n0 H0 g0 S ρ ve lb g fr H){c:Call}{t:TypeId}{ts:List TypeId}{x:SV}(I:o.op=.call c)(p:c.callee=.builtin .len)(w:c.argTypes.toList=t::ts)(i:rO E fr c.args.toList=some [x.val ve lb])(y:wp E HS Q (match E.types.get t with
   |some {desc:=.string,..}=>jX (.len true) [x] .pure true S κ
   |some {desc:=.slice _,..}=>jX (.len false) [x] .pure true S κ
   |some {desc:=.map _ _,..}=>jX .mlen [x] .pure true S κ
   |_=>.fail) ρ):jS wm E HS Q n0 H0 g0 fr H o κ:=by
 have e:∀{n:Int},qG0 E H (t::ts) (x.val ve lb)=some (goInt n)->vT E fr o H=some (.val (goInt n),H):=by
  intro n J
  unfold vT;rw[I]
  simp only[yL,i,p,w,xR,J,one,Option.map_some]
 split at y
 ·rename_i sz A z ag j
  obtain⟨d,r,hd,y⟩:=zV y
  have hr:=zE h.toSM (r x List.mem_cons_self)
  simp only[SV.ds,qJi]at hd
  generalize x.d (getD ρ)=u at hd hr
  match u,hd,hr with
  |.leaf (.string s),hd,hr=>
   simp only[oI]at hd
   subst hd
   have hv:=(hr.dr rfl).leaf_inv.1
   exact .new h (k:=.pure) (one:=true) (by simp) (v:=goInt s.size) ⟨λ_=>rfl,.leaf rfl⟩ y (e (by rw[hv];simp only[qG0,j]))
 ·rename_i el sz A z ag j
  obtain⟨d,r,hd,y⟩:=zV y
  have hr:=zE h.toSM (r x List.mem_cons_self)
  simp only[SV.ds,qJi]at hd
  generalize x.d (getD ρ)=u at hd hr
  match u,hd,hr with
  |.sl zS B es,hd,hr=>
   simp only[oI]at hd
   subst hd
   obtain⟨b,L,l,O,rt,cs,vs,own,q⟩:=hr.sl h.mem
   refine .new h (k:=.pure) (one:=true) (by simp) (v:=goInt es.length) ⟨λ_=>rfl,.leaf rfl⟩ y (e ?_)
   rw[q.v,q.n];simp only[qG0,j]
  |.nil,hd,hr=>
   simp only[oI]at hd
   subst hd
   have hv:=hr.dr rfl
   generalize x.val ve lb=xv at hv e
   cases hv with
   |nil=>exact .new h (k:=.pure) (one:=true) (by simp) (v:=goInt 0) ⟨λ_=>rfl,.leaf rfl⟩ y (e (by simp only[qG0,j];rfl))
 ·rename_i M N sz A z ag j
  obtain⟨d,r,hd,y⟩:=zV y
  have C:=zE h.toSM (r x List.mem_cons_self)
  simp only[SV.ds,qKM,Option.map_eq_some_iff]at hd
  obtain⟨⟨G,ds⟩,F,rfl⟩:=hd
  obtain⟨es,p1,p2,_⟩:=qKt h.mem C F
  have K:G.length=es.length:=by rw[←p2,List.length_map]
  refine .new h (k:=.pure) (one:=true) (by simp) (v:=goInt es.length) ⟨λ_=>rfl,?_⟩ y (e (by simp only[qG0,j,p1,Option.map_some]))
  simp only[K]
  exact .leaf rfl
 cases y
end
end Go.Am
namespace Go.Am
open Go
section
variable{E:Env}{n0:Lim}{H0:AH}{g0:zB}{S:St}{ρ:List D}{ve:Nat->Value}{lb:Nat->Nat}{g:zB}{fr:Fr}{H:AH}{HS:FuncId->List D->D->Prop}{Q:Res1->Prop}{o:Oper}{κ:K1}{wm:Bool}
theorem qPF(h:SM n0 S ρ ve lb g H){cs:List SV}(b:∀x∈cs,wC S x=true)(c:∀x∈cs,dV S x=true):(SV.vals ve lb cs).all qE=true:=by rw[List.all_eq_true];intro v hv;rw[SV.vals_map]at hv;obtain⟨x,y,rfl⟩:=List.mem_map.1 hv;exact qFs h (c x y) (jQ h (b x y))
theorem SR.boxed(h:SR E n0 H0 g0 S ρ ve lb g fr H){b:Nat}{blk:Blk}{ds:List D}{vs:List Value}(N:S.blks[b]? = some (some blk))(J:blk.isL=false)(hd:∀cs,jO (getD ρ) ve lb cs blk->cs=vs)(K:DRs g ds vs)(C:vs.all qE=true):∃el rt,SR E n0 H0 g0 (S.boxed b) (ρ++[.ptr ds 0]) (mW ve S.n (.pointer (some ⟨lb b,0,none⟩))) lb (g.add (lb b) ⟨.cells vs el,rt,true⟩) fr H:=by
 have l:S.live b:=⟨_,N⟩;obtain⟨el,rt,cs',R,q3,P⟩:=(h.blks b _ N).2.cells J;have:=hd _ P;subst this;refine⟨el,rt,?_⟩;have w:zB.le g (g.add (lb b) ⟨.cells cs' el,rt,true⟩):=zB.le_add (h.sepLG b l);have F:qA8 (g.add (lb b) ⟨.cells cs' el,rt,true⟩) H.blocks.get n0 ⟨.ptr,true⟩ (.ptr ds 0) (.pointer (some ⟨lb b,0,none⟩)):=⟨λ_=>rfl,.ptr zB.add_at (K.mono w) C,_,_,rfl⟩;have e:ExtS S ρ ve g (S.new .ptr true) (ρ++[.ptr ds 0]) (mW ve S.n (.pointer (some ⟨lb b,0,none⟩))) g:=wN h.len;have r:∀c x,(S.blks.set b none)[c]? = some (some x)->S.blks[c]? = some (some x)/\c≠b:=by grind
 refine {len:=by simp[St.boxed,St.new,h.len],wf:=h.wf,mem:=?_,base:=h.base,fix:=⟨by simp only[St.boxed,List.length_set];exact h.fix.1,h.fix.2⟩,vars:=?_,blks:=?_,sepLG:=?_,sepFG:=?_,sepL:=?_,sepF:=?_,sepX:=?_,sz:=h.sz,rd:=h.rd,slots:=?_,sav:=h.sav.congr (by show S.n<=(S.new .ptr true).n;rw[xQ];omega) (by simp[St.boxed]) e.ve (λ_ _=>rfl),keep:=h.keep,low:=h.low,gk:=?_,tab:=h.tab.mono w}
 ·intro c k q;by_cases z:c=lb b
  ·subst z;rw[zB.add_at]at q;rw[R];exact q
  rw[zB.add_ne z]at q;exact h.mem c k q
 ·intro i s U;rcases qCm U with⟨p,u⟩|⟨p,u⟩
  ·rw[e.ve i p,e.ρ i p];exact(h.vars i s u).mono w (λ_ _ _=>rfl)
  subst p u;rw[jA,qFJ h.toSM];exact F
 ·intro c x q;obtain⟨p,_⟩:=r c x q;obtain⟨A,I⟩:=h.blks c x p;refine⟨Blk.bd_mono ?_ (by simp[St.boxed]) A,I.congr rfl rfl λ_ O=>O.congr e.ve (λ_ _=>rfl) e.ρ A⟩;show S.n<=(S.new .ptr true).n;rw[xQ];omega
 ·intro c ⟨x,q⟩;obtain⟨p,u⟩:=r c x q;rw[zB.add_ne (λz=>u (h.sepL c b ⟨x,p⟩ l z))];exact h.sepLG c ⟨x,p⟩
 ·intro i B G L;obtain⟨p,u⟩:=gQ (S:=S) (k:=.ptr) (o:=true) (by simp) G;rw[e.ve i u]at L;rw[zB.add_ne (λz=>h.sepX b i l p (by rw[L,z]))];exact h.sepFG i B p L
 ·intro c d ⟨x,q⟩ ⟨y,hd⟩ he;exact h.sepL c d ⟨x,(r c x q).1⟩ ⟨y,(r d y hd).1⟩ he
 ·intro i j B G W p u;obtain⟨a1,a2⟩:=gQ (S:=S) (k:=.ptr) (o:=true) (by simp) G;obtain⟨b1,Z⟩:=gQ (S:=S) (k:=.ptr) (o:=true) (by simp) W;rw[e.ve _ a2]at p;rw[e.ve _ Z]at u;exact h.sepF i j B a1 b1 p u
 ·intro c i ⟨x,q⟩ G;obtain⟨a1,a2⟩:=gQ (S:=S) (k:=.ptr) (o:=true) (by simp) G;rw[e.ve _ a2];exact h.sepX c i ⟨x,(r c x q).1⟩ a1
 ·intro t x M;simp only[St.boxed,T.get_map,Option.map_eq_some_iff]at M;obtain⟨y,p,rfl⟩:=M;obtain⟨A,I⟩:=h.slots t y p;have V:S.n<=(S.new .ptr true).n:=by rw[xQ];omega
  have keep:SV.bd (S.new .ptr true).n (S.blks.set b none).length y/\fr.t.get t=some (y.val (mW ve S.n (.pointer (some ⟨lb b,0,none⟩))) lb):=⟨SV.bd_mono V (by simp) A,by rw[e.val A];exact I⟩;cases y with
  | loc b' off=>
   simp only[qY];split
   ·rename_i X;subst X;refine⟨?_,?_⟩
    ·show S.n<(S.new .ptr true).n;rw[xQ];omega
    rw[I];simp only[SV.val,jA,qQz,Nat.zero_add]
   exact keep
  |_=>exact keep
 intro c q;rw[zB.add_ne (by intro e;subst e;exact(xL h.toSM l).2 q)];exact h.gk c q
theorem qF5:∀(xs:List SV) {S:St} {ρ:List D} {ve:Nat->Value} {g:zB} {acc:List SV} {κ:List SV->St->Tree},SR E n0 H0 g0 S ρ ve lb g fr H->SV.bds S.n S.blks.length acc->SV.bds S.n S.blks.length xs->wp E HS Q (qHZ xs acc S κ) ρ->
  ∃l S' ρ' y g',SR E n0 H0 g0 S' ρ' y lb g' fr H/\S.n<=S'.n/\S'.blks.length=S.blks.length/\(∀i,i<S.n->y i=ve i)/\wp E HS Q (κ l S') ρ'/\SV.bds S'.n S'.blks.length l/\SV.vals y lb l=SV.vals ve lb (acc++xs)
 | [],S,ρ,ve,g,acc,κ,h,q,w,c=>⟨acc,S,ρ,ve,g,h,lR _,rfl,λ_ _=>rfl,c,q,by rw[List.append_nil]⟩
 | x::r,S,ρ,ve,g,acc,κ,h,q,w,c=>by
  have j:wp E HS Q (qHZ r (acc++[x]) S κ) ρ->∃l S' ρ' y g',SR E n0 H0 g0 S' ρ' y lb g' fr H/\S.n<=S'.n/\S'.blks.length=S.blks.length/\(∀i,i<S.n->y i=ve i)/\wp E HS Q (κ l S') ρ'/\SV.bds S'.n S'.blks.length l/\SV.vals y lb l=SV.vals ve lb (acc++x::r):=by
   intro c
   obtain⟨l,S',ρ',y,g',P,X,O,W,N,M,L⟩:=qF5 r h (acc:=acc++[x]) (by
    rw[SV.bds_iff]at q ⊢
    intro u hu
    rcases List.mem_append.1 hu with hu|hu
    ·exact q u hu
    simp only[List.mem_singleton]at hu;subst hu;exact w.1) w.2 c
   grind
  cases x with
  | loc b off=>
   cases off with
   |succ n=>exact j c
   | zero=>
    simp only[qHZ]at c
    have V:∀{e:St} {g1:zB} {blk:Blk} {ds:List D} {vs:List Value},ExtS S ρ ve g e ρ ve g1->SR E n0 H0 g0 e ρ ve lb g1 fr H->e.blks[b]? = some (some blk)->blk.isL=false->(∀cs,jO (getD ρ) ve lb cs blk->cs=vs)->DRs g1 ds vs->vs.all qE=true->
      wp E HS Q (qHZ r (acc++[.pp e.n 0]) (e.boxed b) κ) (ρ++[.ptr ds 0])->
      ∃l S' ρ' y g',SR E n0 H0 g0 S' ρ' y lb g' fr H/\S.n<=S'.n/\S'.blks.length=S.blks.length/\(∀i,i<S.n->y i=ve i)/\wp E HS Q (κ l S') ρ'/\SV.bds S'.n S'.blks.length l/\SV.vals y lb l=SV.vals ve lb (acc++.loc b 0::r):=by
     intro e g1 blk ds vs F C t J hd K A c
     obtain⟨el,rt,h2⟩:=C.boxed t J hd K A
     have R:S.n<=e.n:=F.n
     have U:(e.boxed b).n=e.n+1:=by show(e.new .ptr true).n=_;rw[xQ]
     have k:(e.boxed b).blks.length=S.blks.length:=by simp[St.boxed,F.blks]
     have z:∀i,i<S.n->mW ve e.n (.pointer (some ⟨lb b,0,none⟩)) i=ve i:=λi hi=>iK (by omega)
     obtain⟨l,S',ρ',y,g',P,X,O,W,N,M,L⟩:=qF5 r h2 (acc:=acc++[.pp e.n 0]) (by
      rw[SV.bds_iff]at q ⊢
      intro u hu
      rw[k]
      rcases List.mem_append.1 hu with hu|hu
      ·exact SV.bd_mono (by omega) (lR _) (q u hu)
      ·simp only[List.mem_singleton]at hu;subst hu;show e.n<(e.boxed b).n;omega) (by
      rw[k]
      exact SV.bds_mono (by omega) (lR _) w.2) c
     refine⟨l,S',ρ',y,g',P,by omega,by rw[O,k],?_,N,M,?_⟩
     ·grind
     rw[L]
     simp only[SV.vals_map,List.map_append,List.map_cons,List.map_nil,List.append_assoc,List.cons_append,List.nil_append]
     have a1:acc.map (SV.val (mW ve e.n (.pointer (some ⟨lb b,0,none⟩))) lb)=acc.map (SV.val ve lb):=by
      rw[←SV.vals_map,←SV.vals_map];exact SV.vals_congr z (λ_ _=>rfl) q
     have a2:r.map (SV.val (mW ve e.n (.pointer (some ⟨lb b,0,none⟩))) lb)=r.map (SV.val ve lb):=by
      rw[←SV.vals_map,←SV.vals_map];exact SV.vals_congr z (λ_ _=>rfl) w.2
     rw[a1,a2]
     simp only[SV.val,jA,qQz]
    split at c
    ·rename_i cs t
     obtain⟨g1,F,C⟩:=xC cs h
     obtain⟨G,c⟩:=jC c
     simp only[aE,List.all_eq_true]at G
     simp only[wp,qPa]at c
     exact V F C (by rw[F.blks];exact t) rfl (λcs' p=>by simpa[jO]using p) (lC C.toSM G.1) (qPF C.toSM G.1 G.2) c
    ·rename_i x n t
     obtain⟨Z,c⟩:=jC c
     simp only[wp]at c
     obtain⟨_,_,_,_,_,_,_,dsx,B,_⟩:=h.blks b _ t
     simp only[SV.ds,B,qBu]at c
     obtain⟨vs,hv,I,ho⟩:=wT (jQ h.toSM Z) B
     exact V .refl h t rfl (λcs' p=>(by rw[p.1,hv];rfl)) I ho c
    cases c
  |_=>exact j c
theorem qGQ(h:SR E n0 H0 g0 S ρ ve lb g fr H){f:Fn}{first cap:Array Operand}(c:o.op=.makeFunc f first cap)(x:wp E HS Q (vZ E o S κ) ρ):jS wm E HS Q n0 H0 g0 fr H o κ:=by
 unfold vZ at x;rw[c]at x;simp only at x;split at x;case h_2=>cases x
 rename_i a b C B;obtain⟨a1,a2⟩:=rF (E:=E) h C;obtain⟨p,k⟩:=rF (E:=E) h B;obtain⟨i,x⟩:=jC x;cases j:qTs E f with
 |true=>rw[j,cond_true]at x;refine .same h (y:=.fn f a b) ⟨a1,p⟩ x ?_;unfold vT;rw[c];simp only[a2,k,one,i,if_true,Option.map_some,SV.val]
 |false=>
 rw[j,cond_false]at x;obtain⟨l,S',ρ',q,g',A,z,w,u,t,r,e⟩:=qF5 b h (acc:=[]) trivial p x;refine .same A (y:=.fn f a l) ⟨by rw[w];exact SV.bds_mono z (lR _) a1,r⟩ t ?_;unfold vT;rw[c];simp only[List.nil_append]at e;simp only[a2,k,one,i,if_true,Option.map_some,SV.val,SV.vals_congr u (λ_ _=>rfl) a1,e]
end
end Go.Am
namespace Go.Am
open Go
theorem qW{α:Type}{b:Bool}{x:Option α}{d:α}(h:(bif b then x else none)=some d):b=true/\x=some d:=by grind
section
variable{E:Env}{n0:Lim}{H0:AH}{g0:zB}{S:St}{ρ:List D}{ve:Nat->Value}{lb:Nat->Nat}{g:zB}{fr:Fr}{H:AH}{HS:FuncId->List D->D->Prop}{Q:Res1->Prop}{o:Oper}{κ:K1}{wm:Bool}
theorem qKs{i j:Nat}{s:VSt}(h:(S.kill i).sts[j]? = some s):∃x,S.sts[j]? = some x/\s=if i=j then⟨.dead,x.one⟩else x:=by simp only[St.kill,List.getElem?_modify]at h;grind
theorem oO{i:Nat}:(S.kill i).n=S.n:=by simp[St.kill,St.n]
theorem jE{i j:Nat}(h:(S.kill i).freshV j=true):S.freshV j=true/\j≠i:=by
 obtain⟨o,h⟩:=zC.1 h;obtain⟨c,b,y⟩:=qKs h;split at y
 ·cases y
 rename_i x;subst y;exact⟨zC.2 ⟨_,b⟩,λe=>x e.symm⟩
theorem SR.killed(h:SR E n0 H0 g0 S ρ ve lb g fr H)(i:Nat):SR E n0 H0 g0 (S.kill i) ρ ve lb g fr H:=by
 refine {h with len:=by simp[St.kill,h.len],vars:=?_,blks:=?_,sepFG:=?_,sepF:=?_,sepX:=?_,slots:=?_,sav:=by rw[oO];exact h.sav}
 ·intro j s w;obtain⟨p,l,c⟩:=qKs w;have hv:=h.vars j p l;split at c
  ·subst c;exact⟨hv.1,trivial⟩
  subst c;exact hv
 ·intro b x y;obtain⟨e,q⟩:=h.blks b x y;exact⟨by rw[oO];exact e,q⟩
 ·intro j B k z;exact h.sepFG j B (jE k).1 z
 ·intro a b B A y l c;exact h.sepF a b B (jE A).1 (jE y).1 l c
 ·intro b j y k;exact h.sepX b j y (jE k).1
 intro t x u;obtain⟨e,r⟩:=h.slots t x u;exact⟨by rw[oO];exact e,r⟩
theorem SR.heap2(h:SR E n0 H0 g0 S ρ ve lb g fr H){H':AH}(X:Nat->Prop)(y:∀b,b<H.next->¬X b->H'.blocks.get b=H.blocks.get b)(w:∀b,X b->g b=none)(u:∀b c,X b->S.live c->lb c≠b)(z:∀b i,X b->S.freshV i=true->vR (ve i)≠some b)(t:∀b,X b->¬n0.K b)(l:WF H')(G:H.next<=H'.next)(I:Nat.min H0.low n0.n<=H'.low):SR E n0 H0 g0 S ρ ve lb g fr H':=by
 refine {h with wf:=l,mem:=?_,base:=h.base.mono G,vars:=?_,blks:=?_,keep:=?_,low:=I}
 ·intro b k e;rw[y b (qOC h.toSM e) (λj=>by rw[w b j]at e;cases e)];exact h.mem b k e
 ·intro i s hs;refine(h.vars i s hs).mono (zB.le_refl _) λp B r=>?_;obtain⟨k,o⟩:=s;simp only at p;subst p;have q:=zC.2 ⟨o,hs⟩;exact y B (oM h.toSM q r).1 (λj=>z B i j q r)
 ·intro b x e;obtain⟨F,C⟩:=h.blks b x e;exact⟨F,C.congr (y _ (xL h.toSM ⟨x,e⟩).1 (λj=>u _ b j ⟨x,e⟩ rfl)) rfl λ_ A=>A⟩
 intro b e;rw[y b (h.base.2 b e) (λj=>t b j e)];exact h.keep b e
theorem cI{o:Bool}{i:Nat}(h:(S.new .fresh o).freshV i=true):(S.freshV i=true/\i<S.n)∨i=S.n:=by
 obtain⟨c,b⟩:=zC.1 h;rcases qCm b with⟨x,y⟩|⟨x,y⟩
 ·exact .inl ⟨zC.2 ⟨_,y⟩,x⟩
 exact .inr x
theorem SR.newFresh(h:SR E n0 H0 g0 S ρ ve lb g fr H){d:D}{v:Value}(hv:kW g H.blocks.get n0 d v)(hd:d.one=true)(F:∀B,vR v=some B->g B=none)(C:∀B c,vR v=some B->S.live c->lb c≠B)(w:∀B i,vR v=some B->S.freshV i=true->vR (ve i)≠some B):SR E n0 H0 g0 (S.new .fresh true) (ρ++[d]) (mW ve S.n v) lb g fr H:=by
 have e:ExtS S ρ ve g (S.new .fresh true) (ρ++[d]) (mW ve S.n v) g:=wN h.len;refine {len:=by simp[St.new,h.len],wf:=h.wf,mem:=h.mem,base:=h.base,fix:=h.fix,vars:=?_,blks:=?_,sepLG:=h.sepLG,sepFG:=?_,sepL:=h.sepL,sepF:=?_,sepX:=?_,sz:=h.sz,rd:=h.rd,slots:=?_,sav:=h.sav.congr e.n (lR _) e.ve (λ_ _=>rfl),keep:=h.keep,low:=h.low,gk:=h.gk,tab:=h.tab}
 ·intro i s J;rcases qCm J with⟨y,k⟩|⟨y,k⟩
  ·rw[e.ve i y,e.ρ i y];exact h.vars i s k
  subst y k;rw[jA,qFJ h.toSM];exact⟨λ_=>hd,hv⟩
 ·intro b x r;obtain⟨p,u⟩:=h.blks b x r;exact⟨Blk.bd_mono (by rw[xQ];omega) (lR _) p,u.congr rfl rfl λ_ G=>G.congr e.ve (λ_ _=>rfl) e.ρ p⟩
 ·intro i B q l;rcases cI q with⟨y,k⟩|rfl
  ·rw[e.ve i k]at l;exact h.sepFG i B y l
  rw[jA]at l;exact F B l
 ·intro i j B q K y k;rcases cI q with⟨a1,a2⟩|rfl<;>rcases cI K with⟨A,z⟩|rfl
  ·rw[e.ve _ a2]at y;rw[e.ve _ z]at k;exact h.sepF i j B a1 A y k
  ·rw[e.ve _ a2]at y;rw[jA]at k;exact absurd y (w B i k a1)
  ·rw[jA]at y;rw[e.ve _ z]at k;exact absurd k (w B j y A)
  rfl
 ·intro b i r q;rcases cI q with⟨a1,a2⟩|rfl
  ·rw[e.ve _ a2];exact h.sepX b i r a1
  rw[jA];intro l;exact C _ b l r rfl
 intro t x I;obtain⟨p,u⟩:=h.slots t x I;exact⟨e.bd p,by rw[u,e.val p]⟩
theorem WF.move(h:WF H){b:Nat}{k:ABlk}(i:H.blocks.get b=some k)(x:AObj):WF (H.move b k x):=by
 intro c k' y;rw[AH.get_move]at y;split at y
 ·rename_i e;cases y;subst e;have:=h b k i;exact⟨by show k.root<=_;omega,Nat.lt_succ_self _⟩
 split at y
 ·cases y
 exact⟨(h c k' y).1,Nat.lt_succ_of_lt (h c k' y).2⟩
theorem tY(y:zB.le g H.blocks.get){el sz:Nat}{es:List D}{v:Value}(h:qEN g H.blocks.get (.sl el sz es) v):∃vs b o c,v=.slice (some ⟨b,o,none⟩) es.length c/\oR H sz es.length v=some vs/\DRs g (es.flatMap D.cells) vs/\vs.all qE=true/\(∀e∈es,e.cells.length=sz)/\es.length<qT:=by
 obtain⟨b,o,l,c,rt,cs,vs,own,q⟩:=h.sl y;have i:=q.n;subst i;refine⟨vs,b,o,c,q.v,?_,q.r,q.o,q.s,q.x⟩;rw[q.v];simp only[oR,qY];split
 ·rename_i j;have:=q.t;rw[j,Nat.zero_mul]at this;simp only[take?]at this;exact this
 have x:Nat.ble es.length es.length=true:=bL (lR _);simp only[x,cond_true,AH.loads,q.b,Nat.mul_eq];exact q.t
theorem qKE{a b:List D}{x y:List Value}(h:DRs g (a.flatMap D.cells) x)(c:DRs g (b.flatMap D.cells) y):DRs g ((a++b).flatMap D.cells) (x++y):=by rw[List.flatMap_append];exact h.append c
theorem s9(h:SM n0 S ρ ve lb g H){el sz:TypeId}{es:List D}{vs:List Value}(hv:DRs g (es.flatMap D.cells) vs)(y:vs.all qE=true)(hs:∀e∈es,e.cells.length=sz)(x:es.length<qT):kW g (H.new (.cells vs el)).blocks.get n0 (.sl el sz es) (.slice (some ⟨H.next,0,none⟩) es.length qT):=by
 refine .inr (.inl ⟨H.next,es.length,vs,vs,el,H.next,sz,es,rfl,rfl,?_,h.base.new,?_,hv,rfl,hs,x,y⟩)
 ·rw[AH.get_new,if_pos rfl]
 have b:vs.length=es.length*sz:=by rw[hv.length,gV hs]
 rw[xI (by omega),List.take_of_length_le (by omega)]
theorem qLL(h:SR E n0 H0 g0 S ρ ve lb g fr H){c:Call}{s x:SV}(ho:o.op=.call c)(hcal:c.callee=.builtin .append)(hargs:rO E fr c.args.toList=some [s.val ve lb,x.val ve lb])(hsb:s.bd S.n S.blks.length)(hxb:x.bd S.n S.blks.length)(k:wp E HS Q (qV7 E c.argTypes.toList s x S κ) ρ):jS (qPD S [s,x]) E HS Q n0 H0 g0 fr H o κ:=by
 unfold qV7 at k;split at k;case h_2=>cases k
 rename_i t xt tr hts;split at k;case h_2=>cases k
 rename_i el xi hel V;obtain⟨sz0,bt0,z0,ag0,ht⟩:=xM hel;split at k;case h_2=>cases k
 rename_i e xel W hxd;split at k;case h_2=>cases k
 rename_i z hz;simp only at k;have run:∀{v:Value} {H':AH},jV E H (t::xt::tr) (s.val ve lb) (x.val ve lb)=some (.val v,H')->vT E fr o H=some (.val v,H'):=by intro v H' ha;unfold vT;rw[ho];simp only[yL,hargs,hcal,hts,xR,ha]
 have R:∀{wA:Bool} {S':St},(wA=false->qGa g (s.d (getD ρ)) (s.val ve lb))->SR E n0 H0 g0 S' ρ ve lb g fr H->S'.n=S.n->S'.blks=S.blks->(kW g H.blocks.get n0 (s.d (getD ρ)) (s.val ve lb)/\(s.d (getD ρ)).one=true)->
   (∀B,vR (s.val ve lb)=some B->g B=none/\(∀c,S'.live c->lb c≠B)/\(∀i,S'.freshV i=true->vR (ve i)≠some B)/\¬n0.K B)->
   wp E HS Q (bif wB S x&&Nat.ble 1 e.size then Tree.bind (.app el e.size e.bytes) [s,x] (κ (.v S.n) (S'.new .fresh true))else .fail) ρ->jS wA E HS Q n0 H0 g0 fr H o κ:=by
  intro wA S' hwA C hn' hb' hs hex k
  obtain⟨L,k⟩:=jC k
  simp only[aE]at L
  have hrx:=zE h.toSM L.1
  simp only[wp]at k
  split at k
  case h_2=>cases k
  rename_i d hd
  simp only[SV.ds,aJ]at hd
  obtain⟨hfr,hone⟩:=hs
  have O:∀(hd':d=s.d (getD ρ)),jV E H (t::xt::tr) (s.val ve lb) (x.val ve lb)=some (.val (s.val ve lb),H)->jS wA E HS Q n0 H0 g0 fr H o κ:=by
   intro hd' ha
   subst hd'
   have M:=C.newFresh hfr hone (λB u=>(hex B u).1) (λB c u L=>(hex B u).2.1 c L) (λB i u hi=>(hex B u).2.2.1 i hi)
   rw[←hn']at k
   refine⟨.v S'.n,_,_,_,_,_,_,M,pJ,k,.of_val (lR _) ?_,λ_=>Nat.min_le_left _ _⟩
   simp only[SV.val,jA]
   exact run ha
  have hsr:qEN g H.blocks.get (s.d (getD ρ)) (s.val ve lb):=by
   rcases hfr with q|⟨B,l,cs,vs,zS,rt,sz,es,q⟩|⟨B,es,A,rt,ks,ds,q⟩
   ·exact .inl q.dr
   ·exact .inr (.inl ⟨n0,B,l,cs,vs,zS,rt,sz,es,q⟩)
   exact .inr (.inr ⟨n0,B,es,A,rt,ks,ds,q⟩)
  generalize hxdd:x.d (getD ρ)=xd at hd hrx
  generalize hsdd:s.d (getD ρ)=P at hd hfr hone hsr O
  have hsl:P=.nil∨∃zS N es',P=.sl zS N es':=by
   rcases hfr with q|⟨B,l,cs,vs,zS,rt,sz,es,q⟩|⟨B,es,A,rt,ks,ds,q⟩
   ·rcases q.sl with q|⟨_,_,q⟩
    ·exact .inl q
    exact .inr ⟨_,_,_,q⟩
   ·exact .inr ⟨_,_,_,q.d⟩
   rw[q.d]at hd;simp[pX]at hd
  have hlen:∃l c base,s.val ve lb=.slice base l c/\pX P=some l/\l=P.es.length:=by
   rcases hsl with rfl|⟨zS,N,es',rfl⟩
   ·have:=hsr.dr rfl
    generalize s.val ve lb=sv at this
    cases this with
    |nil=>exact⟨0,0,none,rfl,rfl,rfl⟩
   obtain⟨vs,b,o',c',q1,_⟩:=tY C.mem hsr
   exact⟨_,_,_,q1,rfl,rfl⟩
  obtain⟨l,cp,base,F,hss,hll⟩:=hlen
  rw[hss]at hd
  have hxs:xd=.nil∨∃el2 sz2 y,xd=.sl el2 sz2 y:=by
   cases xd with
   |nil=>exact .inl rfl
   |sl a b c=>exact .inr ⟨a,b,c,rfl⟩
   |_=>simp only[reduceCtorEq]at hd
  rcases hxs with rfl|⟨el2,sz2,y,rfl⟩
  ·simp only at hd
   obtain⟨hle,hd⟩:=qW hd
   simp only[oI]at hd
   have hxv:=hrx.dr rfl
   refine O hd.symm ?_
   generalize x.val ve lb=xv at hxv
   cases hxv with
   | nil=>
    rw[F]
    have G:pK H xi e (.slice none 0 0)=some (0,[]):=by
     simp only[pK,hxd,qG1]
     rfl
    have hl0:Nat.add l 0=l:=rfl
    have hle':Nat.ble (Nat.mul (Nat.add (Nat.mul 4 (Nat.add l 0)) 4000) (Nat.succ e.bytes)) 100000000000=true:=by rw[hl0];exact hle
    simp only[jV,ht,V,W,hz,G,hle',cond_true]
    rfl
  simp only at hd
  obtain⟨hcond,hd3⟩:=qW hd
  clear hd
  simp only[aE]at hcond
  obtain⟨⟨hle,Z⟩,p⟩:=hcond
  have Z:=vE Z
  subst Z
  obtain⟨K,nb,no,nc,n1,n2,n3,n4,n5,n6⟩:=tY C.mem hrx
  have G:pK H xi e (x.val ve lb)=some (y.length,K):=by
   have hln:qG1 (x.val ve lb)=some y.length:=by rw[n1];rfl
   simp only[pK,hxd,hln,n2,Option.map_some]
  simp only[qY]at hd3
  by_cases hn0:y.length=0
  ·rw[if_pos hn0]at hd3
   have hd:P=d:=Option.some.inj hd3
   refine O hd.symm ?_
   rw[F]
   rw[hn0]at hle G
   simp only[jV,ht,V,W,hz,G,hle,cond_true]
   rfl
  rw[if_neg hn0]at hd3
  have hd:.sl el e.size (P.es++y)=d:=Option.some.inj hd3
  subst hd
  have hnb:Nat.beq y.length 0=false:=by
   cases hb:Nat.beq y.length 0 with
   |false=>rfl
   |true=>exact absurd (vE hb) hn0
  have hbound:4*(l+y.length)<=100000000000:=by
   have:=o9 hle
   simp only[Nat.mul_eq,Nat.add_eq,Nat.succ_eq_add_one]at this
   have h1:(4*(l+y.length)+4000)*1<=(4*(l+y.length)+4000)*(e.bytes+1):=Nat.mul_le_mul_left _ (by omega)
   omega
  have hcap:(P.es++y).length<qT:=by
   rw[List.length_append,←hll];unfold qT;omega
  have w:(P.es++y).length=l+y.length:=by rw[List.length_append,←hll]
  have fresh:∀{old:List Value},DRs g (P.es.flatMap D.cells) old->old.all qE=true->(∀e'∈P.es,e'.cells.length=e.size)->
    jV E H (t::xt::tr) (s.val ve lb) (x.val ve lb)=some (.val (.slice (some ⟨H.next,0,none⟩) (Nat.add l y.length) qT),H.new (.cells (old++K) el))->jS wA E HS Q n0 H0 g0 fr H o κ:=by
   intro old o1 o2 o3 ha
   have M:=C.heap (H':=H.new (.cells (old++K) el)) lG (C.wf.new _) (Nat.le_succ _) C.low
   have J:=s9 (el:=el) (sz:=e.size) C.toSM (qKE o1 n3) (by rw[List.all_append,o2,n4];rfl) (λe' he=>by
    rcases List.mem_append.1 he with he|he
    ·exact o3 e' he
    exact n5 e' he) hcap
   rw[w]at J
   have u:∀B,vR (.slice (some ⟨H.next,0,none⟩) (l+y.length) qT)=some B->B=H.next:=λB u=>by
    simp only[vR,lR,if_true,oI]at u;exact u.symm
   have h3:=M.newFresh J rfl (λB q=>by rw[u B q];exact d9 C.toSM) (λB c q L=>by have:=(xL C.toSM L).1;rw[u B q];omega)
    (λB i q hi hoi=>by have:=(oM C.toSM hi hoi).1;rw[u B q]at this;omega)
   rw[←hn']at k
   refine⟨.v S'.n,_,_,_,_,_,_,h3,pJ,k,.of_val (Nat.le_succ _) ?_,λ_=>pZ⟩
   simp only[SV.val,jA]
   exact run ha
  rcases hfr with(⟨h1,M⟩|⟨h1,⟨ab,ao,ap⟩,M⟩)|⟨B,l',cs,vs,zS,rt,sz,es',q⟩|⟨B,es',A,rt,ks,ds,q⟩
  rotate_left 3
  ·rw[q.v]at F;cases F
  ·
   -- there was none
   subst M
   have hl0:l=0:=hll
   subst hl0
   refine fresh (old:=[]) .nil rfl (λe' he=>by cases he) ?_
   rw[h1]
   simp only[jV,ht,V,W,hz,G,hle,cond_true,hnb,cond_false]
   rfl
  ·
   -- a U of none
   rw[M]at F
   cases F
   have hsd:∃zS N,P=.sl zS N []:=by
    rw[M]at h1
    cases h1 with
    |leaf h0=>simp[wJ]at h0
    |sl _ _ _ hl=>exact⟨_,_,by rw[List.length_eq_zero_iff.1 hl]⟩
   obtain⟨zS,N,rfl⟩:=hsd
   have hp:ap=none:=by
    rw[M]at h1
    cases h1 with
    |sl=>rfl
   subst hp
   simp only[aE]at p
   have e1:=vE p.1
   have e2:=vE p.2
   subst e1 e2
   refine fresh (old:=[]) .nil rfl (λe' he=>by cases he) ?_
   have c1:Nat.ble qT 0=false:=rfl
   have c2:Nat.ble (Nat.add 0 y.length) 0=false:=by
    cases hb:Nat.ble (Nat.add 0 y.length) 0 with
    |false=>rfl
    |true=>
     have:=o9 hb
     simp only[Nat.add_eq]at this
     have h0:Nat.beq y.length 0=true:=by rw[show y.length=0 by omega];rfl
     rw[h0]at hnb;cases hnb
   rw[M]
   simp only[jV,ht,V,W,hz,G,hle,cond_true,hnb,cond_false,c1,c2,oR,Nat.beq_refl,List.nil_append]
  -- one of its own
  have hd0:=q.d
  subst hd0
  simp only[aE]at p
  have e1:=vE p.1
  have e2:=vE p.2
  subst e1 e2
  obtain⟨ovs,ob,oo,oc,p1,p2,p3,p4,p5,p6⟩:=tY C.mem hsr
  simp only[D.es]at hll hcap w k
  subst hll
  rw[q.v]at p1 F
  cases p1
  cases F
  obtain⟨X,hX⟩:∃X,X=ovs++K++List.drop (Nat.add 0 (Nat.mul (Nat.add es'.length y.length) e.size)) cs:=⟨_,rfl⟩
  obtain⟨x1,x2,x3,x4⟩:=hex B (by rw[q.v];simp[vR])
  have hmv:∀b,b<H.next->¬b=B->(H.move B ⟨.cells cs zS,rt,true⟩ (.cells X zS)).blocks.get b=H.blocks.get b:=λb hb hne=>by
   rw[AH.get_move,if_neg (by omega),if_neg hne]
  have hlow:Nat.min H0.low n0.n<=(H.move B ⟨.cells cs zS,rt,true⟩ (.cells X zS)).low:=
   Nat.le_min.2 ⟨C.low,lT (Nat.min_le_right _ _) q.rt.1⟩
  have M:=C.heap2 (H':=H.move B ⟨.cells cs zS,rt,true⟩ (.cells X zS)) (λb=>b=B) hmv (λb e=>by rw[e];exact x1) (λb c e L=>by rw[e];exact x2 c L) (λb i e hi=>by rw[e];exact x3 i hi) (λb e=>by rw[e];exact x4)
   (C.wf.move q.b _) (Nat.le_succ _) hlow
  have hfl:=qKE p3 n3
  have hal:∀e'∈es'++y,e'.cells.length=e.size:=λe' he=>by
   rcases List.mem_append.1 he with he|he
   ·exact p5 e' he
   exact n5 e' he
  have J:kW g (H.move B ⟨.cells cs zS,rt,true⟩ (.cells X zS)).blocks.get n0 (.sl zS e.size (es'++y)) (.slice (some ⟨H.next,0,none⟩) (es'.length+y.length) qT):=by
   refine .inr (.inl ⟨H.next,_,X,ovs++K,zS,rt,e.size,es'++y,rfl,rfl,?_,⟨q.rt.1,C.base.new.2⟩,?_,hfl,w,hal,by rw[←w];exact hcap,by rw[List.all_append,p4,n4];rfl⟩)
   ·rw[AH.get_move,if_pos rfl]
   have hl:(ovs++K).length=(es'.length+y.length)*e.size:=by rw[hfl.length,gV hal,w]
   rw[hX,xI (by rw[List.length_append];omega),List.take_append_of_le_length (by omega),List.take_of_length_le (by omega)]
  have u:∀B',vR (.slice (some ⟨H.next,0,none⟩) (es'.length+y.length) qT)=some B'->B'=H.next:=λB' u=>by
   simp only[vR,lR,if_true,oI]at u;exact u.symm
  have h3:=M.newFresh J rfl (λB' r=>by rw[u B' r];exact d9 C.toSM) (λB' c r L=>by have:=(xL C.toSM L).1;rw[u B' r];omega)
   (λB' i r hi hoi=>by have:=(oM C.toSM hi hoi).1;rw[u B' r]at this;omega)
  rw[←hn']at k
  refine⟨.v S'.n,_,_,_,_,_,_,h3,pJ,k,.of_val (Nat.le_succ _) ?_,λe=>by
   have:=(hwA e).own
   rw[q.v]at this
   simp[vR]at this⟩
  simp only[SV.val,jA]
  refine run ?_
  have c1:Nat.ble qT qT=true:=bL (lR _)
  have c2:Nat.beq (Nat.mod 0 e.size) 0=true:=by
   have:Nat.mod 0 e.size=0:=Nat.zero_mod _
   rw[this];rfl
  have c3:Nat.beq zS zS=true:=Nat.beq_refl _
  rw[q.v]at p2 ⊢
  simp only[jV,ht,V,W,hz,G,hle,cond_true,hnb,cond_false,c1,q.b,p2,c2,c3,Bool.and_self]
  rw[hX]
  rfl
 split at k
 ·
  -- nil
  exact R (λ_=>.inl ⟨rfl,rfl⟩) h rfl rfl ⟨.inl (.inl ⟨rfl,rfl⟩),rfl⟩ (λB u=>by cases u) k
 ·rename_i i;have hi:i<S.n:=hsb;split at k
  ·
   -- a U of none
   rename_i o1 hst;have hv:=(h.vars i _ hst).2;exact R (λ_=>hv) h rfl rfl ⟨.inl hv,qGa.one hv⟩ (λB u=>by have u:vR (ve i)=some B:=u;rw[qGa.own hv]at u;cases u) k
  ·
   -- a list of the function's own
   rename_i o1 hst;have hf:S.freshV i=true:=zC.2 ⟨_,hst⟩;have hv:=h.vars i _ hst;have go:wp E HS Q (bif wB S x&&Nat.ble 1 e.size then Tree.bind (.app el e.size e.bytes) [.v i,x] (κ (.v S.n) ((S.kill i).new .fresh true))else .fail) ρ->jS true E HS Q n0 H0 g0 fr H o κ:=by
    intro k;refine R (wA:=true) (λe=>by cases e) (h.killed i) oO rfl ⟨hv.2,?_⟩ (λB u=>⟨h.sepFG i B hf u,λc L e=>h.sepX c i L hf (by rw[e];exact u),λj hj hoj=>?_,?_⟩) k
    ·rcases hv.2 with q|⟨B,l,cs,vs,zS,rt,sz,es,q⟩|⟨B,es,A,rt,ks,ds,q⟩
     ·exact q.one
     ·show(getD ρ i).one=true;rw[q.d];rfl
     show(getD ρ i).one=true;rw[q.d];rfl
    ·obtain⟨k1,k2⟩:=jE hj;exact k2 (h.sepF j i B k1 hf hoj u)
    have I:vR (ve i)=some B:=u;rcases hv.2 with q|⟨B',l,cs,vs,zS,rt,sz,es,q⟩|⟨B',es,A,rt,ks,ds,q⟩
    ·rw[q.own]at I;cases I
    ·rw[q.v]at I;simp only[vR,lR,if_true,oI]at I;subst I;exact q.rt.2
    rw[q.own]at I;cases I;exact q.rt.2
   have hap:qPD S [.v i,x]=true:=hf;rw[hap];split at k
   ·rename_i j;rw[cond_eq_ite]at k;split at k
    ·cases k
    exact go k
   exact go k
  cases k
 cases k
end
end Go.Am
namespace Go.Am
open Go
section
variable{E:Env}{n0:Lim}{H0:AH}{g0:zB}{S:St}{ρ:List D}{ve:Nat->Value}{lb:Nat->Nat}{g:zB}{fr:Fr}{H:AH}{HS:FuncId->List D->D->Prop}{Q:Res1->Prop}{o:Oper}{κ:K1}{wm:Bool}
theorem qDF(h:SR E n0 H0 g0 S ρ ve lb g fr H){t:TypeId}{n:Nat}{ps:Array (Nat×Operand)}(ho:o.op=.buildSlice t n ps)(b:wp E HS Q (vZ E o S κ) ρ):jS wm E HS Q n0 H0 g0 fr H o κ:=by
 unfold vZ at b;rw[ho]at b;simp only at b;split at b;case h_2=>cases b
 rename_i el hel;obtain⟨sz,bt,z0,ag,ht⟩:=xM hel;split at b;case h_2=>cases b
 rename_i e Z;split at b;case h_2=>cases b
 rename_i z hz;obtain⟨K,b⟩:=jC b;simp only[aE]at K;have I:=vE K.1;have hn:=vE K.2;obtain⟨l,S1,j,W,g1,e1,h1,X,r1,r2,r3,vs,r4,M⟩:=qHE (size:=e.size) I ps.toList (acc:=[]) (done:=[]) h trivial (by simp) rfl (λx N=>by cases N) b;obtain⟨g2,d,e2,C,hp,hd,u⟩:=qAB h1 X;rw[qAt]at hd;cases y:((SV.ds (getD j) l).all (λe'=>Nat.beq e'.cells.length e.size)&&Nat.ble (Nat.mul (SV.ds (getD j) l).length (Nat.succ e.size)) 1000000)with
 |false=>rw[y]at hd;cases hd
 | true=>
  rw[y]at hd;simp only[cond_true,oI]at hd;subst hd;simp only[aE]at y;have hlen:(SV.ds (getD j) l).length=n:=by rw[SV.ds_map,List.length_map,r3,hn];simp
  have R:=lC C.toSM hp;have A:=qI6 R;have p:=qOK R (λd hd=>by rw[SV.ds_map]at hd;obtain⟨x,N,rfl⟩:=List.mem_map.1 hd;exact(r2 x N).2);have O:∀x∈SV.ds (getD j) l,x.cells.length=e.size:=λx N=>by have:=y.1;rw[List.all_eq_true]at this;exact vE (this x N)
  rw[SV.vals_map]at A p;generalize hcs:(l.map (SV.val W lb)).flatMap (λv=>v.cells.toList)=cs at M A p;have hcl:cs.length=n*e.size:=by rw[A.length,gV O,hlen]
  have w:n*(e.size+1)<=1000000:=by have:=o9 y.2;rw[hlen]at this;exact this
  have J:n<qT:=by have:n*1<=n*(e.size+1):=Nat.mul_le_mul_left n (by omega);unfold qT;omega
  have h3:=C.heap (H':=H.new (.cells cs el)) lG (C.wf.new _) (Nat.le_succ _) C.low;have r:∀{c:Nat},c=(bif Nat.beq n 0 then 0 else qT)->vT E fr o H=some (.val (.slice (some ⟨H.next,0,none⟩) n c),H.new (.cells cs el)):=by
   intro c hcc;subst hcc;unfold vT;rw[ho];simp only[List.nil_append]at M;rw[←hn]at M;have G:Nat.ble (Nat.mul n (Nat.succ e.size)) 1000000=true:=bL w;obtain⟨ed,es,eb,ez,ea⟩:=e;simp only at hz I G M;subst hz;have hb2:Nat.beq z.length es=true:=by rw[I];exact Nat.beq_refl _
   simp only[r4,wX,ht,Z,hb2,G,Bool.and_self,cond_true,M,Option.map_some]
  by_cases h0:n=0
  ·subst h0;have P:SV.ds (getD j) l=[]:=List.length_eq_zero_iff.1 hlen;have U:cs=[]:=List.length_eq_zero_iff.1 (by rw[hcl,Nat.zero_mul]);subst U;have h4:=(C.allocPure [] el).new (k:=.full) (o:=true) (d:=.sl el e.size []) (v:=.slice (some ⟨H.next,0,none⟩) 0 0) (by simp) ⟨λ_=>rfl,.inr ⟨.sl (cs:=[]) (vs:=[]) (sz:=e.size) zB.add_at (by rw[Nat.zero_mul];rfl) .nil rfl (λ_ h=>by cases h) (lR _) (by unfold qT;omega) rfl,_,rfl⟩⟩;rw[P]at u;refine⟨_,_,_,_,_,_,_,h4,pJ,u,.of_val (Nat.le_succ _) ?_,λ_=>pZ⟩;simp only[SV.val,jA];exact r rfl
  have V:Nat.beq n 0=false:=by
   cases K:Nat.beq n 0 with
   |false=>rfl
   |true=>exact absurd (vE K) h0
  rw[V]at u;have F:=s9 (el:=el) (sz:=e.size) C.toSM A p O (by rw[hlen];exact J);rw[hlen]at F;have L:∀B,vR (.slice (some ⟨H.next,0,none⟩) n qT)=some B->B=H.next:=λB L=>by simp only[vR,lR,if_true,oI]at L;exact L.symm
  have h4:=h3.newFresh F rfl (λB q=>by rw[L B q];exact d9 C.toSM) (λB c q K=>by have:=(xL C.toSM K).1;rw[L B q];omega)
   (λB i q hi hoi=>by have:=(oM C.toSM hi hoi).1;rw[L B q]at this;omega)
  refine⟨_,_,_,_,_,_,_,h4,pJ,u,.of_val (Nat.le_succ _) ?_,λ_=>pZ⟩;simp only[SV.val,jA];exact r (by rw[V];rfl)
theorem nF{d:D}(h:d.one=true):d.cells=[d]:=by cases d<;>first|rfl|(simp[D.one]at h)
theorem qLv{x y:Operand}(h:qFc x y=true):y=x:=by
 unfold qFc at h;split at h
 ·rw[vE h]
 ·simp only[aE,decide_eq_true_eq]at h;rw[h.1,h.2]
 cases h
theorem qSm{ag:Bool}{z:List Value}{sz:Nat}(y:z.length=sz)(h:z.all (λv=>zF v&&qE v)=true)(x:(ag||Nat.beq sz 1)=true):(zD ag z).cells=z.map qIc/\DRs g (z.map qIc) z:=by
 have hr:DRs g (z.map qIc) z:=by
  clear y;induction z with
  |nil=>exact .nil
  |cons v l ih=>simp only[List.all_cons,aE]at h;exact .cons (qFw 6 v h.1.1) (ih (by simpa using h.2))
 refine⟨?_,hr⟩;cases ag with
 |true=>rfl
 | false=>
  simp only[Bool.false_or]at x;have c:=vE x;rw[c]at y
  match z,y with
  | [v],_=>
   simp only[List.all_cons,List.all_nil,Bool.and_true,aE]at h;have hd:DR g (qIc v) v:=qFw 6 v h.1;have b:(qIc v).one=true:=by rw[←hd.one];exact h.2
   show(qIc v).cells=[qIc v];exact nF b
theorem qFj{d:D}{z:List Value}(h:DRs g d.cells z):∀n,DRs g ((List.replicate n d).flatMap D.cells) (xG z n)
 |0=>.nil
 |n+1=>by rw[List.replicate_succ,List.flatMap_cons];exact h.append (qFj h n)
theorem qB7{z:List Value}(h:z.all qE=true):∀n,(xG z n).all qE=true
 |0=>rfl
 |n+1=>by rw[xG,List.all_append,h,qB7 h n];rfl
theorem qUt(h:SR E n0 H0 g0 S ρ ve lb g fr H){t:TypeId}{l c:Operand}(ho:o.op=.makeSlice t l c){el:TypeId}{x:SV}{e:TI}{z:List Value}(K:wM E t=some el)(Z:rP S l=some x)(G:E.types.get el=some e)(U:e.zero=some z)(F:wp E HS Q (match rP S c with
     |some y=>bif wB S x&&wB S y then .bind (.mk el e.size e.bytes e.agg z) [x,y] (κ (.v S.n) (S.new .fresh true))else .fail
     |none=>.fail) ρ):jS wm E HS Q n0 H0 g0 fr H o κ:=by
 obtain⟨W,bt0,z0,ag0,ht⟩:=xM K
 split at F
 case h_2=>cases F
 rename_i y X
 obtain⟨w,j⟩:=jC F
 simp only[aE]at w
 obtain⟨xb,R⟩:=zJ (E:=E) h Z
 obtain⟨yb,P⟩:=zJ (E:=E) h X
 simp only[wp]at j
 split at j
 case h_2=>cases j
 rename_i d hd
 simp only[SV.ds,qO1]at hd
 split at hd
 case h_2=>cases hd
 rename_i n J hn
 obtain⟨b,hd⟩:=qW hd
 simp only[aE,Nat.mul_eq,Nat.add_eq,Nat.succ_eq_add_one]at b
 obtain⟨⟨⟨c1,c2⟩,c3⟩,V⟩:=b
 simp only[oI]at hd
 subst hd
 obtain⟨k,C⟩:=cJ (zE h.toSM w.1) J
 obtain⟨k',A⟩:=cJ (zE h.toSM w.2) hn
 have h3:=h.heap (H':=H.new (.cells [] el)) lG (h.wf.new _) (Nat.le_succ _) h.low
 have r:=s9 (el:=el) (sz:=e.size) (es:=[]) (vs:=[]) h.toSM .nil rfl (λe' L=>by cases L) (by unfold qT;decide)
 have p:∀B,vR (.slice (some ⟨H.next,0,none⟩) 0 qT)=some B->B=H.next:=λB p=>by
  simp only[vR,lR,if_true,oI]at p;exact p.symm
 have h4:=h3.newFresh r rfl (λB q=>by rw[p B q];exact d9 h.toSM) (λB c q w=>by have:=(xL h.toSM w).1;rw[p B q];omega)
  (λB i q hi I=>by have:=(oM h.toSM hi I).1;rw[p B q]at this;omega)
 refine⟨_,_,_,_,_,_,_,h4,pJ,j,.of_val (Nat.le_succ _) ?_,λ_=>pZ⟩
 unfold vT;rw[ho]
 rw[C]at R
 rw[A]at P
 obtain⟨ed,es,eb,ez,ea⟩:=e
 simp only at U c1 V
 subst U
 have N:Nat.ble 0 n=true:=bL (Nat.zero_le n)
 have M:Nat.ble (Nat.mul n (Nat.succ (Nat.add eb es))) 1000000000=true:=V
 have O:Nat.beq 0 0=true:=rfl
 have u:(bif Nat.beq 0 n then qT else qT)=qT:=by cases Nat.beq 0 n<;>rfl
 simp only[R,P,gK,ht,nat?,G,c1,N,M,Bool.and_self,cond_true,O,u,xG,SV.val,jA,List.length_nil]
theorem qXN(h:SR E n0 H0 g0 S ρ ve lb g fr H){t:TypeId}{l c:Operand}(M:o.op=.makeSlice t l c)(y:wp E HS Q (vZ E o S κ) ρ):jS wm E HS Q n0 H0 g0 fr H o κ:=by
 unfold vZ at y;rw[M]at y;simp only at y;split at y;case h_2=>cases y
 rename_i el x G hx;obtain⟨sz0,bt0,z0,ag0,ht⟩:=xM G;split at y;case h_2=>cases y
 rename_i e C;split at y;case h_2=>cases y
 rename_i z J;cases b:(qFc l c&&wB S x)with
 |false=>rw[b]at y;simp only[cond_false]at y;exact qUt h M G hx C J y
 |true=>
 rw[b]at y;simp only[cond_true]at y;have p:=y;have I:=b;simp only[aE]at I;obtain⟨xb,xe⟩:=zJ (E:=E) h hx;have P:=qLv I.1;subst P;simp only[wp]at p;split at p;case h_2=>cases p
 rename_i d hd;simp only[SV.ds,qO2]at hd;split at hd;case h_2=>cases hd
 rename_i n hn;obtain⟨j,hd⟩:=qW hd;simp only[aE,Nat.mul_eq,Nat.add_eq,Nat.succ_eq_add_one]at j;obtain⟨⟨⟨c1,Z⟩,c3⟩,X⟩:=j;have u:=vE c1;simp only[oI]at hd;subst hd;obtain⟨k,K⟩:=cJ (zE h.toSM I.2) hn;obtain⟨q1,q2⟩:=qSm (g:=g) u Z (by simpa using c3);have F:z.all qE=true:=by rw[List.all_eq_true]at Z ⊢;intro v hv;have:=Z v hv;simp only[aE]at this;exact this.2
 have O:=o9 X;have w:n<qT:=by have:n*1<=n*(e.bytes+e.size+1):=Nat.mul_le_mul_left n (by omega);unfold qT;omega
 have h3:=h.heap (H':=H.new (.cells (xG z n) el)) lG (h.wf.new _) (Nat.le_succ _) h.low;have r:=s9 (el:=el) (sz:=e.size) (es:=List.replicate n (zD e.agg z)) h.toSM (qFj (by rw[q1];exact q2) n) (qB7 F n) (λe' R=>by rw[List.eq_of_mem_replicate R,q1,List.length_map,u]) (by rw[List.length_replicate];exact w);rw[List.length_replicate]at r;have A:∀B,vR (.slice (some ⟨H.next,0,none⟩) n qT)=some B->B=H.next:=λB A=>by simp only[vR,lR,if_true,oI]at A;exact A.symm
 have h4:=h3.newFresh r rfl (λB q=>by rw[A B q];exact d9 h.toSM) (λB c q I=>by have:=(xL h.toSM I).1;rw[A B q];omega)
  (λB i q hi L=>by have:=(oM h.toSM hi L).1;rw[A B q]at this;omega)
 refine⟨_,_,_,_,_,_,_,h4,pJ,p,.of_val (Nat.le_succ _) ?_,λ_=>pZ⟩;unfold vT;rw[M];rw[K]at xe;obtain⟨ed,es,eb,ez,ea⟩:=e;simp only at J u O c1 X;subst J;have W:Nat.beq n n=true:=Nat.beq_refl n;have N:(bif Nat.beq n 0 then 0 else n)=n:=by rw[qY];split<;>omega
 have V:Nat.ble n n=true:=bL (lR n);have U:Nat.ble (Nat.mul n (Nat.succ (Nat.add eb es))) 1000000000=true:=X;simp only[xe,gK,ht,nat?,C,c1,V,U,Bool.and_self,cond_true,W,N,SV.val,jA]
theorem qNb{cs xs:List D}{off:Nat}(h:off+xs.length<=cs.length):(uU cs off xs).length=cs.length:=by simp[uU];omega
theorem qBV{e:D}{off sz:Nat}{xs:List D}(l:e.cells.length=sz)(b:off+xs.length<=sz)(c:xs.all D.one=true):(uV e off xs).cells=uU e.cells off xs:=by
 have y:e.cells=[e]->(∀cs,e≠.agg cs)->(uV e off xs).cells=uU e.cells off xs:=by
  intro j i;have q:sz=1:=by rw[←l,j];rfl
  have k:uV e off xs=(match (generalizing:=false) xs with
   | [x]=>x
   |_=>e):=by
   cases e with
   |agg cs=>exact absurd rfl (i cs)
   |_=>rfl
  rw[k,j]
  match xs,b,c with
  | [],b,_=>simp only[j,uU,List.length_nil,Nat.add_zero,List.nil_append,List.take_append_drop]
  | [x],b,c=>
   have p:off=0:=by simp at b;omega
   subst p;simp only[List.all_cons,List.all_nil,Bool.and_true]at c;rw[nF c];simp[uU]
  |_::_::_,b,_=>simp at b;omega
 cases e with
 |agg cs=>rfl
 |_=>exact y rfl (λ_ h=>by cases h)
theorem qOJ{es:List D}{sz n off:Nat}{e:D}{xs:List D}(x:∀e∈es,e.cells.length=sz)(he:es[n]? = some e)(c:off+xs.length<=sz)(i:xs.all D.one=true):(es.set n (uV e off xs)).flatMap D.cells=uU (es.flatMap D.cells) (n*sz+off) xs:=by
 have b:n<es.length:=(gI he).1;have y:=x e (List.mem_of_getElem? he);rw[List.set_eq_take_append_cons_drop,if_pos b,List.flatMap_append,List.flatMap_cons,qBV y c i,←gU x,←kP x];have h:(es.flatMap D.cells).drop (n*sz)=e.cells++(es.flatMap D.cells).drop ((n+1)*sz):=by
  rw[kP x,kP x];have:es.drop n=e::es.drop (n+1):=by rw[List.drop_eq_getElem_cons b];congr 1;exact(gI he).2
  rw[this,List.flatMap_cons]
 unfold uU;have k:(es.flatMap D.cells).take (n*sz+off)=(es.flatMap D.cells).take (n*sz)++e.cells.take off:=by rw[List.take_add,h,List.take_append_of_le_length (by omega)]
 have j:(es.flatMap D.cells).drop (n*sz+off+xs.length)=e.cells.drop (off+xs.length)++(es.flatMap D.cells).drop ((n+1)*sz):=by rw[Nat.add_assoc,←List.drop_drop,h,List.drop_append_of_le_length (by omega)]
 rw[k,j];simp only[List.append_assoc]
def qDU{α:Type}(cs:List α)(off:Nat)(xs:List α):List α:=cs.take off++(xs++cs.drop (off+xs.length))
theorem dM{cs xs:List Value}{i:Nat}(h:i+xs.length<=cs.length):j4 cs i xs=some (qDU cs i xs):=by
 have e:cs=cs.take i++((cs.drop i).take xs.length++cs.drop (i+xs.length)):=by rw[←List.drop_drop,List.take_append_drop,List.take_append_drop]
 have x:(cs.take i).length=i:=by rw[List.length_take];omega
 have:=eX (cs.take i) ((cs.drop i).take xs.length) (cs.drop (i+xs.length)) xs (by rw[List.length_take,List.length_drop];omega);rw[←e,x]at this;exact this
theorem qBS{α:Type}{cs xs:List α}{i N:Nat}(h:i+xs.length<=N)(y:N<=cs.length):(qDU cs i xs).take N=qDU (cs.take N) i xs:=by
 have x:(cs.take i).length=i:=by rw[List.length_take];omega
 unfold qDU;rw[List.take_append,x,List.take_append,List.take_of_length_le (by omega:(cs.take i).length<=N),List.take_of_length_le (by omega:xs.length<=N-i),List.take_take,Nat.min_eq_left (by omega:i<=N),List.drop_take]
 congr 3
 omega
theorem qQq{i n:Nat}{x:SV}{ve:Nat->Value}(h:ve n=ve i):(SV.ren i n x).val ve lb=x.val ve lb:=by
 unfold SV.ren;split
 ·rename_i j;cases y:Nat.beq j i with
  |false=>rfl
  |true=>have:=vE y;subst this;exact h
 ·rename_i j k sz off;cases y:Nat.beq j i with
  |false=>rfl
  |true=>have:=vE y;subst this;simp only[cond_true,SV.val,h]
 rfl
theorem qUj{i n N m:Nat}{x:SV}(h:x.bd N m)(y:n<N):(SV.ren i n x).bd N m:=by
 unfold SV.ren;split
 ·rename_i j;cases b:Nat.beq j i with
  |false=>exact h
  |true=>exact y
 ·rename_i j k sz off;cases b:Nat.beq j i with
  |false=>exact h
  |true=>exact⟨y,h.2⟩
 exact h
theorem qMu{g:zB}{ag:Bool}{size:Nat}{d d':D}{v:Value}(h:eK ag size d=some d')(b:DR g d v):d.cells.length=size/\d.cells.all D.one=true/\dC v:=by
 obtain⟨_,i,e⟩:=aM h;cases ag with
 |true=>obtain⟨cs,rfl,c⟩:=i rfl;obtain⟨vs,hv,y,x⟩:=wT b rfl;exact⟨c,by show cs.all D.one=true;rw[←y.all_one];exact x,bG b rfl⟩
 |false=>obtain⟨x,hs⟩:=e rfl;rw[nF x];exact⟨by rw[hs];rfl,by simp[x],qAc b x⟩
mutual
theorem bC{i n:Nat}{ve:Nat->Value}(h:ve n=ve i):∀(x:SV),(SV.renD i n x).val ve lb=x.val ve lb
 |.v j=>by
  simp only[SV.renD];cases y:Nat.beq j i with
  |false=>rfl
  |true=>have:=vE y;subst this;exact h
 |.c _=>rfl
 |.loc _ _=>rfl
 |.ptr s k sz off=>by simp only[SV.renD,SV.val,bC h s,bC h k]
 |.pp _ _=>rfl
 |.agg cs=>by simp only[SV.renD,SV.val,gN h cs]
 |.tup cs=>by simp only[SV.renD,SV.val,gN h cs]
 |.fn f a b=>by simp only[SV.renD,SV.val,gN h a,gN h b]
 |.ifc t x=>by simp only[SV.renD,SV.val,bC h x]
 |.yld _=>rfl
theorem gN{i n:Nat}{ve:Nat->Value}(h:ve n=ve i):∀(xs:List SV),SV.vals ve lb (SV.renDs i n xs)=SV.vals ve lb xs
 | []=>rfl
 |x::xs=>by simp only[SV.renDs,SV.vals,bC h x,gN h xs]
end
mutual
theorem e8{i n N m:Nat}(y:n<N):∀{x:SV},x.bd N m->(SV.renD i n x).bd N m
 |.v j,h=>by
  simp only[SV.renD];cases c:Nat.beq j i with
  |false=>exact h
  |true=>exact y
 |.c _,h=>h
 |.loc _ _,h=>h
 |.ptr s k _ _,h=>⟨e8 y (x:=s) h.1,e8 y (x:=k) h.2⟩
 |.pp _ _,h=>h
 |.agg cs,h=>nY y (xs:=cs) h
 |.tup cs,h=>nY y (xs:=cs) h
 |.fn _ a b,h=>⟨nY y (xs:=a) h.1,nY y (xs:=b) h.2⟩
 |.ifc _ x,h=>e8 y (x:=x) h
 |.yld _,h=>h
theorem nY{i n N m:Nat}(x:n<N):∀{xs:List SV},SV.bds N m xs->SV.bds N m (SV.renDs i n xs)
 | [],_=>trivial
 |_::_,h=>⟨e8 x h.1,nY x h.2⟩
end
theorem qQr{i n N m:Nat}(y:n<N){b:Blk}(h:b.bd N m):(b.renD i n).bd N m:=by
 cases b with
 |cells cs=>exact nY y (xs:=cs) h
 |whole x k=>exact h
 |loop a b=>trivial
 |tcells t cs=>exact nY y (xs:=cs) h
theorem qQs{i n l:Nat}{q:zB}{r:Nat->D}{ve:Nat->Value}(e:ve n=ve i){b:Blk}(h:nC n0 r ve lb q l b):nC n0 r ve lb q l (b.renD i n):=by
 cases b with
 |cells cs=>obtain⟨el,rt,cs',j,c,y⟩:=h;refine⟨el,rt,cs',j,c,?_⟩;show cs'=SV.vals ve lb (SV.renDs i n cs);rw[gN e];exact y
 |whole x k=>exact h
 |loop a b=>exact h
 |tcells t cs=>cases t with
  |zero=>obtain⟨rt,p,cs',j,c,y⟩:=h;refine⟨rt,p,cs',j,c,?_⟩;show _=SV.vals ve lb (SV.renDs i n cs);rw[gN e];exact y
  |succ t=>obtain⟨rt,p,cs',j,c,u,y⟩:=h;refine⟨rt,p,cs',j,c,u,?_⟩;show cs'=SV.vals ve lb (SV.renDs i n cs);rw[gN e];exact y
theorem nI{i:Nat}{d:D}{H':AH}(N:S.freshV i=true)(c:SR E n0 H0 g0 ((S.kill i).new .fresh true) (ρ++[d]) (mW ve S.n (ve i)) lb g fr H'):SR E n0 H0 g0 (S.mapped i) (ρ++[d]) (mW ve S.n (ve i)) lb g fr H':=by
 have L:i<S.n:=tU N;have e:mW ve S.n (ve i) S.n=mW ve S.n (ve i) i:=by rw[jA,iK L]
 have C:S.n<((S.kill i).new .fresh true).n:=by rw[xQ,oO];omega
 have live:∀b,(S.mapped i).live b->S.live b:=by
  rintro b ⟨x,A⟩;have h:(S.blks.map (λb=>b.map (Blk.renD i S.n)))[b]? = some (some x):=A;rw[List.getElem?_map]at h;cases p:S.blks[b]? with
  |none=>rw[p]at h;cases h
  |some y=>cases y with
   |none=>rw[p]at h;simp at h
   |some y=>exact⟨y,p⟩
 have k:(S.mapped i).blks.length=S.blks.length:=by show(S.blks.map _).length=_;rw[List.length_map]
 exact {
  len:=c.len,wf:=c.wf,mem:=c.mem,base:=c.base
  fix:=by rw[k];exact c.fix
  vars:=c.vars
  blks:=by
   intro b x A;have h:(S.blks.map (λb=>b.map (Blk.renD i S.n)))[b]? = some (some x):=A;rw[List.getElem?_map]at h;cases p:S.blks[b]? with
   |none=>rw[p]at h;cases h
   |some y=>cases y with
    |none=>rw[p]at h;simp at h
    |some y=>rw[p]at h;simp only[Option.map_some,oI]at h;subst h;obtain⟨p1,p2⟩:=c.blks b y p;rw[k];exact⟨qQr C p1,qQs e p2⟩
  sepLG:=λb p=>c.sepLG b (live b p)
  sepFG:=c.sepFG
  sepL:=λa b M p=>c.sepL a b (live a M) (live b p)
  sepF:=c.sepF
  sepX:=λb j p=>c.sepX b j (live b p)
  sz:=c.sz,rd:=c.rd
  slots:=by intro u y z;have r:(S.slots.map (SV.renD i S.n)).get u=some y:=z;rw[Go.Am.T.get_map]at r;simp only[Option.map_eq_some_iff]at r;obtain⟨F,w,rfl⟩:=r;obtain⟨p1,p2⟩:=c.slots u F w;rw[k];exact⟨e8 C p1,by rw[bC e];exact p2⟩
  sav:=by
   intro j l K u y z;have q:(S.sav.map (λl=>l.map (λ(t,x)=>(t,SV.renD i S.n x))))[j]? = some l:=K;rw[List.getElem?_map]at q;cases B:S.sav[j]? with
   |none=>rw[B]at q;cases q
   |some J=>rw[B]at q;simp only[Option.map_some,oI]at q;subst q;obtain⟨⟨I,G⟩,hm,he⟩:=List.mem_map.1 z;cases he;obtain⟨p1,f,p2,p3⟩:=c.sav j J B I G hm;rw[k];exact⟨e8 C p1,f,p2,by rw[bC e];exact p3⟩
  keep:=c.keep,gk:=c.gk,low:=c.low,tab:=c.tab}
theorem qUr(h:SR E n0 H0 g0 S ρ ve lb g fr H){t:TypeId}{x1 x2:Operand}{i:Nat}{j x:SV}{sz off:Nat}(ho:o.op=.store t x1 x2)(h1:ev E fr x1=some ((SV.ptr (.v i) j sz off).val ve lb))(h2:ev E fr x2=some (x.val ve lb))(X:wp E HS Q (qUd E t i j sz off x S κ) ρ):jS true E HS Q n0 H0 g0 fr H o κ:=by
 unfold qUd at X;split at X
 ·cases X
 rename_i ti ht;simp only at X;obtain⟨g1,e1,q⟩:=mD x h;generalize rC S x=T at X e1 q;obtain⟨W,K⟩:=jC X;simp only[aE]at W;obtain⟨⟨c1,c2⟩,c3⟩:=W;simp only[wp]at K;split at K;case h_2=>cases K
 rename_i d hd;simp only[SV.ds,qCW]at hd;have G:=jQ q.toSM c1;have hjr:=zE q.toSM c2;obtain⟨of,hst⟩:=zC.1 c3;have hi:i<T.n:=tU c3;have hv:=(q.vars i _ hst).2;have C:=q.sepFG i;split at hd;case h_2=>cases hd
 rename_i el y es n ck hdi hn hck;split at hd;case h_2=>cases hd
 rename_i e he;obtain⟨A,hd⟩:=qW hd;simp only[aE]at A;have hsz:=vE A.1;have N:=o9 A.2;subst hsz;simp only[oI]at hd;obtain⟨k,hjv⟩:=cJ hjr hn;obtain⟨x3,x4,x5⟩:=qMu hck G;have F:getD ρ i=.sl el y es:=hdi;rcases hv with qn|⟨B,l,cs,vs,zS,rt,sz2,es2,u⟩|⟨B,es2,clock,rt,ks,ds,u⟩
 rotate_left 2
 ·have I:=u.d;rw[F]at I;cases I
 ·exfalso;rcases qn.sl with w|⟨_,_,w⟩
  ·rw[F]at w;cases w
  rw[F]at w;cases w;simp at he
 have I:=u.d;rw[F]at I;cases I;have p:vR (ve i)=some B:=by rw[u.v];simp[vR]
 have hnl:n<es.length:=(gI he).1;have J:(x.val ve lb).cells.toList.length=ti.size:=by rw[G.cells.length,x3]
 obtain⟨t1,t2⟩:=jF u.t;have hpos:n*y+off+ti.size<=l*y:=by have:(n+1)*y<=l*y:=Nat.mul_le_mul_right _ (by rw[←u.n];omega);rw[Nat.succ_mul]at this;omega
 have hsp:=dM (cs:=cs) (xs:=(x.val ve lb).cells.toList) (i:=n*y+off) (by rw[J];omega);generalize hr:qDU cs (n*y+off) (x.val ve lb).cells.toList=r at hsp;have M:=qBP (t:=t) ht (H:=H) (v:=x.val ve lb) u.b J hsp;have R:=qOJ u.s he (off:=off) (xs:=(x.d (getD ρ)).cells) (by rw[x3];exact N) x4;have hrl:take? r (l*y)=some (qDU vs (n*y+off) (x.val ve lb).cells.toList):=by
  rw[←hr];have hlen:l*y<=(qDU cs (n*y+off) (x.val ve lb).cells.toList).length:=by simp[qDU,J];omega
  rw[xI hlen,qBS (by rw[J];exact hpos) t2,←t1]
 have hdrs:DRs g1 ((es.set n (uV e off (x.d (getD ρ)).cells)).flatMap D.cells) (qDU vs (n*y+off) (x.val ve lb).cells.toList):=by rw[R];have hl:(x.d (getD ρ)).cells.length=(x.val ve lb).cells.toList.length:=G.cells.length.symm;unfold uU qDU;rw[hl];exact(u.r.take _).append (G.cells.append (u.r.drop _))
 have hone:(qDU vs (n*y+off) (x.val ve lb).cells.toList).all qE=true:=by
  have h0:=u.o;have Z:(x.val ve lb).cells.toList.all qE=true:=by rw[G.cells.all_one];exact x4
  rw[List.all_eq_true]at h0 Z ⊢;intro v hv;simp only[qDU,List.mem_append]at hv;rcases hv with hv|hv|hv
  ·exact h0 v (List.mem_of_mem_take hv)
  ·exact Z v hv
  exact h0 v (List.mem_of_mem_drop hv)
 have P:∀e'∈es.set n (uV e off (x.d (getD ρ)).cells),e'.cells.length=y:=by
  intro e' V;rcases List.mem_or_eq_of_mem_set V with V|rfl
  ·exact u.s e' V
  have U:=u.s e (List.mem_of_getElem? he);rw[qBV U (by rw[x3];exact N) x4,qNb (by rw[U,x3];exact N),U]
 have k1:=q.killed i
 have k2:=k1.heap2 (H':=H.write B ⟨.cells cs el,rt,true⟩ (.cells r el)) (λb=>b=B) (λb _ L=>by rw[AH.get_write,if_neg L]) (λb L=>by subst L;exact C b c3 p)
  (λb c L hl e=>by subst L;exact q.sepX c i hl c3 (by rw[e];exact p))
  (λb jj L hf O=>by subst L;obtain⟨a1,a2⟩:=jE hf;exact a2 (q.sepF jj i b a1 c3 O p))
  (λb L=>by subst L;exact u.rt.2) (q.wf.write u.b _) (lR _) (by show _<=Nat.min H.low rt;exact Nat.le_min.2 ⟨q.low,lT (Nat.min_le_right _ _) u.rt.1⟩)
 have k3:=k2.newFresh (d:=d) (v:=ve i) (by
   rw[←hd]
   refine .inr (.inl ⟨B,l,r,_,el,rt,y,_,u.v,rfl,by rw[AH.get_write,if_pos rfl],u.rt,hrl,hdrs,by rw[List.length_set];exact u.n,P,u.x,hone⟩)) (by rw[←hd];rfl)
  (λB' z=>by rw[p]at z;cases z;exact C B c3 p) (λB' c z W e=>by rw[p]at z;cases z;exact q.sepX c i W c3 (by rw[e];exact p))
  (λB' jj z hf O=>by rw[p]at z;cases z;obtain⟨a1,a2⟩:=jE hf;exact a2 (q.sepF jj i B a1 c3 O p))
 rw[oO]at k3;have k4:SR E n0 H0 g0 (T.mapped i) (ρ++[d]) (mW ve T.n (ve i)) lb g1 fr (H.write B ⟨.cells cs el,rt,true⟩ (.cells r el)):=nI c3 k3;refine⟨.tup [],_,_,_,_,_,_,k4,trivial,K,.of_skip (lR _) ?_,λe=>by cases e⟩;unfold vT;rw[ho];simp only[h1,h2];have hadr:(SV.ptr (.v i) j y off).val ve lb=.pointer (some ⟨B,n*y+off,none⟩):=by simp only[SV.val,hjv,u.v,qCc,Nat.zero_add]
 rw[hadr];generalize x.val ve lb=xv at x5 M;split
 ·rename_i c _ W;simp only[oI]at W;exact absurd W (x5 _)
 ·rename_i a' v' hn' e1' e2';simp only[oI]at e1' e2';subst e1' e2';rw[M];rfl
 rename_i hn';exact absurd rfl (hn' _ _ rfl)
theorem qEJ:∀{es:List D} {l:List UInt8} {vs:List Value},cQ es=some l->DRs g (es.flatMap D.cells) vs->nA vs=some l
 | [],l,vs,h,hr=>by simp only[cQ,oI]at h;subst h;cases hr;rfl
 | e::es,l,vs,h,hr=>by
  unfold cQ at h;split at h
  ·rename_i x;cases x
  ·rename_i b r x;cases x;simp only[Option.map_eq_some_iff]at h;obtain⟨k,j,rfl⟩:=h;have y:DRs g (.leaf (.int .u8 b)::es.flatMap D.cells) vs:=hr;cases y with
   |cons i c=>obtain⟨rfl,_⟩:=i.leaf_inv;simp only[nA,qEJ j c,Option.map_some]
  cases h
theorem qUq(h:SR E n0 H0 g0 S ρ ve lb g fr H){s d:TypeId}{x:Operand}(z:o.op=.convert s d x)(t:fR E s d=none)(c:uJ E s d=true)(i:wp E HS Q (vZ E o S κ) ρ):jS wm E HS Q n0 H0 g0 fr H o κ:=by
 unfold vZ at i;rw[z]at i;simp only[t,c,cond_true]at i;split at i;case h_2=>cases i
 rename_i y F;obtain⟨V,he⟩:=zJ (E:=E) h F;obtain⟨W,J,e,h3⟩:=zV i;have w:=zE h.toSM (J _ (List.mem_singleton.2 rfl));simp only[SV.ds,qO0]at e;split at e;case h_2=>cases e
 rename_i el sz es q;rw[q]at w;cases r:Nat.beq sz 1 with
 |false=>rw[r]at e;cases e
 |true=>
  rw[r]at e;have j:=vE r;subst j;simp only[cond_true,Option.map_eq_some_iff]at e;obtain⟨l,I,rfl⟩:=e;obtain⟨vs,b,U,X,C,u,B,R,P,O⟩:=tY h.mem w;refine .new h (k:=.pure) (one:=true) (by simp) (v:=.string ⟨⟨l⟩⟩) ⟨λ_=>rfl,.leaf rfl⟩ h3 ?_;unfold vT;rw[z];rw[C]at he u;simp only[he];unfold uJ at c;split at c;case h_2=>cases c
  rename_i zS p;obtain⟨A,M,z0,N,G⟩:=xM p;split at c;case h_2=>cases c
  rename_i L K;simp only[l7,G,K,u,L,qEJ I B,Option.map_some,one]
end
end Go.Am
namespace Go.Am
open Go
section
variable{E:Env}
theorem qGX{t:TypeId}{kd:TypeDesc}{ag:Bool}{z:List Value}(h:qIL E t=some (kd,ag,z)):∃c e sz b z0 y x,E.types.get t=some ⟨.map c e,sz,b,z0,y⟩/\qS E.prog (underlying c)=some kd/\qF7 kd=true/\E.types.get e=some x/\x.zero=some z/\x.agg=ag:=by unfold qIL at h;grind
theorem qG8{kd:TypeDesc}{k:Value}:∀{es:List MapEntry} {i:Nat} {r:Option Nat},qBc kd k (es.map (·.key)) i=some r->∃x,Instr.findNow kd k es i=some x/\x.map Prod.fst=r/\∀j v,x=some (j,v)->i<=j/\∃e,es[j-i]? = some e/\e.val=v/\Instr.sameNow kd k e.key=some true
 | [],i,r,h=>by simp only[List.map_nil,qBc,oI]at h;subst h;exact⟨none,rfl,rfl,λj v e=>by cases e⟩
 | e::es,i,r,h=>by
  simp only[List.map_cons,qBc]at h;unfold Instr.findNow;cases y:Instr.sameNow kd k e.key with
  |none=>rw[y]at h;cases h
  |some b=>cases b with
   |true=>grind
   |false=>rw[y]at h;obtain⟨x,l,c,h3⟩:=qG8 (es:=es) (i:=i+1) h;grind
theorem qPB{a b:ByteArray}:(a==b)=true↔a=b:=by
 show(a.data==b.data)=true↔a=b;rw[beq_iff_eq];constructor
 ·intro h;cases a;cases b;simp only at h;rw[h]
 rintro rfl;rfl
theorem qQl{kd:TypeDesc}{k k':Value}(h:Instr.sameNow kd k k'=some true):k'=k/\Instr.sameBits 10000 k' k=true:=by
 unfold Instr.sameNow at h;split at h
 ·split at h
  ·rename_i x;simp only[oI,beq_iff_eq]at h;subst x h;exact⟨rfl,by simp[Instr.sameBits]⟩
  cases h
 ·simp only[oI,qPB]at h;subst h;exact⟨rfl,by show(_==_)=true;rw[qPB]⟩
 ·simp only[oI,beq_iff_eq]at h;subst h;exact⟨rfl,by simp[Instr.sameBits]⟩
 cases h
theorem qHR{x:TypeId}{kd:TypeDesc}{k:Value}{b:Bool}(h:qS E.prog (underlying x)=some kd)(y:qF7 kd=true):qS E.prog (Instr.checkKey b 10000 x k)=some ():=by show qS E.prog (Instr.checkKey b (9999+1) x k)=some ();unfold Instr.checkKey;rw[xJ,h];simp only[Option.bind_some];cases kd<;>first|(cases y;done)|(cases k<;>rfl)
theorem cN{y:TypeId}{kd:TypeDesc}{k:Value}{es:List MapEntry}{r:Option Nat}(h:qS E.prog (underlying y)=some kd)(w:qF7 kd=true)(B:zF k=true)(u:qBc kd k (es.map (·.key)) 0=some r)(b:Bool):∃x,qS E.prog (do Instr.checkKey b 10000 y k;Instr.findKey y k es)=some x/\x.map Prod.fst=r/\∀j v,x=some (j,v)->∃e,es[j]? = some e/\e.val=v/\e.key=k/\Instr.sameBits 10000 e.key k=true:=by
 obtain⟨x,A,z,h3⟩:=qG8 u;refine⟨x,?_,z,λj v q=>?_⟩
 ·rw[xJ,qHR h w];simp only[Option.bind_some,Instr.findKey,xJ,h,A];rfl
 obtain⟨_,e,t,p,l⟩:=h3 j v q;obtain⟨i,c⟩:=qQl l;exact⟨e,by simpa using t,p,i,c⟩
theorem pN{v:Value}(h:wJ v=true):zF v=true:=by cases v<;>first|rfl|(simp[wJ]at h;done)|(simp[wJ]at h;subst h;rfl)
variable{n0:Lim}{H0:AH}{g0:zB}{S:St}{ρ:List D}{ve:Nat->Value}{lb:Nat->Nat}{g:zB}{fr:Fr}{H:AH}{HS:FuncId->List D->D->Prop}{Q:Res1->Prop}{o:Oper}{κ:K1}{wm:Bool}
theorem qQJ(h:SR E n0 H0 g0 S ρ ve lb g fr H){t:TypeId}(e:o.op=.makeMap t none)(y:wp E HS Q (vZ E o S κ) ρ):jS wm E HS Q n0 H0 g0 fr H o κ:=by
 unfold vZ at y;rw[e]at y;simp only[wp,SV.ds,qKL]at y;have h3:=h.heap (H':=H.new (.map [] 0)) lG (h.wf.new _) (Nat.le_succ _) h.low;have x:∀B,vR (.map (some H.next))=some B->B=H.next:=λB x=>by cases x;rfl
 have l:=h3.newFresh (d:=.mp [] []) (v:=.map (some H.next)) (.inr (.inr ⟨H.next,[],0,H.next,[],[],rfl,rfl,by rw[AH.get_new,if_pos rfl],h.base.new,rfl,.nil⟩)) rfl
  (λB q=>by rw[x B q];exact d9 h.toSM) (λB c q k=>by have:=(xL h.toSM k).1;rw[x B q];omega)
  (λB i q j b=>by have:=(oM h.toSM j b).1;rw[x B q]at this;omega)
 refine⟨_,_,_,_,_,_,_,l,pJ,y,.of_val (Nat.le_succ _) ?_,λ_=>pZ⟩;simp only[SV.val,jA];unfold vT;rw[e]
theorem qQK(h:SR E n0 H0 g0 S ρ ve lb g fr H){t:TypeId}{x k:Operand}{ok:Bool}(R:o.op=.lookup t x k ok)(q:wp E HS Q (vZ E o S κ) ρ):jS wm E HS Q n0 H0 g0 fr H o κ:=by
 unfold vZ at q;rw[R]at q;simp only at q;split at q;case h_2=>cases q
 rename_i y z hy hz;obtain⟨yb,W⟩:=zJ (E:=E) h hy;obtain⟨zb,M⟩:=zJ (E:=E) h hz;obtain⟨d,U,c,h3⟩:=zV q;have Z:=zE h.toSM (U y (by simp));have N:=zE h.toSM (U z (by simp));simp only[SV.ds,qFS]at c;unfold qGV at c;split at c;case h_2=>cases c
 rename_i kd ag zz ks ds w F J I;obtain⟨kt,et,sz,b,z0,ag0,X,m1,m2,m3,m4,m5,m6⟩:=qGX F;obtain⟨es,P,O,q3⟩:=qKt h.mem Z J;rw[I]at N;obtain⟨A,l⟩:=(N.dr rfl).leaf_inv;have B:∀{v:Value},rB E H t (y.val ve lb) w ok=some v->vT E fr o H=some (.val v,H):=by intro v hv;unfold vT;rw[R];rw[A]at M;simp only[W,M,hv,one,Option.map_some]
 have u:∀{v:Value},DR g d v->rB E H t (y.val ve lb) w ok=some v->jS wm E HS Q n0 H0 g0 fr H o κ:=by intro v hd hv;exact .new h (k:=.pure) (one:=false) (by simp) ⟨λe=>(by cases e),hd⟩ h3 (B hv)
 split at c
 ·rename_i i r;rw[←O]at r;obtain⟨C,f1,f2,V⟩:=cN m2 m3 (pN l) r es.isEmpty;simp only[Option.map_eq_some_iff]at c;obtain⟨d',L,rfl⟩:=c;cases C with
  |none=>cases f2
  |some p=>
   obtain⟨j,v⟩:=p;cases f2;obtain⟨e,e1,e2,_⟩:=V j v rfl;obtain⟨v',v1,v2⟩:=q3.get j d' L;rw[List.getElem?_map,e1]at v1;simp only[Option.map_some,oI]at v1;rw[←v1,e2]at v2;have G:rB E H t (y.val ve lb) w ok=some (bif ok then .tuple #[v,.bool true]else v):=by unfold rB;simp only[m1,P,qCT,pN l,cond_true,f1]
   refine u ?_ G;cases ok with
   |true=>exact .tup (.cons v2 (.cons (.leaf rfl) .nil))
   |false=>exact v2
 ·rename_i r;rw[←O]at r;obtain⟨C,f1,f2,V⟩:=cN m2 m3 (pN l) r es.isEmpty;split at c;case h_2=>cases c
  rename_i v hv;obtain⟨K,c⟩:=qW c;simp only[oI]at c;subst c;cases C with
  |some p=>cases f2
  |none=>
   have G:rB E H t (y.val ve lb) w ok=some (bif ok then .tuple #[v,.bool false]else v):=by unfold rB;obtain⟨td,ts,tb,tz,ta⟩:=X;simp only at m5 m6;subst m5 m6;simp only[m1,P,qCT,pN l,cond_true,f1,m4,hv]
   have hd:DR g (qIc v) v:=qFw 6 v K;refine u ?_ G;cases ok with
   |true=>exact .tup (.cons hd (.cons (.leaf rfl) .nil))
   |false=>exact hd
 cases c
theorem qLU(h:SR E n0 H0 g0 S ρ ve lb g fr H){i:Nat}{of:Bool}(w:S.sts[i]? = some ⟨.fresh,of⟩){B:Nat}{es es':List MapEntry}{ck kX rt:Nat}{C:List Value}{ds:List D}(q:OwnM g H.blocks.get n0 (getD ρ i) (ve i) B es ck rt C ds){k:List Value}{p:List D}(J:es'.map (·.key)=k)(hr:DRs g p (es'.map (·.val))):SR E n0 H0 g0 (S.mapped i) (ρ++[.mp k p]) (mW ve S.n (ve i)) lb g fr (H.write B ⟨.map es ck,rt,true⟩ (.map es' kX)):=by
 have r:S.freshV i=true:=zC.2 ⟨_,w⟩;have L:i<S.n:=tU r;have x:=q.own;have j:=h.sepFG i;have G:=h.killed i
 have F:=G.heap2 (H':=H.write B ⟨.map es ck,rt,true⟩ (.map es' kX)) (λb=>b=B) (λb _ l=>by rw[AH.get_write,if_neg l]) (λb l=>by subst l;exact j b r x)
  (λb c l I e=>by subst l;exact h.sepX c i I r (by rw[e];exact x))
  (λb u l z t=>by subst l;obtain⟨a1,a2⟩:=jE z;exact a2 (h.sepF u i b a1 r t x))
  (λb l=>by subst l;exact q.rt.2) (h.wf.write q.b _) (lR _) (by show _<=Nat.min H.low rt;exact Nat.le_min.2 ⟨h.low,lT (Nat.min_le_right _ _) q.rt.1⟩)
 have A:=F.newFresh (d:=.mp k p) (v:=ve i) (.inr (.inr ⟨B,es',kX,rt,k,p,q.v,rfl,by rw[AH.get_write,if_pos rfl],q.rt,J,hr⟩)) rfl (λB' y=>by rw[x]at y;cases y;exact j B r x) (λB' c y K e=>by rw[x]at y;cases y;exact h.sepX c i K r (by rw[e];exact x)) (λB' u y z t=>by rw[x]at y;cases y;obtain⟨a1,a2⟩:=jE z;exact a2 (h.sepF u i B a1 r t x));rw[oO]at A;exact nI r A
theorem iY{α:Type}(f:MapEntry->α):∀{es:List MapEntry} {i:Nat} {k v:Value} {e:MapEntry},es[i]? = some e->(modify es i k v).map f=(es.map f).set i (f {e with key:=k,val:=v})
 | [],i,k,v,e,h=>by simp at h
 |x::es,0,k,v,e,h=>by simp only[List.getElem?_cons_zero,oI]at h;subst h;rfl
 |x::es,i+1,k,v,e,h=>by simp only[modify,List.map_cons,List.set_cons_succ];rw[iY f (by simpa using h)]
theorem DRs.set{g:zB}:∀{ds:List D} {vs:List Value},DRs g ds vs->∀(i:Nat) {d:D} {v:Value},DR g d v->DRs g (ds.set i d) (vs.set i v)
 |_,_,.nil,_,_,_,_=>.nil
 |_,_,.cons _ x,0,_,_,h=>.cons h x
 |_,_,.cons h x,i+1,_,_,y=>.cons h (DRs.set x i y)
theorem qQE(h:SR E n0 H0 g0 S ρ ve lb g fr H){i:Nat}(c:S.freshV i=true){y:List Value}{ds:List D}(hd:getD ρ i=.mp y ds):∃of B es ck rt,S.sts[i]? = some ⟨.fresh,of⟩/\OwnM g H.blocks.get n0 (getD ρ i) (ve i) B es ck rt y ds:=by
 obtain⟨of,x⟩:=zC.1 c;rcases(h.vars i _ x).2 with q|⟨B,l,cs,vs,el,rt,sz,es,q⟩|⟨B,es,ck,rt,b,j,q⟩
 ·rcases q.sl with q|⟨_,_,q⟩<;>(rw[hd]at q;cases q)
 ·have:=q.d;rw[hd]at this;cases this
 have e:=q.d;rw[hd]at e;cases e;exact⟨of,B,es,ck,rt,x,q⟩
theorem qQI(h:SR E n0 H0 g0 S ρ ve lb g fr H){t:TypeId}{m k x:Operand}(ho:o.op=.mapUpdate t m k x)(w:wp E HS Q (vZ E o S κ) ρ):jS true E HS Q n0 H0 g0 fr H o κ:=by
 unfold vZ at w;rw[ho]at w;simp only at w;split at w;case h_2=>cases w
 rename_i i z y hm hz hy;obtain⟨mb,me⟩:=zJ (E:=E) h hm;obtain⟨zb,ze⟩:=zJ (E:=E) h hz;obtain⟨yb,ye⟩:=zJ (E:=E) h hy;unfold qXW at w;simp only at w;obtain⟨g1,K,q⟩:=mD y h;generalize rC S y=T at w K q;obtain⟨hc,u⟩:=jC w;simp only[aE]at hc;obtain⟨⟨c1,c2⟩,c3⟩:=hc;simp only[wp]at u;split at u;case h_2=>cases u
 rename_i d hd;simp only[SV.ds,qFR]at hd;have yr:=jQ q.toSM c1;have Z:=zE q.toSM c2;unfold qGU at hd;split at hd;case h_2=>cases hd
 rename_i kd ag zz ks ds l R V U;obtain⟨kt,et,sz,b,z0,ag0,ti,m1,m2,m3,m4,m5,m6⟩:=qGX R;rw[U]at Z;obtain⟨rzv,A⟩:=(Z.dr rfl).leaf_inv;have G:getD ρ i=.mp ks ds:=V;obtain⟨of,B,es,ck,rt,O,c⟩:=qQE q c3 G;have hbd:∀{n m:Nat},(SV.tup []).bd n m:=trivial;have J:∀{es':List MapEntry} {kX:Nat} {C:List Value} {F:List D},d=.mp C F->es'.map (·.key)=C->DRs g1 F (es'.map (·.val))->pW E H t (ve i) l (y.val ve lb)=some (H.write B ⟨.map es ck,rt,true⟩ (.map es' kX))->jS true E HS Q n0 H0 g0 fr H o κ:=by intro es' kX C F X W P hu;subst X;refine⟨.tup [],_,_,_,_,_,_,qLU q O c (kX:=kX) W P,trivial,u,.of_skip (lR _) ?_,λe=>by cases e⟩;unfold vT;rw[ho];simp only[SV.val]at me;grind
 have N:∀{r:Option (Option (Nat×Value))},qS E.prog (do Instr.checkKey false 10000 kt l;Instr.findKey kt l es)=r->pW E H t (ve i) l (y.val ve lb)=(match r with
   |some (some (i,_))=>match es[i]? with
    |some e=>bif Instr.sameBits 10000 e.key l then some (H.write B ⟨.map es ck,rt,true⟩ (.map (modify es i l (y.val ve lb)) ck))else none
    |none=>none
   |some none=>some (H.write B ⟨.map es ck,rt,true⟩ (.map (es++[{key:=l,val:=y.val ve lb,born:=ck}]) (ck+1)))
   |none=>none):=by
  intro r hr
  subst hr
  unfold pW
  rw[m1,c.v]
  simp only[c.b,pN A,cond_true]
  rfl
 split at hd
 ·rename_i j I;rw[←c.k]at I;obtain⟨L,f1,f2,f3⟩:=cN m2 m3 (pN A) I false;simp only[oI]at hd;cases L with
  |none=>cases f2
  |some p=>
   obtain⟨M,v⟩:=p;cases f2;obtain⟨e,K,e2,e3,e4⟩:=f3 M v rfl;refine J (es':=modify es M l (y.val ve lb)) (kX:=ck) hd.symm ?_ ?_ ?_
   ·rw[iY (·.key) K,c.k]
   ·rw[iY (·.val) K];exact c.r.set M yr
   grind
 ·rename_i I;rw[←c.k]at I;obtain⟨L,f1,f2,f3⟩:=cN m2 m3 (pN A) I false;simp only[oI]at hd;cases L with
  |some p=>cases f2
  |none=>
   refine J (es':=es++[{key:=l,val:=y.val ve lb,born:=ck}]) (kX:=ck+1) hd.symm ?_ ?_ ?_
   ·rw[List.map_append,c.k];rfl
   ·rw[List.map_append];exact c.r.append (.cons yr .nil)
   rw[N f1]
 cases hd
theorem qQL(h:SR E n0 H0 g0 S ρ ve lb g fr H){t:TypeId}{ts:List TypeId}{i:Nat}{z:SV}{c:Call}(j:o.op=.call c)(b:c.callee=.builtin .delete)(x:rO E fr c.args.toList=some [(SV.v i).val ve lb,z.val ve lb])(e:c.argTypes.toList=t::ts)(y:wp E HS Q (qVD t i z S κ) ρ):jS true E HS Q n0 H0 g0 fr H o κ:=by unfold qVD at y;cases y
theorem qQ9{F:ByteArray->Nat->Value}{a b d:D}(h:qPS F a b=some d):∃s n,a=.leaf (.string s)/\b=.leaf (.int .i64 (.ofNat n))/\d=.leaf (F s n):=by unfold qPS at h;split at h;all_goals grind
theorem qNK(h:SR E n0 H0 g0 S ρ ve lb g fr H){t:TypeId}{x:Operand}(u:o.op=.range t x)(b:wp E HS Q (vZ E o S κ) ρ):jS wm E HS Q n0 H0 g0 fr H o κ:=by
 unfold vZ at b;rw[u]at b;simp only at b;split at b;case h_2=>cases b
 rename_i y sz M z ag I J;obtain⟨r,q⟩:=zJ (E:=E) h I;obtain⟨d,L,c,h3⟩:=zV b;have l:=zE h.toSM (L y (by simp));simp only[SV.ds,qJi]at c;generalize G:y.d (getD ρ)=w at c l
 match w,c,l with
 |.leaf (.string s),c,l=>
  simp only[oI]at c;subst c;have j:=(l.dr rfl).leaf_inv.1;have F:=h.new (k:=.pure) (o:=true) (d:=.leaf (goInt s.size)) (v:=goInt s.size) (by simp) ⟨λ_=>rfl,.leaf rfl⟩;have p:y.bd (S.new .pure true).n (S.new .pure true).blks.length:=SV.bd_mono (by rw[xQ];omega) (lR _) r;have e:y.val (mW ve S.n (goInt s.size)) lb=.string s:=by rw[SV.val_congr (λi K=>iK K) (λ_ _=>rfl) r];exact j
  have C:=F.allocO (o:=.siter s 0) (x:=.tcells 0 [y,.c (.int .i64 0)]) ⟨p,trivial,trivial⟩ (λN B A=>⟨_,s,0,B,A,by simp only[jO,SV.vals,e];rfl⟩);refine⟨_,_,_,_,_,_,_,C,qIR _,h3,.of_val (Nat.le_succ _) ?_,λ_=>pZ⟩;unfold vT;rw[u];rw[j]at q;simp only[q,J,SV.val,qDz,if_true]
theorem qQH(h:SR E n0 H0 g0 S ρ ve lb g fr H){it:Operand}(Z:o.op=.next it true)(c:wp E HS Q (vZ E o S κ) ρ):jS true E HS Q n0 H0 g0 fr H o κ:=by
 unfold vZ at c;rw[Z]at c;simp only at c;split at c;case h_2=>cases c
 rename_i b hit;obtain⟨ib,X⟩:=zJ (E:=E) h hit;split at c;case h_2=>cases c
 rename_i y p u;obtain⟨J,rt,st,n,F,q2,j⟩:=h.blks b _ u;simp only[jO,SV.vals,List.cons.injEq,and_true]at j;obtain⟨j,P⟩:=j;obtain⟨z,A,_⟩:y.bd S.n S.blks.length/\p.bd S.n S.blks.length/\True:=J;obtain⟨d,h1,h2,h3⟩:=zV c;have N:=zE h.toSM (h1 y (by simp));have O:=zE h.toSM (h1 p (by simp));simp only[SV.ds,qVp]at h2;obtain⟨s,m,M,L,rfl⟩:=qQ9 h2;rw[M]at N;rw[L]at O;have v1:=(N.dr rfl).leaf_inv.1;have v2:=(O.dr rfl).leaf_inv.1;rw[v1]at j;rw[v2]at P;cases j;have I:n=m:=by
  have:(n:Int)=(m:Int):=by have:=P;simp only[goInt,Value.int.injEq,true_and]at this;exact this
  omega
 subst I;have l:=h.new (k:=.pure) (o:=true) (d:=.leaf (.bool (Nat.ble (n+1) st.size))) (v:=.bool (Nat.ble (n+1) st.size)) (by simp) ⟨λ_=>rfl,.leaf rfl⟩;have x1:ExtS S ρ ve g (S.new .pure true) (ρ++[.leaf (.bool (Nat.ble (n+1) st.size))]) (mW ve S.n (.bool (Nat.ble (n+1) st.size))) g:=wN h.len;have K:getD (ρ++[D.leaf (.bool (Nat.ble (n+1) st.size))]) S.n=.leaf (.bool (Nat.ble (n+1) st.size)):=by have:=@tS ρ (.leaf (.bool (Nat.ble (n+1) st.size)));rw[h.len]at this;exact this
 simp only[wp,SV.d,K]at h3;have ha:vT E fr o H=qAU H (.pointer (some ⟨lb b,0,none⟩)) true:=by unfold vT;rw[Z];simp only[SV.val]at X;simp only[X]
 cases B:Nat.ble (n+1) st.size with
 |false=>rw[B]at h3 l;simp only at h3;refine⟨.tup [.c (.bool false)],_,_,_,_,_,_,l,(show True/\True from⟨trivial,trivial⟩),h3,.of_val (lR _) ?_,λe=>by cases e⟩;rw[ha];simp only[qAU,F,B,cond_false,SV.val,SV.vals]
 | true=>
  rw[B]at h3 l x1;simp only at h3;obtain⟨d2,p1,p2,p3⟩:=zV h3;simp only[SV.ds,qVr,x1.d z,x1.d A,M,L,qPS,oI]at p2;subst p2;have W:=l.new (k:=.pure) (o:=true) (d:=.leaf (.int .i32 (Utf8.decode st n).1)) (v:=.int .i32 (Utf8.decode st n).1) (by simp) ⟨λ_=>rfl,.leaf rfl⟩;have C:=x1.trans (wN (k:=.pure) (o:=true) (d:=.leaf (.int .i32 (Utf8.decode st n).1)) (v:=.int .i32 (Utf8.decode st n).1) (ve:=mW ve S.n (.bool true)) (g:=g) l.len);obtain⟨d3,p4,U,R⟩:=zV p3;simp only[SV.ds,qVq,C.d z,C.d A,M,L,qPS,oI]at U;subst U;have V:=W.new (k:=.pure) (o:=true) (d:=.leaf (goInt ((n+(Utf8.decode st n).2:Nat):Int))) (v:=goInt ((n+(Utf8.decode st n).2:Nat):Int)) (by simp) ⟨λ_=>rfl,.leaf rfl⟩;have i:=C.trans (wN (k:=.pure) (o:=true) (d:=.leaf (goInt ((n+(Utf8.decode st n).2:Nat):Int))) (v:=goInt ((n+(Utf8.decode st n).2:Nat):Int)) (ve:=mW (mW ve S.n (.bool true)) (S.new .pure true).n (.int .i32 (Utf8.decode st n).1)) (g:=g) W.len);generalize w:((S.new .pure true).new .pure true).new .pure true=S3 at R V i;have t:S3.blks[b]? = some (some (.tcells 0 [y,p])):=by rw[←w];exact u
  have q:S3.n=S.n+3:=by rw[←w,xQ,xQ,xQ]
  have k4:=V.storeO (x:=.tcells 0 [y,.v ((S.new .pure true).new .pure true).n]) (o:=.siter st (n+(Utf8.decode st n).2)) t F ⟨i.bd z,by show _<S3.n;rw[q,xQ,xQ];omega,trivial⟩
   (λbs r1 r2=>⟨rt,st,_,r1,r2,by simp only[jO,SV.vals,i.val z,v1,SV.val,jA]⟩)
  refine⟨.tup [.c (.bool true),p,.v (S.new .pure true).n],_,_,_,_,_,_,k4,⟨trivial,?_,?_,trivial⟩,R,.of_val (lR _) ?_,λe=>by cases e⟩
  ·have:=i.bd A;simpa[St.setBlk,St.n]using this
  ·show(S.new .pure true).n<S3.n;rw[q,xQ];omega
  rw[ha];have G:=i.val (lb:=lb) A;have r:(SV.v (S.new .pure true).n).val (mW (mW (mW ve S.n (.bool true)) (S.new .pure true).n (.int .i32 (Utf8.decode st n).1)) ((S.new .pure true).new .pure true).n (goInt ((n+(Utf8.decode st n).2:Nat):Int))) lb=.int .i32 (Utf8.decode st n).1:=by simp only[SV.val];rw[iK (by simp only[xQ];omega),jA]
  simp only[qAU,F,B,cond_true];simp only[SV.val,SV.vals,G,v2]at r ⊢;rw[r];rfl
end
end Go.Am
namespace Go.Am
open Go
section
variable{E:Env}{n0:Lim}{H0:AH}{g0:zB}{S:St}{ρ:List D}{ve:Nat->Value}{lb:Nat->Nat}{g:zB}{fr:Fr}{H:AH}{HS:FuncId->List D->D->Prop}{Q:Res1->Prop}{o:Oper}{κ:K1}{wm:Bool}
theorem qMW{g:zB}:∀l:List UInt8,DRs g ((l.map λb=>D.leaf (.int .u8 b.toNat)).flatMap D.cells) (l.map λx=>Value.int .u8 x.toNat)
 | []=>.nil
 |b::l=>.cons (.leaf rfl) (qMW l)
theorem qNO(h:SR E n0 H0 g0 S ρ ve lb g fr H){s d:TypeId}{x:Operand}{el:TypeId}(L:o.op=.convert s d x)(j:fR E s d=some el)(k:wp E HS Q (vZ E o S κ) ρ):jS wm E HS Q n0 H0 g0 fr H o κ:=by
 unfold vZ at k;rw[L]at k;simp only[j]at k;split at k;case h_2=>cases k
 rename_i y P;obtain⟨hb,he⟩:=zJ (E:=E) h P;obtain⟨A,k⟩:=jC k;have A:=zE h.toSM A;simp only[wp]at k;split at k;case h_2=>cases k
 rename_i dd hd;simp only[SV.ds,qO9]at hd;split at hd;case h_2=>cases hd
 rename_i str J;rw[J]at A;have C:=(A.dr rfl).leaf_inv.1;cases t:Nat.ble str.data.toList.length 1000000000 with
 |false=>rw[t]at hd;cases hd
 | true=>
  rw[t]at hd;simp only[cond_true,oI]at hd;subst hd;have w:=o9 t;unfold fR at j;split at j;case h_2=>cases j
  rename_i N W z1 ag1 zS hs I;obtain⟨O,X,z0,ag0,R⟩:=xM I;split at j;case h_2=>cases j
  rename_i Z b2 b3 b4 F;cases p:Nat.beq Z 1 with
  |false=>rw[p]at j;cases j
  | true=>
   rw[p]at j;simp only[cond_true,oI]at j;subst j;obtain⟨l,z⟩:∃l,str.data.toList=l:=⟨_,rfl⟩;rw[z]at t w k;have h3:=h.heap (H':=H.new (.cells (l.map λx=>.int .u8 x.toNat) zS)) lG (h.wf.new _) (Nat.le_succ _) h.low;have M:(l.map λb=>D.leaf (.int .u8 b.toNat)).length=l.length:=by simp
   have r:=s9 (el:=zS) (sz:=1) h.toSM (qMW (g:=g) l) (by rw[List.all_eq_true];intro v hv;obtain⟨b,_,rfl⟩:=List.mem_map.1 hv;rfl) (λe he=>by obtain⟨b,_,rfl⟩:=List.mem_map.1 he;rfl) (by rw[M];unfold qT;omega);rw[M]at r;have u:∀B,vR (.slice (some ⟨H.next,0,none⟩) l.length qT)=some B->B=H.next:=λB u=>by simp only[vR,lR,if_true,oI]at u;exact u.symm
   have V:=h3.newFresh r rfl (λB q=>by rw[u B q];exact d9 h.toSM) (λB c q t=>by have:=(xL h.toSM t).1;rw[u B q];omega)
    (λB i q U G=>by have:=(oM h.toSM U G).1;rw[u B q]at this;omega)
   refine⟨_,_,_,_,_,_,_,V,pJ,k,.of_val (Nat.le_succ _) ?_,λ_=>pZ⟩;unfold vT;rw[L];have p:=vE p;subst p;have K:Nat.beq 1 1=true:=rfl;simp only[he,C,hs,R,mK,F,z,t,K,Bool.and_self,cond_true,SV.val,jA]
end
end Go.Am
namespace Go.Am
open Go
theorem qGy{a b:Value}(h:qJZ a b=true):a=b:=by unfold qJZ at h;grind
section
variable{ve:Nat->Value}{lb:Nat->Nat}{ρ:Nat->D}
mutual
theorem qBX:∀{x y:SV},qAM x y=true->x=y
 |.v i,.v j,h=>by rw[vE h]
 |.c x,.c y,h=>by rw[qGy h]
 |.loc b o,.loc e c,h=>by simp only[qAM,aE]at h;simp_all
 |.pp i o,.pp j c,h=>by simp only[qAM,aE]at h;simp_all
 |.agg cs,.agg cs',h=>by rw[bB (xs:=cs) (ys:=cs') h]
 |.tup cs,.tup cs',h=>by rw[bB (xs:=cs) (ys:=cs') h]
 |.fn (.func f) a b,.fn (.func l) p e,h=>by simp only[qAM,aE]at h;rw[vE h.1.1,bB h.1.2,bB h.2]
 |.ifc t x,.ifc k y,h=>by simp only[qAM,aE]at h;rw[vE h.1,qBX h.2]
theorem bB:∀{xs ys:List SV},iP xs ys=true->xs=ys
 | [],[],_=>rfl
 |x::xs,y::ys,h=>by simp only[iP,aE]at h;rw[qBX h.1,bB h.2]
end
def oY(ve:Nat->Value)(lb:Nat->Nat)(az:List SV):Nat->Value:=λi=>match az[i]? with
 |some x=>x.val ve lb
 |none=>.bool false
def qAD(ρ:Nat->D)(az:List SV):Nat->D:=λi=>match az[i]? with
 |some x=>x.d ρ
 |none=>.nil
theorem qMz(ρ:Nat->D)(az:List SV):getD (SV.ds ρ az)=qAD ρ az:=by
 funext i;simp only[getD,qAD,SV.ds_map];cases h:az[i]? with
 |none=>simp[h]
 |some x=>simp[h]
mutual
theorem yA{az:List SV}:∀{x y:SV},fits az x y=true->x.val (oY ve lb az) lb=y.val ve lb/\x.d (qAD ρ az)=y.d ρ
 |.v i,y,h=>by
  simp only[fits]at h;split at h
  ·rename_i x q;have:=qBX h;subst this;simp only[SV.val,SV.d,oY,qAD,q,and_self]
  cases h
 |.c x,.c y,h=>by have:=qGy h;subst this;exact⟨rfl,rfl⟩
 |.loc b o,.loc l p,h=>by simp only[fits,aE]at h;rw[vE h.1,vE h.2];exact⟨rfl,rfl⟩
 |.pp i o,.pp j p,h=>by
  simp only[fits,aE]at h;have e:=vE h.1;have c:=h.2;split at c
  ·rename_i k r;have:=vE c;subst this e;simp only[SV.val,SV.d,oY,qAD,r,and_self]
  cases c
 |.agg cs,.agg cs',h=>by obtain⟨e,c⟩:=rN (xs:=cs) (ys:=cs') h;simp only[SV.val,SV.d,e,c,and_self]
 |.tup cs,.tup cs',h=>by obtain⟨e,c⟩:=rN (xs:=cs) (ys:=cs') h;simp only[SV.val,SV.d,e,c,and_self]
 |.fn (.func f) a b,.fn (.func z) A l,h=>by simp only[fits,aE]at h;obtain⟨e,c⟩:=rN h.1.2;obtain⟨h3,u⟩:=rN h.2;have:=vE h.1.1;subst this;simp only[SV.val,SV.d,e,c,h3,u,and_self]
 |.yld b,.yld l,h=>by have:=vE h;subst this;exact⟨rfl,rfl⟩
 |.ifc t x,.ifc w y,h=>by simp only[fits,aE]at h;obtain⟨e,c⟩:=yA h.2;have:=vE h.1;subst this;simp only[SV.val,SV.d,e,c,and_self]
theorem rN{az:List SV}:∀{xs ys:List SV},tW az xs ys=true->SV.vals (oY ve lb az) lb xs=SV.vals ve lb ys/\SV.ds (qAD ρ az) xs=SV.ds ρ ys
 | [],[],_=>⟨rfl,rfl⟩
 |x::xs,y::ys,h=>by simp only[tW,aE]at h;obtain⟨e,c⟩:=yA (x:=x) (y:=y) h.1;obtain⟨h3,b⟩:=rN h.2;simp only[SV.vals,SV.ds,e,c,h3,b,and_self]
end
mutual
theorem cU{n m:Nat}:∀{x:SV},qMM n m x=true->x.bd n m
 |.v i,h=>o9 h
 |.c _,_=>trivial
 |.loc b _,h=>o9 h
 |.ptr s i _ _,h=>by simp only[qMM,aE]at h;exact⟨cU h.1,cU h.2⟩
 |.pp i _,h=>o9 h
 |.agg cs,h=>cT (xs:=cs) h
 |.tup cs,h=>cT (xs:=cs) h
 |.fn _ a b,h=>by simp only[qMM,aE]at h;exact⟨cT h.1,cT h.2⟩
 |.ifc _ x,h=>cU (x:=x) h
 |.yld b,h=>o9 h
theorem cT{n m:Nat}:∀{xs:List SV},qF6 n m xs=true->SV.bds n m xs
 | [],_=>trivial
 |x::xs,h=>by simp only[qF6,aE]at h;exact⟨cU h.1,cT h.2⟩
end
theorem qCL:∀(l:List (Nat×SV)) (t0:T SV) {t:Nat} {x:SV},(l.foldl (λt (p:Nat×SV)=>t.put p.1 (some p.2)) t0).get t=some x->(t,x)∈l∨t0.get t=some x
 | [],_,_,_,h=>.inr h
 |(k,y)::l,t0,t,x,h=>by
  rcases qCL l (t0.put k (some y)) h with b|b
  ·grind
  rw[T.get_put]at b;grind
theorem qHi:∀{l:List (Nat×SV)} {t:Nat} {x:SV},qOB t l=some x->(t,x)∈l
 | [],_,_,h=>by cases h
 |(u,y)::l,t,x,h=>by
  simp only[qOB,qY]at h;split at h
  ·grind
  exact mC _ (qHi h)
theorem qEx{n m:Nat}{az:List SV}:∀{ps ss:List (List (Nat×SV))} {j:Nat} {l:List (Nat×SV)} {t:Nat} {x:SV},qCS n m az ps ss=true->ps[j]? = some l->(t,x)∈l->
  x.bd n m/\∃k y,ss[j]? = some k/\(t,y)∈k/\fits az x y=true
 | [],_,_,_,_,_,_,h,_=>by simp at h
 |i::ps,[],_,_,_,_,h,_,_=>by cases h
 | i::ps,e::ss,0,l,t,x,h,b,c=>by
  simp only[qCS,aE,List.all_eq_true]at h
  simp at b
  subst b
  have r:=h.1 _ c
  obtain⟨q,h3⟩:=r
  split at h3
  ·rename_i y p
   exact⟨cU q,e,y,rfl,qHi p,h3⟩
  cases h3
 |i::ps,e::ss,j+1,l,t,x,h,b,c=>by
  simp only[qCS,aE]at h
  simpa using qEx (j:=j) h.2 (by simpa using b) c
theorem mG{az:List SV}:∀{c cs:List (Option Blk)} {b:Nat} {x:Blk},tX az c cs=true->c[b]? = some (some x)->∃y,cs[b]? = some y/\qAq az (some x) y=true
 | [],_,_,_,_,h=>by simp at h
 |e::c,[],_,_,h,_=>by cases h
 |e::c,j::cs,0,x,h,i=>by simp only[tX,aE]at h;grind
 |e::c,j::cs,b+1,x,h,i=>by simp only[tX,aE]at h;simpa using mG h.2 (by simpa using i)
theorem l9{S:St}:∀{sts:List VSt} {az:List SV} {i:Nat} {s:VSt},iN S sts az=true->sts[i]? = some s->∃x,az[i]? = some x/\(s.one=true->dV S x=true)/\(match s.k with
   |.pure=>wC S x=true
   |.full=>∃j o,x=.v j/\S.sts[j]? = some ⟨.full,o⟩
   |.ptr=>∃j,x=.v j/\S.isPtr j=true
   |.fresh=>qAn S x=true
   |.dead=>s.one=false)
 | [],_,_,_,_,h=>by simp at h
 |⟨k,o⟩::sts,[],_,_,h,_=>by cases h
 |⟨k,o⟩::sts,a::az,0,s,h,hs=>by
  simp only[iN,aE]at h
  grind
 |⟨k,o⟩::sts,a::az,i+1,s,h,hs=>by
  simp only[iN,aE]at h
  simpa using l9 h.2 (by simpa using hs)
theorem aD{S:St}{x:SV}(h:qAn S x=true):(x=.c (.slice none 0 0)∨∃j o,x=.v j/\S.sts[j]? = some ⟨.full,o⟩)∨∃j,x=.v j/\S.freshV j=true:=by
 unfold qAn at h;split at h
 ·exact .inl (.inl rfl)
 ·rename_i j;simp only[Bool.or_eq_true]at h;rcases h with h|h
  ·exact .inr ⟨_,rfl,h⟩
  unfold St.fullV at h;grind
 cases h
theorem qBR{S:St}:∀{sts:List VSt} {az:List SV},iN S sts az=true->az.length=sts.length
 | [],[],_=>rfl
 | [],_::_,h=>by cases h
 |⟨k,o⟩::sts,[],h=>by cases h
 |⟨k,o⟩::sts,a::az,h=>by simp only[iN,aE]at h;simp[qBR h.2]
end
section
variable{E:Env}{n0:Lim}{H0:AH}{g0:zB}{S:St}{ρ:List D}{ve:Nat->Value}{lb:Nat->Nat}{g:zB}{fr:Fr}{H:AH}{Q:Res1->Prop}{HS:FuncId->List D->D->Prop}
theorem qKY{S1:St}{g1:zB}(r:SR E n0 H0 g0 S1 ρ ve lb g1 fr H){p:Pat}{sz:Nat}{az:List SV}(hc:cZ sz p az S1=true)(hF:n0.F.length<=p.blks.length):SR E n0 H0 g0 (p.st sz) (SV.ds (getD ρ) az) (oY ve lb az) lb g1 fr H:=by
 unfold cZ at hc;simp only[aE]at hc;obtain⟨⟨⟨⟨⟨⟨c1,c2⟩,c3⟩,c4⟩,c5⟩,c6⟩,c7⟩:=hc;have c1:=vE c1;rw[List.all_eq_true]at c2 c3;have hlen:=qBR c5;have O:getD (SV.ds (getD ρ) az)=qAD (getD ρ) az:=qMz _ _;have var:∀i s,p.sts[i]? = some s->∃x,az[i]? = some x/\oY ve lb az i=x.val ve lb/\qAD (getD ρ) az i=x.d (getD ρ):=by intro i s hs;obtain⟨x,u,_⟩:=l9 c5 hs;exact⟨x,u,by simp only[oY,u],by simp only[qAD,u]⟩
 have fresh:∀i B,(p.st sz).freshV i=true->vR (oY ve lb az i)=some B->∃j,az[i]? = some (.v j)/\S1.freshV j=true/\vR (ve j)=some B:=by
  intro i B I C;obtain⟨o,hs⟩:=zC.1 I;obtain⟨x,u,_,G⟩:=l9 c5 hs;simp only at G;simp only[oY,u]at C;rcases aD G with(rfl|⟨j,L,rfl,F⟩)|⟨j,rfl,F⟩
  ·simp[SV.val,vR]at C
  ·have C:vR (ve j)=some B:=C;rw[qGa.own (r.vars j _ F).2]at C;cases C
  ·exact⟨j,u,F,C⟩
 have live:∀b,(p.st sz).live b->S1.live b:=by
  intro b ⟨x,u⟩;obtain⟨y,P,c⟩:=mG c4 u;cases y with
  |none=>cases x<;>cases c
  |some y=>exact⟨y,P⟩
 refine { len:=?_,wf:=r.wf,mem:=r.mem,base:=r.base,fix:=⟨hF,r.fix.2⟩,vars:=?_,blks:=?_,sepLG:=λb hb=>r.sepLG b (live b hb),sepFG:=?_,sepL:=λa b ha hb=>r.sepL a b (live a ha) (live b hb),sepF:=?_,sepX:=?_,
          sz:=?_,rd:=r.rd,slots:=?_,sav:=?_,keep:=r.keep,low:=r.low,gk:=r.gk,tab:=r.tab}
 ·rw[SV.ds_map,List.length_map,hlen];rfl
 ·intro i s hs;obtain⟨x,u,W,G⟩:=l9 c5 hs;rw[O];have R:oY ve lb az i=x.val ve lb:=by simp only[oY,u]
  have hdd:qAD (getD ρ) az i=x.d (getD ρ):=by simp only[qAD,u]
  rw[R,hdd];obtain⟨k,o⟩:=s;have one:DR g1 (x.d (getD ρ)) (x.val ve lb)->o=true->(x.d (getD ρ)).one=true:=λhd e=>by rw[←hd.one];exact qFs r.toSM (W e) hd
  cases k<;>simp only at G
  ·have:=jQ r.toSM G;exact⟨one this,this⟩
  ·obtain⟨j,L,rfl,F⟩:=G;have:=(r.vars j _ F).2;exact⟨one this.dr,this⟩
  ·rcases aD G with(rfl|⟨j,L,rfl,F⟩)|⟨j,rfl,F⟩
   ·exact⟨λ_=>rfl,.inl (.inl ⟨rfl,rfl⟩)⟩
   ·exact⟨λ_=>qGa.one (r.vars j _ F).2,.inl (r.vars j _ F).2⟩
   ·obtain⟨L,hj'⟩:=zC.1 F;exact⟨λe=>qIG r.toSM (W e),(r.vars j _ hj').2⟩
  ·exact⟨λe=>(by simp only at e G;rw[G]at e;cases e),trivial⟩
  ·obtain⟨j,rfl,F⟩:=G;have:=qIB r.toSM F;exact⟨one this.1,this⟩
 ·intro b x u;obtain⟨y,P,c⟩:=mG c4 u;have J:=c3 _ (List.mem_of_getElem? u);cases y with
  |none=>cases x<;>cases c
  | some y =>
   obtain⟨q1,q⟩:=r.blks b y P;rw[O];refine⟨?_,?_⟩
   ·cases x with
    |cells xs=>exact cT J
    |whole x n=>exact cU J
    |loop _ _=>trivial
    |tcells _ xs=>exact cT J
   · have w:∀{z:Blk},z.isL=false->y.isL=false->(∀cs,jO (getD ρ) ve lb cs y->jO (qAD (getD ρ) az) (oY ve lb az) lb cs z)->nC n0 (qAD (getD ρ) az) (oY ve lb az) lb H.blocks.get (lb b) z:=by
       intro z hz hyl W
       obtain⟨el,rt,cs,q2,q3,A⟩:=q.cells hyl
       cases z with
       |loop _ _=>cases hz
       |tcells _ _=>cases hz
       |cells _=>exact⟨el,rt,cs,q2,q3,W _ A⟩
       |whole _ _=>exact⟨el,rt,cs,q2,q3,W _ A⟩
     cases x with
     | loop st pd=>
       cases y with
       | loop st' pd'=>
         simp only[qAq,aE]at c
         rw[vE c.1,vE c.2]
         exact q
       |cells _=>cases c
       |whole _ _=>cases c
       |tcells _ _=>cases c
     | cells xs=>
       cases y with
       | cells ys=>
         refine w rfl rfl λcs A=>?_
         simp only[jO]at A ⊢
         rw[A]
         exact(rN (ρ:=getD ρ) c).1.symm
       |whole y m=>cases c
       |loop _ _=>cases c
       |tcells _ _=>cases c
     | tcells t xs=>
       cases y with
       | tcells t' ys=>
         simp only[qAq,aE]at c
         have ht:=vE c.1
         subst ht
         cases t with
         | zero=>
           obtain⟨rt,p0,cs,b1,K,b3⟩:=q
           refine⟨rt,p0,cs,b1,K,?_⟩
           simp only[jO]at b3 ⊢
           rw[b3]
           exact(rN (ρ:=getD ρ) c.2).1.symm
         | succ t=>
           obtain⟨rt,p0,cs,b1,K,b4,b3⟩:=q
           refine⟨rt,p0,cs,b1,K,b4,?_⟩
           simp only[jO]at b3 ⊢
           rw[b3]
           exact(rN (ρ:=getD ρ) c.2).1.symm
       |cells _=>cases c
       |whole _ _=>cases c
       |loop _ _=>cases c
     | whole x n=>
       cases y with
       |loop _ _=>cases c
       |tcells _ _=>cases c
       | cells ys=>
         refine w rfl rfl λcs A=>?_
         simp only[qAq,aE]at c
         obtain⟨f1,f2⟩:=yA (ve:=ve) (lb:=lb) (ρ:=getD ρ) c.2
         simp only[jO]at A ⊢
         rw[f1,f2,A]
         refine⟨rfl,SV.ds (getD ρ) ys,rfl,?_⟩
         rw[SV.ds_map,List.length_map];exact(vE c.1).symm
       | whole y m=>
         refine w rfl rfl λcs A=>?_
         simp only[qAq,aE]at c
         obtain⟨f1,f2⟩:=yA (ve:=ve) (lb:=lb) (ρ:=getD ρ) c.2
         simp only[jO]at A ⊢
         rw[f1,f2,vE c.1]
         exact A
 ·intro i B I C;obtain⟨j,_,N,M⟩:=fresh i B I C;exact r.sepFG j B N M
 ·intro i i' B I X C hB';obtain⟨j,j1,N,M⟩:=fresh i B I C;obtain⟨j',k1,k2,k3⟩:=fresh i' B X hB';have hjj:=r.sepF j j' B N k2 M k3;subst hjj;obtain⟨o,hs⟩:=zC.1 I;obtain⟨L,V⟩:=zC.1 X;have l1:i<p.sts.length:=(gI hs).1;have l2:i'<p.sts.length:=(gI V).1;have hd:=c6;unfold qED at hd;rw[List.all_eq_true]at hd;have hd1:=hd i (List.mem_range.2 l1);rw[List.all_eq_true]at hd1;have Z:=hd1 i' (List.mem_range.2 l2);have hs2:p.sts[i]? = some ⟨.fresh,o⟩:=hs;have U:p.sts[i']? = some ⟨.fresh,L⟩:=V;simp only[qTC,hs2,U,j1,k1,Nat.beq_refl,Bool.not_true,Bool.or_false]at Z;exact vE Z
 ·intro b i hb I C;obtain⟨j,_,N,M⟩:=fresh i _ I C;exact r.sepX b j (live b hb) N M
 ·rw[r.sz];exact c1
 ·intro t x u;have hm:(t,x)∈p.slots:=by
   rcases qCL p.slots .leaf u with h|h
   ·exact h
   ·cases h
  have:=c2 _ hm;simp only[aE]at this;obtain⟨b1,K⟩:=this;split at K
  ·rename_i y P;obtain⟨f1,_⟩:=yA (ve:=ve) (lb:=lb) (ρ:=getD ρ) K;refine⟨cU b1,?_⟩;rw[f1];exact(r.slots t y P).2
  ·cases K
 ·intro j l hl t x u;obtain⟨q1,l',y,q2,q3,A⟩:=qEx c7 hl u;obtain⟨_,f,q5,q6⟩:=r.sav j l' q2 t y q3;exact⟨q1,f,q5,by rw[(yA (ve:=ve) (lb:=lb) (ρ:=getD ρ) A).1];exact q6⟩
theorem qG9(h:SR E n0 H0 g0 S ρ ve lb g fr H){p:Pat}{sz:Nat}{fin:List SV->Tree}(x:wp E HS Q (qKu fin sz p S) ρ)(e:n0.F.length<=p.blks.length):∃az y g',SR E n0 H0 g0 (p.st sz) (SV.ds (getD ρ) az) y lb g' fr H/\wp E HS Q (fin az) ρ:=by
 unfold qKu at x;split at x
 ·cases x
 rename_i az c;simp only at x;obtain⟨g1,j,i⟩:=xC (oL p.sts az) h;obtain⟨b,x⟩:=jC x;exact⟨az,_,g1,qKY i b e,x⟩
theorem qBp(h:SR E n0 H0 g0 S ρ ve lb g fr H){p:Pat}{sz k:Nat}(y:wp E HS Q (jN sz p k S) ρ)(b:n0.F.length<=p.blks.length):∃ds x g',SR E n0 H0 g0 (p.st sz) ds x lb g' fr H/\Q (.jump k ds):=by obtain⟨az,x,g',e,c⟩:=qG9 h y b;exact⟨_,x,g',e,c⟩
end
end Go.Am
