/- Data of which some lists of no elements are nil: trees make the same of them. Conditions: none. -/
import Derived.Test.YtocbbgmhkhallaaGreatDoorSx4
import Derived.Test.YtocbbgmhkhallaaGreatDoorTu
import Derived.Test.YtocbbgmhkhallaaGreatDoorUv
set_option linter.unusedVariables false
set_option linter.unusedSimpArgs false
namespace Go.Am
open Go
mutual
inductive Le:D->La
 |leaf {v:LQ}:Le (.leaf v) (.leaf v)
 |agg {a b:LR} (h:Les a b):Le (.agg a) (.agg b)
 |nil:Le .nil .nil
 |gone {el sz:Nat}:Le (.sl el sz []) .nil
 |sl {el sz:Nat} {a b:LR} (h:Les a b):Le (.sl el sz a) (.sl el sz b)
 |gd {a b:LR} (h:Les a b):Le (.gd a) (.gd b)
 |ptr {a b:LR} {o:Nat} (h:Les a b):Le (.ptr a o) (.ptr b o)
 |kr {f:Fn} {a b c d:LR} (h:Les a b) (k:Les c d):Le (.kr f a c) (.kr f b d)
 |iface {t:LN} {a b:D} (h:Le a b):Le (.iface t a) (.iface t b)
 |mode {m:Mode}:Le (.mode m) (.mode m)
 |mp {ks:LA} {a b:LR} (h:Les a b):Le (.mp ks a) (.mp ks b)
inductive Les:LR->LR->Prop
 |nil:Les [] []
 |cons {a b:D} {l m:LR} (h:Le a b) (hs:Les l m):Les (a::l) (b::m)
end
mutual
theorem Le.refl:∀d:D,Le d d
 |.leaf _=>.leaf
 |.agg l=>.agg (Les.refl l)
 |.nil=>.nil
 |.sl _ _ l=>.sl (Les.refl l)
 |.gd l=>.gd (Les.refl l)
 |.ptr l _=>.ptr (Les.refl l)
 |.kr _ a b=>.kr (Les.refl a) (Les.refl b)
 |.iface _ d=>.iface (Le.refl d)
 |.mode _=>.mode
 |.mp _ l=>.mp (Les.refl l)
theorem Les.refl:∀l:LR,Les l l
 | []=>.nil
 |a::l=>.cons (Le.refl a) (Les.refl l)
end
theorem Les.length:∀{a b:LR},Les a b->b.length=a.length
 |_,_,.nil=>rfl
 |_,_,.cons _ h=>by simp[Les.length h]
theorem Les.get:∀{a b:LR},Les a b->∀(i:Nat) {x:D},a[i]? = some x->∃y,b[i]? = some y/\Le x y
 |_,_,.cons h _,0,x,e=>by simp at e;subst e;exact⟨_,rfl,h⟩
 |_,_,.cons _ c,i+1,x,e=>by simpa using Les.get c i (by simpa using e)
theorem Les.append:∀{a b c d:LR},Les a b->Les c d->Les (a++c) (b++d)
 |_,_,_,_,.nil,h=>h
 |_,_,_,_,.cons h x,k=>.cons h (Les.append x k)
theorem Les.drop:∀(n:Nat) {a b:LR},Les a b->Les (a.drop n) (b.drop n)
 |0,_,_,h=>h
 |_+1,_,_,.nil=>.nil
 |n+1,_,_,.cons _ h=>Les.drop n h
theorem Les.take:∀(n:Nat) {a b:LR},Les a b->Les (a.take n) (b.take n)
 |0,_,_,_=>.nil
 |_+1,_,_,.nil=>.nil
 |n+1,_,_,.cons h x=>.cons h (Les.take n x)
theorem Les.set:∀(n:Nat) {a b:LR} {x y:D},Les a b->Le x y->Les (a.set n x) (b.set n y)
 |_,_,_,_,_,.nil,_=>.nil
 |0,_,_,_,_,.cons _ h,k=>.cons k h
 |n+1,_,_,_,_,.cons h c,k=>.cons h (Les.set n c k)
variable{b:D}
theorem Le.one{a:D}(h:Le a b):b.one=a.one:=by cases h<;>rfl
theorem Le.cells{a:D}(h:Le a b):Les a.cells b.cells:=by
 cases h<;>first|exact .cons .leaf .nil|exact .cons .nil .nil|exact .cons .gone .nil|exact .cons .mode .nil|skip
 ·assumption
 ·rename_i h;exact .cons (.sl h) .nil
 ·rename_i h;exact .cons (.gd h) .nil
 ·rename_i h;exact .cons (.ptr h) .nil
 ·rename_i h k;exact .cons (.kr h k) .nil
 ·rename_i h;exact .cons (.iface h) .nil
 rename_i h;exact .cons (.mp h) .nil
theorem Le.es{a:D}(h:Le a b):Les a.es b.es:=by cases h<;>first|exact .nil|assumption
mutual
theorem Le.mg:∀{a b:D} {v:LQ},Le a b->a.mg=some v->b=a
 |_,_,_,.leaf,_=>rfl
 |.agg cs,_,v,.agg h,e=>by simp only[D.mg,aa]at e;obtain⟨l,e,_⟩:=e;rw[Les.mg h e]
 |_,_,_,.nil,_=>rfl
 |_,_,_,.gone,e=>by simp[D.mg]at e
 |_,_,_,.sl _,e=>by simp[D.mg]at e
 |_,_,_,.gd _,e=>by simp[D.mg]at e
 |_,_,_,.ptr _,e=>by simp[D.mg]at e
 |_,_,_,.kr _ _,e=>by simp[D.mg]at e
 |_,_,_,.iface _,e=>by simp[D.mg]at e
 |_,_,_,.mode,_=>rfl
 |_,_,_,.mp _,e=>by simp[D.mg]at e
theorem Les.mg:∀{a b:LR} {l:LA},Les a b->D.oh a=some l->b=a
 |_,_,_,.nil,_=>rfl
 |_,_,_,.cons h x,e=>by
  simp only[D.oh]at e;split at e
  ·rename_i c y;rw[Le.mg h c,Les.mg x y]
  cases e
end
theorem Le.de{v:LQ}(h:Le (.leaf v) b):b=.leaf v:=by cases h;rfl
theorem Le.natD{a b:D}{n:Nat}(h:Le a b)(e:natD a=some n):b=a:=by cases h<;>first|rfl|(simp[Go.Am.natD]at e;done)
variable{ag:Bool}{off size:Nat}
theorem qFH{cs cs':LR}{d:D}(h:nI ag size off cs=some d)(g:Les cs cs'):∃d',nI ag size off cs'=some d'/\Le d d':=by
 unfold nI at h ⊢;cases ag with
 |true=>simp only[ai]at h ⊢;rw[g.length];obtain⟨j,h⟩:=qZ h;cases h;rw[j];exact⟨_,rfl,.agg (Les.take _ (Les.drop _ g))⟩
 |false=>
  simp only[bc]at h ⊢;split at h
  ·rename_i x o;obtain⟨y,k,c⟩:=g.get _ o;obtain⟨j,h⟩:=qZ h;cases h;rw[k];simp only[c.one,j,ai];exact⟨_,rfl,c⟩
  cases h
theorem qJJ{a d:D}(h:cI ag size a=some d)(x:Le a b):∃d',cI ag size b=some d'/\Le d d':=by
 unfold cI at h ⊢;cases ag with
 |true=>
  simp only[ai]at h ⊢;cases x<;>first|(cases h;done)|skip
  rename_i x;simp only at h ⊢;rw[x.length];obtain⟨y,h⟩:=qZ h;cases h;rw[y];exact⟨_,rfl,.agg x⟩
 |false=>simp only[bc,x.one]at h ⊢;obtain⟨y,h⟩:=qZ h;cases h;rw[y];exact⟨_,rfl,x⟩
theorem qK8{a i j e:D}(h:rT a i=some e)(y:Le a b)(c:Le i j):∃e',rT b j=some e'/\Le e e':=by
 unfold rT at h ⊢;split at h
 ·rename_i n x;rw[c.natD x,x];exact y.es.get _ h
 cases h
def mono:TOp->Bool
 |.isNil _=>false
 |.ns=>false
 |.su _=>false
 |_=>true
variable{el:Nat}{t:LN}
section
variable{E:Env}{d:D}{ds ds':LR}
abbrev gO(E:Env)(op:TOp)(d:D)(ds':List D):Prop:=∃d',TOp.eval E op ds'=some d'/\Le d d'
theorem qXc{op:BinOp}{x y:LM}:Les ds ds'->TOp.eval E (.bin op t x y) ds=some d->gO E (.bin op t x y) d ds'
 |.cons k (.cons j .nil),h=>by
  rw[bH]at h;split at h
  ·rename_i g c;rw[k.mg g,j.mg c];exact⟨d,by rw[bH,g,c];exact h,.refl d⟩
  cases h
 |.nil,h=>by cases h
 |.cons _ .nil,h=>by cases h
 |.cons _ (.cons _ (.cons _ _)),h=>by cases h
theorem zA4{op:UnOp}:Les ds ds'->TOp.eval E (.un op t) ds=some d->gO E (.un op t) d ds'
 |.cons .leaf .nil,h=>⟨d,h,.refl d⟩
 |.nil,h=>by cases h
 |.cons (.agg _) .nil,h=>by cases h
 |.cons .nil .nil,h=>by cases h
 |.cons .gone .nil,h=>by cases h
 |.cons (.sl _) .nil,h=>by cases h
 |.cons (.gd _) .nil,h=>by cases h
 |.cons (.ptr _) .nil,h=>by cases h
 |.cons (.kr _ _) .nil,h=>by cases h
 |.cons (.iface _) .nil,h=>by cases h
 |.cons .mode .nil,h=>by cases h
 |.cons (.mp _) .nil,h=>by cases h
 |.cons x (.cons _ _),h=>by cases x<;>cases h
theorem qRT{s:LN}:Les ds ds'->TOp.eval E (.conv s t) ds=some d->gO E (.conv s t) d ds'
 |.cons x .nil,h=>by cases x<;>first|exact⟨d,h,.refl d⟩|cases h
 |.nil,h=>by cases h
 |.cons x (.cons _ _),h=>by cases x<;>cases h
theorem qW9:Les ds ds'->TOp.eval E (.mz ag size) ds=some d->gO E (.mz ag size) d ds'
 |.cons x .nil,h=>qJJ h x
 |.nil,h=>by cases h
 |.cons _ (.cons _ _),h=>by cases h
theorem qW5:Les ds ds'->TOp.eval E (.mq ag size off) ds=some d->gO E (.mq ag size off) d ds'
 |.cons x .nil,h=>qFH h x.cells
 |.nil,h=>by cases h
 |.cons _ (.cons _ _),h=>by cases h
theorem qW4:Les ds ds'->TOp.eval E .inr ds=some d->gO E .inr d ds'
 |.cons c (.cons y .nil),h=>by rw[qC6,aa]at h;obtain⟨e,he,rfl⟩:=h;obtain⟨e',x,_⟩:=qK8 he c y;exact⟨_,by rw[qC6,x];rfl,.refl _⟩
 |.nil,h=>by cases h
 |.cons _ .nil,h=>by cases h
 |.cons _ (.cons _ (.cons _ _)),h=>by cases h
theorem qRS{sz:Nat}:Les ds ds'->TOp.eval E (.elem sz ag size off) ds=some d->gO E (.elem sz ag size off) d ds'
 | .cons (a:=a) (b:=b) g (.cons o .nil),h=>by
  rw[dA]at h;split at h
  ·rename_i e he;obtain⟨e',y,x⟩:=qK8 he g o;obtain⟨k,h⟩:=qZ h;have j:b.rp=a.rp:=by
    cases g<;>first|rfl|skip
    simp[rT,D.es]at he;split at he<;>cases he
   show∃d',TOp.eval E _ [b,_]=some d'/\_;rw[dA,y];simp only[j,k,ai];cases c:(ag&&Nat.beq off 0&&Nat.beq size sz)with
   |true=>rw[c]at h;simp only[ai]at h ⊢;exact qJJ h x
   |false=>rw[c]at h;simp only[bc]at h ⊢;exact qFH h x.cells
  cases h
 |.nil,h=>by cases h
 |.cons _ .nil,h=>by cases h
 |.cons _ (.cons _ (.cons _ _)),h=>by cases h
theorem qW3{str:Bool}:Les ds ds'->TOp.eval E (.len str) ds=some d->gO E (.len str) d ds'
 | .cons x .nil,h=>by
  rw[qC5]at h;cases str with
  |true=>cases x<;>first|exact⟨d,h,.refl d⟩|cases h
  |false=>cases x with
   |nil=>exact⟨d,h,.refl d⟩
   |gone=>exact⟨d,h,.refl d⟩
   |sl y=>exact⟨d,by rw[qC5,←h];simp only[y.length],.refl d⟩
   |_=>cases h
 |.nil,h=>by cases h
 |.cons _ (.cons _ _),h=>by cases h
theorem rW{b:Bool}{n k:Nat}{r y rest:LR}(h:vT b n r=some (k,rest))(c:Les r y):∃x,vT b n y=some (k,x)/\Les rest x:=by
 unfold vT at h ⊢;cases b with
 |true=>
  simp only[ai]at h ⊢;cases c with
  |nil=>cases h
  |cons g hs=>simp only[aa]at h ⊢;obtain⟨m,hm,he⟩:=h;cases he;exact⟨_,⟨_,by rw[g.natD hm];exact hm,rfl⟩,hs⟩
 |false=>simp only[bc]at h ⊢;cases h;exact⟨_,rfl,c⟩
theorem qWX{sz:Nat}{lo A:Bool}:Les ds ds'->TOp.eval E (.lu el sz lo A) ds=some d->gO E (.lu el sz lo A) d ds'
 | .cons H w,h=>by
  rw[pZ]at h;cases H with
  | sl hs=>
   simp only at h;split at h
   ·rename_i l r q;obtain⟨u,g,y⟩:=rW q w;split at h
    ·rename_i k p;obtain⟨C,c,x⟩:=rW p y;cases x;obtain⟨j,h⟩:=qZ h;cases h;refine⟨_,?_,.sl (Les.take _ (Les.drop _ hs))⟩;rw[pZ];simp only[g,hs.length,c,j,ai]
    cases h
   cases h
  | nil=>
   simp only at h;split at h
   ·rename_i r q;obtain⟨u,g,y⟩:=rW q w;split at h
    ·rename_i p;obtain⟨C,c,x⟩:=rW p y;cases x;cases h;exact⟨_,by rw[pZ];simp only[g,c],.nil⟩
    cases h
   cases h
  | gone=>
   simp only at h;split at h
   ·rename_i l r q;obtain⟨u,g,y⟩:=rW q w;split at h
    ·rename_i k p;obtain⟨C,c,x⟩:=rW p y;cases x;obtain⟨j,h⟩:=qZ h;cases h;simp only[aE]at j;have I:=oA j.1.2;have F:=oA j.2;have G:k=0:=by simpa using F
     subst G;have z:l=0:=by omega
     subst z;refine⟨.nil,?_,.gone⟩;rw[pZ];have o:vT A 0 u=some (0,[]):=c;simp only[g,o]
    cases h
   cases h
  |_=>cases h
 |.nil,h=>by cases h
theorem qWW{lo hi:Bool}:Les ds ds'->TOp.eval E (.sub lo hi) ds=some d->gO E (.sub lo hi) d ds'
  | .cons h1 hr, h=>by
   cases h1 with
   | @leaf v => cases v<;>first|(cases h;done)|skip
                rename_i s
                rw[qC3]at h
                split at h
                ·rename_i l r e1;obtain⟨r',e1',hr'⟩:=rW e1 hr;split at h
                 ·rename_i k e2;obtain⟨r2,e2',hr2⟩:=rW e2 hr';cases hr2;exact⟨d,by rw[qC3];simp only[e1',e2'];exact h,.refl d⟩
                 ·cases h
                ·cases h
   |_=>cases h
  |.nil,h=>by cases h
theorem rJ{op:TOp}(x:ds'=ds)(h:TOp.eval E op ds=some d):gO E op d ds':=⟨d,by rw[x];exact h,.refl d⟩
theorem zA6{mx:Bool}:Les ds ds'->TOp.eval E (.mm mx) ds=some d->gO E (.mm mx) d ds'
 |.cons .leaf (.cons .leaf .nil),h=>rJ rfl h
 |.nil,h=>by cases h
 |.cons x .nil,h=>by cases x<;>cases h
 |.cons x (.cons y (.cons _ _)),h=>by cases x<;>cases y<;>cases h
 |.cons x (.cons y .nil),h=>by cases x<;>cases y<;>first|exact rJ rfl h|cases h
theorem qW6{i:Nat}:Les ds ds'->TOp.eval E (.ext i) ds=some d->gO E (.ext i) d ds'
 |.cons x .nil,h=>by
  cases x<;>first|(cases h;done)|skip
  rename_i x;rw[qJz]at h;exact x.get _ h
 |.nil,h=>by cases h
 |.cons x (.cons _ _),h=>by cases x<;>cases h
theorem Les.all{P:D->Bool}(x:∀{a b:D},Le a b->P b=P a):∀{a b:LR},Les a b->b.all P=a.all P
 |_,_,.nil=>rfl
 |_,_,.cons h y=>by simp only[eo,x h,Les.all x y]
theorem qW2{sz:Nat}(x:Les ds ds')(h:TOp.eval E (.lit el sz) ds=some d):gO E (.lit el sz) d ds':=by rw[eZ]at h;obtain⟨y,h⟩:=qZ h;cases h;refine⟨_,?_,.sl x⟩;rw[eZ,x.length,x.all (P:=λe=>Nat.beq e.cells.length sz) (λh=>by simp only[h.cells.length]),y];rfl
theorem qO7:Les ds ds'->TOp.eval E (.k8 ag size) ds=some d->gO E (.k8 ag size) d ds'
 |.cons x .nil,h=>by
  cases x<;>first|(cases h;done)|skip
  rename_i x;rw[qHR]at h;exact qFH h x
 |.nil,h=>by cases h
 |.cons x (.cons _ _),h=>by cases x<;>cases h
theorem qXb(x:Les ds ds')(h:TOp.eval E .box ds=some d):gO E .box d ds':=by rw[qGf]at h;cases h;exact⟨_,qGf,.ptr x⟩
theorem qRU:Les ds ds'->TOp.eval E .ny ds=some d->gO E .ny d ds'
 |.cons x .nil,h=>by
  cases x<;>first|(cases h;done)|skip
  rename_i x;rw[iE]at h;cases h;exact⟨_,iE,.ptr x⟩
 |.nil,h=>by cases h
 |.cons x (.cons _ _),h=>by cases x<;>cases h
theorem qRO:Les ds ds'->TOp.eval E .nh ds=some d->gO E .nh d ds'
 |.cons x .nil,h=>by
  cases x<;>first|(cases h;done)|skip
  rename_i x;rw[iD]at h;cases h;exact⟨_,rfl,.ptr x⟩
 |.nil,h=>by cases h
 |.cons x (.cons _ _),h=>by cases x<;>cases h
theorem zA5:Les ds ds'->TOp.eval E .nn ds=some d->gO E .nn d ds'
 | .cons x .nil,h=>by
  rw[qVh]at h;cases x<;>first|(cases h;done)|skip
  ·cases h;rename_i x;exact⟨_,rfl,.ptr x⟩
  ·rename_i y x;rename_i f _ _ _ _;cases f<;>first|(cases h;done)|skip
   cases h;exact⟨_,rfl,.kr y x⟩
  cases h;rename_i x;exact⟨_,rfl,.iface x⟩
 |.nil,h=>by cases h
 |.cons x (.cons _ _),h=>by cases x<;>cases h
def zC3(el sz:Nat):D->Bool
 |.sl vC h _=>Nat.beq vC el&&Nat.beq h sz
 |.nil=>true
 |_=>false
theorem uJ{sz bytes n vC x:Nat}{a:D}{es:LR}(h:yO a=some n):TOp.eval E (.app el sz bytes) [a,.sl vC x es]=(bif Nat.ble (Nat.mul (Nat.add (Nat.mul 4 (Nat.add n es.length)) 4000) (Nat.succ bytes)) 100000000000&&Nat.beq x sz&&zC3 el sz a then(bif Nat.beq es.length 0 then some a else some (.sl el sz (a.es++es)))else none):=by rw[bI,h];cases a<;>rfl
theorem qGg{sz bytes n:Nat}{a:D}(h:yO a=some n):TOp.eval E (.app el sz bytes) [a,.nil]=(bif Nat.ble (Nat.mul (Nat.add (Nat.mul 4 n) 4000) (Nat.succ bytes)) 100000000000 then some a else none):=by rw[bI,h]
theorem qXd{sz bytes:Nat}:Les ds ds'->TOp.eval E (.app el sz bytes) ds=some d->gO E (.app el sz bytes) d ds'
 | .cons (a:=a) (b:=b) y (.cons g .nil),h=>by
  have j:yO b=yO a:=by cases y<;>first|rfl|(rename_i y;simp only[yO,y.length])
  have hm:zC3 el sz a=true->zC3 el sz b=true:=by intro h;cases y<;>first|exact h|rfl
  rcases c:yO a with _|n
  ·rw[bI]at h;cases g<;>(rw[c]at h;simp only[reduceCtorEq]at h)
  rw[c]at j;cases g with
  |nil=>rw[qGg c]at h;obtain⟨x,h⟩:=qZ h;cases h;exact⟨_,by rw[qGg j,x];rfl,y⟩
  |gone=>rw[uJ c]at h;obtain⟨x,h⟩:=qZ h;simp only[aE]at x;cases h;exact⟨_,by rw[qGg j,show Nat.ble (Nat.mul (Nat.add (Nat.mul 4 n) 4000) (Nat.succ bytes)) 100000000000=true from x.1.1];rfl,y⟩
  |@sl vC k es es' g=>
   rw[uJ c]at h;obtain⟨x,h⟩:=qZ h;simp only[aE]at x;have e:TOp.eval E (.app el sz bytes) [b,.sl vC k es']=bif Nat.beq es.length 0 then some b else some (.sl el sz (b.es++es')):=by rw[uJ j,g.length,x.1.1,x.1.2,hm x.2];rfl
   cases o:Nat.beq es.length 0 with
   |true=>rw[o]at h e;cases h;exact⟨_,e,y⟩
   |false=>rw[o]at h e;cases h;exact⟨_,e,.sl (Les.append y.es g)⟩
  |_=>rw[bI,c]at h;simp only[reduceCtorEq]at h
 |.nil,h=>by cases h
 |.cons _ .nil,h=>by cases h
 |.cons _ (.cons _ (.cons _ _)),h=>by cases h
theorem zA7{sz bytes:Nat}{z:LA}:Les ds ds'->TOp.eval E (.mk el sz bytes ag z) ds=some d->gO E (.mk el sz bytes ag z) d ds'
 |.cons x .nil,h=>by
  have y:=h;rw[qK1]at h;split at h
  ·rename_i n e;exact rJ (by rw[x.natD e]) y
  cases h
 |.cons x (.cons c .nil),h=>by
  have y:=h;rw[qGc]at h;split at h
  ·rename_i n j g;exact rJ (by rw[x.natD j,c.natD g]) y
  cases h
 |.nil,h=>by cases h
 |.cons _ (.cons _ (.cons _ _)),h=>by cases h
theorem qII{cs cs' xs x:LR}(off:Nat)(h:Les cs cs')(k:Les xs x):Les (iM cs off xs) (iM cs' off x):=by unfold iM;rw[k.length];exact Les.append (Les.take _ h) (Les.append k (Les.drop _ h))
theorem qQ3{e e':D}{xs x:LR}(off:Nat)(h:Le e e')(k:Les xs x):Le (aG e off xs) (aG e' off x):=by
 have c:=h;have y:=k;cases k with
 |nil=>cases h<;>first|exact .agg (qII off (by assumption) y)|exact c
 |cons k g=>cases g with
  |nil=>cases h<;>first|exact .agg (qII off (by assumption) y)|exact k
  |cons _ _=>cases h<;>first|exact .agg (qII off (by assumption) y)|exact c
theorem qWY{sz:Nat}:Les ds ds'->TOp.eval E (.set sz ag size off) ds=some d->gO E (.set sz ag size off) d ds'
 | .cons y (.cons q (.cons h3 .nil)),h=>by
  rw[aZ]at h;split at h
  ·rename_i el o es n x k u;obtain⟨w,c,_⟩:=qJJ u h3;have r:=q.natD k;split at h
   ·rename_i e he;obtain⟨p,h⟩:=qZ h;cases h;cases y with
    |gone=>simp at he
    |sl y=>obtain⟨e',j,g⟩:=y.get _ he;refine⟨_,?_,.sl (Les.set n y (qQ3 off g h3.cells))⟩;rw[aZ,r,k,c];simp only[j,p,ai]
   cases h
  cases h
 |.nil,h=>by cases h
 |.cons _ .nil,h=>by cases h
 |.cons _ (.cons _ .nil),h=>by cases h
 |.cons _ (.cons _ (.cons _ (.cons _ _))),h=>by cases h
theorem qRN{sz:Nat}:Les ds ds'->TOp.eval E (.qg el sz) ds=some d->gO E (.qg el sz) d ds'
 |.cons y .nil,h=>by
  rw[qKY]at h;cases y with
  |nil=>cases h;exact⟨_,rfl,.nil⟩
  |gone=>obtain⟨x,h⟩:=qZ h;cases h;exact⟨_,rfl,.gone⟩
  |sl _=>obtain⟨x,h⟩:=qZ h;cases h;exact⟨_,by rw[qKY];simp only[x,ai],.refl _⟩
  |_=>cases h
 |.nil,h=>by cases h
 |.cons _ (.cons _ _),h=>by cases h
theorem qXa:Les ds ds'->TOp.eval E (.sb el) ds=some d->gO E (.sb el) d ds'
 |.cons x .nil,h=>by cases x<;>first|exact rJ rfl h|cases h
 |.nil,h=>by cases h
 |.cons _ (.cons _ _),h=>by cases h
theorem qW8:Les ds ds'->TOp.eval E .qf ds=some d->gO E .qf d ds'
 | .cons x (.cons y .nil),h=>by
  cases x with
  |@leaf v=>
   cases v<;>first|(cases h;done)|skip
   have c:=h;rw[qJA]at h;split at h
   ·rename_i n e;exact rJ (by rw[y.natD e]) c
   cases h
  |_=>cases h
 |.nil,h=>by cases h
 |.cons x .nil,h=>by cases x<;>first|(cases h;done)|(rename_i v;cases v<;>cases h)
 |.cons x (.cons _ (.cons _ _)),h=>by cases x<;>first|(cases h;done)|(rename_i v;cases v<;>cases h)
theorem qO8{F:LJ->LH}{a y x:D}(h:qM2 F a b=some d)(g:Le a y)(c:Le b x):y=a/\x=b:=by
 cases g<;>first|(cases h;done)|skip
 cases c<;>first|exact⟨rfl,rfl⟩|skip
 all_goals(rename_i v;intros;unfold qM2 at h;split at h<;>simp_all)
theorem qWZ:Les ds ds'->TOp.eval E .ru ds=some d->gO E .ru d ds'
 |.cons y (.cons x .nil),h=>by obtain⟨g,c⟩:=qO8 h y x;exact rJ (by rw[g,c]) h
 |.nil,h=>by cases h
 |.cons _ .nil,h=>by cases h
 |.cons _ (.cons _ (.cons _ _)),h=>by cases h
theorem qW1:Les ds ds'->TOp.eval E .rz ds=some d->gO E .rz d ds'
 |.cons y (.cons x .nil),h=>by obtain⟨g,c⟩:=qO8 h y x;exact rJ (by rw[g,c]) h
 |.nil,h=>by cases h
 |.cons _ .nil,h=>by cases h
 |.cons _ (.cons _ (.cons _ _)),h=>by cases h
theorem qW0:Les ds ds'->TOp.eval E .rv ds=some d->gO E .rv d ds'
 |.cons y (.cons x .nil),h=>by obtain⟨g,c⟩:=qO8 h y x;exact rJ (by rw[g,c]) h
 |.nil,h=>by cases h
 |.cons _ .nil,h=>by cases h
 |.cons _ (.cons _ (.cons _ _)),h=>by cases h
theorem Le.keysD{a:D}{p:LA×LR}(h:Le a b)(e:keysD a=some p):∃l,keysD b=some (p.1,l)/\Les p.2 l:=by
 cases h<;>first|(cases e;done)|skip
 ·rename_i v;cases v<;>first|(cases e;done)|skip
  rename_i o;cases o<;>first|(cases e;done)|(cases e;exact⟨_,rfl,.nil⟩)
 rename_i h;cases e;exact⟨_,rfl,h⟩
theorem qRQ:Les ds ds'->TOp.eval E .pg ds=some d->gO E .pg d ds'
 |.nil,h=>rJ rfl h
 |.cons _ _,h=>by cases h
theorem qRR{ok:Bool}:Les ds ds'->TOp.eval E (.nw t ok) ds=some d->gO E (.nw t ok) d ds'
 | .cons (a:=m) (b:=m') r (.cons (a:=k) (b:=k') q .nil),j=>by
  have h:qA3 E t ok m k=some d:=j;clear j;show∃d',qA3 E t ok m' k'=some d'/\Le d d';unfold qA3 at h ⊢;split at h
  ·rename_i kd ag z G C F A w;cases q;obtain⟨l,u,p⟩:=r.keysD w;simp only[A,u];split at h
   ·rename_i i e4;cases g:C[i]? with
    |none=>rw[g]at h;cases h
    |some x=>
     rw[g]at h;cases h;obtain⟨y,o,c⟩:=p.get i g;refine⟨_,by simp only[o,aj];rfl,?_⟩;cases ok
     ·exact c
     exact .gd (.cons c (.cons .leaf .nil))
   ·rename_i e4;exact⟨d,h,.refl _⟩
   cases h
  cases h
 |.nil,h=>by cases h
 |.cons _ .nil,h=>by cases h
 |.cons _ (.cons _ (.cons _ _)),h=>by cases h
theorem qRP:Les ds ds'->TOp.eval E (.ow t) ds=some d->gO E (.ow t) d ds'
 | .cons (a:=m) (b:=m') o (.cons (a:=k) (b:=k') j (.cons (a:=x) (b:=g) h3 .nil)),c=>by
  have h:qA2 E t m k x=some d:=c;clear c;show∃d',qA2 E t m' k' g=some d'/\Le d d';unfold qA2 at h ⊢;split at h
  ·rename_i kd _ _ r u q p;cases j;cases o with
   |mp y=>
    simp only[p];split at h
    ·rename_i i e4;cases h;exact⟨_,rfl,.mp (Les.set i y h3)⟩
    ·rename_i e4;cases h;exact⟨_,rfl,.mp (Les.append y (.cons h3 .nil))⟩
    cases h
  cases h
 |.nil,h=>by cases h
 |.cons _ .nil,h=>by cases h
 |.cons _ (.cons _ .nil),h=>by cases h
 |.cons _ (.cons _ (.cons _ (.cons _ _))),h=>by cases h
theorem qGe{sz vC h n:Nat}{es:LR}:TOp.eval E (.ot el sz) [.sl vC h es,.leaf (.int .i64 (.ofNat n))]=bif Nat.beq vC el&&Nat.beq h sz&&Nat.ble (n+1) es.length then some (.sl el sz (dD es n))else none:=rfl
theorem qW7{sz:Nat}:Les ds ds'->TOp.eval E (.ot el sz) ds=some d->gO E (.ot el sz) d ds'
 |.cons x (.cons c .nil),h=>by
  cases c<;>first|(cases x<;>cases h;done)|skip
  rename_i v;cases v<;>first|(cases x<;>cases h;done)|skip
  rename_i k i;cases k<;>first|(cases x<;>cases h;done)|skip
  cases i<;>first|(cases x<;>cases h;done)|skip
  rename_i n;cases x<;>first|(cases h;done)|skip
  ·rw[qGe]at h;obtain⟨y,h⟩:=qZ h;simp at y
  rename_i x;rw[qGe]at h;obtain⟨y,h⟩:=qZ h;cases h;refine⟨_,by rw[qGe,x.length,y];rfl,.sl ?_⟩;unfold dD;rw[x.length];exact Les.append (Les.take _ x) (Les.take _ (Les.drop _ x))
 |.nil,h=>by cases h
 |.cons x .nil,h=>by cases x<;>cases h
 |.cons x (.cons c (.cons _ _)),h=>by cases x<;>cases c<;>cases h
end
mutual
theorem SV.le{ρ ρ':Nat->D}(h:∀i,Le (ρ i) (ρ' i)):∀x:SV,Le (x.d ρ) (x.d ρ')
 |.v i=>h i
 |.c x=>.refl _
 |.loc _ _=>.nil
 |.ptr _ _ _ _=>.nil
 |.pp i off=>by
  show Le (zAI (ρ i) off) (zAI (ρ' i) off);have:=h i;revert this;generalize ρ i=a;generalize ρ' i=b;intro h;cases h with
  |ptr h=>exact .ptr h
  |leaf=>exact .leaf
  |agg h=>exact .agg h
  |nil=>exact .nil
  |gone=>exact .gone
  |sl h=>exact .sl h
  |gd h=>exact .gd h
  |kr h k=>exact .kr h k
  |iface h=>exact .iface h
  |mode=>exact .mode
  |mp h=>exact .mp h
 |.agg cs=>.agg (SV.qy h cs)
 |.gd cs=>.gd (SV.qy h cs)
 |.fn _ a b=>.kr (SV.qy h a) (SV.qy h b)
 |.ll _ x=>.iface (SV.le h x)
 |.lk _=>.nil
theorem SV.qy{ρ ρ':Nat->D}(h:∀i,Le (ρ i) (ρ' i)):∀xs:LS,Les (SV.ds ρ xs) (SV.ds ρ' xs)
 | []=>.nil
 |x::xs=>.cons (SV.le h x) (SV.qy h xs)
end
theorem hZ{ρ ρ':LR}(h:Les ρ ρ')(i:Nat):Le (getD ρ i) (getD ρ' i):=by
 unfold getD;rw[cm,cm];cases c:ρ[i]? with
 |some x=>obtain⟨y,g,j⟩:=h.get i c;rw[g];exact j
 |none=>
  have:ρ'[i]? = none:=by rw[List.getElem?_eq_none_iff]at c ⊢;rw[h.length];exact c
  rw[this];exact .nil
theorem qDG:∀{a b:LR},iK a=true->Les a b->b=a
 | [],_,_,.nil=>rfl
 |.leaf _::r,_,h,.cons .leaf x=>by rw[qDG (a:=r) h x]
 |.agg _::_,_,h,_=>by cases h
 |.nil::_,_,h,_=>by cases h
 |.sl _ _ _::_,_,h,_=>by cases h
 |.gd _::_,_,h,_=>by cases h
 |.ptr _ _::_,_,h,_=>by cases h
 |.kr _ _ _::_,_,h,_=>by cases h
 |.iface _ _::_,_,h,_=>by cases h
 |.mode _::_,_,h,_=>by cases h
 |.mp _ _::_,_,h,_=>by cases h
theorem qPC:∀{n:Nat} {a b:D},uD n a=true->Le a b->uD n b=true
 |0,_,_,_,_=>rfl
 |1,_,_,h,x=>by cases x<;>first|exact h|cases h
 |n+2,_,_,h,x=>by
  cases x<;>first|exact h|(cases h;done)|skip
  rename_i x;rw[qDG (by simpa[uD]using h) x];exact h
theorem qQ9:∀{a b:LR},Les a b->Le (kC a) (kC b)
 |_,_,.nil=>.gd .nil
 |_,_,.cons h .nil=>h
 |_,_,.cons h (.cons k x)=>.gd (.cons h (.cons k x))
theorem qGW{a:LR}{d:D}{n:Nat}(h:Le (kC a) d)(j:a.length=n):∃b,d=kC b/\Les a b:=by
 match a,h with
 | [],h=>
  have h:Le (.gd []) d:=h
  match d,h with
  |_,.gd .nil=>exact⟨[],rfl,.nil⟩
 | [x],h=>exact⟨[d],rfl,.cons h .nil⟩
 |x::y::r,h=>
  have h:Le (.gd (x::y::r)) d:=h
  match d,h with
  |_,.gd (.cons g (.cons c h))=>exact⟨_::_::_,rfl,.cons g (.cons c h)⟩
variable{E:Env}{f:LO}
theorem qVO{c:Tgt}{ds ds' l:LR}(h:aB E c ds=some (f,l))(k:Les ds ds'):∃o,aB E c ds'=some (f,o)/\Les l o:=by
 cases c with
 |fn g=>cases h;exact⟨_,rfl,k⟩
 | val x=>
  simp only[aB]at h ⊢;split at h
  ·cases h;cases k with
   |cons y j=>
    cases y with
    |kr a b=>exact⟨_,rfl,Les.append (Les.append a j) b⟩
  cases h
 | rb x nm=>
  simp only[aB]at h ⊢;split at h
  ·cases k with
   | cons y j=>
    cases y with
    | iface y=>
     simp only;split at h
     ·rename_i i u A z;split at h
      ·rename_i p g q _ w;obtain⟨r,h⟩:=qZ h;cases h;simp only[r,ai];exact⟨_,rfl,.cons y j⟩
      cases h
     cases h
  cases h
def TOp.mo:TOp->Bool
 |.isNil _|.ns|.su _|.apps _ _|.bld _|.qm _|.ox|.pz _ _ _ _=>false
 |_=>true
theorem TOp.le{o:TOp}{ds ds':LR}{d:D}(y:o.mo=true)(h:o.eval E ds=some d)(x:Les ds ds'):∃d',o.eval E ds'=some d'/\Le d d':=by
 cases o with
 |bin _ _ _ _=>exact qXc x h
 |un _ _=>exact zA4 x h
 |conv _ _=>exact qRT x h
 |mz _ _=>exact qW9 x h
 |mq _ _ _=>exact qW5 x h
 |inr=>exact qW4 x h
 |elem _ _ _ _=>exact qRS x h
 |len _=>exact qW3 x h
 |lu _ _ _ _=>exact qWX x h
 |sub _ _=>exact qWW x h
 |qf=>exact qW8 x h
 |ext _=>exact qW6 x h
 |app _ _ _=>exact qXd x h
 |lit _ _=>exact qW2 x h
 |k8 _ _=>exact qO7 x h
 |box=>exact qXb x h
 |ny=>exact qRU x h
 |nn=>exact zA5 x h
 |nh=>exact qRO x h
 |mk _ _ _ _ _=>exact zA7 x h
 |set _ _ _ _=>exact qWY x h
 |qg _ _=>exact qRN x h
 |sb _=>exact qXa x h
 |mm _=>exact zA6 x h
 |ru=>exact qWZ x h
 |rz=>exact qW1 x h
 |rv=>exact qW0 x h
 |pg=>exact qRQ x h
 |nw _ _=>exact qRR x h
 |ow _=>exact qRP x h
 |ot _ _=>exact qW7 x h
 |_=>cases y
def Tree.mo:Tree->Bool
 |.bind o _ r=>o.mo&&r.mo
 |.call _ _ _ r=>r.mo
 |.l4 _ _ _ r=>r.mo
 |.ite _ a b=>a.mo&&b.mo
 |_=>true
def zHQ:Res1->Res1->Prop
 |.ret d,.ret d'=>Le d d'
 |.jump k l,.jump k' h=>k'=k/\Les l h
 |_,_=>False
section
variable{E:Env}{HS HS':LO->LR->La}{Q:Res1->Prop}
theorem qD5(C:∀f ds d ds',HS f ds d->Les ds ds'->∃d',Le d d'/\HS' f ds' d'):∀(T:Tree) {ρ ρ':LR},T.mo=true->Les ρ ρ'->wp E HS Q T ρ->∃r I,Q r/\zHQ r I/\∀j:Res1->Prop,j I->wp E HS' j T ρ'
 |.fail,_,_,_,_,h=>by cases h
 |.stop _ _,_,_,_,_,h=>by cases h
 |.ret xs,ρ,ρ',_,x,h=>⟨_,.ret (kC (SV.ds (getD ρ') xs)),h,qQ9 (SV.qy (hZ x) xs),λ_ g=>g⟩
 |.jump k xs,ρ,ρ',_,x,h=>⟨_,.jump k (SV.ds (getD ρ') xs),h,⟨rfl,SV.qy (hZ x) xs⟩,λ_ g=>g⟩
 |.bind o xs r,ρ,ρ',hm,x,h=>by
  simp only[Tree.mo,aE]at hm;simp only[wp]at h;split at h
  ·rename_i d hd;obtain⟨d',A,y⟩:=TOp.le hm.1 hd (SV.qy (hZ x) xs);obtain⟨q,q',z,w,h3⟩:=qD5 C r hm.2 (Les.append x (.cons y .nil)) h;exact⟨q,q',z,w,λj g=>by simp only[wp,A];exact h3 j g⟩
  cases h
 |.call J xs K r,ρ,ρ',hm,x,h=>by
  simp only[Tree.mo]at hm;simp only[wp]at h;split at h
  ·rename_i f ds hd;obtain⟨d,H,G,h⟩:=h;obtain⟨ds',A,p⟩:=qVO hd (SV.qy (hZ x) xs);obtain⟨d',y,F⟩:=C _ _ _ _ H p;obtain⟨q,q',z,w,h3⟩:=qD5 C r hm (Les.append x (.cons y .nil)) h;exact⟨q,q',z,w,λj g=>by simp only[wp,A];exact⟨d',F,qPC G y,h3 j g⟩⟩
  cases h
 |.l4 f m xs r,ρ,ρ',hm,x,h=>by simp only[Tree.mo]at hm;simp only[wp]at h;obtain⟨ds,H,G,h⟩:=h;obtain⟨d',y,F⟩:=C _ _ _ _ H (.cons .mode (SV.qy (hZ x) xs));obtain⟨ds',rfl,p⟩:=qGW y rfl;obtain⟨q,q',z,w,h3⟩:=qD5 C r hm (Les.append x p) h;exact⟨q,q',z,w,λj g=>by simp only[wp];exact⟨ds',F,by rw[p.length];exact G,h3 j g⟩⟩
 |.ite c a b,ρ,ρ',hm,x,h=>by
  simp only[Tree.mo,aE]at hm;simp only[wp]at h;have u:=SV.le (hZ x) c;split at h
  ·rename_i e;rw[e]at u;obtain⟨q,q',z,w,h3⟩:=qD5 C a hm.1 x h;exact⟨q,q',z,w,λj g=>by simp only[wp,u.de];exact h3 j g⟩
  ·rename_i e;rw[e]at u;obtain⟨q,q',z,w,h3⟩:=qD5 C b hm.2 x h;exact⟨q,q',z,w,λj g=>by simp only[wp,u.de];exact h3 j g⟩
  cases h
theorem qJl(j:∀f ds d ds',HS f ds d->Les ds ds'->∃d',Le d d'/\HS' f ds' d'){y:LV}(g:∀k,(y k).mo=true):∀(n k:Nat) {ρ ρ':LR} {d:D},qPs E HS y n k ρ d->Les ρ ρ'->∃d',Le d d'/\qPs E HS' y n k ρ' d'
 |0,_,_,_,_,h,_=>by cases h
 | n+1,k,ρ,ρ',d,h,q=>by
  obtain⟨r,c,o,x,h3⟩:=qD5 j (y k) (g k) q h;cases r with
  |ret F=>cases c with
   |ret w=>subst o;exact⟨w,x,h3 _ rfl⟩
   |jump _ _=>cases x
  |jump C A=>cases c with
   |ret _=>cases x
   |jump p z=>obtain⟨e,x⟩:=x;subst e;obtain⟨d',hd,u⟩:=qJl j g n p o x;exact⟨d',hd,h3 _ u⟩
theorem qD6(x:∀f ds d,HS f ds d->HS' f ds d):∀(T:Tree) {ρ:LR},wp E HS Q T ρ->wp E HS' Q T ρ
 |.fail,_,h=>h
 |.stop _ _,_,h=>h
 |.ret _,_,h=>h
 |.jump _ _,_,h=>h
 |.bind o xs r,ρ,h=>by
  simp only[wp]at h ⊢;split at h
  ·exact qD6 x r h
  cases h
 |.call j xs k r,ρ,h=>by
  simp only[wp]at h ⊢;split at h
  ·obtain⟨d,g,y,h⟩:=h;exact⟨d,x _ _ _ g,y,qD6 x r h⟩
  cases h
 |.l4 f m xs r,ρ,h=>by simp only[wp]at h ⊢;obtain⟨ds,g,y,h⟩:=h;exact⟨ds,x _ _ _ g,y,qD6 x r h⟩
 |.ite c a b,ρ,h=>by
  simp only[wp]at h ⊢;split at h
  ·exact qD6 x a h
  ·exact qD6 x b h
  cases h
theorem qJm(y:∀f ds d,HS f ds d->HS' f ds d){x:LV}:∀(n k:Nat) {ρ:LR} {d:D},qPs E HS x n k ρ d->qPs E HS' x n k ρ d
 |0,_,_,_,h=>h
 |n+1,k,ρ,d,h=>by
  obtain⟨r,hr,c⟩:=pL (x k) _ (qD6 (HS':=HS') y (x k) h);refine c _ ?_;cases r with
  |ret _=>exact hr
  |jump k' l=>exact qJm y n k' hr
end
def HC(E:Env)(f:LO)(ds:LR)(d:D):Prop:=qA E f ds d/\∀ds',Les ds ds'->∃d',Le d d'/\qA E f ds' d'
theorem HC.of{y:LV}{ds:LR}{d:D}(hu:∀{ds':LR} {d':D},ds'.length=ds.length->qP E (qA E) y 0 ds' d'->qA E f ds' d')(c:∀k,(y k).mo=true)(h:qP E (HC E) y 0 ds d):HC E f ds d:=by obtain⟨n,h⟩:=h;refine⟨hu rfl ⟨n,qJm (λ_ _ _ q=>q.1) n 0 h⟩,λds' x=>?_⟩;obtain⟨d',hd,g⟩:=qJl (HS':=qA E) (λf ds d ds' q x=>q.2 ds' x) c n 0 h x;exact⟨d',hd,hu x.length ⟨n,g⟩⟩
end Go.Am
namespace Go.Am.Tt
open Go Go.Am
def qWF(ts:LW):Bool:=ts.all λx=>x.2.mo
theorem qKw{ts:LW}(h:qWF ts=true)(k:Nat):(qBX ts k).mo=true:=by
 unfold qBX;cases e:gC ts k with
 |none=>rfl
 |some t=>exact al.1 h _ (g8 e)
def qPV(E:Env)(P:LK)(T:Tb)(tab:dW)(h:gJ)(e:En):Bool:=Nat.blt e.f dU&&(match qFT P.funcs.toList e.f with
 |some fn=>(match fn.body with
  |some c=>qWF (qFm E fn c e.hV e.S.ss.length)&&qMA T tab h e.S e.hs e.rm (qFm E fn c e.hV e.S.ss.length)
  |none=>false)
 |none=>false)
section
variable{E:Env}{P:LK}
theorem qPU(he:EOk E)(I:fC E P){T:Tb}(M:TbOk E T){tab:dW}{y:gJ}(k:∀p∈tab,yA (HC E) p.1 p.2)(N:∀p∈y,bA (HC E) p.1 p.2.1 p.2.2){e:En}(h:qPV E P T tab y e=true):yA (HC E) e.f e.S:=by
 unfold qPV at h;rw[aE]at h;obtain⟨O,g⟩:=h;split at g
 ·rename_i fn q;rw[tP]at q;split at g
  ·rename_i c z;rw[aE]at g;have o:E.funcs.get e.f=some fn:=I e.f fn c q z;obtain⟨j,w⟩:=qBJ M k N g.2;intro ds r J;obtain⟨A,G,F,C⟩:=w ds r J;refine⟨A,G,F,?_⟩;have K:ds.length=e.S.ss.length:=pV r;exact HC.of (λu L=>qCG he o z (hV:=qOt e.hV) (u.trans K) (j _ aq).symm (λx H=>j x (mC _ H)) L (oA O)) (qKw g.1) C
  cases g
 cases g
def qO1(E:Env)(P:LK)(T:Tb)(tab:dW)(h:gJ)(e:EnM):Bool:=e.hV.all (λp=>Nat.ble e.m.ly.ae.length p.2.ae.length)&&(Nat.beq e.S.rs.length e.m.out.db.length&&(match qFT P.funcs.toList e.f with
 |some fn=>qFW e.m fn.results.toList.length&&(match fn.body with
  |some c=>qWF (qIA E fn c e.m e.hV)&&qMA T tab h e.S e.hs e.rm (qIA E fn c e.m e.hV)
  |none=>false)
 |none=>false))
theorem HC.ofM{f:LO}{m:Mode}{n:Nat}{o:LV}{ds:LR}{d:D}(hu:∀{ds':LR} {d':D},qP E (qA E) o 0 ds' d'->(∃x,d'=kC x/\x.length=n)->qA E f (.mode m::ds') d')(r:∀k,(o k).mo=true)(h:qP E (HC E) o 0 ds d)(hd:∃x,d=kC x/\x.length=n):HC E f (.mode m::ds) d:=by
 obtain⟨k,h⟩:=h;refine⟨hu ⟨k,qJm (λ_ _ _ q=>q.1) k 0 h⟩ hd,λds' y=>?_⟩;cases y with
 |cons w y=>cases w;obtain⟨d',c,u⟩:=qJl (HS':=qA E) (λf ds d ds' q y=>q.2 ds' y) r k 0 h y;obtain⟨x,rfl,p⟩:=hd;obtain⟨g,rfl,j⟩:=qGW c p;exact⟨_,c,hu ⟨k,u⟩ ⟨g,rfl,by rw[j.length];exact p⟩⟩
theorem qO0(he:EOk E)(I:fC E P){T:Tb}(O:TbOk E T){tab:dW}{g:gJ}(o:∀p∈tab,yA (HC E) p.1 p.2)(R:∀p∈g,bA (HC E) p.1 p.2.1 p.2.2){e:EnM}(h:qO1 E P T tab g e=true):bA (HC E) e.f e.m e.S:=by
 unfold qO1 at h;simp only[aE]at h;obtain⟨S,h3,y⟩:=h;split at y
 ·rename_i fn r;rw[tP]at r;rw[aE]at y;obtain⟨K,y⟩:=y;split at y
  ·rename_i c C;rw[aE]at y;have q:E.funcs.get e.f=some fn:=I e.f fn c r C;obtain⟨j,w⟩:=qBJ O o R y.2;intro ds z J;obtain⟨u,A,G,F⟩:=w ds z J;refine⟨u,A,G,?_⟩;have L:u.length=e.S.rs.length:=pV A;refine HC.ofM (n:=e.m.out.db.length) (λN hd=>fY he q C (hV:=qIW e.m e.hV) K (λk=>?_) (j _ aq).symm (λx H=>j x (mC _ H)) N hd) (qKw y.1) F ⟨u,rfl,by rw[L];exact vW h3⟩;unfold qIW;cases M:gC e.hV k with
   |none=>exact vP _
   |some p=>exact oA (al.1 S _ (g8 M))
  cases y
 cases y
def kF(E:Env)(P:LK)(T:Tb):dW->gJ->List It->Bool
 |_,_,[]=>true
 |tab,h,.fn e::r=>qPV E P T tab h e&&kF E P T ((e.f,e.S)::tab) h r
 |tab,h,.md e::r=>qO1 E P T tab h e&&kF E P T tab ((e.f,e.m,e.S)::h) r
theorem iL(he:EOk E)(j:fC E P){T:Tb}(k:TbOk E T):∀{l:List It} {tab:dW} {x:gJ},(∀p∈tab,yA (HC E) p.1 p.2)->(∀p∈x,bA (HC E) p.1 p.2.1 p.2.2)->kF E P T tab x l=true->
  (∀p∈oV tab l,yA (HC E) p.1 p.2)/\∀p∈nJ x l,bA (HC E) p.1 p.2.1 p.2.2
 | [],tab,x,g,c,_=>⟨g,c⟩
 |.fn e::r,tab,x,g,c,h=>by
  rw[kF,aE]at h
  refine iL he j k (l:=r) (λp y=>?_) c h.2
  rcases bl.1 y with rfl|y
  ·exact qPU he j k g c h.1
  exact g p y
 |.md e::r,tab,x,g,c,h=>by
  rw[kF,aE]at h
  refine iL he j k (l:=r) g (λp y=>?_) h.2
  rcases bl.1 y with rfl|y
  ·exact qO0 he j k g c h.1
  exact c p y
end
end Go.Am.Tt
namespace Go.Am
open Go
def xL(el sz:Nat)(d:D):D:=.sl el sz d.es
def qDL(a h:D):Prop:=∀b,deq h b=deq a b/\deq b h=deq b a
theorem qDL.refl(a:D):qDL a a:=λ_=>⟨rfl,rfl⟩
def qBt:LR->LR->Prop
 | [],[]=>True
 |a::us,b::h=>qDL a b/\qBt us h
 |_,_=>False
theorem qBt.deqs:∀{us us':LR},qBt us us'->∀x,deqs us' x=deqs us x/\deqs x us'=deqs x us
 | [],[],_,_=>⟨rfl,rfl⟩
 | [],_::_,h,_=>by cases h
 |_::_,[],h,_=>by cases h
 |a::us,j::us',h,[]=>⟨rfl,rfl⟩
 |a::us,j::us',h,b::x=>by obtain⟨g,c⟩:=h.1 b;obtain⟨h3,y⟩:=qBt.deqs h.2 x;simp only[qD,g,c,h3,y,jw]
theorem qDL.agg{us us':LR}(h:qBt us us'):qDL (.agg us) (.agg us'):=by
 intro b;cases b with
 |agg c=>obtain⟨y,x⟩:=h.deqs c;simp only[qJ,y,x,jw]
 |_=>exact⟨by simp only[deq],by simp only[deq]⟩
theorem qBt.empty:∀{us us':LR},qBt us us'->us'.isEmpty=us.isEmpty
 | [],[],_=>rfl
 | [],_::_,h=>by cases h
 |_::_,[],h=>by cases h
 |_::_,_::_,_=>rfl
theorem qDL.sl{el sz vC x:Nat}{a:D}{es:LR}(c:oH vC x a)(h:qBt a.es es):qDL a (.sl el sz es):=by
 intro b;rcases c with rfl|⟨us,rfl,_⟩
 ·have h:qBt [] es:=h;cases es with
  |cons _ _=>cases h
  |nil=>
   cases b with
   |nil=>exact⟨by simp only[deq,kc],by simp only[deq,kc]⟩
   |sl _ _ y=>cases y<;>exact⟨by simp[deq,Go.Am.deqs],by simp[deq,Go.Am.deqs]⟩
   |_=>exact⟨by simp only[deq],by simp only[deq]⟩
 have h:qBt us es:=h;cases b with
 |nil=>exact⟨by simp only[deq];exact h.empty,by simp only[deq];exact h.empty⟩
 |sl _ _ y=>obtain⟨j,g⟩:=h.deqs y;exact⟨by simp only[deq,j],by simp only[deq,g]⟩
 |_=>exact⟨by simp only[deq],by simp only[deq]⟩
theorem qEU:∀us:LR,qBt us us
 | []=>trivial
 |a::us=>⟨.refl a,qEU us⟩
theorem qHS{f:D->D}:∀{us:LR},(∀x∈us,qDL x (f x))->qBt us (us.map f)
 | [],_=>trivial
 |a::us,h=>⟨h a aq,qHS λx y=>h x (mC _ y)⟩
variable{el:Nat}
theorem qSz{sz vC h:Nat}{a:D}(x:oH vC h a):qDL a (xL el sz a):=.sl x (qEU _)
variable{f:D->D}
theorem qSy{sz vC y:Nat}{a:D}(c:oH vC y a)(h:∀x∈a.es,qDL x (f x)):qDL a (.sl el sz (a.es.map f)):=.sl c (qHS h)
theorem qDL.both{a x b h:D}(c:qDL a x)(y:qDL b h):deq x h=deq a b:=(c h).1.trans (y a).2
theorem qD0(es:LR)(k:∀x∈es,deq x x=true):deqs es es=true:=by
 induction es with
 |nil=>rfl
 |cons a us ih=>simp only[qD,k a aq,ih λx h=>k x (mC _ h),cj]
mutual
theorem uL:∀{s:Sh} {d:D},zE s d->deq d d=true
 |.int k,d,h=>by obtain⟨n,rfl⟩:=h;simp[deq,qLw]
 |.bool,d,h=>by obtain⟨n,rfl⟩:=h;simp[deq,qLw]
 |.str,d,h=>by obtain⟨n,rfl⟩:=h;simp only[deq,qLw];exact qDo n
 |.st fs,d,h=>by simp only[zE]at h;obtain⟨cs,rfl,h⟩:=h;simp only[deq];exact qEY h
 |.sl el sz e,d,h=>by
  simp only[zE]at h;rcases h with rfl|⟨es,rfl,_,h⟩
  ·rfl
  simp only[deq];exact qD0 es λx y=>uL (s:=e) (h x y)
theorem qEY:∀{ss:List Sh} {ds:LR},jG ss ds->deqs ds ds=true
 | [],ds,h=>by simp only[jG]at h;subst h;rfl
 |s::ss,ds,h=>by simp only[jG]at h;obtain⟨d,r,rfl,y,x⟩:=h;simp only[qD,uL y,qEY x,cj]
end
variable{e:Sh}{i:Nat}{l:LR}
section
variable{E:Env}{B:Nat}
theorem cX{sz:Nat}:TOp.eval E (.lit el sz) []=some (.sl el sz []):=by rw[eZ];show(bif true&&Nat.ble (0*(sz+1)) 1000000 then _ else _)=_;rw[iq];rfl
theorem qO5{sz:Nat}{x:D}(h:x.cells.length=sz)(y:Nat.ble sz 1000=true):TOp.eval E (.lit el sz) [x]=some (.sl el sz [x]):=by
 rw[eZ];have g:Nat.beq x.cells.length sz=true:=by rw[h];exact bj _
 have c:Nat.ble (Nat.mul [x].length (Nat.succ sz)) 1000000=true:=by have:=oA y;refine bL ?_;show 1*(sz+1)<=1000000;omega
 simp only[eo,iu,g,c,cj,ai]
theorem qDA{n bytes:Nat}(h:n<=4000000)(c:bytes<=1000):Nat.ble (Nat.mul (Nat.add (Nat.mul 4 n) 4000) (Nat.succ bytes)) 100000000000=true:=by
 rw[Nat.ble_eq];have y:4*n+4000<=16004000:=by omega
 have x:bytes+1<=1001:=by omega
 exact lT (Nat.mul_le_mul y x) (oA rfl)
theorem yT{sz bytes:Nat}{d:D}(hd:qF B (.sl el sz e) d)(h:bytes<=1000)(p:d.es.length<=2000000):TOp.eval E (.app el sz bytes) [.sl el sz [],d]=some (xL el sz d):=by
 rw[bI];have g:∀(b:Bool) (x y:LX),b=true->(bif b then x else y)=x:=λb x y h=>by rw[h];rfl
 simp only[qF]at hd;have c:yO (.sl el sz [])=some 0:=rfl;rw[c];rcases hd with rfl|⟨es,rfl,_,_⟩
 ·exact g _ _ _ (qDA (by omega) h)
 have j:Nat.beq sz sz=true:=bj _;have k:Nat.ble (Nat.mul (Nat.add (Nat.mul 4 (Nat.add 0 es.length)) 4000) (Nat.succ bytes)) 100000000000=true:=qDA (by have:(D.sl el sz es).es.length=es.length:=rfl;show 0+es.length<=_;omega) h;refine(g _ _ _ (by rw[k,j];show(true&&true&&(Nat.beq el el&&Nat.beq sz sz))=true;rw[bj,bj];rfl)).trans ?_;rw[zI];split
 ·rename_i o;have:es=[]:=cy.1 o;subst this;rfl
 rfl
theorem fB{sz bytes:Nat}{y:D}(c:bytes<=1000)(o:l.length<=2000000):TOp.eval E (.app el sz bytes) [.sl el sz l,.sl el sz [y]]=some (.sl el sz (l++[y])):=by
 rw[bI];have g:∀(b:Bool) (x y:LX),b=true->(bif b then x else y)=x:=λb x y c=>by rw[c];rfl
 have j:Nat.beq sz sz=true:=bj _;have h:yO (.sl el sz l)=some l.length:=rfl;rw[h];have k:Nat.ble (Nat.mul (Nat.add (Nat.mul 4 (Nat.add l.length [y].length)) 4000) (Nat.succ bytes)) 100000000000=true:=qDA (by show l.length+1<=_;omega) c;exact(g _ _ _ (by rw[k,j];show(true&&true&&(Nat.beq el el&&Nat.beq sz sz))=true;rw[bj,bj];rfl)).trans rfl
theorem dZ{x:D}(h:l[i]? = some x):(l.take (i+1)).map f=(l.take i).map f++[f x]:=by rw[List.take_add_one,h,ga];rfl
theorem oL(h:¬i<l.length):(l.take i).map f=l.map f:=by rw[dc (by omega)]
theorem d8:((l.take i).map f).length<=l.length:=by rw[bk,cg];exact bq _ _
end
mutual
theorem Le.deq:∀{a b:D},Le a b->∀c,Go.Am.deq b c=Go.Am.deq a c
 |_,_,.leaf,_=>rfl
 |_,_,.agg h,c=>by cases c<;>simp only[Go.Am.deq];exact Les.deqs h _
 |_,_,.nil,_=>rfl
 |_,_,.gone,c=>by
  cases c<;>simp only[Go.Am.deq]
  ·rfl
  rename_i l;cases l<;>simp[Go.Am.deqs]
 |_,_,.sl h,c=>by
  cases c<;>simp only[Go.Am.deq]
  ·cases h<;>rfl
  exact Les.deqs h _
 |_,_,.gd _,c=>by simp only[Go.Am.deq]
 |_,_,.ptr _,c=>by simp only[Go.Am.deq]
 |_,_,.kr _ _,c=>by simp only[Go.Am.deq]
 |_,_,.iface _,c=>by simp only[Go.Am.deq]
 |_,_,.mode,_=>rfl
 |_,_,.mp _,c=>by simp only[Go.Am.deq]
theorem Les.deqs:∀{a b:LR},Les a b->∀c,Go.Am.deqs b c=Go.Am.deqs a c
 |_,_,.nil,_=>rfl
 |_,_,.cons h x,[]=>by simp[Go.Am.deqs]
 |_,_,.cons h x,c::cs=>by simp only[qD,Le.deq h c,Les.deqs x cs]
end
mutual
theorem Le.sm:∀{a b:D},Le a b->∀c,Go.Am.deq c b=Go.Am.deq c a
 |_,_,.leaf,_=>rfl
 |_,_,.agg h,c=>by cases c<;>simp only[Go.Am.deq];exact Les.qt h _
 |_,_,.nil,_=>rfl
 |_,_,.gone,c=>by
  cases c<;>simp only[Go.Am.deq]
  ·rfl
  rename_i l;cases l<;>simp[Go.Am.deqs]
 |_,_,.sl h,c=>by
  cases c<;>simp only[Go.Am.deq]
  ·cases h<;>rfl
  exact Les.qt h _
 |_,_,.gd _,c=>by cases c<;>simp only[Go.Am.deq]
 |_,_,.ptr _,c=>by cases c<;>simp only[Go.Am.deq]
 |_,_,.kr _ _,c=>by cases c<;>simp only[Go.Am.deq]
 |_,_,.iface _,c=>by cases c<;>simp only[Go.Am.deq]
 |_,_,.mode,_=>rfl
 |_,_,.mp _,c=>by cases c<;>simp only[Go.Am.deq]
theorem Les.qt:∀{a b:LR},Les a b->∀c,Go.Am.deqs c b=Go.Am.deqs c a
 |_,_,.nil,_=>rfl
 |_,_,.cons h x,[]=>by simp[Go.Am.deqs]
 |_,_,.cons h x,c::cs=>by simp only[qD,Le.sm h c,Les.qt x cs]
end
theorem Les.mem:∀{a b:LR},Les a b->∀{y:D},y∈b->∃x,x∈a/\Le x y
 |_,_,.cons h g,y,c=>by
  rcases bl.1 c with rfl|c
  ·exact⟨_,aq,h⟩
  obtain⟨x,k,j⟩:=Les.mem g c;exact⟨x,mC _ k,j⟩
mutual
theorem Le.hasB{B:Nat}:∀{s:Sh} {a b:D},qF B s a->Le a b->qF B s b
 |.int k,a,b,h,c=>by obtain⟨n,rfl⟩:=h;cases c;exact⟨n,rfl⟩
 |.bool,a,b,h,c=>by obtain⟨n,rfl⟩:=h;cases c;exact⟨n,rfl⟩
 |.str,a,b,h,c=>by obtain⟨n,rfl,h⟩:=h;cases c;exact⟨n,rfl,h⟩
 |.st fs,a,b,h,c=>by
  simp only[qF]at h ⊢;obtain⟨cs,rfl,h⟩:=h;cases c with
  |agg c=>exact⟨_,rfl,Les.ri h c⟩
 |.sl el sz e,a,b,h,c=>by
  simp only[qF]at h ⊢;rcases h with rfl|⟨es,rfl,q,p⟩
  ·cases c;exact .inl rfl
  cases c with
  |gone=>exact .inl rfl
  |sl c=>exact .inr ⟨_,rfl,by rw[c.length];exact q,λy j=>by obtain⟨x,o,g⟩:=c.mem j;exact Le.hasB (p x o) g⟩
theorem Les.ri{B:Nat}:∀{ss:List Sh} {a b:LR},jL B ss a->Les a b->jL B ss b
 | [],a,b,h,x=>by simp only[jL]at h;subst h;cases x;simp only[jL]
 |s::ss,a,b,h,x=>by
  simp only[jL]at h ⊢;obtain⟨d,r,rfl,g,c⟩:=h;cases x with
  |cons k y=>exact⟨_,_,rfl,Le.hasB g k,Les.ri c y⟩
end
theorem oU{B sz:Nat}{d:D}(h:qF B (.sl el sz e) d):Le (xL el sz d) d:=by
 simp only[qF]at h;rcases h with rfl|⟨es,rfl,_⟩
 ·exact .gone
 exact .refl _
theorem qKF{f:D->D}:∀{l:LR},(∀x∈l,Le (f x) x)->Les (l.map f) l
 | [],_=>.nil
 |a::l,h=>.cons (h a aq) (qKF λx y=>h x (mC _ y))
theorem qCA{B sz:Nat}{d:D}(h:qF B (.sl el sz e) d)(c:∀x,qF B e x->Le (f x) x):Le (.sl el sz (d.es.map f)) d:=by
 simp only[qF]at h;rcases h with rfl|⟨es,rfl,_,h⟩
 ·exact .gone
 exact .sl (qKF λx y=>c x (h x y))
end Go.Am
