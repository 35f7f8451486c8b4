/- Lists of numbers in order, each once; the checks of a rule, of both sides. Conditions: none. -/
import Derived.Test.YtminhjecpnpaeaaGreatDoorBk
import Derived.Test.YtminhjecpnpaeaaGreatDoorBe
import Derived.Test.YtminhjecpnpaeaaGreatDoorYb
import Derived.Test.YtminhjecpnpaeaaGreatDoorYc
set_option linter.unusedVariables false
set_option linter.unusedSimpArgs false
namespace Go.Proofs.YtminhjecpnpaeaaGreatDoor.Ry
open Go Go.Am Go.Proofs Go.Am.Tu
theorem qKK{ds:List D}:TOp.eval EE .box ds=some (.ptr ds 0):=rfl
theorem qTy{F:List D->Option D}{ds:List D}:TOp.eval EE (.lib F) ds=F ds:=rfl
attribute [local irreducible] Go.Am.wp Go.Am.TOp.eval
theorem qFA{P:Nat->Prop}(N:Nat)(x:P N)(step:∀i,i<N->P (i+1)->P i):P 0:=by
 have y:∀m i,i+m=N->P i:=by
  intro m;induction m with
  |zero=>
   intro i h;have:i=N:=by omega
   subst this;exact x
  |succ m ih=>intro i h;exact step i (by omega) (ih (i+1) (by omega))
 exact y N 0 (by omega)
theorem qCi{a b:Nat}(h:decide (((a:Nat):Int)<((b:Nat):Int))=true):a<b:=by have:=yB h;omega
theorem iW{a b:Nat}(h:decide (((a:Nat):Int)<((b:Nat):Int))=false):b<=a:=by have:=dF h;omega
def qNf(w:D)(a b:Nat):D:=match w with
 |.sl el sz es=>.sl el sz ((es.drop a).take (b-a))
 |d=>d
theorem qT8{el sz:Nat}{e:Sh}{w:D}{a b:Nat}(h:qC 300000000 (.sl el sz e) w):(qNf w a b).es=(w.es.drop a).take (b-a):=by
 simp only[qC]at h;rcases h with rfl|⟨es,rfl,_,_⟩
 ·simp[qNf,D.es]
 rfl
theorem qT7{el sz:Nat}{e:Sh}{w:D}{a b:Nat}(h:qC 300000000 (.sl el sz e) w):qC 300000000 (.sl el sz e) (qNf w a b):=by
 have g:=h;simp only[qC]at h;rcases h with rfl|⟨es,rfl,j,c⟩
 ·exact g
 exact lL (by have:=List.length_take_le (b-a) (es.drop a);simp only[List.length_take,List.length_drop];omega) λx y=>c x (List.mem_of_mem_drop (List.mem_of_mem_take y))
theorem qKy{a:D}(h:qC 300000000 aV a):∃l:List Int,a.es=l.map dI:=by
 have g:∀es:List D,(∀y∈es,∃n:Int,y=dI n)->∃l:List Int,es=l.map dI:=by
  intro es;induction es with
  |nil=>intro _;exact⟨[],rfl⟩
  |cons x r ih=>intro c;obtain⟨n,rfl⟩:=c x List.mem_cons_self;obtain⟨l,rfl⟩:=ih (λy b=>c y (mC _ b));exact⟨n::l,rfl⟩
 refine g a.es (λy b=>?_);obtain⟨i,e⟩:=List.mem_iff_getElem?.1 b;exact jG h e
def wK:List Int->Int->List Int
 | [],n=>[n]
 |x::r,n=>if x<n then x::wK r n else if x=n then n::r else n::x::r
theorem sZ{n y:Int}:∀l:List Int,y∈wK l n↔y=n∨y∈l
 | []=>by simp[wK]
 | x::r=>by
  unfold wK;split
  ·rw[List.mem_cons,sZ r,List.mem_cons];constructor
   ·rintro(h|h|h)
    ·exact .inr (.inl h)
    ·exact .inl h
    exact .inr (.inr h)
   rintro(h|h|h)
   ·exact .inr (.inl h)
   ·exact .inl h
   exact .inr (.inr h)
  split
  ·rename_i h;subst h;simp
  simp
theorem qJ8(n:Int):∀l:List Int,(wK l n).length<=l.length+1
 | []=>by simp[wK]
 |x::r=>by
  have:=qJ8 n r;unfold wK;split
  ·simp only[List.length_cons];omega
  split<;>simp
theorem qJ6(n:Int):∀l:List Int,l.Pairwise (·< ·)->(wK l n).Pairwise (·< ·)
 | [],_=>by simp[wK]
 | x::r,h=>by
  obtain⟨c,g⟩:=List.pairwise_cons.1 h;unfold wK;split
  ·rename_i e;refine List.pairwise_cons.2 ⟨λy b=>?_,qJ6 n r g⟩;rcases(sZ r).1 b with rfl|b
   ·exact e
   exact c y b
  split
  ·rename_i h;subst h;exact List.pairwise_cons.2 ⟨c,g⟩
  rename_i e j;refine List.pairwise_cons.2 ⟨λy b=>?_,h⟩;rcases List.mem_cons.1 b with rfl|b
  ·omega
  have:=c y b;omega
theorem qNu(n:Int):∀l:List Int,l.Pairwise (·< ·)->n∈l->(wK l n).length=l.length
 | [],_,y=>by cases y
 | x::r,h,y=>by
  obtain⟨g,e⟩:=List.pairwise_cons.1 h;unfold wK;split
  ·rename_i c;rcases List.mem_cons.1 y with rfl|y
   ·omega
   simp only[List.length_cons,qNu n r e y]
  split
  ·simp
  rename_i c b;rcases List.mem_cons.1 y with rfl|y
  ·exact absurd rfl b
  have:=g n y;omega
theorem sK:∀(l acc:List Int),acc.Pairwise (·< ·)->(l.foldl wK acc).length<=acc.length+l.length/\((l.foldl wK acc).length=acc.length+l.length->l.Nodup/\∀y∈l,¬y∈acc)
 | [],acc,_=>⟨lR _,λ_=>⟨List.nodup_nil,λy e=>by cases e⟩⟩
 |x::r,acc,h=>by
  obtain⟨a,b⟩:=sK r (wK acc x) (qJ6 x acc h);have o:=qJ8 x acc;rw[List.foldl_cons,List.length_cons];refine⟨by omega,λhe=>?_⟩;obtain⟨c,d⟩:=b (by omega);have g:¬x∈acc:=λg=>by have:=qNu x acc h g;omega
  refine⟨List.nodup_cons.2 ⟨λg=>d x g ((sZ acc).2 (.inl rfl)),c⟩,λy e=>?_⟩;rcases List.mem_cons.1 e with rfl|e
  ·exact g
  exact λj=>d y e ((sZ acc).2 (.inr j))
theorem qJ7(n:Int):∀l:List Int,¬n∈l->(wK l n).length=l.length+1
 | [],_=>rfl
 |x::r,h=>by
  unfold wK;split
  ·simp only[List.length_cons,qJ7 n r λy=>h (mC _ y)]
  split
  ·rename_i e;exact absurd (by rw[e];exact List.mem_cons_self) h
  simp
theorem qNa:∀(l acc:List Int),l.Nodup->(∀y∈l,¬y∈acc)->(l.foldl wK acc).length=acc.length+l.length
 | [],acc,_,_=>rfl
 |x::r,acc,h,g=>by
  obtain⟨a,b⟩:=List.nodup_cons.1 h;rw[List.foldl_cons,qNa r _ b λy e c=>?_,qJ7 x acc (g x List.mem_cons_self),List.length_cons]
  ·omega
  rcases(sZ acc).1 c with rfl|c
  ·exact a e
  exact g y (mC _ e) c
theorem qUk(l:List Int):(l.foldl wK []).length=l.length↔l.Nodup:=
 ⟨λh=>((sK l [] List.Pairwise.nil).2 (by rw[h];simp)).1,λh=>by have:=qNa l [] h (λ_ _ x=>by cases x);simpa using this⟩
theorem qVN{m:List Int}(b:m.Pairwise (·<= ·)):(Go.Lib.compact m).length=m.length↔m.Nodup:=by
 have e:(Go.Lib.compact m).length=((List.range m.length).filter (Go.Lib.keeps m.toArray)).length:=by unfold Go.Lib.compact Go.Lib.compactUpTo;rw[List.length_map]
 have y:((List.range m.length).filter (Go.Lib.keeps m.toArray)).length=m.length↔∀j,j<m.length->Go.Lib.keeps m.toArray j=true:=by have h:=List.length_filter_eq_length_iff (p:=Go.Lib.keeps m.toArray) (l:=List.range m.length);rw[List.length_range]at h;rw[h];exact⟨λh j x=>h j (List.mem_range.2 x),λh j x=>h j (List.mem_range.1 x)⟩
 have g:∀j (x:j<m.length),Go.Lib.keeps m.toArray j=true↔(j=0∨m[j]≠m[j-1]):=λj x=>by
  have w:m.toArray[j]! = m[j]:=by rw[getElem!_pos m.toArray j (by simpa using x)];simp
  have y:m.toArray[j-1]! = m[j-1]:=by rw[getElem!_pos m.toArray (j-1) (by simp;omega)];simp
  unfold Go.Lib.keeps;rw[decide_eq_true_iff,w,y]
 rw[e,y];rw[List.pairwise_iff_getElem]at b;unfold List.Nodup;rw[List.pairwise_iff_getElem];constructor
 ·intro h i j r x o;have c:=(g j x).1 (h j x);have z:m[j-1]<=m[j]:=b (j-1) j (by omega) x (by omega);have h3:m[i]<=m[j-1]:=by
   by_cases e:i=j-1
   ·subst e;exact Int.le_refl _
   exact b i (j-1) r (by omega) (by omega)
  rcases c with c|c
  ·omega
  omega
 intro h j x;refine(g j x).2 ?_;by_cases e:j=0
 ·exact .inl e
 exact .inr λy=>h (j-1) j (by omega) x (by omega) y.symm
theorem qXE(l:List Int):(pR (mP l)).length=l.length↔l.Nodup:=by
 have e:(mP l).Perm l:=List.mergeSort_perm l _;have g:(mP l).Pairwise (·<= ·):=by have:=List.pairwise_mergeSort (le:=λx y:Int=>decide (x<=y)) (λa b c o j=>by simp only[decide_eq_true_eq]at *;omega) (λa b=>by simp only[Bool.or_eq_true,decide_eq_true_eq];omega) l;exact this.imp λh=>yB h
 rw[←e.length_eq,←e.nodup_iff];exact qVN g
theorem qTg(l:List Int):(pR (mP l)).length<=l.length:=by have h:(mP l).Perm l:=List.mergeSort_perm l _;rw[←h.length_eq];exact Go.Lib.compact_length_le _
theorem qFt{n:Int}:qC 300000000 aV (.sl 3 1 [dI n]):=lL (by show 1<=_;omega) (λy h=>by rw[List.mem_singleton.1 h];exact jH)
theorem qIr{el sz:Nat}{e:Sh}{w:D}{a:Nat}(h:qC 300000000 (.sl el sz e) w)(x:a<=w.es.length):∃d,TOp.eval EE (.slc el sz true false) [w,dI ((a:Nat):Int)]=some d/\qC 300000000 (.sl el sz e) d/\d.es=w.es.drop a:=by
 refine⟨qNf w a w.es.length,?_,qT7 h,by rw[qT8 h,List.take_of_length_le (l:=w.es.drop a) (by rw[List.length_drop];omega)]⟩;simp only[qC]at h;rcases h with rfl|⟨es,rfl,_,_⟩
 ·have y:a=0:=by simpa[D.es]using x
  subst y;rw[mH];rfl
 have x:a<=es.length:=x;rw[mH];have g:vS true 0 [dI ((a:Nat):Int)]=some (a,[]):=rfl;have c:vS false es.length []=some (es.length,[]):=rfl;have b:(D.sl el sz es).es=es:=rfl;simp only[g,c,b,Nat.beq_refl,bL x,bL (lR es.length),Bool.and_self,cond_true,qNf]
theorem qIP{l:List Int}(h:l.length<=300000000):qC 300000000 aV (zW 3 1 (l.map dI)):=
 qN3 (by rw[List.length_map];exact h) (λy x=>by obtain⟨z,_,rfl⟩:=List.mem_map.1 x;exact jH)
theorem qXG{a:D}{l:List Int}{n:Int}(F:qC 300000000 aV a)(B:a.es=l.map dI)(O:l.length<100000000):Holds EE 125 [a,dI n] (zW 3 1 ((wK l n).map dI)):=by
 have y:=qB F;have K:a.es.length=l.length:=by rw[B,List.length_map]
 have E:qX EE (Holds EE) iL 1 [a,dI n,zW 3 1 (a.es.take 0),dI ((0:Nat):Int)] (zW 3 1 ((l.take 0++wK (l.drop 0) n).map dI)):=by
  refine qFA (P:=λi=>qX EE (Holds EE) iL 1 [a,dI n,zW 3 1 (a.es.take i),dI ((i:Nat):Int)] (zW 3 1 ((l.take i++wK (l.drop i) n).map dI))) l.length ?_ ?_
  ·refine qX.step' ?_;refine bS (qM y) ?_;refine bS vY ?_;refine iC (λc=>?_) λc=>?_
   ·have:=qCi c;omega
   refine bS (xY rfl) ?_;refine bS (qBo rfl) ?_;obtain⟨d,j,g,h⟩:=qIr (a:=l.length) F (by omega);refine bS (d:=zW 3 1 (a.es.take l.length++[dI n])) (aP qFt (by decide) (by rw[List.length_take];show _+1<=_;omega)) ?_;refine bS (qM y) ?_;refine bS vY ?_;refine iC (λz=>?_) λz=>?_
   ·have:=qCi z;omega
   refine bS j ?_;refine bS (d:=zW 3 1 (a.es.take l.length++[dI n]++d.es)) (aP g (by decide) (by rw[h,List.length_append,List.length_take,List.length_drop];show _+1+_<=_;omega)) ?_;refine qO rfl (congrArg (zW 3 1) ?_);rw[h,B,List.take_of_length_le (l:=l.map dI) (by rw[List.length_map];omega),List.drop_of_length_le (l:=l.map dI) (by rw[List.length_map];omega),List.take_length,List.drop_length,List.append_nil];show _=List.map dI (l++[n]);rw[List.map_append];rfl
  intro i M ih;obtain⟨x,H⟩:∃x,l[i]? = some x:=⟨_,List.getElem?_eq_getElem M⟩;have b:a.es[i]? = some (dI x):=by rw[B,List.getElem?_map,H];rfl
  have w:l.drop i=x::l.drop (i+1):=by obtain⟨N,rfl⟩:=gI H;exact List.drop_eq_getElem_cons N
  have I:a.es.take (i+1)=a.es.take i++[dI x]:=by rw[List.take_add_one,b];rfl
  have A:a.es.take i=(l.take i).map dI:=by rw[B,List.map_take]
  have C:∀k,a.es.drop k=(l.drop k).map dI:=λk=>by rw[B,List.map_drop]
  refine qX.step' ?_;refine bS (qM y) ?_;refine bS vY ?_;refine iC (λc=>?_) λc=>?_
  ·skip;refine bS (j5 (s:=((i:Nat):Int)) (by omega) b) ?_;refine bS (jJ (s:=((i:Nat):Int)) y (by omega) b rfl) ?_;refine bS vY ?_;refine iC (λz=>?_) λz=>?_
   ·have o:=yB z;refine bS (j5 (s:=((i:Nat):Int)) (by omega) b) ?_;refine bS (jJ (s:=((i:Nat):Int)) y (by omega) b rfl) ?_;refine bS (xY rfl) ?_;refine bS (qBo rfl) ?_;refine bS (d:=zW 3 1 (a.es.take (i+1))) (by rw[I];exact aP qFt (by decide) (by rw[List.length_take];show _+1<=_;omega)) ?_;refine bS (d:=dI ((i+1:Nat):Int)) (vC (vP (by omega))) ?_;refine zG rfl ?_;have e:l.take i++wK (l.drop i) n=l.take (i+1)++wK (l.drop (i+1)) n:=by rw[w,wK,if_pos o,List.take_add_one,H];simp
    rw[e];exact ih
   have o:=dF z;refine bS (xY rfl) ?_;refine bS (qBo rfl) ?_;refine bS (d:=zW 3 1 (a.es.take i++[dI n])) (aP qFt (by decide) (by rw[List.length_take];show _+1<=_;omega)) ?_;refine bS (qM y) ?_;refine bS vY ?_;refine iC (λL=>?_) λL=>?_
   ·skip;refine bS (j5 (s:=((i:Nat):Int)) (by omega) b) ?_;refine bS (jJ (s:=((i:Nat):Int)) y (by omega) b rfl) ?_;refine bS cA ?_;refine iC (λJ=>?_) λJ=>?_
    ·have r:=yB J;obtain⟨d,j,g,h⟩:=qIr (a:=i+1) F (by omega);refine bS (d:=dI ((i+1:Nat):Int)) (vC (vP (by omega))) ?_;refine bS j ?_;refine bS (d:=zW 3 1 (a.es.take i++[dI n]++d.es)) (aP g (by decide) (by rw[h,List.length_append,List.length_take,List.length_drop];show _+1+_<=_;omega)) ?_;refine qO rfl (congrArg (zW 3 1) ?_);rw[h,C,A,w,wK,if_neg o,if_pos r];simp
    have r:=dF J;obtain⟨d,j,g,h⟩:=qIr (a:=i) F (by omega);refine bS j ?_;refine bS (d:=zW 3 1 (a.es.take i++[dI n]++d.es)) (aP g (by decide) (by rw[h,List.length_append,List.length_take,List.length_drop];show _+1+_<=_;omega)) ?_;refine qO rfl (congrArg (zW 3 1) ?_);rw[h,C,A,w,wK,if_neg o,if_neg r];simp
   have:=iW L;omega
  have:=iW c;omega
 refine qTR rfl (qX.step' ?_);exact zG rfl E
theorem qZE{a:D}{l:List Int}(z:qC 300000000 aV a)(r:a.es=l.map dI)(C:l.length<50000000):Holds EE 72 [a] (zW 3 1 ((l.foldl wK []).map dI)):=by
 have h:=qB z;have o:a.es.length=l.length:=by rw[r,List.length_map]
 have e:∀i,((l.take i).foldl wK []).length<=(l.take i).length:=λi=>by have:=(sK (l.take i) [] List.Pairwise.nil).1;simpa using this
 have y:qX EE (Holds EE) qMX 1 [a,zW 3 1 (((l.take 0).foldl wK []).map dI),dI ((a.es.length:Nat):Int),dI ((0:Nat):Int)] (zW 3 1 ((l.foldl wK []).map dI)):=by
  refine qFA (P:=λi=>qX EE (Holds EE) qMX 1 [a,zW 3 1 (((l.take i).foldl wK []).map dI),dI ((a.es.length:Nat):Int),dI ((i:Nat):Int)] (zW 3 1 ((l.foldl wK []).map dI))) l.length ?_ ?_
  ·refine qX.step' ?_;refine bS vY ?_;refine iC (λc=>?_) λc=>?_
   ·have:=qCi c;omega
   refine qO rfl ?_;show zW 3 1 _=_;rw[List.take_length]
  intro i w ih;obtain⟨x,j⟩:∃x,l[i]? = some x:=⟨_,List.getElem?_eq_getElem w⟩;have b:a.es[i]? = some (dI x):=by rw[r,List.getElem?_map,j];rfl
  have B:=e i;have A:=List.length_take (i:=i) (l:=l);have g:(l.take (i+1)).foldl wK []=wK ((l.take i).foldl wK []) x:=by rw[List.take_add_one,j,List.foldl_append];rfl
  refine qX.step' ?_;refine bS vY ?_;refine iC (λc=>?_) λc=>?_
  ·skip;refine bS (j5 (s:=((i:Nat):Int)) (by omega) b) ?_;refine bS (jJ (s:=((i:Nat):Int)) h (by omega) b rfl) ?_;refine cS (d:=zW 3 1 ((wK ((l.take i).foldl wK []) x).map dI)) (qXG (qIP (by omega)) qCo (by omega)) ?_;refine bS (d:=dI ((i+1:Nat):Int)) (vC (vP (by omega))) ?_;exact zG rfl (by rw[←g];exact ih)
  have:=iW c;omega
 refine zBe rfl (qX.step' ?_);refine bS (qM h) ?_;exact zG rfl y
def dG(k:Nat)(s:Int):Bool:=decide (s<1)||decide (s>((k:Nat):Int))
def uM(k:Nat)(s:Int):Bool:=decide (¬s=0)&&dG k s
section
variable{G:D}
theorem zAT(h:xA 81 2 G){s:Int}:Holds EE 65 [dI s,.ptr [G] 0] (dB (dG G.es.length s)):=by
 refine zBj rfl (qX.step' ?_);refine bS vY ?_;refine iC (λa=>?_) λa=>?_
 ·exact qO rfl (congrArg dB (by unfold dG;rw[a];rfl))
 refine bS yZ ?_;refine bS (yP (cs:=[G]) (off:=0) rfl h.one) ?_;refine bS (qM h) ?_;refine bS oF ?_;exact qO rfl (congrArg dB (by unfold dG;rw[a];rfl))
theorem zBR(h:xA 81 2 G){s:Int}:Holds EE 67 [dI s,.ptr [.clo (.func 65) [] [.ptr [G] 0]] 0] (dB (uM G.es.length s)):=by
 refine zBh rfl (qX.step' ?_);refine bS nW ?_;refine iC (λa=>?_) λa=>?_
 ·skip;refine bS yZ ?_;refine bS (yP (cs:=[.clo (.func 65) [] [.ptr [G] 0]]) (off:=0) rfl rfl) ?_;refine cS (zAT h) ?_;exact qO rfl (congrArg dB (by unfold uM;rw[a];rfl))
 exact qO rfl (congrArg dB (by unfold uM;rw[a];rfl))
theorem zAR(h:xA 81 2 G){s:Int}:Holds EE 71 [.agg [G],dI s] (dB (!dG G.es.length s)):=by
 refine zBf rfl (qX.step' ?_);refine bS (zH rfl) ?_;refine bS rW ?_;refine iC (λa=>?_) λa=>?_
 ·skip;refine bS (qA (off:=0) rfl h.one) ?_;refine bS (qM h) ?_;refine bS iO ?_;have a:=yB a;refine qO rfl (congrArg dB ?_);unfold dG;rw[decide_eq_false (by omega:¬s<1),Bool.false_or,←decide_not];exact decide_eq_decide.2 (by omega)
 have a:=dF a;refine qO rfl (congrArg dB ?_);unfold dG;rw[decide_eq_true (by omega:s<1)];rfl
end
theorem qZ0{S g:D}{xs:List Int}{fn:FuncId}{p:Int->Bool}(y:xA 3 1 S)(w:S.es.length<=1048576)(l:S.es=xs.map dI)(o:∀x,Holds EE fn [dI x,g] (dB (p x))):∃n:Int,decide (n≥0)=xs.any p/\Holds EE 120 [S,.clo (.func fn) [] [g]] (dI n):=by
 have j:S.es.length=xs.length:=by rw[l,List.length_map]
 have h:∀i:Nat,∃d,(∃n:Int,d=dI n/\decide (n≥0)=(xs.drop i).any p)/\qX EE (Holds EE) qM0 1 [S,.clo (.func fn) [] [g],dI ((S.es.length:Nat):Int),dI ((i:Nat):Int)] d:=by
  refine xK S.es.length λi ih=>?_;refine yS ?_;refine bS vY ?_;refine iC (λc=>?_) λc=>?_
  ·skip;have c1:=qCi c;obtain⟨x,e⟩:∃x,xs[i]? = some x:=⟨_,List.getElem?_eq_getElem (by omega)⟩;have b:S.es[i]? = some (dI x):=by rw[l,List.getElem?_map,e];rfl
   refine bS (j5 (s:=((i:Nat):Int)) (by omega) b) ?_;refine bS (jJ (s:=((i:Nat):Int)) y (by omega) b rfl) ?_;refine cS (o x) ?_;refine iC (λd=>?_) λd=>?_
   ·exact vX rfl ⟨_,rfl,by rw[qSf e d];exact decide_eq_true (by omega)⟩
   refine bS (d:=dI ((i+1:Nat):Int)) (vC (vP (by omega))) ?_;have q:=ih c1;rw[←qV9 e d]at q;exact vV rfl q
  have c1:=iW c;exact vX rfl ⟨-1,rfl,by rw[qSg (by omega)];rfl⟩
 obtain⟨d,⟨n,rfl,r⟩,hd⟩:=h 0;refine⟨n,r,qZu rfl (qX.step' ?_)⟩;refine bS (qM y) ?_;exact zG rfl hd
theorem zAS{S y:D}{xs:List Int}{fn:FuncId}{p:Int->Bool}(h:xA 3 1 S)(g:S.es.length<=1048576)(j:S.es=xs.map dI)(b:∀x,Holds EE fn [dI x,y] (dB (p x))):Holds EE 66 [S,.clo (.func fn) [] [y]] (dB (xs.any p)):=by obtain⟨n,c,e⟩:=qZ0 h g j b;refine zBi rfl (qX.step' ?_);refine cS e ?_;refine bS rW ?_;exact qO rfl (congrArg dB c)
theorem zCn{l:List D}{x:Int}(h:l.length+1<=300000000):TOp.eval EE (.app 3 1 8) [zW 3 1 l,.sl 3 1 [dI x]]=some (zW 3 1 (l++[dI x])):=aP qFt (by decide) h
theorem qZZ{l:D}{xs:List Int}(h:xA 3 1 l)(g:l.es=xs.map dI)(w:xs.length<50000000):Holds EE (Nat.add gM 178) (.mode rX::[.nil,.ptr [l] 0]) (xN [zW 3 1 (xs.map dI)]):=by
 have j:l.es.length=xs.length:=by rw[g,List.length_map]
 have b:qX EE (Holds EE) qBG 1000 [l,dI ((l.es.length:Nat):Int),dI ((0:Nat):Int),zW 3 1 (l.es.take 0)] (zW 3 1 (xs.map dI)):=by
  refine qFA (P:=λi=>qX EE (Holds EE) qBG 1000 [l,dI ((l.es.length:Nat):Int),dI ((i:Nat):Int),zW 3 1 (l.es.take i)] (zW 3 1 (xs.map dI))) l.es.length ?_ ?_
  ·refine qX.step' ?_;show wp _ _ _ mV _;refine bS vY ?_;refine iC (λc=>?_) λc=>?_
   ·have:=qCi c;omega
   exact qO rfl (by rw[List.take_length,g];rfl)
  intro i r ih;obtain⟨x,o⟩:∃x,xs[i]? = some x:=⟨_,List.getElem?_eq_getElem (by omega)⟩;have y:l.es[i]? = some (dI x):=by rw[g,List.getElem?_map,o];rfl
  have e:l.es.take (i+1)=l.es.take i++[dI x]:=by rw[List.take_add_one,y];rfl
  refine qX.step' ?_;show wp _ _ _ mV _;refine bS vY ?_;refine iC (λc=>?_) λc=>?_
  ·skip;refine bS (j5 (s:=((i:Nat):Int)) (by omega) y) ?_;refine bS (jJ (s:=((i:Nat):Int)) h (by omega) y rfl) ?_;refine bS (xY rfl) ?_;refine bS (qBo rfl) ?_;refine bS (d:=zW 3 1 (l.es.take (i+1))) (by rw[e];exact zCn (by rw[List.length_take];omega)) ?_;refine bS (d:=dI ((i+1:Nat):Int)) (vC (vP (by omega))) ?_;exact zG rfl ih
  have:=iW c;omega
 refine qTK (qX.step' ?_) ⟨_,rfl,rfl⟩;show wp _ _ _ qBH _;refine bS yZ ?_;refine bS (yP (cs:=[l]) (off:=0) rfl h.one) ?_;refine bS (qM h) ?_;exact zG rfl b
theorem qOE(xs:List Int):(xs.map dI).map qRm=xs:=by rw[List.map_map];exact List.map_id'' (λ_=>rfl) xs
theorem qRa(xs:List Int):(xs.map dI).all qOn=true:=by rw[List.all_map];exact List.all_eq_true.2 λ_ _=>rfl
theorem qN6{F:List Int->List Int}{H:List D->List D}(g:F []=[])(c:∀xs:List Int,H (xs.map dI)=(F xs).map dI)(y:∀xs:List Int,xs≠[]->F xs≠[]){xs:List Int}(b:xs.length<=1000000000):lI 1000000000 3 1 qOn H [zW 3 1 (xs.map dI)]=some (zW 3 1 ((F xs).map dI)):=by
 cases xs with
 |nil=>rw[g];rfl
 |cons x r=>
  have e:zW 3 1 ((x::r).map dI)=.sl 3 1 ((x::r).map dI):=rfl;have j:zW 3 1 ((F (x::r)).map dI)=.sl 3 1 ((F (x::r)).map dI):=by unfold zW;rw[if_neg];intro h;exact y (x::r) (by simp) (List.map_eq_nil_iff.1 h)
  rw[e,j];show(bif Nat.beq 3 3&&Nat.beq 1 1&&((x::r).map dI).all qOn&&Nat.ble ((x::r).map dI).length 1000000000 then some (D.sl 3 1 (H ((x::r).map dI)))else none)=_;rw[qRa,c,bL (by rw[List.length_map];exact b)];rfl
theorem qT6{xs:List Int}(h:xs≠[]):mP xs≠[]:=λe=>by
 have x:(mP xs).Perm xs:=List.mergeSort_perm xs _
 rw[e]at x
 exact h (List.nil_perm.1 x)
theorem qY2{xs:List Int}(h:xs.length<=1000000000):TOp.eval EE (.lib S3) [zW 3 1 (xs.map dI)]=some (zW 3 1 ((mP xs).map dI)):=by rw[qTy];exact qN6 (F:=mP) (by simp[mP]) (λxs=>by show(((mP ((xs.map dI).map qRm).toArray.toList).toArray).toList).map qWt=_;rw[qOE];rfl) (λ_=>qT6) h
theorem qY4{xs:List Int}(x:xs.length<=1000000000):TOp.eval EE (.lib C3) [zW 3 1 (xs.map dI)]=some (zW 3 1 ((pR xs).map dI)):=by
 rw[qTy];exact qN6 (F:=pR) rfl (λxs=>by
  show(List.take (pR ((xs.map dI).map qRm).toArray.toList).length ((pR ((xs.map dI).map qRm).toArray.toList++List.replicate (((xs.map dI).map qRm).toArray.size-(pR ((xs.map dI).map qRm).toArray.toList).length) 0).toArray).toList).map qWt=_;rw[qOE];show(List.take (pR xs).length (pR xs++List.replicate (xs.toArray.size-(pR xs).length) 0)).map qWt=_;rw[List.take_left']
  ·rfl
  rfl) (λxs h e=>by
  have:=qK6 (List.length_pos_iff.2 h);rw[e]at this;cases this) x
theorem zBQ{l:D}{xs:List Int}(h:xA 3 1 l)(y:l.es=xs.map dI)(b:xs.length<50000000):Holds EE 68 [l] (zW 3 1 ((pR (mP xs)).map dI)):=by have x:(mP xs).Perm xs:=List.mergeSort_perm xs _;refine zBg rfl (qX.step' ?_);refine bS (xY h.one) ?_;refine bS qKK ?_;refine kK (ρ':=[_,_,_,zW 3 1 (xs.map dI)]) (qZZ h y b) rfl rfl rfl ?_;refine bS (d:=zW 3 1 ((mP xs).map dI)) (qY2 (by omega)) ?_;refine bS (d:=zW 3 1 ((pR (mP xs)).map dI)) (qY4 (by rw[x.length_eq];omega)) ?_;exact qO rfl rfl
def bR(k:Nat)(fs ts:List Int)(ll rl:Nat):Int:=if fs.length=0 then 1 else if¬ts.length=fs.length then 1 else if(fs.any (dG k)||ts.any (uM k))=true then 19 else if¬fs.Nodup then 8 else if 2<ll then 5 else if 2<rl then 5 else 0
section
variable{k ll rl:Nat}{fs ts:List Int}
theorem zA4(h:fs.length=0):bR k fs ts ll rl=1:=if_pos h
theorem zA3(h:¬fs.length=0)(x:¬ts.length=fs.length):bR k fs ts ll rl=1:=by unfold bR;rw[if_neg h,if_pos x]
theorem qZg(h:¬fs.length=0)(x:ts.length=fs.length)(h3:(fs.any (dG k)||ts.any (uM k))=true):bR k fs ts ll rl=19:=by unfold bR;rw[if_neg h,if_neg (not_not_intro x),if_pos h3]
theorem zA2(h:¬fs.length=0)(x:ts.length=fs.length)(h3:(fs.any (dG k)||ts.any (uM k))=false):bR k fs ts ll rl=if¬fs.Nodup then 8 else if 2<ll then 5 else if 2<rl then 5 else 0:=by unfold bR;rw[if_neg h,if_neg (not_not_intro x),h3];rfl
end
abbrev qLh:Sh:=.sl 58 2 qJE
section
variable{G f t p q:D}{u v:Bool}{fs ts:List Int}
theorem zBX(w:xA 81 2 G)(K:qC 1048576 aV f)(J:qC 1048576 aV t)(N:qC 1048576 qLh p)(M:qC 1048576 qLh q)(H:f.es=fs.map dI)(L:t.es=ts.map dI):Holds EE 28 [.agg [G],.agg [f,t,p,q,dB u,dB v]] (dI (bR G.es.length fs ts p.es.length q.es.length)):=by
 have y:=qB K;have l:=qB J;have r:=qB N;have o:=qB M;have R:=qK K;have Q:=qK J;have S:f.es.length=fs.length:=by rw[H,List.length_map]
 have lt:t.es.length=ts.length:=by rw[L,List.length_map]
 have B:=zBQ y H (by omega);have E:=zAS (xs:=fs) y R H λx=>zAT (s:=x) w;have C:=zAS (xs:=ts) l Q L λx=>zBR (s:=x) w;have F:xA 3 1 (zW 3 1 ((pR (mP fs)).map dI)):=qB (qIP (by have:=qTg fs;omega));refine zBr rfl (qX.step' ?_);refine bS (zH rfl) ?_;refine bS (zH rfl) ?_;refine bS (qA (off:=0) rfl y.one) ?_;refine bS (qM y) ?_;refine bS cA ?_;refine iC (λa=>?_) λa=>?_
 ·have a:=yB a;exact qO rfl (congrArg dI (zA4 (by omega)).symm)
 have a:=dF a;have A:¬fs.length=0:=by omega
 refine bS (qA (off:=1) rfl l.one) ?_;refine bS (qM l) ?_;refine bS (qA (off:=0) rfl y.one) ?_;refine bS (qM y) ?_;refine bS nW ?_;refine iC (λb=>?_) λb=>?_
 ·have b:=yB b;exact qO rfl (congrArg dI (zA3 A (by omega)).symm)
 have b:=dF b;have I:ts.length=fs.length:=by omega
 refine bS qBu ?_;refine bS (qA (off:=0) rfl y.one) ?_;refine cS E ?_;refine iC (λc=>?_) λc=>?_
 ·exact qO rfl (congrArg dI (qZg A I (by rw[c];rfl)).symm)
 refine bS (qA (off:=1) rfl l.one) ?_;refine bS qKK ?_;refine cS C ?_;refine iC (λd=>?_) λd=>?_
 ·exact qO rfl (congrArg dI (qZg A I (by rw[d,Bool.or_true])).symm)
 have P:(fs.any (dG G.es.length)||ts.any (uM G.es.length))=false:=by rw[c,d];rfl
 rw[zA2 A I P];refine bS (qA (off:=0) rfl y.one) ?_;refine cS B ?_;refine bS (d:=dI (((zW 3 1 ((pR (mP fs)).map dI)).es.length:Nat):Int)) (qM F) ?_;refine bS (qA (off:=0) rfl y.one) ?_;refine bS (qM y) ?_;refine bS vY ?_;have U:(zW 3 1 ((pR (mP fs)).map dI)).es.length=(pR (mP fs)).length:=by rw[qCo,List.length_map]
 have z:=qXE fs;have O:=qTg fs;refine iC (λe=>?_) λe=>?_
 ·have e:=qCi e;rw[if_pos (λh=>by have:=z.2 h;omega)];exact qO rfl rfl
 have e:=iW e;rw[if_neg (not_not_intro (z.1 (by omega)))];refine bS (qA (off:=2) rfl r.one) ?_;refine bS (qM r) ?_;refine bS oF ?_;refine iC (λg=>?_) λg=>?_
 ·have g:=yB g;rw[if_pos (by omega)];exact qO rfl rfl
 have g:=dF g;rw[if_neg (by omega)];refine bS (qA (off:=3) rfl o.one) ?_;refine bS (qM o) ?_;refine bS oF ?_;refine iC (λj=>?_) λj=>?_
 ·have j:=yB j;rw[if_pos (by omega)];exact qO rfl rfl
 have j:=dF j;rw[if_neg (by omega)];exact qO rfl rfl
theorem zBU(C:xA 81 2 G)(M:qC 1048576 aV f)(Q:qC 1048576 aV t)(V:qC 1048576 qLh p)(U:qC 1048576 qLh q)(N:f.es=fs.map dI)(R:t.es=ts.map dI):Holds EE 32 [.agg [G],.agg [f,t,p,q,dB u,dB v]] (dI (bR G.es.length fs ts p.es.length q.es.length)):=by
 have l:=qB M;have o:=qB Q;have B:=qB V;have A:=qB U;have bf:=qK M;have bt:=qK Q;have Z:f.es.length=fs.length:=by rw[N,List.length_map]
 have lt:t.es.length=ts.length:=by rw[R,List.length_map]
 have I:=qZE (nJ (B':=300000000) (by decide) M) N (by omega);have J:xA 3 1 (zW 3 1 ((fs.foldl wK []).map dI)):=qB (qIP (by have:=(sK fs [] List.Pairwise.nil).1;simp at this;omega));have z:¬fs.length=0->ts.length=fs.length->∀i:Nat,(((fs.take i).any (dG G.es.length)||(ts.take i).any (uM G.es.length))=false)->qX EE (Holds EE) qS0 1 [dI ((f.es.length:Nat):Int),dI ((i:Nat):Int),.agg [G],.agg [f,t,p,q,dB u,dB v]] (dI (bR G.es.length fs ts p.es.length q.es.length)):=by
  intro w O;refine xK f.es.length λi ih F=>?_;refine qX.step' ?_;refine bS vY ?_;refine iC (λc=>?_) λc=>?_
  ·skip;have c1:=qCi c;obtain⟨x,L⟩:∃x,fs[i]? = some x:=⟨_,List.getElem?_eq_getElem (by omega)⟩;obtain⟨y,K⟩:∃y,ts[i]? = some y:=⟨_,List.getElem?_eq_getElem (by omega)⟩;have H:f.es[i]? = some (dI x):=by rw[N,List.getElem?_map,L];rfl
   have r:t.es[i]? = some (dI y):=by rw[R,List.getElem?_map,K];rfl
   have S:fs.take (i+1)=fs.take i++[x]:=by rw[List.take_add_one,L];rfl
   have ty:ts.take (i+1)=ts.take i++[y]:=by rw[List.take_add_one,K];rfl
   have P:dG G.es.length x=false->uM G.es.length y=false->((fs.take (i+1)).any (dG G.es.length)||(ts.take (i+1)).any (uM G.es.length))=false:=λX W=>by rw[S,ty,List.any_append,List.any_append];simp only[Bool.or_eq_false_iff]at F ⊢;exact⟨⟨F.1,by simp[X]⟩,F.2,by simp[W]⟩
   refine bS (qA (off:=0) rfl l.one) ?_;refine bS (j5 (s:=((i:Nat):Int)) (by omega) H) ?_;refine bS (jJ (s:=((i:Nat):Int)) l (by omega) H rfl) ?_;refine cS (zAR C) ?_;refine bS wG ?_;refine iC (λd=>?_) λd=>?_
   ·have d:dG G.es.length x=true:=by simpa using d
    exact qO rfl (congrArg dI (qZg w O (by rw[List.any_eq_true.2 ⟨x,List.mem_of_getElem? L,d⟩];rfl)).symm)
   have d:dG G.es.length x=false:=by simpa using d
   refine bS (qA (off:=1) rfl o.one) ?_;refine bS (j5 (s:=((i:Nat):Int)) (by omega) r) ?_;refine bS (jJ (s:=((i:Nat):Int)) o (by omega) r rfl) ?_;refine bS nW ?_;refine iC (λe=>?_) λe=>?_
   ·skip;refine bS (qA (off:=1) rfl o.one) ?_;refine bS (j5 (s:=((i:Nat):Int)) (by omega) r) ?_;refine bS (jJ (s:=((i:Nat):Int)) o (by omega) r rfl) ?_;refine cS (zAR C) ?_;refine bS wG ?_;refine iC (λg=>?_) λg=>?_
    ·have g:dG G.es.length y=true:=by simpa using g
     have g:uM G.es.length y=true:=by unfold uM;rw[e,g];rfl
     exact qO rfl (congrArg dI (qZg w O (by rw[List.any_eq_true.2 ⟨y,List.mem_of_getElem? K,g⟩,Bool.or_true])).symm)
    have g:dG G.es.length y=false:=by simpa using g
    refine bS (d:=dI ((i+1:Nat):Int)) (vC (vP (by omega))) ?_;exact zG rfl (ih c1 (P d (by unfold uM;rw[g,Bool.and_false])))
   refine bS (d:=dI ((i+1:Nat):Int)) (vC (vP (by omega))) ?_;exact zG rfl (ih c1 (P d (by unfold uM;rw[e];rfl)))
  have c1:=iW c;rw[List.take_of_length_le (by omega),List.take_of_length_le (by omega)]at F;rw[zA2 w O F];refine bS (qA (off:=0) rfl l.one) ?_;refine cS I ?_;refine bS (d:=dI (((zW 3 1 ((fs.foldl wK []).map dI)).es.length:Nat):Int)) (qM J) ?_;refine bS (qA (off:=0) rfl l.one) ?_;refine bS (qM l) ?_;refine bS nW ?_;have hS:(zW 3 1 ((fs.foldl wK []).map dI)).es.length=(fs.foldl wK []).length:=by rw[qCo,List.length_map]
  have E:=qUk fs;refine iC (λe=>?_) λe=>?_
  ·have e:=yB e;rw[if_pos (λh=>by have:=E.2 h;omega)];exact qO rfl rfl
  have e:=dF e;rw[if_neg (not_not_intro (E.1 (by omega)))];refine bS (qA (off:=2) rfl B.one) ?_;refine bS (qM B) ?_;refine bS oF ?_;refine iC (λg=>?_) λg=>?_
  ·have g:=yB g;rw[if_pos (by omega)];exact qO rfl rfl
  have g:=dF g;rw[if_neg (by omega)];refine bS (qA (off:=3) rfl A.one) ?_;refine bS (qM A) ?_;refine bS oF ?_;refine iC (λj=>?_) λj=>?_
  ·have j:=yB j;rw[if_pos (by omega)];exact qO rfl rfl
  have j:=dF j;rw[if_neg (by omega)];exact qO rfl rfl
 refine zBp rfl (qX.step' ?_);refine bS (zH rfl) ?_;refine bS (zH rfl) ?_;refine bS (qA (off:=0) rfl l.one) ?_;refine bS (qM l) ?_;refine bS cA ?_;refine iC (λa=>?_) λa=>?_
 ·have a:=yB a;exact qO rfl (congrArg dI (zA4 (by omega)).symm)
 have a:=dF a;have w:¬fs.length=0:=by omega
 refine bS (qA (off:=1) rfl o.one) ?_;refine bS (qM o) ?_;refine bS (qA (off:=0) rfl l.one) ?_;refine bS (qM l) ?_;refine bS nW ?_;refine iC (λb=>?_) λb=>?_
 ·have b:=yB b;exact qO rfl (congrArg dI (zA3 w (by omega)).symm)
 have b:=dF b;refine bS (qA (off:=0) rfl l.one) ?_;refine bS (qM l) ?_;exact zG rfl (z w (by omega) 0 rfl)
end
end Go.Proofs.YtminhjecpnpaeaaGreatDoor.Ry
namespace Go.Proofs.YtminhjecpnpaeaaGreatDoor.Ry
open Go Go.Am Go.Proofs Go.Am.Tu
theorem qX7{a b c d e f:D}:TOp.eval EE (.loadp true 6) [.ptr [a,b,c,d,e,f] 0]=some (.agg [a,b,c,d,e,f]):=rfl
theorem qX8{el sz:Nat}{es:List D}:TOp.eval EE (.isNil false) [.sl el sz es]=some (dB false):=rfl
attribute [local irreducible] Go.Am.wp Go.Am.TOp.eval
theorem qYJ:∃x,EE.types.get 39=some x/\x.size=6:=by
 have h:(EE.types.get 39).map (λe=>e.size)=some 6:=by kernel_rfl
 cases e:EE.types.get 39 with
 |none=>rw[e]at h;cases h
 |some x=>rw[e]at h;exact⟨x,rfl,Option.some.inj h⟩
theorem zA9:EE.funcs.get 29=some Tryz.f29:=xD (c:=vB Tryz.f29) Tryz.func29 rfl (by kernel_rfl)
theorem zA8:EE.funcs.get 34=some Tryz.f34:=xD (c:=vB Tryz.f34) Tryz.func34 rfl (by kernel_rfl)
theorem zBW{es:List D}{r:D}{i:Nat}(h:∀e∈es,e.cells.length=6)(x:r.cells.length=6)(b:i<=es.length)(y:es.length<=2000000):
  Holds EE (Nat.add gM 29) (.mode qTr::[.sl 39 6 es,dI ((i:Nat):Int),.sl 39 6 [r]]) (xN [.sl 39 6 (es.take i++r::es.drop i)]):=qOpz ⟨_,zA9⟩ qZV qYJ (by decide) h x b y
theorem zBS{es:List D}{i:Nat}(h:∀e∈es,e.cells.length=6)(y:i<es.length)(x:es.length<=2000000):
  Holds EE (Nat.add gM 34) (.mode qTq::[.sl 39 6 es,dI ((i:Nat):Int),dI ((i+1:Nat):Int)]) (xN [.sl 39 6 (es.take i++es.drop (i+1))]):=qPi ⟨_,zA8⟩ zAj qYJ (by decide) h y x
theorem zAU{es:List D}{e:Sh}(h:qC 1048576 (.sl 39 6 e) (.sl 39 6 es)):Holds EE (Nat.add gM 30) (.mode iB::[.sl 39 6 es]) (xN [.sl 39 6 es]):=by refine qWC (qX.step' ?_) ⟨_,rfl,rfl⟩;show wp _ _ _ qET _;refine bS qX8 ?_;refine vO (t:=false) rfl ?_;refine lJ ?_;refine bS mR ?_;refine bS (d:=D.sl 39 6 es) (yC h (by decide) (by have:=qK h;omega)) ?_;exact qO rfl rfl
theorem qBy{el sz bytes:Nat}{l:List D}{b:D}(e:xA el sz b)(h:bytes<=1000)(j:l.length+b.es.length<=4000000):TOp.eval EE (.app el sz bytes) [.sl el sz l,b]=some (.sl el sz (l++b.es)):=by
 rw[aJ];have g:∀(b:Bool) (x y:Option D),b=true->(bif b then x else y)=x:=λb x y e=>by rw[e];rfl
 have c:pX (.sl el sz l)=some l.length:=rfl;rw[c];rcases e with rfl|⟨es,rfl,_⟩
 ·refine(g _ _ _ (eN (by have:(D.nil).es.length=0:=rfl;omega) h)).trans ?_;show some (D.sl el sz l)=some (.sl el sz (l++[]));rw[List.append_nil]
 have o:Nat.beq sz sz=true:=Nat.beq_refl _;have r:Nat.ble (Nat.mul (Nat.add (Nat.mul 4 (Nat.add l.length es.length)) 4000) (Nat.succ bytes)) 100000000000=true:=eN j h;refine(g _ _ _ (by rw[r,o];show(true&&true&&(Nat.beq el el&&Nat.beq sz sz))=true;rw[Nat.beq_refl,Nat.beq_refl];rfl)).trans ?_;rw[qY];split
 ·rename_i w;have:es=[]:=List.length_eq_zero_iff.1 w;subst this;show some (D.sl el sz l)=some (.sl el sz (l++[]));rw[List.append_nil]
 rfl
theorem qNd{el sz:Nat}{w:D}{b:Nat}(x:xA el sz w)(h:b<=w.es.length):∃d,TOp.eval EE (.slc el sz true false) [w,dI ((b:Nat):Int)]=some d/\xA el sz d/\d.es=w.es.drop b:=by
 rcases x with rfl|⟨es,rfl,g⟩
 ·have y:b=0:=by simpa[D.es]using h
  subst y;exact⟨.nil,by rw[mH];rfl,.inl rfl,rfl⟩
 have h:b<=es.length:=h;refine⟨.sl el sz (es.drop b),?_,.inr ⟨_,rfl,by rw[List.length_drop];omega⟩,rfl⟩;rw[mH];have e:vS true 0 [dI ((b:Nat):Int)]=some (b,[]):=rfl;have c:vS false es.length []=some (es.length,[]):=rfl;simp only[e,c,Nat.beq_refl,bL h,bL (lR es.length),Bool.and_self,cond_true];rw[List.take_of_length_le (by rw[List.length_drop];omega)]
def pA(c i:Int)(n:Nat):Int:=if i<0 then 2 else if i>((n:Nat):Int)then 2 else if n≥12 then 11 else c
def oT(i:Int)(n:Nat):Int:=if i<0 then 2 else if i≥((n:Nat):Int)then 2 else 0
def dD(i:Int)(r:D)(l:List D):List D:=l.take i.toNat++r::l.drop i.toNat
def pD(i:Int)(l:List D):List D:=l.take i.toNat++l.drop (i.toNat+1)
def qAV(e:Int)(a b:D):D:=if e=0 then a else b
theorem qFC{a b:D}:qAV 0 a b=a:=if_pos rfl
theorem qOj{e:Int}{a b:D}(h:¬e=0):qAV e a b=b:=if_neg h
section
variable{x0 x1 x2 x3 x4 x5 x6 x7 x8 f t p q:D}{u v:Bool}{fs ts:List Int}{es:List D}{i:Int}
theorem zBY(y:xA 81 2 x0)(N:x1.one=true)(M:x2.one=true)(L:x3.one=true)(K:x5.one=true)(J:x6.one=true)(I:x7.one=true)(H:x8.one=true)(o:qC 1048576 (.sl 39 6 qEM) (.sl 39 6 es))(E:qC 1048576 aV f)(A:qC 1048576 aV t)(C:qC 1048576 qLh p)(B:qC 1048576 qLh q)(Z:f.es=fs.map dI)(X:t.es=ts.map dI):Holds EE (Nat.add gM 27) (.mode tI::[.ptr [dI i] 0,.ptr [f,t,p,q,dB u,dB v] 0,.agg [x0,x1,x2,x3,.sl 39 6 es,x5,x6,x7,x8]]) (xN [dI (pA (bR x0.es.length fs ts p.es.length q.es.length) i es.length),qAV (pA (bR x0.es.length fs ts p.es.length q.es.length) i es.length) (.agg [x0,x1,x2,x3,.sl 39 6 (dD i (.agg [f,t,p,q,dB u,dB v]) es),x5,x6,x7,x8]) (.agg [x0,x1,x2,x3,.sl 39 6 es,x5,x6,x7,x8])]):=by
 have R:=qB E;have O:=qB A;have Q:=qB C;have P:=qB B;have x:=qB o;have b4:es.length<=1048576:=qK o;have l:=zBX (u:=u) (v:=v) y E A C B Z X;have S:∀e∈es,e.cells.length=6:=λe he=>by obtain⟨j,U⟩:=List.mem_iff_getElem?.1 he;obtain⟨_,rfl,y0,_,rfl,k0,y1,_,rfl,k1,y2,_,rfl,k2,y3,_,rfl,k3,_,_,rfl,⟨y4,rfl⟩,_,_,rfl,⟨y5,rfl⟩,rfl⟩:=jG o U;rfl
 obtain⟨c,V⟩:∃c,c=bR x0.es.length fs ts p.es.length q.es.length:=⟨_,rfl⟩;rw[←V]at l ⊢;have h:∀e:Int,¬e=0->pA c i es.length=e->xN [dI e,.agg [x0,x1,x2,x3,.sl 39 6 es,x5,x6,x7,x8]]=xN [dI (pA c i es.length),qAV (pA c i es.length) (.agg [x0,x1,x2,x3,.sl 39 6 (dD i (.agg [f,t,p,q,dB u,dB v]) es),x5,x6,x7,x8]) (.agg [x0,x1,x2,x3,.sl 39 6 es,x5,x6,x7,x8])]:=λe W he=>by rw[he,qOj W]
 refine qWD (qX.step' ?_) ⟨_,rfl,rfl⟩;show wp _ _ _ qEV _;refine bS yZ ?_;refine bS (yP (cs:=[dI (i)]) (off:=0) rfl rfl) ?_;refine bS vY ?_;refine iC (λa=>?_) λa=>?_
 ·have a:=yB a;exact vN rfl (h 2 (by decide) (if_pos a))
 have a:=dF a;refine bS yZ ?_;refine bS (yP (cs:=[dI (i)]) (off:=0) rfl rfl) ?_;refine bS (qA (off:=4) rfl rfl) ?_;refine bS (d:=dI (((D.sl 39 6 es).es.length:Nat):Int)) (qM x) ?_;refine bS oF ?_;refine iC (λb=>?_) λb=>?_
 ·have b:=yB b;have b:i>((es.length:Nat):Int):=b;exact vN rfl (h 2 (by decide) (by unfold pA;rw[if_neg a,if_pos b]))
 have b:=dF b;have F:¬i>((es.length:Nat):Int):=b;refine bS (qA (off:=4) rfl rfl) ?_;refine bS (d:=dI (((D.sl 39 6 es).es.length:Nat):Int)) (qM x) ?_;refine bS rW ?_;refine iC (λd=>?_) λd=>?_
 ·have d:=yB d;have d':((es.length:Nat):Int)≥12:=d;exact vN rfl (h 11 (by decide) (by unfold pA;rw[if_neg a,if_neg F,if_pos (by omega)]))
 have d:=dF d;have d':¬((es.length:Nat):Int)≥12:=d;have z:pA c i es.length=c:=by unfold pA;rw[if_neg a,if_neg F,if_neg (by omega)]
 rw[z]at h ⊢;refine bS (cB (off:=0) (size:=1) rfl) ?_;refine bS yZ ?_;refine bS qX7 ?_;refine cS l ?_;refine bS nW ?_;refine iC (λe=>?_) λe=>?_
 ·have e:=yB e;exact vN rfl (h c e rfl)
 have e:=Classical.not_not.1 (dF e);obtain⟨m,hm⟩:∃m:Nat,i=((m:Nat):Int):=⟨i.toNat,by omega⟩;have w:dD i (.agg [f,t,p,q,dB u,dB v]) es=es.take m++.agg [f,t,p,q,dB u,dB v]::es.drop m:=by unfold dD;rw[hm,Int.toNat_natCast]
 have g:=zBW (es:=es) (r:=.agg [f,t,p,q,dB u,dB v]) (i:=m) S rfl (by omega) (by omega);rw[←w,←hm]at g;refine bS (qA (off:=4) rfl rfl) ?_;refine kK (ρ':=[_,_,_,_,_,_,_,_,_,_,_,_,_,_,_,_,_,_,_,_,D.sl 39 6 es]) (zAU o) rfl rfl rfl ?_;refine bS yZ ?_;refine bS (yP (cs:=[dI (i)]) (off:=0) rfl rfl) ?_;refine bS yZ ?_;refine bS qX7 ?_;refine bS (zH rfl) ?_;refine bS (qIS rfl rfl) ?_;refine kK (ρ':=[_,_,_,_,_,_,_,_,_,_,_,_,_,_,_,_,_,_,_,_,_,_,_,_,_,_,_,.sl 39 6 (dD i (.agg [f,t,p,q,dB u,dB v]) es)]) g rfl rfl rfl ?_;refine bS (zH rfl) ?_;refine bS (qA (off:=0) rfl y.one) ?_;refine bS (qA (off:=1) rfl N) ?_;refine bS (qA (off:=2) rfl M) ?_;refine bS (qA (off:=3) rfl L) ?_;refine bS (qA (off:=4) rfl rfl) ?_;refine bS (qA (off:=5) rfl K) ?_;refine bS (qA (off:=6) rfl J) ?_;refine bS (qA (off:=7) rfl I) ?_;refine bS (qA (off:=8) rfl H) ?_;exact vN rfl (by rw[e,qFC];rfl)
theorem zBT(o0:x0.one=true)(o1:x1.one=true)(o2:x2.one=true)(o3:x3.one=true)(o5:x5.one=true)(o6:x6.one=true)(o7:x7.one=true)(o8:x8.one=true)(h4:qC 1048576 (.sl 39 6 qEM) (.sl 39 6 es)):Holds EE (Nat.add gM 33) (.mode tH::[.ptr [dI i] 0,.agg [x0,x1,x2,x3,.sl 39 6 es,x5,x6,x7,x8]]) (xN [dI (oT i es.length),qAV (oT i es.length) (.agg [x0,x1,x2,x3,.sl 39 6 (pD i es),x5,x6,x7,x8]) (.agg [x0,x1,x2,x3,.sl 39 6 es,x5,x6,x7,x8])]):=by
 have i_x4:=qB h4;have b4:es.length<=1048576:=qK h4;have hs:∀e∈es,e.cells.length=6:=λe he=>by obtain⟨j,hj⟩:=List.mem_iff_getElem?.1 he;obtain⟨_,rfl,y0,_,rfl,k0,y1,_,rfl,k1,y2,_,rfl,k2,y3,_,rfl,k3,_,_,rfl,⟨y4,rfl⟩,_,_,rfl,⟨y5,rfl⟩,rfl⟩:=jG h4 hj;rfl
 have err:∀e:Int,¬e=0->oT i es.length=e->xN [dI e,.agg [x0,x1,x2,x3,.sl 39 6 es,x5,x6,x7,x8]]=xN [dI (oT i es.length),qAV (oT i es.length) (.agg [x0,x1,x2,x3,.sl 39 6 (pD i es),x5,x6,x7,x8]) (.agg [x0,x1,x2,x3,.sl 39 6 es,x5,x6,x7,x8])]:=λe h0 he=>by rw[he,qOj h0]
 refine qWB (qX.step' ?_) ⟨_,rfl,rfl⟩;show wp _ _ _ qER _;refine bS yZ ?_;refine bS (yP (cs:=[dI (i)]) (off:=0) rfl rfl) ?_;refine bS vY ?_;refine iC (λa=>?_) λa=>?_
 ·have a:=yB a;exact vN rfl (err 2 (by decide) (if_pos a))
 have a:=dF a;refine bS yZ ?_;refine bS (yP (cs:=[dI (i)]) (off:=0) rfl rfl) ?_;refine bS (qA (off:=4) rfl rfl) ?_;refine bS (d:=dI (((D.sl 39 6 es).es.length:Nat):Int)) (qM i_x4) ?_;refine bS rW ?_;refine iC (λb=>?_) λb=>?_
 ·have b:=yB b;have b:i≥((es.length:Nat):Int):=b;exact vN rfl (err 2 (by decide) (by unfold oT;rw[if_neg a,if_pos b]))
 have b:=dF b;have b':¬i≥((es.length:Nat):Int):=b;have hpe:oT i es.length=0:=by unfold oT;rw[if_neg a,if_neg b']
 rw[hpe,qFC];obtain⟨m,hm⟩:∃m:Nat,i=((m:Nat):Int):=⟨i.toNat,by omega⟩
 have hml : m < es.length := by have b':=b';have:((m:Nat):Int)<((es.length:Nat):Int):=by rw[←hm];exact Int.not_le.1 b'
                                omega
 have hpr:pD i es=es.take m++es.drop (m+1):=by unfold pD;rw[hm,Int.toNat_natCast]
 have k34:=zBS (es:=es) (i:=m) hs hml (by omega);have hm1:((m+1:Nat):Int)=i+1:=by omega
 rw[←hpr,hm1,←hm]at k34;refine bS (qA (off:=4) rfl rfl) ?_;refine kK (ρ':=[_,_,_,_,_,_,_,_,_,_,_,D.sl 39 6 es]) (zAU h4) rfl rfl rfl ?_;refine bS yZ ?_;refine bS (yP (cs:=[dI (i)]) (off:=0) rfl rfl) ?_;refine bS yZ ?_;refine bS (yP (cs:=[dI (i)]) (off:=0) rfl rfl) ?_;refine bS (d:=dI (i+1)) (kE (by omega)) ?_;refine kK (ρ':=[_,_,_,_,_,_,_,_,_,_,_,_,_,_,_,_,_,.sl 39 6 (pD i es)]) k34 rfl rfl rfl ?_;refine bS (zH rfl) ?_;refine bS (qA (off:=0) rfl o0) ?_;refine bS (qA (off:=1) rfl o1) ?_;refine bS (qA (off:=2) rfl o2) ?_;refine bS (qA (off:=3) rfl o3) ?_;refine bS (qA (off:=4) rfl rfl) ?_;refine bS (qA (off:=5) rfl o5) ?_;refine bS (qA (off:=6) rfl o6) ?_;refine bS (qA (off:=7) rfl o7) ?_;refine bS (qA (off:=8) rfl o8) ?_;exact vN rfl rfl
theorem qYm(x:xA 81 2 x0)(r:x1.one=true)(o:x2.one=true)(l:x3.one=true)(j:x5.one=true)(g:x6.one=true)(b:x7.one=true)(y:x8.one=true)(C:qC 1048576 (.sl 39 6 qEM) (.sl 39 6 es))(B:qC 1048576 aV f)(w:qC 1048576 aV t)(A:qC 1048576 qLh p)(z:qC 1048576 qLh q)(F:f.es=fs.map dI)(E:t.es=ts.map dI):Holds EE (Nat.add gM 26) (.mode iE::[.agg [x0,x1,x2,x3,.sl 39 6 es,x5,x6,x7,x8],.ptr [dI i] 0,.ptr [f,t,p,q,dB u,dB v] 0]) (xN [pick (pA (bR x0.es.length fs ts p.es.length q.es.length) i es.length) (.agg [x0,x1,x2,x3,.sl 39 6 (dD i (.agg [f,t,p,q,dB u,dB v]) es),x5,x6,x7,x8]),dI (pA (bR x0.es.length fs ts p.es.length q.es.length) i es.length)]):=by
 have h:=zBY (i:=i) (u:=u) (v:=v) x r o l j g b y C B w A z F E;obtain⟨e,he⟩:∃e,e=pA (bR x0.es.length fs ts p.es.length q.es.length) i es.length:=⟨_,rfl⟩;rw[←he]at h ⊢;refine qWF (qX.step' ?_) ⟨_,rfl,rfl⟩;show wp _ _ _ sF _;refine bS (zH rfl) ?_;refine kK (ρ':=[_,_,_,_,_,qAV e (.agg [x0,x1,x2,x3,.sl 39 6 (dD i (.agg [f,t,p,q,dB u,dB v]) es),x5,x6,x7,x8]) (.agg [x0,x1,x2,x3,.sl 39 6 es,x5,x6,x7,x8])]) h rfl rfl rfl ?_;refine bS nW ?_;refine iC (λc=>?_) λc=>?_
 ·have c1:=yB c;exact vN rfl (by unfold pick;rw[if_neg c1];rfl)
 have c1:=Classical.not_not.1 (dF c);rw[c1,qFC];refine bS (zH rfl) ?_;exact vN rfl (by unfold pick;rw[if_pos rfl];rfl)
theorem qYl(r:x0.one=true)(o:x1.one=true)(l:x2.one=true)(j:x3.one=true)(g:x5.one=true)(b:x6.one=true)(y:x7.one=true)(x:x8.one=true)(w:qC 1048576 (.sl 39 6 qEM) (.sl 39 6 es)):Holds EE (Nat.add gM 26) (.mode iD::[.agg [x0,x1,x2,x3,.sl 39 6 es,x5,x6,x7,x8],.ptr [dI i] 0]) (xN [pick (oT i es.length) (.agg [x0,x1,x2,x3,.sl 39 6 (pD i es),x5,x6,x7,x8]),dI (oT i es.length)]):=by
 have h:=zBT (i:=i) r o l j g b y x w;obtain⟨e,he⟩:∃e,e=oT i es.length:=⟨_,rfl⟩;rw[←he]at h ⊢;refine qWE (qX.step' ?_) ⟨_,rfl,rfl⟩;show wp _ _ _ sE _;refine bS (zH rfl) ?_;refine kK (ρ':=[_,_,_,_,qAV e (.agg [x0,x1,x2,x3,.sl 39 6 (pD i es),x5,x6,x7,x8]) (.agg [x0,x1,x2,x3,.sl 39 6 es,x5,x6,x7,x8])]) h rfl rfl rfl ?_;refine bS nW ?_;refine iC (λc=>?_) λc=>?_
 ·have c1:=yB c;exact vN rfl (by unfold pick;rw[if_neg c1];rfl)
 have c1:=Classical.not_not.1 (dF c);rw[c1,qFC];refine bS (zH rfl) ?_;exact vN rfl (by unfold pick;rw[if_pos rfl];rfl)
theorem fC{e:Int}{l:List D}(h:l.length=9):TOp.eval EE (.chk true 9) [pick e (.agg l)]=some (pick e (.agg l)):=by
 unfold pick;split
 ·exact zH h
 exact zH rfl
theorem g8(x:xA 81 2 x0)(o:x1.one=true)(l:x2.one=true)(j:x3.one=true)(g:x5.one=true)(c:x6.one=true)(b:x7.one=true)(y:x8.one=true)(B:qC 1048576 (.sl 39 6 qEM) (.sl 39 6 es))(A:qC 1048576 aV f)(r:qC 1048576 aV t)(z:qC 1048576 qLh p)(w:qC 1048576 qLh q)(E:f.es=fs.map dI)(C:t.es=ts.map dI):Holds EE 8 [.agg [x0,x1,x2,x3,.sl 39 6 es,x5,x6,x7,x8],dI i,.agg [f,t,p,q,dB u,dB v]] (qGw (pA (bR x0.es.length fs ts p.es.length q.es.length) i es.length) (.agg [x0,x1,x2,x3,.sl 39 6 (dD i (.agg [f,t,p,q,dB u,dB v]) es),x5,x6,x7,x8])):=by have h:=qYm (i:=i) (u:=u) (v:=v) x o l j g c b y B A r z w E C;obtain⟨e,he⟩:∃e,e=pA (bR x0.es.length fs ts p.es.length q.es.length) i es.length:=⟨_,rfl⟩;rw[←he]at h ⊢;refine u8 rfl (qX.step' ?_);refine bS (zH rfl) ?_;refine bS (xY rfl) ?_;refine bS (zH rfl) ?_;refine bS qKK ?_;refine bS qBu ?_;refine kK (ρ':=[_,_,_,_,_,_,_,_,_,dI (e)]) h rfl rfl rfl ?_;refine bS (fC rfl) ?_;exact vN rfl rfl
theorem zB0(o:x0.one=true)(l:x1.one=true)(j:x2.one=true)(g:x3.one=true)(c:x5.one=true)(b:x6.one=true)(y:x7.one=true)(x:x8.one=true)(r:qC 1048576 (.sl 39 6 qEM) (.sl 39 6 es)):Holds EE 11 [.agg [x0,x1,x2,x3,.sl 39 6 es,x5,x6,x7,x8],dI i] (qGw (oT i es.length) (.agg [x0,x1,x2,x3,.sl 39 6 (pD i es),x5,x6,x7,x8])):=by have h:=qYl (i:=i) o l j g c b y x r;obtain⟨e,he⟩:∃e,e=oT i es.length:=⟨_,rfl⟩;rw[←he]at h ⊢;refine zBu rfl (qX.step' ?_);refine bS (zH rfl) ?_;refine bS (xY rfl) ?_;refine bS qKK ?_;refine kK (ρ':=[_,_,_,_,_,_,dI (e)]) h rfl rfl rfl ?_;refine bS (fC rfl) ?_;exact vN rfl rfl
theorem zB1(x:xA 81 2 x0)(O:x1.one=true)(N:x2.one=true)(M:x3.one=true)(L:x5.one=true)(K:x6.one=true)(J:x7.one=true)(I:x8.one=true)(E:qC 1048576 (.sl 39 6 qEM) x4)(C:qC 1048576 aV f)(z:qC 1048576 aV t)(B:qC 1048576 qLh p)(A:qC 1048576 qLh q)(Z:f.es=fs.map dI)(X:t.es=ts.map dI):Holds EE 10 [.agg [x0,x1,x2,x3,x4,x5,x6,x7,x8],dI i,.agg [f,t,p,q,dB u,dB v]] (qGw (pA (bR x0.es.length fs ts p.es.length q.es.length) i x4.es.length) (.agg [x0,x1,x2,x3,.sl 39 6 (dD i (.agg [f,t,p,q,dB u,dB v]) x4.es),x5,x6,x7,x8])):=by
 have S:=qB C;have P:=qB z;have R:=qB B;have Q:=qB A;have h:=qB E;have b4:=qK E;have g:=zBU (u:=u) (v:=v) x C z B A Z X;obtain⟨c,W⟩:∃c,c=bR x0.es.length fs ts p.es.length q.es.length:=⟨_,rfl⟩;rw[←W]at g ⊢;refine zAB rfl (qX.step' ?_);refine bS (zH rfl) ?_;refine bS (zH rfl) ?_;refine bS vY ?_;refine iC (λa=>?_) λa=>?_
 ·have a:=yB a;exact vN rfl (by rw[show pA c i x4.es.length=2 from if_pos a,qDW (by decide)];rfl)
 have a:=dF a;refine bS (qA (off:=4) rfl h.one) ?_;refine bS (qM h) ?_;refine bS oF ?_;refine iC (λb=>?_) λb=>?_
 ·have b:=yB b;exact vN rfl (by rw[show pA c i x4.es.length=2 by unfold pA;rw[if_neg a,if_pos b],qDW (by decide)];rfl)
 have b:=dF b;refine bS (qA (off:=4) rfl h.one) ?_;refine bS (qM h) ?_;refine bS rW ?_;refine iC (λd=>?_) λd=>?_
 ·have d:=yB d;exact vN rfl (by rw[show pA c i x4.es.length=11 by unfold pA;rw[if_neg a,if_neg b,if_pos (by omega)],qDW (by decide)];rfl)
 have d:=dF d;have l:pA c i x4.es.length=c:=by unfold pA;rw[if_neg a,if_neg b,if_neg (by omega)]
 rw[l];refine bS (cB (off:=0) (size:=1) rfl) ?_;refine cS g ?_;refine bS nW ?_;refine iC (λe=>?_) λe=>?_
 ·have e:=yB e;exact vN rfl (by rw[qDW e];rfl)
 have e:=Classical.not_not.1 (dF e);obtain⟨m,hm⟩:∃m:Nat,i=((m:Nat):Int):=⟨i.toNat,by omega⟩;have j:dD i (.agg [f,t,p,q,dB u,dB v]) x4.es=x4.es.take m++.agg [f,t,p,q,dB u,dB v]::x4.es.drop m:=by unfold dD;rw[hm,Int.toNat_natCast]
 obtain⟨y,s1,s2,o⟩:=qNe (b:=m) h (by omega);obtain⟨F,w,H,r⟩:=qNd (b:=m) h (by omega);rw[←hm]at s1 w;have V:y.es.length<=1048576:=by rw[o,List.length_take];omega
 have U:F.es.length<=1048576:=by rw[r,List.length_drop];omega
 refine bS mR ?_;refine bS (qA (off:=4) rfl h.one) ?_;refine bS s1 ?_;refine bS (d:=.sl 39 6 ([]++y.es)) (qBy s2 (by decide) (by show 0+_<=_;omega)) ?_;refine bS (zH rfl) ?_;refine bS (qIS rfl rfl) ?_;refine bS (d:=.sl 39 6 (([]++y.es)++[.agg [f,t,p,q,dB u,dB v]])) (bT (by decide) (by show(y.es).length<=_;omega)) ?_;refine bS (qA (off:=4) rfl h.one) ?_;refine bS w ?_;refine bS (d:=.sl 39 6 ((([]++y.es)++[.agg [f,t,p,q,dB u,dB v]])++F.es)) (qBy H (by decide) (by rw[List.length_append];show(y.es).length+1+_<=_;omega)) ?_;refine bS (zH rfl) ?_;refine bS (qA (off:=0) rfl x.one) ?_;refine bS (qA (off:=1) rfl O) ?_;refine bS (qA (off:=2) rfl N) ?_;refine bS (qA (off:=3) rfl M) ?_;refine bS (qA (off:=4) rfl h.one) ?_;refine bS (qA (off:=5) rfl L) ?_;refine bS (qA (off:=6) rfl K) ?_;refine bS (qA (off:=7) rfl J) ?_;refine bS (qA (off:=8) rfl I) ?_;refine vN rfl ?_;rw[e,qTf,j,o,r,List.nil_append,List.append_assoc];rfl
theorem zBZ(I:x0.one=true)(H:x1.one=true)(F:x2.one=true)(E:x3.one=true)(C:x5.one=true)(B:x6.one=true)(A:x7.one=true)(z:x8.one=true)(o:qC 1048576 (.sl 39 6 qEM) x4):Holds EE 12 [.agg [x0,x1,x2,x3,x4,x5,x6,x7,x8],dI i] (qGw (oT i x4.es.length) (.agg [x0,x1,x2,x3,.sl 39 6 (pD i x4.es),x5,x6,x7,x8])):=by
 have h:=qB o;have L:=qK o;refine zBt rfl (qX.step' ?_);refine bS (zH rfl) ?_;refine bS vY ?_;refine iC (λa=>?_) λa=>?_
 ·have a:=yB a;exact vN rfl (by rw[show oT i x4.es.length=2 from if_pos a,qDW (by decide)];rfl)
 have a:=dF a;refine bS (qA (off:=4) rfl h.one) ?_;refine bS (qM h) ?_;refine bS rW ?_;refine iC (λb=>?_) λb=>?_
 ·have b:=yB b;exact vN rfl (by rw[show oT i x4.es.length=2 by unfold oT;rw[if_neg a,if_pos b],qDW (by decide)];rfl)
 have b:=dF b;have c:oT i x4.es.length=0:=by unfold oT;rw[if_neg a,if_neg b]
 obtain⟨m,hm⟩:∃m:Nat,i=((m:Nat):Int):=⟨i.toNat,by omega⟩;have y:pD i x4.es=x4.es.take m++x4.es.drop (m+1):=by unfold pD;rw[hm,Int.toNat_natCast]
 obtain⟨x,s1,s2,g⟩:=qNe (b:=m) h (by omega);obtain⟨r,l,w,j⟩:=qNd (b:=m+1) h (by omega);have e:((m+1:Nat):Int)=i+1:=by omega
 rw[←hm]at s1;rw[e]at l;have K:x.es.length<=1048576:=by rw[g,List.length_take];omega
 have J:r.es.length<=1048576:=by rw[j,List.length_drop];omega
 refine bS mR ?_;refine bS (qA (off:=4) rfl h.one) ?_;refine bS s1 ?_;refine bS (d:=.sl 39 6 ([]++x.es)) (qBy s2 (by decide) (by show 0+_<=_;omega)) ?_;refine bS (qA (off:=4) rfl h.one) ?_;refine bS (d:=dI (i+1)) (kE (by omega)) ?_;refine bS l ?_;refine bS (d:=.sl 39 6 (([]++x.es)++r.es)) (qBy w (by decide) (by show(x.es).length+_<=_;omega)) ?_;refine bS (zH rfl) ?_;refine bS (qA (off:=0) rfl I) ?_;refine bS (qA (off:=1) rfl H) ?_;refine bS (qA (off:=2) rfl F) ?_;refine bS (qA (off:=3) rfl E) ?_;refine bS (qA (off:=4) rfl h.one) ?_;refine bS (qA (off:=5) rfl C) ?_;refine bS (qA (off:=6) rfl B) ?_;refine bS (qA (off:=7) rfl A) ?_;refine bS (qA (off:=8) rfl z) ?_;refine vN rfl ?_;rw[c,qTf,y,g,j,List.nil_append];rfl
end
end Go.Proofs.YtminhjecpnpaeaaGreatDoor.Ry
namespace Go.Proofs.YtminhjecpnpaeaaGreatDoor.Ry
open Go Go.Am Go.Proofs Go.Am.Tu
attribute [local irreducible] Go.Am.wp Go.Am.TOp.eval
theorem qHe:vF qMI zL:=qFI (B:=1048576) (tQ (qN oP (qN (cL (by decide)) (qN oP (qN oP (qN oP (qN jH (qN oP (qN oP (qN oP wE))))))))))
theorem qKb{e:Int}{a b:D}(y:vF qMI a)(x:vF qMI b)(h:aR b a):Holds EE 13 [pick e a,pick e b] (dB true):=by
 unfold pick;split
 ·exact qJY y x h
 exact qJY qHe qHe (.refl _)
theorem qTz{e:Int}{x y:Operand}:TOp.eval EE (.bin .eql 43 x y) [dI e,dI e]=some (dB true):=by rw[cA,decide_eq_true rfl]
theorem qCY:∀{a y b x:List D},aQ a y->aQ b x->aQ (a++b) (y++x)
 | [],[],_,_,_,h=>h
 | [],_::_,_,_,h,_=>by cases h
 |_::_,[],_,_,h,_=>by cases h
 |_::_,_::_,_,_,h,c=>⟨h.1,qCY h.2 c⟩
theorem g5{f t p q:D}{u v:Bool}(g:xA 3 1 f)(x:xA 3 1 t)(e:xA 58 2 p)(y:xA 58 2 q):∃b,Holds EE 5 [.agg [f,t,p,q,dB u,dB v]] (dB b):=by
 have h:∃d,(∃b,d=dB b)/\qX EE (Holds EE) qW4 0 [.agg [f,t,p,q,dB u,dB v]] d:=by
  refine yS ?_;refine bS (zH rfl) ?_;refine bS (qA (off:=0) rfl g.one) ?_;refine bS (qM g) ?_;refine bS iO ?_;refine iC (λa=>?_) λa=>?_
  ·skip;refine bS (qA (off:=1) rfl x.one) ?_;refine bS (qM x) ?_;refine bS iO ?_;refine iC (λb=>?_) λb=>?_
   ·skip;refine bS (qA (off:=2) rfl e.one) ?_;refine bS (qM e) ?_;refine bS iO ?_;refine iC (λc=>?_) λc=>?_
    ·skip;refine bS (qA (off:=3) rfl y.one) ?_;refine bS (qM y) ?_;refine bS iO ?_;exact vX rfl ⟨_,rfl⟩
    exact vX rfl ⟨_,rfl⟩
   exact vX rfl ⟨_,rfl⟩
  exact vX rfl ⟨_,rfl⟩
 obtain⟨d,⟨b,rfl⟩,hd⟩:=h;exact⟨b,u5 rfl hd⟩
theorem qXu{g g' b x y h f t p q:D}{i C B:Int}{u v N M:Bool}(F:TOp.eval EE (.chk true 9) [g]=some g)(E:Holds EE 9 [g] g')(J:Holds EE 8 [g',dI i,.agg [f,t,p,q,dB u,dB v]] (.tup [b,dI C]))(z:Holds EE 10 [g,dI i,.agg [f,t,p,q,dB u,dB v]] (.tup [x,dI C]))(w:Holds EE 11 [g',dI i] (.tup [y,dI B]))(r:Holds EE 12 [g,dI i] (.tup [h,dI B]))(o:TOp.eval EE (.chk true 9) [b]=some b)(j:TOp.eval EE (.chk true 9) [x]=some x)(l:TOp.eval EE (.chk true 9) [y]=some y)(e:TOp.eval EE (.chk true 9) [h]=some h)(I:Holds EE 13 [b,x] (dB true))(H:Holds EE 13 [y,h] (dB true))(A:Holds EE 7 [] (dB true))(L:Holds EE 5 [.agg [f,t,p,q,dB u,dB v]] (dB N))(K:Holds EE 6 [g] (dB M)):Holds EE 3 [g,dI i,.agg [f,t,p,q,dB u,dB v]] (dB true):=by
 refine u3 rfl (qX.step' ?_);refine bS F ?_;refine bS (zH rfl) ?_;refine cS L ?_;refine bS wG ?_;refine iC (λa=>?_) λa=>?_
 ·skip;refine cS A ?_;exact qO rfl rfl
 refine cS K ?_;refine bS wG ?_;refine iC (λc=>?_) λc=>?_
 ·skip;refine cS A ?_;exact qO rfl rfl
 refine cS E ?_;refine cS J ?_;refine bS (bV rfl) ?_;refine bS (bV rfl) ?_;refine bS o ?_;refine cS z ?_;refine bS (bV rfl) ?_;refine bS (bV rfl) ?_;refine bS j ?_;refine cS E ?_;refine cS w ?_;refine bS (bV rfl) ?_;refine bS (bV rfl) ?_;refine bS l ?_;refine cS r ?_;refine bS (bV rfl) ?_;refine bS (bV rfl) ?_;refine bS e ?_;refine cS I ?_;refine vO (t:=true) rfl ?_;refine rL ?_;refine bS qTz ?_;refine vO (t:=true) rfl ?_;refine rL ?_;refine cS H ?_;refine vO (t:=true) rfl ?_;refine rL ?_;refine bS qTz ?_;refine vO (t:=true) rfl ?_;refine rL ?_;refine cS A ?_;exact qO rfl rfl
theorem qNv{B n:Nat}{e:Sh}{l:List D}{i:Int}{r:D}(c:l.length+1<=B)(h:∀x∈l,qC B e x)(b:qC B e r):qC B (.sl 39 n e) (.sl 39 n (dD i r l)):=by
 refine lL ?_ λx y=>?_
 ·unfold dD;rw[List.length_append,List.length_take,List.length_cons,List.length_drop];omega
 unfold dD at y;rcases List.mem_append.1 y with y|y
 ·exact h x (List.mem_of_mem_take y)
 rcases List.mem_cons.1 y with rfl|y
 ·exact b
 exact h x (List.mem_of_mem_drop y)
theorem qKT{B n:Nat}{e:Sh}{l:List D}{i:Int}(b:l.length<=B)(h:∀x∈l,qC B e x):qC B (.sl 39 n e) (.sl 39 n (pD i l)):=by
 refine lL ?_ λx y=>?_
 ·unfold pD;rw[List.length_append,List.length_take,List.length_drop];omega
 unfold pD at y;rcases List.mem_append.1 y with y|y
 ·exact h x (List.mem_of_mem_take y)
 exact h x (List.mem_of_mem_drop y)
theorem qFz{B el sz:Nat}{e:Sh}{d x:D}(h:qC B (.sl el sz e) d)(y:x∈d.es):qC B e x:=by obtain⟨j,b⟩:=List.mem_iff_getElem?.1 y;exact jG h b
theorem qV{el sz:Nat}{l:List D}(h:l.length<qT):xA el sz (.sl el sz l):=.inr ⟨l,rfl,h⟩
theorem h3{g f t p q:D}{i:Int}{u v:Bool}(I:qC 1048576 qMI g)(E:qC 1048576 aV f)(C:qC 1048576 aV t)(H:qC 1048576 qLh p)(F:qC 1048576 qLh q)(hw:Holds EE 7 [] (dB true)):Holds EE 3 [g,dI i,.agg [f,t,p,q,dB u,dB v]] (dB true):=by
 obtain⟨bl,hl⟩:=qOb I;obtain⟨c9,_,_⟩:=qRU I;obtain⟨b5,h5⟩:=g5 (u:=u) (v:=v) (qB E) (qB C) (qB H) (qB F);obtain⟨fs,ef⟩:=qKy (nJ (B':=300000000) (by decide) E);obtain⟨ts,et⟩:=qKy (nJ (B':=300000000) (by decide) C);have wg:TOp.eval EE (.chk true 9) [g]=some g:=by obtain⟨cs,rfl,R⟩:=qWb I;exact zH R
 obtain⟨_,rfl,x0,_,rfl,e,_,_,rfl,⟨b,rfl,hs1⟩,x2,_,rfl,A,x3,_,rfl,z,x4,_,rfl,c,_,_,rfl,⟨x5,rfl⟩,x6,_,rfl,w,x7,_,rfl,r,x8,_,rfl,o,rfl⟩:=I;have o0:=(qB e).one;have o2:=(qB A).one;have o3:=(qB z).one;have o4:=(qB c).one;have o6:=(qB w).one;have o7:=(qB r).one;have o8:=(qB o).one;have O:qC 1048576 (.sl 81 2 (.st [.str,.int .i64])) (wU 81 2 x0):=yR e;have v0:aR x0 (wU 81 2 x0):=yU e;have N:qC 1048576 (.sl 77 2 qMH) (.sl 77 2 (x2.es.map qJp)):=cM A λx y=>(qFY y).1;have v2:aR x2 (.sl 77 2 (x2.es.map qJp)):=eF A λx y=>(qFY y).2;have M:qC 1048576 (.sl 50 1 (.sl 9 1 .str)) (.sl 50 1 (x3.es.map (wU 9 1))):=cM z λx y=>yR y;have v3:aR x3 (.sl 50 1 (x3.es.map (wU 9 1))):=eF z λx y=>yU y;have S:qC 1048576 (.sl 39 6 qEM) (.sl 39 6 (x4.es.map qKX)):=cM c λx y=>(qFZ y).1;have L:qC 1048576 (.sl 92 3 (.st [.int .i64,.int .i64,.int .i64])) (wU 92 3 x6):=yR w;have v6:aR x6 (wU 92 3 x6):=yU w;have K:qC 1048576 aV (wU 3 1 x7):=yR r;have v7:aR x7 (wU 3 1 x7):=yU r;have J:qC 1048576 (.sl 64 8 qWv) (.sl 64 8 (x8.es.map qMq)):=cM o λx y=>(qF0 y).1;have v8:aR x8 (.sl 64 8 (x8.es.map qMq)):=eF o λx y=>(qF0 y).2;have l4:=qK c;have lm:(x4.es.map qKX).length=x4.es.length:=List.length_map _;have m:∀{s:Sh} {d:D},qC 1048576 s d->qC 300000000 s d:=λh=>nJ (by decide) h;have hr:qC 300000000 qEM (.agg [f,t,p,q,dB u,dB v]):=tQ (qN (m E) (qN (m C) (qN (m H) (qN (m F) (qN fK (qN fK wE))))))
 have sh:∀{X W y3 y4 y6 V U:D},qC 1048576 (.sl 81 2 (.st [.str,.int .i64])) X->qC 1048576 (.sl 77 2 qMH) W->qC 1048576 (.sl 50 1 (.sl 9 1 .str)) y3->qC 300000000 (.sl 39 6 qEM) y4->qC 1048576 (.sl 92 3 (.st [.int .i64,.int .i64,.int .i64])) y6->qC 1048576 aV V->qC 1048576 (.sl 64 8 qWv) U->
   vF qMI (.agg [X,.leaf (.string b),W,y3,y4,dI x5,y6,V,U]):=λh0 h2 h3 h4 h6 h7 h8=>
  qFI (B:=300000000) (tQ (qN (m h0) (qN (cL (by omega)) (qN (m h2) (qN (m h3) (qN h4 (qN jH (qN (m h6) (qN (m h7) (qN (m h8) wE))))))))))
 have ev:∀{y4 j:D},aR y4 j->aR (.agg [x0,.leaf (.string b),x2,x3,y4,dI x5,x6,x7,x8]) (.agg [wU 81 2 x0,.leaf (.string b),.sl 77 2 (x2.es.map qJp),.sl 50 1 (x3.es.map (wU 9 1)),j,dI x5,wU 92 3 x6,wU 3 1 x7,.sl 64 8 (x8.es.map qMq)]):=λh=>
  .agg ⟨v0,.refl _,v2,v3,h,.refl _,v6,v7,v8,trivial⟩
 have mx:∀x∈x4.es,qC 300000000 qEM x:=λx y=>m (qFz c y);have mc:∀x∈x4.es.map qKX,qC 300000000 qEM x:=λx y=>m (qFz S y);have ve:∀x∈x4.es,aR x (qKX x):=λx y=>(qFZ (qFz c y)).2;have e1:aR (.sl 39 6 (dD i (.agg [f,t,p,q,dB u,dB v]) x4.es)) (.sl 39 6 (dD i (.agg [f,t,p,q,dB u,dB v]) (x4.es.map qKX))):=by
  refine .sl (qV (el:=39) (sz:=6) ?_) ?_
  ·unfold dD qT;rw[List.length_append,List.length_take,List.length_cons,List.length_drop];omega
  unfold dD;rw[←List.map_take,←List.map_drop];exact qCY (bP λx y=>ve x (List.mem_of_mem_take y)) ⟨.refl _,bP λx y=>ve x (List.mem_of_mem_drop y)⟩
 have e2:aR (.sl 39 6 (pD i x4.es)) (.sl 39 6 (pD i (x4.es.map qKX))):=by
  refine .sl (qV (el:=39) (sz:=6) ?_) ?_
  ·unfold pD qT;rw[List.length_append,List.length_take,List.length_drop];omega
  unfold pD;rw[←List.map_take,←List.map_drop];exact qCY (bP λx y=>ve x (List.mem_of_mem_take y)) (bP λx y=>ve x (List.mem_of_mem_drop y))
 have Z:=g8 (i:=i) (x1:=.leaf (.string b)) (x5:=dI x5) (u:=u) (v:=v) (qB O) rfl (qB N).one (qB M).one rfl (qB L).one (qB K).one (qB J).one S E C H F ef et;have Q:=zB1 (i:=i) (x1:=.leaf (.string b)) (x5:=dI x5) (u:=u) (v:=v) (qB e) rfl o2 o3 rfl o6 o7 o8 c E C H F ef et;have l:=zB0 (i:=i) (x1:=.leaf (.string b)) (x5:=dI x5) (qB O).one rfl (qB N).one (qB M).one rfl (qB L).one (qB K).one (qB J).one S;have P:=zBZ (i:=i) (x1:=.leaf (.string b)) (x5:=dI x5) o0 rfl o2 o3 rfl o6 o7 o8 c;rw[lm]at Z l;exact qXu wg c9 Z Q l P (fC rfl) (fC rfl) (fC rfl) (fC rfl) (qKb (sh O N M (qNv (by omega) mc hr) L K J) (sh e A z (qNv (by omega) mx hr) w r o) (ev e1)) (qKb (sh O N M (qKT (by omega) mc) L K J) (sh e A z (qKT (by omega) mx) w r o) (ev e2)) hw h5 hl
end Go.Proofs.YtminhjecpnpaeaaGreatDoor.Ry
