/- The library's words on rows of cells, in the abstract heap's words. Conditions: none. -/
import Derived.Test.YtpbmnkajhedaiaaGreatUn
import Derived.Test.YtpbmnkajhedaiaaGreatAm6
import Derived.Sort.Row
import Derived.Sort.Grow
import Derived.Deep.Draws
import Derived.Shelf.SlSortCmp.InsertionK
set_option linter.all false
namespace Go.Am
open Go
section
variable{E:Env}{σ:vH}{H:AH}{w:World}{b rt el:Nat}{cs:List Value}{L:Loc}{F:Array Value}
theorem qR7{v v':Value}(h:VR σ v v')(x:wM v=true):v'=v:=by cases h<;>first|rfl|simp[wM]at x
theorem qEY(j:HR E σ H w)(l:H.blocks.get b=some ⟨.cells cs el,rt,true⟩)(g:σ b=some L):∃h x c,w.heap[L.blk]? = some (.cells h x c)/\qX3 L el x h.size c/\L.off+L.ext<=h.size/\cs.length<=L.ext/\(∀e,E.types.get el=some e->L.sz=e.size)/\∀i v,cs[i]? = some v->qH v=true/\∃v',h[L.off+i]? = some v'/\VR σ v v':=by
 obtain⟨o,p,y⟩:=j.objs b _ L l g;cases o with
 |cells h x c=>simp only[pC]at y;exact⟨h,x,c,p,y.1 trivial,y.2.1,y.2.2.1,y.2.2.2.1,y.2.2.2.2⟩
 |_=>simp only[pC]at y
theorem qWc(x:take? cs F.size=some F.toList){j:Nat}(h:j<F.size):cs[j]? = some F[j]! :=by
 obtain⟨y,t2⟩:=kG x;have c:F.toList[j]? = some F[j]! :=by rw[Array.getElem?_toList,getElem!_pos F j h,Array.getElem?_eq_getElem h]
 grind
theorem qFs(l:HR E σ H w)(q:H.blocks.get b=some ⟨.cells cs el,rt,true⟩)(i:σ b=some L)(g:take? cs F.size=some F.toList)(p:∀v∈F.toList,wM v=true):Sort.Holds id w L.blk L.off F:=by obtain⟨x,z,G,y,t,C,B,A,r⟩:=qEY l q i;intro j h;obtain⟨_,v',c,u⟩:=r j _ (qWc g h);have hv:=qR7 u (p _ (by rw[getElem!_pos F j h];exact Array.getElem_mem_toList h));subst hv;refine⟨by simp only[World.cell?,y];exact c,?_⟩;have o:L.off+j<x.size:=(Array.getElem?_eq_some_iff.1 c).1;simp only[World.frozen?,y];rcases t.1 with e|e;all_goals grind
theorem qNY(z:HR E σ H w)(G:H.blocks.get b=some ⟨.cells cs el,rt,true⟩)(u:σ b=some L){F':Array Value}(U:F'.size<=cs.length)(C:∀v∈F'.toList,wM v=true/\qH v=true)(m:Nat)(os:Array Obj):Step E σ H w σ (H.write b ⟨.cells cs el,rt,true⟩ (.cells (F'.toList++cs.drop F'.size) el)) (Sort.grow (Sort.putRow id (Sort.ahead w m) L.blk L.off F') os):=by
 obtain⟨h,x,r,S,Q,O,V,N,M⟩:=qEY z G u;have c:(Sort.putCells id L.off F' h).size=h.size:=by simp[Sort.putCells]
 have y:WSet w (Sort.putRow id (Sort.ahead w m) L.blk L.off F') L.blk (.cells (Sort.putCells id L.off F' h) x r):=by
  refine⟨by rw[Sort.size_putRow];rfl,?_,?_,rfl,rfl,rfl,Nat.le_add_right _ _⟩
  ·show((Sort.ahead w m).heap.modify L.blk (Sort.onCells _))[L.blk]? = _;have q:(Sort.ahead w m).heap[L.blk]? = some (.cells h x r):=S;rw[Array.getElem?_modify,if_pos rfl,q];rfl
  intro B p;show((Sort.ahead w m).heap.modify L.blk (Sort.onCells _))[B]? = _;rw[Array.getElem?_modify,if_neg (λe=>p e.symm)];rfl
 have g:pC E σ L true (.cells (F'.toList++cs.drop F'.size) el) (.cells (Sort.putCells id L.off F' h) x r):=by
  simp only[pC];refine⟨λ_=>by rw[c];exact Q,by rw[c];exact O,?_,N,?_⟩
  ·grind
  intro i v j;by_cases l:i<F'.size
  ·rw[List.getElem?_append_left (by rw[Array.length_toList];exact l)]at j;have A:=List.mem_of_getElem? j;refine⟨(C v A).2,v,?_,.leaf (by have:=(C v A).1;cases v<;>simp_all [wM,vL])⟩;have o:L.off+i<h.size:=by omega
   rw[Array.getElem?_toList]at j;simp only[Sort.putCells,Array.getElem?_mapIdx,Array.getElem?_eq_getElem o,Option.map_some];grind
  rw[List.getElem?_append_right (by rw[Array.length_toList];omega),Array.length_toList,List.getElem?_drop,show F'.size+(i-F'.size)=i by omega]at j;obtain⟨K,v',J,I⟩:=M i v j;refine⟨K,v',?_,I⟩;simp only[Sort.putCells,Array.getElem?_mapIdx,J,Option.map_some];rw[if_neg (by omega)]
 have t:=Step.write z G rfl u y g;refine t.trans (Step.kept t.hr ⟨?_,?_,rfl,rfl,rfl,vE _⟩)
 ·simp[Sort.grow]
 intro B p;show((Sort.putRow id (Sort.ahead w m) L.blk L.off F').heap++os)[B]? = _;rw[Array.getElem?_append_left p]
theorem qIH{f:FuncId}{ds:List D}{v:Value}(h:Holds E f ds (.leaf v)){azq : List Value}(hd:∀g,DRs g ds azq)(hv:∀σ,VRs σ azq azq)(J:vL v=true)(W:World)(q:E.laid=[]:=by rfl):
  Calls E.prog f ⟨azq⟩ W λe w'=>e=.returned v/\KeptD W w':=by
 have h:qFS E f ds (.leaf v):=by
  rcases h with⟨_,h⟩|⟨_,_,_,_,rfl,_⟩
  ·exact h
  cases hd (λ_=>none)with
  |cons i _=>cases i
 let m:=E.prog.globals.size
 let σ:vH:=λb=>if b<m then some ⟨b,0,0,0⟩else none
 have r:HR E σ (oO m) W:=⟨λb k L x=>by simp[oO,T.get]at x,λz t o j C A x=>by simp[oO,T.get]at x,
  λg K=>⟨⟨g,0,0,0⟩,if_pos K,rfl,rfl⟩,λb k x=>by simp[oO,T.get]at x⟩
 obtain⟨v',H',g',i,h2,h3,Z,X,V,U,h8,N⟩:=h.2 (oO m) (oO m).blocks.get azq (λb k x=>r.wf b k x) (zG.le_refl _) (by rw[qHK,q];intro p I;cases I) (hd _)
 have y:wV σ (oO m).next H'.next:=λb x _=>by
  have:m<=b:=x
  grind
 refine(i σ W azq r (hv σ) y).mono λe w' ⟨G,u,Q,O,st⟩=>?_
 have c:v'=v:=N.leaf_inv.1
 subst c
 have hu:u=v':=by cases O<;>first|rfl|simp[vL]at J
 subst hu
 exact⟨Q,st.size,λB M=>st.frame B M (λb k l x S=>by simp[oO,T.get]at x),st.tape,st.os,st.output.1,st.output.2 q⟩
theorem qLM{W w':World}(k:KeptD W w'):∃q os,w'=Sort.grow (W.drewN q) os:=by
 refine⟨w'.drawn-W.drawn,w'.heap.extract W.heap.size w'.heap.size,?_⟩;obtain⟨l,j,g,e,c,i⟩:=k;cases w' with
 |mk heap y x os h=>
  simp only[Sort.grow,World.drewN]at *;subst g e c
  congr 1
  all_goals grind
end
end Go.Am
set_option linter.unusedSectionVars false
namespace Go.Am
open Go Go.Proofs
structure RowOK {α:Type} (k:Nat) (enc:α->List Value) (toD:α->D) (frD:D->α) (P:D->Bool):Prop where
 to:∀e,P e=true->e=toD (frD e)
 ok:∀a,P (toD a)=true
 fr:∀a,frD (toD a)=a
 cells:∀a,(toD a).cells=(enc a).map D.leaf
 len:∀a,(enc a).length=k
 leaf:∀a,∀v∈enc a,wM v=true/\qH v=true
section
variable{α:Type}[Inhabited α]{k:Nat}{enc:α->List Value}{toD:α->D}{frD:D->α}{P:D->Bool}
def tT(enc:α->List Value)(l:List α):List Value:=l.flatMap enc
theorem eH(h:∀a,(enc a).length=k):∀l:List α,(tT enc l).length=l.length*k
 | []=>by simp[tT]
 |p::r=>by have:=eH h r;show(enc p++tT enc r).length=_;grind
theorem qHq(h:∀a,(enc a).length=k):∀(l:List α) (t:Nat),t<l.length*k->(tT enc l)[t]? = some ((enc (l[t/k]!))[t%k]!)
 | [],t,ht=>by simp at ht
 |p::r,t,ht=>by
  show(enc p++tT enc r)[t]? = _;by_cases y:t<k
  ·rw[List.getElem?_append_left (by rw[h];exact y),Nat.div_eq_of_lt y,Nat.mod_eq_of_lt y];grind
  have x:0<k:=by grind
  obtain⟨s,rfl⟩:∃s,t=s+k:=⟨t-k,by omega⟩;rw[List.length_cons,Nat.succ_mul]at ht;rw[List.getElem?_append_right (by rw[h];omega),h,Nat.add_sub_cancel,qHq h r s (by omega),Nat.add_div_right s x,Nat.add_mod_right];rfl
theorem fN(h:∀a,(enc a).length=k)(l:List α):(Go.Sort.flatK enc k l.toArray).toList=tT enc l:=by
 apply List.ext_getElem?;intro t;rw[Array.getElem?_toList];by_cases x:t<l.length*k
 ·rw[qHq h l t x];have y:t<(Go.Sort.flatK enc k l.toArray).size:=by rw[Go.Sort.size_flatK];simpa using x
  rw[Array.getElem?_eq_getElem y,←getElem!_pos _ t y,Go.Sort.get_flatK _ _ _ _ (by simpa using x)];simp
 rw[Array.getElem?_eq_none (by rw[Go.Sort.size_flatK];simpa using x),List.getElem?_eq_none (by rw[eH h];omega)]
theorem iY(l:List α):(Go.Sort.flatK enc k l.toArray).size=l.length*k:=by rw[Go.Sort.size_flatK];simp
variable(R:RowOK k enc toD frD P)
include R
theorem qEC{l:List α}:∀v∈tT enc l,wM v=true/\qH v=true:=by intro v hv;obtain⟨p,_,h⟩:=List.mem_flatMap.1 hv;exact R.leaf p v h
theorem RowOK.flat{e:D}(h:P e=true):qEI k e:=⟨enc (frD e),by rw[←R.cells,←R.to e h],R.len _,R.leaf _⟩
theorem RowOK.lv1(a:α):qQN (toD a)=enc a:=by unfold qQN;rw[R.cells,qIw]
theorem RowOK.lvs_p:∀l:List α,qLE (l.map toD)=tT enc l
 | []=>rfl
 |p::r=>by show qQN (toD p)++qLE (r.map toD)=enc p++tT enc r;rw[RowOK.lvs_p r,R.lv1]
theorem RowOK.map_p:∀{es:List D},(∀e∈es,P e=true)->es=(es.map frD).map toD
 | [],_=>rfl
 |e::r,h=>by rw[List.map_cons,List.map_cons,←RowOK.map_p λx y=>h x (mC _ y),←R.to e (h e List.mem_cons_self)]
theorem RowOK.lvs_es{es:List D}(h:∀e∈es,P e=true):qLE es=tT enc (es.map frD):=by
 have:=R.map_p h
 conv=>lhs;rw[this]
 exact R.lvs_p _
theorem RowOK.back(l:List α):(l.map toD).map frD=l:=by
 induction l with
 |nil=>rfl
 |cons a l h=>rw[List.map_cons,List.map_cons,h,R.fr]
omit R
def qQL(toD:α->D)(frD:D->α)(G:Array α->Array α)(es:List D):List D:=((G (es.map frD).toArray).toList).map toD
section
variable{E:Env}{σ:vH}
def qSv:Option FuncId->List Value
 |none=>[]
 |some g=>[.func (.func g) #[] #[]]
theorem qTg{ex:Option FuncId}{r:List Value}(h:VRs σ (qSv ex) r):r=qSv ex:=by
 cases ex with
 |none=>cases h;rfl
 | some g=>
  cases h with
  |cons h x=>
   cases x;cases h with
   |leaf h=>simp[vL]at h
   |func h y c=>cases y;cases c;rfl
theorem qVm{B n:Nat}{v:Value}(h:VR σ (.slice (some ⟨B,0,none⟩) n zI) v)(y:0<n):∃(L:Go.Am.Loc) (c:Nat),σ B=some L/\v=.slice (some ⟨L.blk,L.off+0,none⟩) n c:=by
 cases h with
 |leaf h=>simp[vL]at h
 |sliceE x _ e=>exact(Nat.lt_irrefl zI e).elim
 |sliceX x _ _ _=>exact⟨_,_,x,rfl⟩
 |sliceZ x=>exact(Nat.lt_irrefl 0 y).elim
theorem qIx(R:RowOK k enc toD frD P){f:FuncId}{ex:Option FuncId}{el mx:Nat}{G:Array α->Array α}(hf:∃fn,E.funcs.get f=some fn)(V:∀d,(G d).size=d.size)(hmx:mx<4611686018427387904)(hk:0<k)(X:∀(p:Option Addr) (cap:Nat) (w:World),Calls E.prog f ⟨.slice p 0 cap::qSv ex⟩ w λe w'=>e=.returned (.tuple #[])/\w'=w)(C:∀(blk off cap:Nat) (d:Array α) (w:World),Go.Sort.Holds id w blk off (Go.Sort.flatK enc k d)->blk<w.heap.size->d.size<=mx->Calls E.prog f ⟨.slice (some ⟨blk,off,none⟩) d.size cap::qSv ex⟩ w λe w'=>e=.returned (.tuple #[])/\∃n os,w'=Go.Proofs.sortWorldK enc k w blk off n (G d) os):LstOK E ⟨f,ex,false,s6 mx el k P (qQL toD frD G)⟩ el k P (qQL toD frD G) mx:=by
 have t:(⟨f,ex,false,s6 mx el k P (qQL toD frD G)⟩:Lst).xv=qSv ex:=by cases ex<;>rfl
 have z:∀{H:AH} {a:Option Addr} {c:Nat},jV E f (.slice a 0 c::qSv ex) H (.tuple #[]) H:=by
  intro H a c σ w o I hv _;cases hv with
  | cons h S=>
   obtain rfl:=qTg S;have key:∀p cap,Calls E.prog f ⟨.slice p 0 cap::qSv ex⟩ w λe w'=>∃x v',e=.returned v'/\VR x (.tuple #[]) v'/\Step E σ H w x H w':=λp cap=>
    (X p cap w).mono λe w' ⟨N,W⟩=>⟨σ,_,N,.tuple .nil,by rw[W];exact Step.refl I⟩
   cases h<;>exact key _ _
 have s:∀{H:AH} {B rt:Nat} {cs:List Value} {l:List α},H.blocks.get B=some ⟨.cells cs el,rt,true⟩->take? cs (l.length*k)=some (tT enc l)->l≠[]->l.length<=mx->
     jV E f (.slice (some ⟨B,0,none⟩) l.length zI::qSv ex) H (.tuple #[]) (H.write B ⟨.cells cs el,rt,true⟩ (.cells (tT enc (G l.toArray).toList++cs.drop (l.length*k)) el)):=by
   intro H B rt cs l q g O hc σ w o I hv _
   have J:0<l.length:=List.length_pos_iff.2 O
   cases hv with
   | cons h S=>
     obtain rfl:=qTg S
     have r:∀(L:Go.Am.Loc) (c:Nat),σ B=some L->Calls E.prog f ⟨.slice (some ⟨L.blk,L.off+0,none⟩) l.length c::qSv ex⟩ w λe w'=>∃x v',e=.returned v'/\VR x (.tuple #[]) v'/\Step E σ H w x (H.write B ⟨.cells cs el,rt,true⟩ (.cells (tT enc (G l.toArray).toList++cs.drop (l.length*k)) el)) w':=by
       intro L c hL
       have i:Go.Sort.Holds id w L.blk L.off (Go.Sort.flatK enc k l.toArray):=qFs I q hL (by rw[iY,fN R.len];exact g) (by rw[fN R.len];exact λv hv=>(qEC R v hv).1)
       obtain⟨_,_,_,Z,_⟩:=qEY I q hL
       have M:L.blk<w.heap.size:=(Array.getElem?_eq_some_iff.1 Z).1
       have K:=C L.blk L.off c l.toArray w i M (by simpa using hc)
       refine Go.Calls.mono (P:=E.prog) (f:=f) K λe w' ⟨N,n,os,W⟩=>⟨σ,_,N,.tuple .nil,?_⟩
       have u:(G l.toArray).toList.length=l.length:=by rw[Array.length_toList,V];simp
       have A:=qNY I q hL (F':=Go.Sort.flatK enc k (G l.toArray).toList.toArray) (by rw[iY,u];exact(kG g).2) (by rw[fN R.len];exact qEC R) n os
       rw[fN R.len,iY,u]at A
       rw[W]
       exact A
     obtain⟨L,c,N,rfl⟩:=qVm h J
     exact r L c N
 have j:∀es:List D,(qQL toD frD G es).length=es.length:=λes=>by unfold qQL;rw[List.length_map,Array.length_toList,V];simp
 exact
 { ff:=hf
   G:=rfl
   flat:=λe h=>R.flat h
   mem:=λes _ e he=>by obtain⟨p,_,rfl⟩:=List.mem_map.1 he;exact R.ok p
   len:=λes _=>⟨Nat.le_of_eq (j es),λ_=>j es⟩
   no:=by
    rw[t];rintro H v (rfl|⟨a,rfl⟩)
    ·exact z
    ·exact z
   ok:=by
    rw[t];intro H B rt cs es q g hP Q;have hl:=R.lvs_es hP;have hlen:es.length=(es.map frD).length:=by rw[List.length_map]
    have hF:qLE (qQL toD frD G es)=tT enc (G (es.map frD).toArray).toList:=R.lvs_p _;have y:(G (es.map frD).toArray).toList.length=(es.map frD).length:=by rw[Array.length_toList,V];simp
    rw[hl,hlen]at g;rw[hF,j,hlen];rw[hlen]at Q;generalize es.map frD=l at g Q y;by_cases O:l=[]
    ·subst O;refine⟨cs,H,z,?_,q,λ_ _=>rfl,rfl,lT (Nat.min_le_left _ _) (Nat.min_le_left _ _)⟩;have e:(G ([]:List α).toArray).toList=[]:=List.length_eq_zero_iff.1 y;rw[e];exact g
    ·refine⟨_,_,s q g O Q,?_,by rw[AH.get_write,if_pos rfl],λb U=>by rw[AH.get_write,if_neg U],rfl,?_⟩
     ·rw[wZ (by rw[List.length_append,eH R.len,y];omega),List.take_append_of_le_length (by rw[eH R.len,y];omega),←y,←eH R.len,List.take_length]
     ·exact Nat.le_min.2 ⟨lT (Nat.min_le_left _ _) (Nat.min_le_left _ _),Nat.min_le_right _ _⟩}
end
end
end Go.Am
