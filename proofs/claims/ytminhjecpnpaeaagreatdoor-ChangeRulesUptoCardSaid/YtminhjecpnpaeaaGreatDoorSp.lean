/- The library's words on rows of cells, in the abstract heap's words. Conditions: none. -/
import Derived.Test.YtminhjecpnpaeaaGreatDoorUn
import Derived.Test.YtminhjecpnpaeaaGreatDoorAm6
import Derived.Sort.Row
import Derived.Sort.Grow
import Derived.Deep.Draws
import Derived.Shelf.SlSortCmp.InsertionK
import Derived.Shelf.Sort.Plain
import Derived.Lib.RowBridge
import Derived.Test.YtminhjecpnpaeaaGreatDoorSx6
import Derived.Test.YtminhjecpnpaeaaGreatDoorSx7
import Derived.WalkKit
import Derived.Deep.RegionLaw
import Derived.Laws.IdiomCopy
set_option linter.unusedVariables false
set_option linter.unusedSimpArgs false
set_option linter.unnecessarySimpa false
namespace Go.Am
open Go
section
variable{E:Env}{σ:zU}{H:AH}{w:World}{b rt el:Nat}{cs:List Value}{L:Loc}{F:Array Value}
theorem qQ3{v v':Value}(h:VR σ v v')(x:wJ v=true):v'=v:=by cases h<;>first|rfl|simp[wJ]at x
theorem sU(j:HR E σ H w)(l:H.blocks.get b=some ⟨.cells cs el,rt,true⟩)(e:σ b=some L):∃ccs h y,w.heap[L.blk]? = some (.cells ccs h y)/\qWk L el h ccs.size y/\L.off+L.ext<=ccs.size/\cs.length<=L.ext/\(∀c,E.types.get el=some c->L.sz=c.size)/\∀i v,cs[i]? = some v->qE v=true/\∃v',ccs[L.off+i]? = some v'/\VR σ v v':=by
 obtain⟨o,p,x⟩:=j.objs b _ L l e;cases o with
 |cells ccs h y=>simp only[oA]at x;exact⟨ccs,h,y,p,x.1 trivial,x.2.1,x.2.2.1,x.2.2.2.1,x.2.2.2.2⟩
 |_=>simp only[oA]at x
theorem qUh(x:take? cs F.size=some F.toList){j:Nat}(h:j<F.size):cs[j]? = some F[j]! :=by
 obtain⟨y,t2⟩:=jF x;have c:F.toList[j]? = some F[j]! :=by rw[Array.getElem?_toList,getElem!_pos F j h,Array.getElem?_eq_getElem h]
 grind
theorem tP(o:HR E σ H w)(t:H.blocks.get b=some ⟨.cells cs el,rt,true⟩)(l:σ b=some L)(e:take? cs F.size=some F.toList)(q:∀v∈F.toList,wJ v=true):Sort.Holds id w L.blk L.off F:=by obtain⟨ccs,C,K,x,A,h3,J,G,u⟩:=sU o t l;intro j h;obtain⟨_,v',y,B⟩:=u j _ (qUh e h);have hv:=qQ3 B (q _ (by rw[getElem!_pos F j h];exact Array.getElem_mem_toList h));subst hv;refine⟨by simp only[World.cell?,x];exact y,?_⟩;have p:L.off+j<ccs.size:=(Array.getElem?_eq_some_iff.1 y).1;simp only[World.frozen?,x];rcases A.1 with c|c;all_goals grind
theorem qGr(G:HR E σ H w)(M:H.blocks.get b=some ⟨.cells cs el,rt,true⟩)(C:σ b=some L){F':Array Value}(ht:F'.size<=cs.length)(K:∀v∈F'.toList,wJ v=true/\qE v=true)(m:Nat)(A:Array Obj):Step E σ H w σ (H.write b ⟨.cells cs el,rt,true⟩ (.cells (F'.toList++cs.drop F'.size) el)) (Sort.grow (Sort.putRow id (Sort.ahead w m) L.blk L.off F') A):=by
 obtain⟨ccs,h,t,Z,X,h3,h4,W,V⟩:=sU G M C;have y:(Sort.putCells id L.off F' ccs).size=ccs.size:=by simp[Sort.putCells]
 have x:WSet w (Sort.putRow id (Sort.ahead w m) L.blk L.off F') L.blk (.cells (Sort.putCells id L.off F' ccs) h t):=by
  refine⟨by rw[Sort.size_putRow];rfl,?_,?_,rfl,rfl,rfl,Nat.le_add_right _ _⟩
  ·show((Sort.ahead w m).heap.modify L.blk (Sort.onCells _))[L.blk]? = _;have q:(Sort.ahead w m).heap[L.blk]? = some (.cells ccs h t):=Z;rw[Array.getElem?_modify,if_pos rfl,q];rfl
  intro B p;show((Sort.ahead w m).heap.modify L.blk (Sort.onCells _))[B]? = _;rw[Array.getElem?_modify,if_neg (λe=>p e.symm)];rfl
 have c:oA E σ L true (.cells (F'.toList++cs.drop F'.size) el) (.cells (Sort.putCells id L.off F' ccs) h t):=by
  simp only[oA];refine⟨λ_=>by rw[y];exact X,by rw[y];exact h3,?_,W,?_⟩
  ·grind
  intro i v j;by_cases l:i<F'.size
  ·rw[List.getElem?_append_left (by rw[Array.length_toList];exact l)]at j;have J:=List.mem_of_getElem? j;refine⟨(K v J).2,v,?_,.leaf (by have:=(K v J).1;cases v<;>simp_all [wJ,zX])⟩;have o:L.off+i<ccs.size:=by omega
   rw[Array.getElem?_toList]at j;simp only[Sort.putCells,Array.getElem?_mapIdx,Array.getElem?_eq_getElem o,Option.map_some];grind
  rw[List.getElem?_append_right (by rw[Array.length_toList];omega),Array.length_toList,List.getElem?_drop,show F'.size+(i-F'.size)=i by omega]at j;obtain⟨U,v',O,N⟩:=V i v j;refine⟨U,v',?_,N⟩;simp only[Sort.putCells,Array.getElem?_mapIdx,O,Option.map_some];rw[if_neg (by omega)]
 have u:=Step.write G M rfl C x c;refine u.trans (Step.kept u.hr ⟨?_,?_,rfl,rfl,rfl,lR _⟩)
 ·simp[Sort.grow]
 intro B p;show((Sort.putRow id (Sort.ahead w m) L.blk L.off F').heap++A)[B]? = _;rw[Array.getElem?_append_left p]
end
end Go.Am
set_option linter.unusedSectionVars false
namespace Go.Am
open Go Go.Proofs
structure RowOK {α:Type} (k:Nat) (enc:α->List Value) (toD:α->D) (frD:D->α) (P:D->Bool):Prop where
 to:∀e,P e=true->e=toD (frD e)
 ok:∀a,P (toD a)=true
 fr:∀a,frD (toD a)=a
 cells:∀a,(toD a).cells=(enc a).map D.leaf
 len:∀a,(enc a).length=k
 leaf:∀a,∀v∈enc a,wJ v=true/\qE v=true
section
variable{α:Type}[Inhabited α]{k:Nat}{enc:α->List Value}{toD:α->D}{frD:D->α}{P:D->Bool}
def nG(enc:α->List Value)(l:List α):List Value:=l.flatMap enc
theorem rR(h:∀a,(enc a).length=k):∀l:List α,(nG enc l).length=l.length*k
 | []=>by simp[nG]
 |p::r=>by have:=rR h r;show(enc p++nG enc r).length=_;grind
theorem qHT(h:∀a,(enc a).length=k):∀(l:List α) (t:Nat),t<l.length*k->(nG enc l)[t]? = some ((enc (l[t/k]!))[t%k]!)
 | [],t,x=>by simp at x
 |p::r,t,x=>by
  show(enc p++nG enc r)[t]? = _;by_cases c:t<k
  ·rw[List.getElem?_append_left (by rw[h];exact c),Nat.div_eq_of_lt c,Nat.mod_eq_of_lt c];grind
  have y:0<k:=by grind
  obtain⟨s,rfl⟩:∃s,t=s+k:=⟨t-k,by omega⟩;rw[List.length_cons,Nat.succ_mul]at x;rw[List.getElem?_append_right (by rw[h];omega),h,Nat.add_sub_cancel,qHT h r s (by omega),Nat.add_div_right s y,Nat.add_mod_right];rfl
theorem gW(h:∀a,(enc a).length=k)(l:List α):(Go.Sort.flatK enc k l.toArray).toList=nG enc l:=by
 apply List.ext_getElem?;intro t;rw[Array.getElem?_toList];by_cases x:t<l.length*k
 ·rw[qHT h l t x];have y:t<(Go.Sort.flatK enc k l.toArray).size:=by rw[Go.Sort.size_flatK];simpa using x
  rw[Array.getElem?_eq_getElem y,←getElem!_pos _ t y,Go.Sort.get_flatK _ _ _ _ (by simpa using x)];simp
 rw[Array.getElem?_eq_none (by rw[Go.Sort.size_flatK];simpa using x),List.getElem?_eq_none (by rw[rR h];omega)]
theorem pP(l:List α):(Go.Sort.flatK enc k l.toArray).size=l.length*k:=by rw[Go.Sort.size_flatK];simp
variable(R:RowOK k enc toD frD P)
include R
theorem fQ{l:List α}:∀v∈nG enc l,wJ v=true/\qE v=true:=by intro v hv;obtain⟨p,_,h⟩:=List.mem_flatMap.1 hv;exact R.leaf p v h
theorem RowOK.flat{e:D}(h:P e=true):qEP k e:=⟨enc (frD e),by rw[←R.cells,←R.to e h],R.len _,R.leaf _⟩
theorem RowOK.lv1(a:α):qPR (toD a)=enc a:=by unfold qPR;rw[R.cells,qIN]
theorem RowOK.lvs_p:∀l:List α,qKm (l.map toD)=nG enc l
 | []=>rfl
 |p::r=>by show qPR (toD p)++qKm (r.map toD)=enc p++nG enc r;rw[RowOK.lvs_p r,R.lv1]
theorem RowOK.map_p:∀{es:List D},(∀e∈es,P e=true)->es=(es.map frD).map toD
 | [],_=>rfl
 |e::r,h=>by rw[List.map_cons,List.map_cons,←RowOK.map_p λx y=>h x (mC _ y),←R.to e (h e List.mem_cons_self)]
theorem RowOK.lvs_es{es:List D}(h:∀e∈es,P e=true):qKm es=nG enc (es.map frD):=by
 have:=R.map_p h
 conv=>lhs;rw[this]
 exact R.lvs_p _
omit R
def qUg(toD:α->D)(frD:D->α)(G:Array α->Array α)(es:List D):List D:=((G (es.map frD).toArray).toList).map toD
section
variable{E:Env}{σ:zU}
def qRH:Option FuncId->List Value
 |none=>[]
 |some g=>[.func (.func g) #[] #[]]
theorem qSs{ex:Option FuncId}{r:List Value}(h:VRs σ (qRH ex) r):r=qRH ex:=by
 cases ex with
 |none=>cases h;rfl
 | some g=>
  cases h with
  |cons h x=>
   cases x;cases h with
   |leaf h=>simp[zX]at h
   |func h y c=>cases y;cases c;rfl
theorem qTP{B n:Nat}{v:Value}(h:VR σ (.slice (some ⟨B,0,none⟩) n qT) v)(y:0<n):∃(L:Go.Am.Loc) (c:Nat),σ B=some L/\v=.slice (some ⟨L.blk,L.off+0,none⟩) n c:=by
 cases h with
 |leaf h=>simp[zX]at h
 |sliceE x _ h3=>exact(Nat.lt_irrefl qT h3).elim
 |sliceX x _ _ _=>exact⟨_,_,x,rfl⟩
 |sliceZ x=>exact(Nat.lt_irrefl 0 y).elim
theorem qIO(R:RowOK k enc toD frD P){f:FuncId}{ex:Option FuncId}{el mx:Nat}{G:Array α->Array α}(hf:∃fn,E.funcs.get f=some fn)(hG:∀d,(G d).size=d.size)(hmx:mx<4611686018427387904)(hk:0<k)(hz:∀(p:Option Addr) (cap:Nat) (w:World),Calls E.prog f ⟨.slice p 0 cap::qRH ex⟩ w λe w'=>e=.returned (.tuple #[])/\w'=w)(M:∀(blk off cap:Nat) (d:Array α) (w:World),Go.Sort.Holds id w blk off (Go.Sort.flatK enc k d)->blk<w.heap.size->d.size<=mx->Calls E.prog f ⟨.slice (some ⟨blk,off,none⟩) d.size cap::qRH ex⟩ w λe w'=>e=.returned (.tuple #[])/\∃n os,w'=Go.Proofs.sortWorldK enc k w blk off n (G d) os):LstOK E ⟨f,ex,false,lI mx el k P (qUg toD frD G)⟩ el k P (qUg toD frD G) mx:=by
 have C:(⟨f,ex,false,lI mx el k P (qUg toD frD G)⟩:Lst).xv=qRH ex:=by cases ex<;>rfl
 have z:∀{H:AH} {a:Option Addr} {c:Nat},vU E f (.slice a 0 c::qRH ex) H (.tuple #[]) H:=by
  intro H a c σ w t N hv _;cases hv with
  | cons h hs=>
   obtain rfl:=qSs hs;have Z:∀p cap,Calls E.prog f ⟨.slice p 0 cap::qRH ex⟩ w λe w'=>∃x v',e=.returned v'/\VR x (.tuple #[]) v'/\Step E σ H w x H w':=λp cap=>
    (hz p cap w).mono λe w' ⟨W,h2⟩=>⟨σ,_,W,.tuple .nil,by rw[h2];exact Step.refl N⟩
   cases h<;>exact Z _ _
 have s:∀{H:AH} {B rt:Nat} {cs:List Value} {l:List α},H.blocks.get B=some ⟨.cells cs el,rt,true⟩->take? cs (l.length*k)=some (nG enc l)->l≠[]->l.length<=mx->
     vU E f (.slice (some ⟨B,0,none⟩) l.length qT::qRH ex) H (.tuple #[]) (H.write B ⟨.cells cs el,rt,true⟩ (.cells (nG enc (G l.toArray).toList++cs.drop (l.length*k)) el)):=by
   intro H B rt cs l u j X hc σ w t N hv _
   have O:0<l.length:=List.length_pos_iff.2 X
   cases hv with
   | cons h hs=>
     obtain rfl:=qSs hs
     have A:∀(L:Go.Am.Loc) (c:Nat),σ B=some L->Calls E.prog f ⟨.slice (some ⟨L.blk,L.off+0,none⟩) l.length c::qRH ex⟩ w λe w'=>∃x v',e=.returned v'/\VR x (.tuple #[]) v'/\Step E σ H w x (H.write B ⟨.cells cs el,rt,true⟩ (.cells (nG enc (G l.toArray).toList++cs.drop (l.length*k)) el)) w':=by
       intro L c hL
       have o:Go.Sort.Holds id w L.blk L.off (Go.Sort.flatK enc k l.toArray):=tP N u hL (by rw[pP,gW R.len];exact j) (by rw[gW R.len];exact λv hv=>(fQ R v hv).1)
       obtain⟨_,_,_,hw,_⟩:=sU N u hL
       have V:L.blk<w.heap.size:=(Array.getElem?_eq_some_iff.1 hw).1
       have U:=M L.blk L.off c l.toArray w o V (by simpa using hc)
       refine Go.Calls.mono (P:=E.prog) (f:=f) U λe w' ⟨W,n,os,h2⟩=>⟨σ,_,W,.tuple .nil,?_⟩
       have J:(G l.toArray).toList.length=l.length:=by rw[Array.length_toList,hG];simp
       have K:=qGr N u hL (F':=Go.Sort.flatK enc k (G l.toArray).toList.toArray) (by rw[pP,J];exact(jF j).2) (by rw[gW R.len];exact fQ R) n os
       rw[gW R.len,pP,J]at K
       rw[h2]
       exact K
     obtain⟨L,c,W,rfl⟩:=qTP h O
     exact A L c W
 have q:∀es:List D,(qUg toD frD G es).length=es.length:=λes=>by unfold qUg;rw[List.length_map,Array.length_toList,hG];simp
 exact
 { ff:=hf
   G:=rfl
   flat:=λe h=>R.flat h
   mem:=λes _ e he=>by obtain⟨p,_,rfl⟩:=List.mem_map.1 he;exact R.ok p
   len:=λes _=>⟨Nat.le_of_eq (q es),λ_=>q es⟩
   no:=by
    rw[C];rintro H v (rfl|⟨a,rfl⟩)
    ·exact z
    ·exact z
   ok:=by
    rw[C];intro H B rt cs es u j hP hx;have hl:=R.lvs_es hP;have hlen:es.length=(es.map frD).length:=by rw[List.length_map]
    have hF:qKm (qUg toD frD G es)=nG enc (G (es.map frD).toArray).toList:=R.lvs_p _;have y:(G (es.map frD).toArray).toList.length=(es.map frD).length:=by rw[Array.length_toList,hG];simp
    rw[hl,hlen]at j;rw[hF,q,hlen];rw[hlen]at hx;generalize es.map frD=l at j hx y;by_cases X:l=[]
    ·subst X;refine⟨cs,H,z,?_,u,λ_ _=>rfl,rfl,lT (Nat.min_le_left _ _) (Nat.min_le_left _ _)⟩;have e:(G ([]:List α).toArray).toList=[]:=List.length_eq_zero_iff.1 y;rw[e];exact j
    ·refine⟨_,_,s u j X hx,?_,by rw[AH.get_write,if_pos rfl],λb hb'=>by rw[AH.get_write,if_neg hb'],rfl,?_⟩
     ·rw[xI (by rw[List.length_append,rR R.len,y];omega),List.take_append_of_le_length (by rw[rR R.len,y];omega),←y,←rR R.len,List.take_length]
     ·exact Nat.le_min.2 ⟨lT (Nat.min_le_left _ _) (Nat.min_le_left _ _),Nat.min_le_right _ _⟩}
end
end
end Go.Am
set_option linter.unusedSectionVars false
namespace Go.Am
open Go Go.Proofs
section
variable{α:Type}[Inhabited α]{k:Nat}{enc:α->List Value}{toD:α->D}{frD:D->α}{P:D->Bool}
def qTh(toD:α->D)(frD:D->α)(G:Array α->Array α)(M:Array α->Nat)(es:List D):List D:=(((G (es.map frD).toArray).toList).take (M (es.map frD).toArray)).map toD
variable{E:Env}{σ:zU}
theorem qTO{B n:Nat}{v:Value}(h:VR σ (.slice (some ⟨B,0,none⟩) n qT) v)(y:0<n):∃(L:Go.Am.Loc) (c:Nat),σ B=some L/\v=.slice (some ⟨L.blk,L.off+0,none⟩) n c/\n<=c/\c<qT/\0+c*L.sz=L.ext:=by
 cases h with
 |leaf h=>simp[zX]at h
 |sliceE x _ h3=>exact(Nat.lt_irrefl qT h3).elim
 |sliceX x j h3 e=>exact⟨_,_,x,rfl,j,h3,e⟩
 |sliceZ x=>exact(Nat.lt_irrefl 0 y).elim
theorem qJo(R:RowOK k enc toD frD P){f:FuncId}{el mx:Nat}{G:Array α->Array α}{M:Array α->Nat}(hf:∃fn,E.funcs.get f=some fn)(hG:∀d,(G d).size=d.size)(hM:∀d,M d<=d.size)(hM0:∀d,0<d.size->0<M d)(hmx:mx<4611686018427387904)(hk:0<k)(hz:∀(p:Option Addr) (cap:Nat) (w:World),Calls E.prog f ⟨[.slice p 0 cap]⟩ w λe w'=>e=.returned (.slice p 0 cap)/\w'=w)(Z:∀(blk off cap:Nat) (d:Array α) (w:World),Go.Sort.Holds id w blk off (Go.Sort.flatK enc k d)->blk<w.heap.size->d.size<=mx->d.size<=cap->Calls E.prog f ⟨[.slice (some ⟨blk,off,none⟩) d.size cap]⟩ w λe w'=>e=.returned (.slice (some ⟨blk,off,none⟩) (M d) cap)/\∃n os,w'=Go.Proofs.sortWorldK enc k w blk off n (G d) os):LstOK E ⟨f,none,true,lI mx el k P (qTh toD frD G M)⟩ el k P (qTh toD frD G M) mx:=by
 have U:(⟨f,none,true,lI mx el k P (qTh toD frD G M)⟩:Lst).xv=[]:=rfl;have z:∀{H:AH} {v:Value},(v=.slice none 0 0∨∃a,v=.slice (some a) 0 0)->vU E f [v] H v H:=by
  intro H v hv0 σ w x t hv _;cases hv with
  | cons h X=>
   cases X;have O:∀p cap,VR σ v (.slice p 0 cap)->Calls E.prog f ⟨[.slice p 0 cap]⟩ w λe w'=>∃y v',e=.returned v'/\VR y v v'/\Step E σ H w y H w':=λp cap hvr=>
    (hz p cap w).mono λe w' ⟨C,A⟩=>⟨σ,_,C,hvr,by rw[A];exact Step.refl t⟩
   rcases hv0 with rfl|⟨a,rfl⟩
   ·have N:=h;cases h with
    |leaf _=>exact O _ _ N
   ·have N:=h;cases h<;>first|exact O _ _ N|(rename_i q;simp[zX]at q)
 have s:∀{H:AH} {B rt:Nat} {cs:List Value} {l:List α},H.blocks.get B=some ⟨.cells cs el,rt,true⟩->take? cs (l.length*k)=some (nG enc l)->l≠[]->l.length<=mx->
     vU E f [.slice (some ⟨B,0,none⟩) l.length qT] H (.slice (some ⟨B,0,none⟩) (M l.toArray) qT) (H.write B ⟨.cells cs el,rt,true⟩ (.cells (nG enc (G l.toArray).toList++cs.drop (l.length*k)) el)):=by
   intro H B rt cs l K J h0 hc σ w x t hv _
   have hpos:0<l.length:=List.length_pos_iff.2 h0
   cases hv with
   | cons h X=>
     cases X
     obtain⟨L,c,hL,rfl,e1,e2,e3⟩:=qTO h hpos
     have u:Go.Sort.Holds id w L.blk L.off (Go.Sort.flatK enc k l.toArray):=tP t K hL (by rw[pP,gW R.len];exact J) (by rw[gW R.len];exact λv hv=>(fQ R v hv).1)
     obtain⟨_,_,_,hw,_⟩:=sU t K hL
     have hblk:L.blk<w.heap.size:=(Array.getElem?_eq_some_iff.1 hw).1
     have hcon:=Z L.blk L.off c l.toArray w u hblk (by simpa using hc) (by simpa using e1)
     refine Go.Calls.mono (P:=E.prog) (f:=f) hcon λe w' ⟨C,n,os,A⟩=>⟨σ,_,C,.sliceX hL (lT (by simpa using hM l.toArray) e1) e2 e3,?_⟩
     have V:(G l.toArray).toList.length=l.length:=by rw[Array.length_toList,hG];simp
     have W:=qGr t K hL (F':=Go.Sort.flatK enc k (G l.toArray).toList.toArray) (by rw[pP,V];exact(jF J).2) (by rw[gW R.len];exact fQ R) n os
     rw[gW R.len,pP,V]at W
     rw[A]
     exact W
 have hFl:∀es:List D,(qTh toD frD G M es).length=M (es.map frD).toArray:=λes=>by unfold qTh;rw[List.length_map,List.length_take,Array.length_toList,hG];exact Nat.min_eq_left (hM _)
 have hFle:∀es:List D,(qTh toD frD G M es).length<=es.length:=λes=>by rw[hFl];exact lT (hM _) (by simp)
 exact
 { ff :=hf
   G:=rfl
   flat:=λe h=>R.flat h
   mem:=λes _ e he=>by obtain⟨p,_,rfl⟩:=List.mem_map.1 he;exact R.ok p
   len:=λes _=>⟨hFle es,λh=>by cases h⟩
   no:=by rw[U];intro H v hv;exact z hv
   ok :=by
    rw[U];intro H B rt cs es K J hP hx;have hl:=R.lvs_es hP;have hlen:es.length=(es.map frD).length:=by rw[List.length_map]
    have hF:qKm (qTh toD frD G M es)=nG enc ((G (es.map frD).toArray).toList.take (M (es.map frD).toArray)):=R.lvs_p _;have o:(G (es.map frD).toArray).toList.length=(es.map frD).length:=by rw[Array.length_toList,hG];simp
    have j:M (es.map frD).toArray<=(es.map frD).length:=lT (hM _) (by simp);rw[hl,hlen]at J;rw[hF,hFl,hlen];rw[hlen]at hx;generalize es.map frD=l at J hx o j;have hct:∀m,m<=l.length->(nG enc (G l.toArray).toList++cs.drop (l.length*k)).take (m*k)=nG enc ((G l.toArray).toList.take m):=λm hm=>by
     have e:(G l.toArray).toList=(G l.toArray).toList.take m++(G l.toArray).toList.drop m:=(List.take_append_drop m _).symm;have e2:nG enc (G l.toArray).toList=nG enc ((G l.toArray).toList.take m)++nG enc ((G l.toArray).toList.drop m):=by
      conv=>lhs;rw[e]
      unfold nG;rw[List.flatMap_append]
     rw[e2,List.append_assoc,List.take_append_of_le_length (by rw[rR R.len,List.length_take,o,Nat.min_eq_left hm];exact lR _)];rw[List.take_of_length_le (by rw[rR R.len,List.length_take,o,Nat.min_eq_left hm];exact lR _)]
    by_cases h0:l=[]
    ·subst h0;have hm0:M ([]:List α).toArray=0:=Nat.le_zero.1 (by simpa using j);refine⟨cs,H,?_,?_,K,λ_ _=>rfl,rfl,lT (Nat.min_le_left _ _) (Nat.min_le_left _ _)⟩
     ·intro σ w x t hv _;cases hv with
      |cons h X=>
       cases X;have N:=h;show Calls _ _ _ _ λe w'=>∃y v',e=.returned v'/\VR y (.slice (some ⟨B,0,none⟩) (M ([]:List α).toArray) qT) v'/\_;rw[hm0];cases h with
       |leaf q=>simp[zX]at q
       |sliceE _ _ q=>exact(Nat.lt_irrefl qT q).elim
       |sliceX _ _ _ _=>exact(hz _ _ w).mono λe w' ⟨C,A⟩=>⟨σ,_,C,N,by rw[A];exact Step.refl t⟩
       |sliceZ _=>exact(hz _ _ w).mono λe w' ⟨C,A⟩=>⟨σ,_,C,N,by rw[A];exact Step.refl t⟩
     ·rw[hm0];simp[take?,nG]
    ·refine⟨_,_,s K J h0 hx,?_,by rw[AH.get_write,if_pos rfl],λb hb'=>by rw[AH.get_write,if_neg hb'],rfl,?_⟩
     ·rw[xI (by rw[List.length_append,rR R.len,o];exact lT (Nat.mul_le_mul_right k j) (Nat.le_add_right _ _)),hct _ j]
     ·exact Nat.le_min.2 ⟨lT (Nat.min_le_left _ _) (Nat.min_le_left _ _),Nat.min_le_right _ _⟩}
end
end Go.Am
set_option linter.unusedSectionVars false
namespace Go.Am
open Go Go.Proofs
def qRM(z:Int):List Value:=[.int .i64 z]
def qWt(z:Int):D:=.leaf (.int .i64 z)
def qOn:D->Bool
 |.leaf (.int .i64 _)=>true
 |_=>false
def qRm:D->Int
 |.leaf (.int .i64 z)=>z
 |_=>0
theorem qXF:RowOK 1 qRM qWt qRm qOn where
 to e h:=by
  unfold qOn at h
  split at h
  ·rfl
  cases h
 ok _:=rfl
 fr _:=rfl
 cells _:=rfl
 len _:=rfl
 leaf a v hv:=by rw[List.mem_singleton.1 hv];exact⟨rfl,rfl⟩
theorem qEv(d:Array Int)(t:Nat)(h:t<d.size):(Go.Sort.flatK qRM 1 d)[t]! = .int .i64 d[t]! :=by rw[Go.Sort.get_flatK _ _ _ _ (by omega),Nat.div_one,Nat.mod_one];rfl
theorem qXK(w:World)(blk off:Nat)(d:Array Int):Go.Sort.putRow (Value.int .i64) w blk off d=Go.Sort.putRowK qRM 1 w blk off d:=by
 unfold Go.Sort.putRowK Go.Sort.putRow
 congr 1
 funext c;unfold Go.Sort.putCells
 congr 1
 funext k x;rw[Go.Sort.size_flatK,Nat.mul_one];split
 ·rename_i h;rw[qEv d _ (by omega)];rfl
 rfl
theorem qOv{w:World}{blk off:Nat}{d:Array Int}(h:Go.Sort.Holds id w blk off (Go.Sort.flatK qRM 1 d)):Go.Sort.Holds (Value.int .i64) w blk off d:=λj x=>by
 have:=h j (by rw[Go.Sort.size_flatK];omega)
 rw[qEv d j x]at this
 exact this
theorem zA6(d:Array Int):d.toList.toArray=d:=by simp
def mP(l:List Int):List Int:=l.mergeSort λx y=>decide (x<=y)
def SI(es:List D):List D:=qUg qWt qRm (λd=>(mP d.toList).toArray) es
theorem qNc{E:Env}{f:FuncId}{el:Nat}(q:∃fn,E.funcs.get f=some fn)(l:∀(p:Option Addr) (cap:Nat) (w:World),Calls E.prog f #[.slice p 0 cap] w λe w'=>e=.returned (.tuple #[])/\w'=w)(o:∀(blk off cap:Nat) (c:List Int) (w:World),Go.Sort.Holds (Value.int .i64) w blk off c.toArray->blk<w.heap.size->c.length<4611686018427387904->
   Calls E.prog f #[.slice (some ⟨blk,off,none⟩) c.length cap] w λe w'=>e=.returned (.tuple #[])/\∃n os,w'=Go.Sort.grow (Go.Sort.putRow (Value.int .i64) (Go.Sort.ahead w n) blk off (c.mergeSort λx y=>decide (x<=y)).toArray) os):
  LstOK E ⟨f,none,false,lI 1000000000 el 1 qOn SI⟩ el 1 qOn SI 1000000000:=
 qIO (G:=λd=>(mP d.toList).toArray) qXF q (λd=>by simp[mP]) (by decide) (by decide) l λblk off cap d w h t B=>by
  have j:=o blk off cap d.toList w (by rw[zA6];exact qOv h) t (by simpa using(by omega:d.size<4611686018427387904))
  rw[Array.length_toList]at j
  refine j.mono λe w' ⟨A,n,os,u⟩=>⟨A,n,os,?_⟩
  rw[u];unfold Go.Proofs.sortWorldK;rw[qXK];rfl
def pR(l:List Int):List Int:=Go.Lib.compact l
def CI(es:List D):List D:=qTh qWt qRm (λd=>(pR d.toList++List.replicate (d.size-(pR d.toList).length) 0).toArray) (λd=>(pR d.toList).length) es
theorem qK6{l:List Int}(h:0<l.length):0<(pR l).length:=by unfold pR Go.Lib.compact;obtain⟨n,x⟩:∃n,l.length=n+1:=⟨l.length-1,by omega⟩;rw[x];unfold Go.Lib.compactUpTo;rw[List.length_map];refine List.length_pos_of_mem (a:=0) (List.mem_filter.2 ⟨List.mem_range.2 (by omega),?_⟩);simp[Go.Lib.keeps]
theorem qRT{E:Env}{f:FuncId}{el:Nat}(l:∃fn,E.funcs.get f=some fn)(c:∀(p:Option Addr) (cap:Nat) (w:World),Calls E.prog f #[.slice p 0 cap] w λe w'=>e=.returned (.slice p 0 cap)/\w'=w)(j:∀(blk off cap:Nat) (x:List Int) (w:World),Go.Sort.Holds (Value.int .i64) w blk off x.toArray->x.length<=9223372036854775807->x.length<=cap->
   Calls E.prog f #[.slice (some ⟨blk,off,none⟩) x.length cap] w λe w'=>e=.returned (.slice (some ⟨blk,off,none⟩) (Go.Lib.compact x).length cap)/\∃q,w'=Go.Sort.putRow (Value.int .i64) (Go.Sort.ahead w q) blk off (Go.Lib.compact x++List.replicate (x.length-(Go.Lib.compact x).length) 0).toArray):
  LstOK E ⟨f,none,true,lI 1000000000 el 1 qOn CI⟩ el 1 qOn CI 1000000000:=
 qJo (G:=λd=>(pR d.toList++List.replicate (d.size-(pR d.toList).length) 0).toArray) (M:=λd=>(pR d.toList).length) qXF l
  (λd=>by
   have:(Go.Lib.compact d.toList).length<=d.size:=by simpa using Go.Lib.compact_length_le d.toList
   show(pR d.toList++_).toArray.size=_
   rw[List.size_toArray,List.length_append,List.length_replicate];unfold pR;omega)
  (λd=>by simpa[pR]using Go.Lib.compact_length_le d.toList)
  (λd h=>qK6 (by rw[Array.length_toList];exact h)) (by decide) (by decide) c λblk off cap d w h _ A o=>by
  have y:=j blk off cap d.toList w (by rw[zA6];exact qOv h) (by simpa using(by omega:d.size<=9223372036854775807)) (by simpa using o)
  rw[Array.length_toList]at y
  refine y.mono λe w' ⟨u,n,t⟩=>⟨u,n,#[],?_⟩
  rw[t];unfold Go.Proofs.sortWorldK;rw[qXK,Go.Sort.grow_empty];rfl
end Go.Am
namespace Go.Am
open Go
section
variable{E:Env}
theorem qI5(he:EOk E){f:FuncId}{fn:Func}{c:Code}(hf:E.funcs.get f=some fn)(V:fn.body=some c){OP:qDx}{RG:qPK}{RH:Array Tmp->Code->Code->KC->List (Nat×Tree)}{pats:Nat->Pat}{szs:Nat->Nat}{p:Nat->Tree}{m:Mode}{ds:List D}{d:D}(hO:∀(L:Lim) (H:AH) (g:zB),uP E L H g (Qf E p d) OP)(hR:∀(L:Lim) (H:AH) (g:zB),L.rd=false->lQ E L H g (Qf E p d) (λk S=>jN (szs k) (pats k) k S) OP RG 1 c (eH E m fn.results.toList))(hm:qCn m fn.results.toList.length=true)(hP:∀k,m.inp.blks.length<=(pats k).blks.length)(h0:qAK E (λk S=>jN (szs k) (pats k) k S) OP RG 1 c (m.inp.st (Nat.max fn.ntmps m.n)) (eH E m fn.results.toList)=p 0)(hT:∀x∈j6 E (λk=>(pats k).st (szs k)) (λk S=>jN (szs k) (pats k) k S) OP RG RH 1 c (eH E m fn.results.toList),p x.1=x.2)(y:qX E (Holds E) p 0 ds d)(hd:∃j,d=xN j/\j.length=m.out.sts.length):Holds E (Nat.add gM f) (.mode m::ds) d:=by
 refine .inr ⟨f,m,ds,rfl,rfl,⟨fn,hf⟩,?_⟩;obtain⟨Z,O,N⟩:=hd;refine⟨Z,O,N,λL H g ve lb o h J W=>?_⟩;simp only[qCn,aE]at hm;obtain⟨⟨m1,m2⟩,m3⟩:=hm;have m1:=vE m1;have m3:=vE m3;have X:L.F.length=m.inp.blks.length:=by rw[W];simp
 obtain⟨n,y⟩:=y;cases n with
 |zero=>cases y
 | succ n=>
  have l:wp E (Holds E) (Qf E p d n) (p 0) ds:=y;rw[←h0]at l;have C:L.rd=false:=h.rd.symm;have hs:SR E L H g (m.inp.st (Nat.max fn.ntmps m.n)) ds ve lb g ⟨Nat.max fn.ntmps m.n,false,T.ofList .leaf 0 o⟩ H:={h with sz:=rfl,rd:=h.rd,slots:=h.slots};have hj:=fG (n0:=L) (H0:=H) (g0:=g) (d:=d) he (hO L H g) (hR L H g C) rfl hT (λk κ b hp=>by rw[X];exact hP k) n;obtain⟨e,fr1,H1,A,m1',_,S1,ρ1,ve1,lb1,g1,h1,hw⟩:=rV he (hO L H g) (hR L H g C) hj c 1 _ .root n (lR _) _ _ _ _ _ _ _ hs l;have hE:=qKQ (n0:=L) (H0:=H) (g0:=g) (Q:=Qf E p d m1') (m:=m) (rs:=fn.results.toList) (d:=d) (λd' hd'=>hd') (by rw[X,m1];exact lR _) e S1 ρ1 ve1 lb1 g1 fr1 H1 h1 hw;obtain⟨he',vs,q,lb',g',j,hv,hdd,M,B,hsl,hk,hgk,G⟩:=hE;have U:Z=j:=qB4 (O.symm.trans hdd) (by rw[N,M]);subst U;have K:∀b,b<(m.out.st 0).blks.length->lb b=lb' b:=by
   intro b V;have V:b<m.inp.blks.length:=by rw[←m1];exact V
   refine(B.fix.2 b (lb b) ?_).symm;rw[W,List.getElem?_map,List.getElem?_range V];rfl
  have t:vs=SV.vals q lb (m.out.slots.map Prod.snd):=by refine qE0 _ _ (by rw[m9 hv,List.length_map,m3]) λi x A=>?_;have hg:=qEr m.out.slots 0 .leaf m2 i x A;rw[Nat.zero_add]at hg;obtain⟨q1,q2⟩:=hsl i x hg;rw[q2,SV.val_congr (λ_ _=>rfl) K q1]
  rw[←J]at A;have u:vU E f o H (qIv m q lb) H1:=by
   refine zT.call he hf V A he' ?_;rw[hv,t];unfold qIv;generalize m.out.slots=sl
   match sl with
   | []=>rfl
   | [(_,_)]=>rfl
   |_::_::_=>rfl
  refine⟨_,{H1 with next:=H1.next+1},g',q,u.raise,Nat.lt_succ_of_le A.1,(B.relb K).raise,hk,hgk,G,rfl⟩
theorem qI3(he:EOk E){I:qDL}(u:eO E I){f:FuncId}{fn:Func}{c:Code}(J:E.funcs.get f=some fn)(K:fn.body=some c){pats:Nat->Pat}{szs:Nat->Nat}{q:Nat->Tree}{m:Mode}{ds:List D}{d:D}{L:Nat}{G:FuncId}{fnG:Func}{cdG:Code}(N:tJ I G=some (fnG,cdG))(C:qCn m fn.results.toList.length=true)(M:∀k,m.inp.blks.length<=(pats k).blks.length)(p:∀k,1000<=k->L+1<=(pats k).blks.length)(O:qAK E (λk S=>jN (szs k) (pats k) k S) (qLM E I none) (iV E (λk S=>jN (szs k) (pats k) k S) I G (Nat.max fn.ntmps m.n) L 1000) 1 c (m.inp.st (Nat.max fn.ntmps m.n)) (eH E m fn.results.toList)=q 0)(t:∀x∈j6 E (λk=>(pats k).st (szs k)) (λk S=>jN (szs k) (pats k) k S) (qLM E I none) (iV E (λk S=>jN (szs k) (pats k) k S) I G (Nat.max fn.ntmps m.n) L 1000) (qIx E (λk=>(pats k).st (szs k)) (λk S=>jN (szs k) (pats k) k S) I cdG (Nat.max fn.ntmps m.n) L 1000) 1 c (eH E m fn.results.toList),q x.1=x.2)(l:qX E (Holds E) q 0 ds d)(hd:∃e,d=xN e/\e.length=m.out.sts.length):Holds E (Nat.add gM f) (.mode m::ds) d:=
 qI5 he J K (λL H g m o S ρ ve lb g' fr H' κ h B=>qNR he u (λy A=>by cases A) h B) (λU H g j=>qLA (n0:=U) (H0:=H) (g0:=g) (d:=d) he u N j rfl t p) C M O t l hd
end
def qU3(E:Env)(OP:qDx)(fn:Func)(c:Code)(h:List SV)(S:St)(κ:K1):Tree:=
 qAK E qNV OP fV 1 c {S with slots:=T.ofList .leaf 0 h,sz:=Nat.max fn.ntmps h.length,sav:=rK S.slots S.sz::S.sav} (qYb E fn.results.toList S.sz κ)
def qZJ(E:Env)(I:qDL)(x OPo:qDx):qDx:=λo S κ=>match o.op with
 | .call c=>match c.callee,bO S c.args.toList with
  | .value f,some h=>match rP S f with
   |some (.fn (.func g) first cap)=>match tJ I g with
    |some (fn,y)=>qU3 E x fn y (first++h++cap) S κ
    |none=>OPo o S κ
   |_=>OPo o S κ
  |_,_=>OPo o S κ
 |_=>OPo o S κ
def qUz(E:Env)(I:qDL)(OP:qDx):Nat->qDx
 |0=>OP
 |n+1=>qZJ E I (qUz E I OP n) OP
section
variable{E:Env}{I:qDL}{n0:Lim}{H0:AH}{g0:zB}{S:St}{ρ:List D}{ve:Nat->Value}{lb:Nat->Nat}{g:zB}{fr:Fr}{H:AH}{Q:Res1->Prop}{OP OPo:qDx}
theorem qTY(he:EOk E)(o:∀(L:Lim) (H:AH) (g:zB) (Q:Res1->Prop),uP E L H g (λ_=>Q) OP){c:Code}{κ:KC}(h:SR E n0 H0 g0 S ρ ve lb g fr H)(x:wp E (Holds E) Q (qAK E qNV OP fV 1 c S κ) ρ):Fin E c (Kq E n0 H0 g0 Q κ) fr H:=by
 have j:∀m,m<=0->qGb E n0 H0 g0 (λ_=>Q) qNV OP fV 1 c κ m:=λm _ k b κ q S ρ ve lb g fr H h x=>by cases x
 have l:lQ E n0 H0 g0 (λ_=>Q) qNV OP fV 1 c κ:=λ_ _ _ _ _ _ _ _ _ _ _ _ _ _ _ _ x=>by cases x
 refine(rV (QQ:=λ_=>Q) he (o n0 H0 g0 Q) l j c 1 κ .root 0 (lR _) S ρ ve lb g fr H h x).mono ?_;rintro e p H1 ⟨m,_,y⟩;exact y
theorem qRf(he:EOk E)(hO:∀(L:Lim) (H:AH) (g:zB) (Q:Res1->Prop),uP E L H g (λ_=>Q) OP)(h:SR E n0 H0 g0 S ρ ve lb g fr H){M:FuncId}{fn:Func}{c:Code}{args:List SV}{o:Oper}{κ:K1}(hf:E.funcs.get M=some fn)(K:fn.body=some c)(p:SV.bds S.n S.blks.length args)(ha:vT E fr o H=some (.enter M (SV.vals ve lb args),H))(x:wp E (Holds E) Q (qU3 E OP fn c args S κ) ρ):oZ E (Holds E) Q n0 H0 g0 fr H o κ:=by
 unfold qU3 at x;have u:(SV.vals ve lb args).length=args.length:=by rw[SV.vals_map,List.length_map]
 have h1:SR E {n0 with frs:=fr::n0.frs,rd:=false,F:=(List.range S.blks.length).map lb} H0 g0 {S with slots:=T.ofList .leaf 0 args,sz:=Nat.max fn.ntmps args.length,sav:=rK S.slots S.sz::S.sav} ρ ve lb g ⟨Nat.max fn.ntmps (SV.vals ve lb args).length,false,T.ofList .leaf 0 (SV.vals ve lb args)⟩ H:=by refine h.refr (n1:={n0 with frs:=fr::n0.frs,rd:=false,F:=(List.range S.blks.length).map lb}) (S':={S with slots:=T.ofList .leaf 0 args,sz:=Nat.max fn.ntmps args.length,sav:=rK S.slots S.sz::S.sav}) rfl rfl ⟨by simp,λk a A=>?_⟩ (.inl ⟨rfl,rfl,rfl,rfl⟩) rfl rfl (by simp only[u]) rfl (aO p) (bU.push h);rw[List.getElem?_map,Option.map_eq_some_iff]at A;obtain⟨q,Z,rfl⟩:=A;obtain⟨q1,U⟩:=gI Z;rw[List.getElem_range]at U;rw[U]
 obtain⟨e,fr1,H1,V,S1,B,W,t,g1,h2,x⟩:=qTY he hO h1 x;have y:(e=.normal∨e=.ret)->wp E (Holds E) Q (qFi E (qDq S.sz κ) S1 [] fn.results.toList) B->oZ E (Holds E) Q n0 H0 g0 fr H o κ:=by
  intro J x;obtain⟨S2,ρ2,ve2,g2,vs,xs,h3,X,O,N,x⟩:=qBj fn.results.toList [] h2 trivial x;simp only[SV.vals,List.nil_append]at N;have j:=h3.fix;obtain⟨S3,s1,s2,h4,x⟩:=qF8 (n0:=n0) (fr:=fr) h3 O rfl rfl ⟨(by have:S.blks.length<=S2.blks.length:=(by have:=j.1;simpa using this);exact lT h.fix.1 this),λk a A=>(by have C:k<S.blks.length:=Nat.lt_of_lt_of_le (gI A).1 h.fix.1;rw[j.2 k (lb k) (by rw[List.getElem?_map,List.getElem?_range C];rfl)];exact h.fix.2 k a A)⟩ ⟨rfl,rfl,rfl,rfl⟩ rfl h.sz h.rd x
  ·have l:vU E M (SV.vals ve lb args) H ((qAS xs).val ve2 t) H1:=zT.call he hf K V J (by rw[X];exact qD9 xs N);have G:H.next<=H1.next:=V.1;exact⟨qAS xs,S3,ρ2,ve2,t,g2,_,h4.raise,by rw[s1,s2];exact qGR xs O,x,.of_call ha l.raise (Nat.lt_succ_of_le G)⟩
 cases e with
 |normal=>exact y (.inl rfl) x
 |ret=>exact y (.inr rfl) x
 |exit id=>cases x
theorem qUA(he:EOk E)(K:eO E I)(J:∀(L:Lim) (H:AH) (g:zB) (Q:Res1->Prop),uP E L H g (λ_=>Q) OP)(q:∀(L:Lim) (H:AH) (g:zB) (Q:Res1->Prop),uP E L H g (λ_=>Q) OPo){o:Oper}{κ:K1}(h:SR E n0 H0 g0 S ρ ve lb g fr H)(y:wp E (Holds E) Q (qZJ E I OP OPo o S κ) ρ):oZ E (Holds E) Q n0 H0 g0 fr H o κ:=by
 have x:wp E (Holds E) Q (OPo o S κ) ρ->oZ E (Holds E) Q n0 H0 g0 fr H o κ:=λy=>q n0 H0 g0 Q 0 o S ρ ve lb g fr H κ h y;unfold qZJ at y;split at y;case h_2=>exact x y
 rename_i c B;split at y;case h_2=>exact x y
 rename_i f A G e;obtain⟨N,M⟩:=rF (E:=E) h e;split at y;case h_2=>exact x y
 rename_i O first cap l
 obtain⟨u,t⟩:=zJ (E:=E) h l;split at y;case h_2=>exact x y
 rename_i fn U C;obtain⟨j,p⟩:=K _ _ _ C;refine qRf he J h j p ?_ ?_ y
 ·rw[SV.bds_iff]at N ⊢;have f1:=SV.bds_iff.1 u.1;have f2:=SV.bds_iff.1 u.2;grind
 simp only[SV.val]at t;unfold vT;rw[B];simp only[yL,M,G,t,oU,j,yH]
theorem qKh(he:EOk E)(y:eO E I)(x:∀(L:Lim) (H:AH) (g:zB) (Q:Res1->Prop),uP E L H g (λ_=>Q) OP):∀(n:Nat) (L:Lim) (H:AH) (g:zB) (Q:Res1->Prop),uP E L H g (λ_=>Q) (qUz E I OP n)
 |0=>x
 |n+1=>λL H g Q m o S ρ ve lb g' fr H' κ h c=>qUA he y (qKh he y x n) x h c
end
theorem qL5{E:Env}(he:EOk E){OP:qDx}(K:∀(L:Lim) (H:AH) (g:zB) (Q:Res1->Prop),uP E L H g (λ_=>Q) OP){f:FuncId}{fn:Func}{c:Code}(hf:E.funcs.get f=some fn)(h:fn.body=some c){pats:Nat->Pat}{szs:Nat->Nat}{t:Nat->Tree}{ds:List D}{d:D}{n:Nat}(hn:ds.length=n)(h0:qAK E (λk S=>jN (szs k) (pats k) k S) OP fV 1 c (oD n (Nat.max fn.ntmps n)) (uD E fn.results.toList)=t 0)(hT:∀x∈j6 E (λk=>(pats k).st (szs k)) (λk S=>jN (szs k) (pats k) k S) OP fV (λ_ _ _ _=>[]) 1 c (uD E fn.results.toList),t x.1=x.2)(j:qX E (Holds E) t 0 ds d)(y:f<gM:=by decide):Holds E f ds d:=by
 refine .inl ⟨y,⟨fn,hf⟩,λH g J u hm A hd=>?_⟩;have o:J.length=n:=by rw[hd.length,hn]
 have hs:=qGt (sz:=Nat.max fn.ntmps n) u hm A hd o;obtain⟨m,j⟩:=j;cases m with
 |zero=>cases j
 | succ m=>
  have p:wp E (Holds E) (Qf E t d m) (t 0) ds:=j;rw[←h0]at p;have K:uP E (Lim.of H.next) H g (Qf E t d) OP:=λm=>K _ _ _ _ m;have hR:lQ E (Lim.of H.next) H g (Qf E t d) (λk S=>jN (szs k) (pats k) k S) OP fV 1 c (uD E fn.results.toList):=λ_ _ _ _ _ _ _ _ _ _ _ _ _ _ _ _ U=>by cases U
  have hj:=fG (n0:=Lim.of H.next) (H0:=H) (g0:=g) (d:=d) he K hR rfl hT (λk κ b hp=>Nat.zero_le _) m;obtain⟨e,fr1,H1,hx,m1,_,S1,M,N,O,g1,h1,U⟩:=rV he K hR hj c 1 _ .root m (lR _) _ _ _ _ _ _ _ hs p;obtain⟨X,v,g',hv,Z,B,l,V,hk,C,G⟩:=qKR (d:=d) (λd' hd'=>hd') e S1 M N O g1 fr1 H1 h1 U;rw[←o]at hx;have q:=zT.call he hf h hx X hv;let g2:zB:=λb=>if b<H.next then g b else g' b;have W:zB.le g' g2:=by
   intro b k h;simp only[g2];split
   ·rename_i y;rw[←G b y];exact h
   exact h
  refine⟨v,{H1 with next:=H1.next+1},g2,q.raise,Nat.lt_succ_of_le V,λb k h=>⟨(l b k h).1,Nat.lt_succ_of_lt (l b k h).2⟩,hk,C,?_,?_,?_,Z.mono W⟩
  ·intro b k h;simp only[g2];rw[if_pos (u b k (hm b k h)).2];exact h
  ·intro b k h;simp only[g2]at h;split at h
   ·rename_i y;rw[←G b y]at h;exact B b k h
   exact B b k h
  intro b h;simp only[g2];rw[if_pos h]
end Go.Am
set_option linter.unusedSectionVars false
namespace Go.Am
open Go
def xU(a:List Value)(o k:Nat):List Value:=(a.drop o).take k
def mS(l:List Value)(p:Nat)(v:List Value):List Value:=l.take p++(v++l.drop p)
def uG(l:List Value)(p q:Nat):List Value:=l.take p++l.drop q
theorem sR{a:List Value}{o k:Nat}(h:o+k<=a.length):(xU a o k).length=k:=by unfold xU;rw[List.length_take,List.length_drop];omega
theorem qGx{a:List Value}{o k j:Nat}(h:j<k):(xU a o k)[j]? = a[o+j]? :=by unfold xU;rw[List.getElem?_take_of_lt h,List.getElem?_drop]
theorem qHb{l v:List Value}{p:Nat}(h:p<=l.length):(mS l p v).length=l.length+v.length:=by unfold mS;rw[List.length_append,List.length_append,List.length_take,List.length_drop];omega
theorem qHJ{l:List Value}{p q:Nat}(h:q<=l.length)(x:p<=q):(uG l p q).length=p+(l.length-q):=by unfold uG;rw[List.length_append,List.length_take,List.length_drop];omega
def World.segSet(w:World)(b:Nat)(ccs:Array Value)(o:Nat)(vs:List Value)(q:Nat):World:=
 {w.setRow b (ccs.toList.take o++vs++ccs.toList.drop (o+vs.length)).toArray with drawn:=q}
structure InsW (P:Program) (f:FuncId) (el:TypeId) (sz:Nat):Prop where
 room:∀(w:World) (b off n c i vb voff vc:Nat) (ccs vcs:Array Value),w.heap[b]? = some (.cells ccs el (0,0))->w.heap[vb]? = some (.cells vcs el (0,0))->vb≠b->off+c*sz<=ccs.size->voff+sz<=vcs.size->
  (∀v∈xU ccs.toList off (n*sz),v.oneCell'=true)->(∀v∈xU vcs.toList voff sz,v.oneCell'=true)->i<=n->n+1<=c->c<qT->n<=2000000->
  Calls P f #[.slice (some ⟨b,off,none⟩) n c,.int .i64 i,.slice (some ⟨vb,voff,none⟩) 1 vc] w λe w'=>e=.returned (.slice (some ⟨b,off,none⟩) (n+1) c)/\
   ∃q,w.drawn<=q/\w'=World.segSet w b ccs off (mS (xU ccs.toList off (n*sz)) (i*sz) (xU vcs.toList voff sz)) q
 grow:∀(w:World) (b off n c i vb voff vc:Nat) (ccs vcs:Array Value),w.heap[b]? = some (.cells ccs el (0,0))->w.heap[vb]? = some (.cells vcs el (0,0))->off+c*sz<=ccs.size->voff+sz<=vcs.size->
  (∀v∈xU ccs.toList off (n*sz),v.oneCell'=true)->(∀v∈xU vcs.toList voff sz,v.oneCell'=true)->i<=n->n=c->n<=2000000->
  Calls P f #[.slice (some ⟨b,off,none⟩) n c,.int .i64 i,.slice (some ⟨vb,voff,none⟩) 1 vc] w λe w'=>∃(nc q:Nat) (rest:List Value),n+1<=nc/\nc<qT/\rest.length=(nc-(n+1))*sz/\w.drawn<=q/\
   e=.returned (.slice (some ⟨w.heap.size,0,none⟩) (n+1) nc)/\w'=World.push {w with drawn:=q} (.cells (mS (xU ccs.toList off (n*sz)) (i*sz) (xU vcs.toList voff sz)++rest).toArray el)
 zero:∀(w:World) (base:Option Addr) (vb voff vc:Nat) (vcs:Array Value),w.heap[vb]? = some (.cells vcs el (0,0))->voff+sz<=vcs.size->(∀v∈xU vcs.toList voff sz,v.oneCell'=true)->
  Calls P f #[.slice base 0 0,.int .i64 0,.slice (some ⟨vb,voff,none⟩) 1 vc] w λe w'=>∃(nc q:Nat) (rest:List Value),1<=nc/\nc<qT/\rest.length=(nc-1)*sz/\w.drawn<=q/\
   e=.returned (.slice (some ⟨w.heap.size,0,none⟩) 1 nc)/\w'=World.push {w with drawn:=q} (.cells (xU vcs.toList voff sz++rest).toArray el)
structure DelW (P:Program) (f:FuncId) (el:TypeId) (sz:Nat) (z:List Value):Prop where
 zl:z.length=sz
 del:∀(w:World) (b off n c i:Nat) (ccs:Array Value),w.heap[b]? = some (.cells ccs el (0,0))->off+c*sz<=ccs.size->(∀v∈xU ccs.toList off (n*sz),v.oneCell'=true)->i<n->n<=c->c<qT->n<=2000000->
  Calls P f #[.slice (some ⟨b,off,none⟩) n c,.int .i64 i,.int .i64 (i+1:Nat)] w λe w'=>e=.returned (.slice (some ⟨b,off,none⟩) (n-1) c)/\
   ∃q,w.drawn<=q/\w'=World.segSet w b ccs off (uG (xU ccs.toList off (n*sz)) (i*sz) ((i+1)*sz)++z) q
section
variable{E:Env}{σ:zU}{H:AH}{w:World}{b rt el:Nat}{cs:List Value}{L:Loc}
theorem VRs.ins{l x v v':List Value}(h:VRs σ l x)(hv:VRs σ v v')(p:Nat):VRs σ (mS l p v) (mS x p v'):=(VRs.take p h).append (hv.append (VRs.drop p h))
theorem VRs.del{l x:List Value}(h:VRs σ l x)(p q:Nat):VRs σ (uG l p q) (uG x p q):=(VRs.take p h).append (VRs.drop q h)
theorem qBi(O:HR E σ H w)(U:H.blocks.get b=some ⟨.cells cs el,rt,true⟩)(N:σ b=some L){sz m:Nat}(u:∃o,E.types.get el=some o/\o.size=sz)(M:1<sz){old:List Value}(K:take? cs m=some old):∃ccs,w.heap[L.blk]? = some (.cells ccs el (0,0))/\L.sz=sz/\L.off%sz=0/\L.off+L.ext<=ccs.size/\m<=L.ext/\VRs σ old (xU ccs.toList L.off m)/\(∀v∈xU ccs.toList L.off m,v.oneCell'=true)/\∀v∈old,qE v=true:=by
 obtain⟨ccs,cel,fz,h1,⟨p,h3,Z⟩,X,h6,W,V⟩:=sU O U N;obtain⟨o,e1,e2⟩:=u;have hL:L.sz=sz:=by rw[W o e1,e2]
 have t:fz=(0,0):=by
  rcases p with p|⟨_,p⟩
  ·exact p
  omega
 subst t h3;obtain⟨A,t2⟩:=jF K;have q:old.length=m:=by rw[A,List.length_take];omega
 have e:(xU ccs.toList L.off m).length=m:=sR (by rw[Array.length_toList];omega);have x:∀(j:Nat) (v:Value),old[j]? = some v->qE v=true/\∃v',(xU ccs.toList L.off m)[j]? = some v'/\VR σ v v':=by
  intro j v y;have l:j<m:=by have:=(gI y).1;omega
  rw[A,List.getElem?_take_of_lt l]at y;obtain⟨J,v',G,C⟩:=V j v y;exact⟨J,v',by rw[qGx l,Array.getElem?_toList];exact G,C⟩
 have c:VRs σ old (xU ccs.toList L.off m):=.of_get (by rw[e,q]) λj v y=>(x j v y).2;have h:∀v∈old,qE v=true:=λv hv=>by obtain⟨j,y⟩:=List.getElem?_of_mem hv;exact(x j v y).1
 refine⟨ccs,h1,hL,by rw[←hL];exact Z,X,by omega,c,λv hv=>?_,h⟩;have B:=c.all_one;rw[show old.all qE=true from List.all_eq_true.2 h,List.all_eq_true]at B;rw[qIF];exact B v hv
theorem qGq(J:HR E σ H w)(x:σ H.next=none)(N:H.blocks.get b=some ⟨.cells cs el,rt,true⟩)(G:σ b=some L){sz:Nat}(o:∃e,E.types.get el=some e/\e.size=sz){ccs:Array Value}(O:w.heap[L.blk]? = some (.cells ccs el (0,0)))(hL:L.sz=sz)(M:L.off%sz=0)(B:L.off+L.ext<=ccs.size){new h rest:List Value}(hv:VRs σ new h)(p:∀v∈new,qE v=true)(V:h.length+rest.length<=L.ext){q:Nat}(K:w.drawn<=q):Step E σ H w (σ.add H.next L) (H.move b ⟨.cells cs el,rt,true⟩ (.cells new el)) (World.segSet w L.blk ccs L.off (h++rest) q):=by
 have y:(ccs.toList.take L.off++(h++rest)++ccs.toList.drop (L.off+(h++rest).length)).toArray.size=ccs.size:=by simp only[List.size_toArray,List.length_append,List.length_take,List.length_drop,Array.length_toList];omega
 have C:WSet w (World.segSet w L.blk ccs L.off (h++rest) q) L.blk (.cells (ccs.toList.take L.off++(h++rest)++ccs.toList.drop (L.off+(h++rest).length)).toArray el (0,0)):={WSet.setRow (cs:=(ccs.toList.take L.off++(h++rest)++ccs.toList.drop (L.off+(h++rest).length)).toArray) O with output:=⟨rfl,K⟩};refine Step.move J x N rfl (.inl ⟨G,C,rfl⟩) ⟨λ_=>⟨.inl rfl,rfl,by rw[hL];exact M⟩,by rw[y];exact B,by rw[←hv.length];omega,λe j=>?_,λi v u=>?_⟩
 ·obtain⟨A,c,t⟩:=o;rw[j]at c;cases c;rw[hL,t]
 refine⟨p v (List.mem_of_getElem? u),?_⟩;obtain⟨v',c,t⟩:=hv.get i v u;refine⟨v',?_,t.mono (zU.add_le x)⟩;have l:i<h.length:=(gI c).1;rw[←Array.getElem?_toList];show(ccs.toList.take L.off++(h++rest)++_)[L.off+i]? = _;have U:(ccs.toList.take L.off).length=L.off:=by rw[List.length_take,Array.length_toList];omega
 rw[List.append_assoc,List.getElem?_append_right (by omega),U,Nat.add_sub_cancel_left,List.append_assoc,List.getElem?_append_left l];exact c
theorem qKi(y:σ H.next=none){sz x k:Nat}(p:∃e,E.types.get el=some e/\e.size=sz){new h rest:List Value}(hv:VRs σ new h)(q:∀v∈new,qE v=true)(G:new.length=k*sz)(J:k<=x)(l:rest.length=(x-k)*sz):oA E (σ.add H.next ⟨w.heap.size,0,x*sz,sz⟩) ⟨w.heap.size,0,x*sz,sz⟩ true (.cells new el) (.cells (h++rest).toArray el (0,0)):=by
 have C:x*sz=k*sz+(x-k)*sz:=by rw[←Nat.add_mul];congr 1;omega
 have B:=hv.length;refine⟨λ_=>⟨.inl rfl,rfl,Nat.zero_mod _⟩,?_,?_,λe j=>?_,λi v u=>?_⟩
 ·simp only[List.size_toArray,List.length_append];omega
 ·show new.length<=x*sz;omega
 ·obtain⟨A,c,t⟩:=p;rw[j]at c;cases c;exact t.symm
 refine⟨q v (List.mem_of_getElem? u),?_⟩;obtain⟨v',c,t⟩:=hv.get i v u;refine⟨v',?_,t.mono (zU.add_le y)⟩;have o:i<h.length:=(gI c).1;rw[←Array.getElem?_toList];show(h++rest)[0+i]? = _;rw[Nat.zero_add,List.getElem?_append_left o];exact c
theorem qGs(o:HR E σ H w)(h:σ H.next=none)(A:H.blocks.get b=some ⟨.cells cs el,rt,true⟩){sz c k:Nat}(e:∃l,E.types.get el=some l/\l.size=sz){new x rest:List Value}(hv:VRs σ new x)(j:∀v∈new,qE v=true)(t:new.length=k*sz)(u:k<=c)(y:rest.length=(c-k)*sz){q:Nat}(p:w.drawn<=q):
  Step E σ H w (σ.add H.next ⟨w.heap.size,0,c*sz,sz⟩) (H.move b ⟨.cells cs el,rt,true⟩ (.cells new el)) (World.push {w with drawn:=q} (.cells (x++rest).toArray el)):=
 (Step.drew o p).trans (Step.move (L:=⟨w.heap.size,0,c*sz,sz⟩) (Step.drew o p).hr h A rfl (.inr ⟨rfl,rfl⟩) (qKi (w:=w) h e hv j t u y))
theorem qM5(o:HR E σ H w)(h:σ H.next=none){sz c k:Nat}(e:∃l,E.types.get el=some l/\l.size=sz){new x rest:List Value}(hv:VRs σ new x)(j:∀v∈new,qE v=true)(t:new.length=k*sz)(u:k<=c)(y:rest.length=(c-k)*sz){q:Nat}(p:w.drawn<=q):
  Step E σ H w (σ.add H.next ⟨w.heap.size,0,c*sz,sz⟩) (H.new (.cells new el)) (World.push {w with drawn:=q} (.cells (x++rest).toArray el)):=
 (Step.drew o p).trans (Step.new (Step.drew o p).hr h (.cells new el) _ ⟨w.heap.size,0,c*sz,sz⟩ rfl (qKi (w:=w) h e hv j t u y))
theorem qIg{B l h sz x:Nat}{X:Loc}(y:X=⟨x,0,h*sz,sz⟩)(j:l<=h)(e:h<qT):VR (σ.add B X) (.slice (some ⟨B,0,none⟩) l qT) (.slice (some ⟨x,0,none⟩) l h):=by subst y;have:=VR.sliceX (σ:=σ.add B ⟨x,0,h*sz,sz⟩) (b:=B) (i:=0) (l:=l) (c:=h) zU.add_self j e (Nat.zero_add _);exact this
theorem qMT{B l c sz:Nat}(hL:L.sz=sz)(h:0+c*L.sz=L.ext)(y:l<=c)(x:c<qT):VR (σ.add B L) (.slice (some ⟨B,0,none⟩) l qT) (.slice (some ⟨L.blk,L.off,none⟩) l c):=by have:=VR.sliceX (σ:=σ.add B L) (b:=B) (i:=0) (l:=l) (c:=c) zU.add_self y x h;exact this
end
section
variable{E:Env}{f:FuncId}{el sz:Nat}{H:AH}{VB n i rt vrt:Nat}{cs vcs old nw z:List Value}
theorem qEY{σ:zU}{B n:Nat}{v:Value}(h:VR σ (.slice (some ⟨B,0,none⟩) n qT) v):(∃(L:Go.Am.Loc) (c:Nat),σ B=some L/\v=.slice (some ⟨L.blk,L.off,none⟩) n c/\n<=c/\c<qT/\0+c*L.sz=L.ext)∨(n=0/\∃a,v=.slice (some a) 0 0):=by
 cases h with
 |leaf h=>simp[zX]at h
 |sliceE x _ h3=>exact(Nat.lt_irrefl qT h3).elim
 |sliceX x e h3 y=>exact .inl ⟨_,_,x,rfl,e,h3,y⟩
 |sliceZ x=>exact .inr ⟨rfl,_,rfl⟩
theorem qEZ{σ:zU}{k:IntKind}{x:Int}{v:Value}(h:VR σ (.int k x) v):v=.int k x:=by cases h;rfl
theorem qOq(hI:InsW E.prog f el sz)(y:∃ti,E.types.get el=some ti/\ti.size=sz)(J:1<sz){B:Nat}(W:H.blocks.get B=some ⟨.cells cs el,rt,true⟩)(G:H.blocks.get VB=some ⟨.cells vcs el,vrt,true⟩)(hne:VB≠B)(ht:take? cs (n*sz)=some old)(hv:take? vcs sz=some nw)(o:i<=n)(hn:n<=2000000):vU E f [.slice (some ⟨B,0,none⟩) n qT,.int .i64 i,.slice (some ⟨VB,0,none⟩) 1 qT] H (.slice (some ⟨H.next,0,none⟩) (n+1) qT) (H.move B ⟨.cells cs el,rt,true⟩ (.cells (mS old (i*sz) nw) el)):=by
 intro σ w args' u hvr p;have t:σ H.next=none:=p.head (Nat.lt_succ_self _);cases hvr with
 | cons h1 K=>cases K with
  | cons h2 K=>cases K with
   | cons h3 K=>
    cases K;cases qEZ h2;obtain⟨j,c2,X,rfl,_,_,_⟩:=(qEY h3).resolve_right (by omega);obtain⟨v2,a1,a2,a3,a4,a5,a6,a7,a8⟩:=qBi u G X y J hv;have N:nw.length=sz:=by rw[(jF hv).1,List.length_take];have:=(jF hv).2;omega
    have hol:old.length=n*sz:=by rw[(jF ht).1,List.length_take];have:=(jF ht).2;omega
    have hle:i*sz<=n*sz:=Nat.mul_le_mul_right _ o;have U:(mS old (i*sz) nw).length=(n+1)*sz:=by rw[qHb (by omega),N,hol,Nat.succ_mul]
    have M:(∀v∈old,qE v=true)->∀v∈mS old (i*sz) nw,qE v=true:=λZ v C=>by
     unfold mS at C;rcases List.mem_append.1 C with h|h
     ·exact Z v (List.mem_of_mem_take h)
     rcases List.mem_append.1 h with h|h
     ·exact a8 v h
     exact Z v (List.mem_of_mem_drop h)
    have hz:∀a,n=0->Calls E.prog f ⟨[.slice (some a) 0 0,.int .i64 i,.slice (some ⟨j.blk,j.off,none⟩) 1 c2]⟩ w λe w'=>∃A v',e=.returned v'/\VR A (.slice (some ⟨H.next,0,none⟩) (n+1) qT) v'/\Step E σ H w A (H.move B ⟨.cells cs el,rt,true⟩ (.cells (mS old (i*sz) nw) el)) w':=by
     intro a h0;subst h0;have hi0:i=0:=by omega
     subst hi0;refine(hI.zero w (some a) j.blk j.off c2 v2 a1 (by omega) a7).mono ?_;rintro e w' ⟨nc,q,rest,e1,e2,e3,e4,rfl,rfl⟩;have Z:old=[]:=List.length_eq_zero_iff.1 (by omega);subst Z;have O:mS [] (0*sz) nw=nw:=by simp[mS]
     rw[O];exact⟨_,_,rfl,qIg rfl e1 e2,qGs u t W y a6 a8 (by rw[N,Nat.one_mul]) e1 e3 e4⟩
    rcases qEY h1 with⟨L,c,hL,rfl,e1,e2,e3⟩|⟨h0,a,rfl⟩
    ·obtain⟨ccs,b1,b2,b3,b4,b5,b6,b7,b8⟩:=qBi u W hL y J ht;have l:=b6.ins a6 (i*sz);have V:j.blk≠L.blk:=u.sep VB B _ _ j L G W rfl X hL hne;have hext:c*sz=L.ext:=by rw[←e3,b2,Nat.zero_add]
     by_cases x:n+1<=c
     ·refine(hI.room w L.blk L.off n c i j.blk j.off c2 ccs v2 b1 a1 V (by omega) (by omega) b7 a7 o x e2 hn).mono ?_;rintro e w' ⟨rfl,q,hq,rfl⟩;refine⟨σ.add H.next L,_,rfl,qMT b2 e3 x e2,?_⟩;have:=qGq (rest:=[]) u t W hL y b1 b2 b3 b4 l (M b8) (by rw[l.length,U];have:(n+1)*sz<=c*sz:=Nat.mul_le_mul_right _ x;simp only[List.length_nil];omega) hq;rwa [List.append_nil]at this
     have hc:n=c:=by omega
     refine(hI.grow w L.blk L.off n c i j.blk j.off c2 ccs v2 b1 a1 (by omega) (by omega) b7 a7 o hc hn).mono ?_;rintro e w' ⟨nc,q,rest,f1,f2,f3,f4,rfl,rfl⟩;exact⟨_,_,rfl,qIg rfl f1 f2,qGs u t W y l (M b8) U f1 f3 f4⟩
    exact hz a h0
theorem qRd(X:InsW E.prog f el sz)(l:∃M,E.types.get el=some M/\M.size=sz)(A:1<sz)(u:H.blocks.get VB=some ⟨.cells vcs el,vrt,true⟩)(hv:take? vcs sz=some nw){s:Value}(B:s=.slice none 0 0∨∃a,s=.slice (some a) 0 0):vU E f [s,.int .i64 (0:Nat),.slice (some ⟨VB,0,none⟩) 1 qT] H (.slice (some ⟨H.next,0,none⟩) 1 qT) (H.new (.cells nw el)):=by
 intro σ w K N t y;have G:σ H.next=none:=y.head (Nat.lt_succ_self _);cases t with
 | cons o j=>cases j with
  | cons O j=>cases j with
   |cons h3 j=>
    cases j;cases qEZ O;obtain⟨p,V,J,rfl,_,_,_⟩:=(qEY h3).resolve_right (by omega);obtain⟨W,a1,a2,a3,a4,a5,a6,a7,a8⟩:=qBi N u J l A hv;have C:nw.length=sz:=by rw[(jF hv).1,List.length_take];have:=(jF hv).2;omega
    have x:∀base,Calls E.prog f ⟨[.slice base 0 0,.int .i64 (0:Nat),.slice (some ⟨p.blk,p.off,none⟩) 1 V]⟩ w λe w'=>∃c v',e=.returned v'/\VR c (.slice (some ⟨H.next,0,none⟩) 1 qT) v'/\Step E σ H w c (H.new (.cells nw el)) w':=by intro base;refine(X.zero w base p.blk p.off V W a1 (by omega) a7).mono ?_;rintro e w' ⟨nc,q,rest,U,e2,e3,Z,rfl,rfl⟩;exact⟨_,_,rfl,qIg rfl U e2,qM5 N G l a6 a8 (by rw[C,Nat.one_mul]) U e3 Z⟩
    rcases B with rfl|⟨a,rfl⟩
    ·cases o;exact x none
    cases o with
    |leaf h=>simp[zX]at h
    |sliceE o O h3=>exact x _
    |sliceZ o=>exact x _
theorem qPj(U:DelW E.prog f el sz z)(o:∃K,E.types.get el=some K/\K.size=sz)(u:1<sz){B:Nat}(O:H.blocks.get B=some ⟨.cells cs el,rt,true⟩)(t:take? cs (n*sz)=some old)(l:i<n)(hn:n<=2000000):vU E f [.slice (some ⟨B,0,none⟩) n qT,.int .i64 i,.int .i64 (i+1:Nat)] H (.slice (some ⟨H.next,0,none⟩) (n-1) qT) (H.move B ⟨.cells cs el,rt,true⟩ (.cells (uG old (i*sz) ((i+1)*sz)) el)):=by
 intro σ w J M p x;have C:σ H.next=none:=x.head (Nat.lt_succ_self _);cases p with
 | cons h1 j=>cases j with
  | cons h2 j=>cases j with
   | cons h3 j=>
    cases j;cases qEZ h2;cases qEZ h3;have A:old.length=n*sz:=by rw[(jF t).1,List.length_take];have:=(jF t).2;omega
    obtain⟨L,c,hL,rfl,X,W,V⟩:=(qEY h1).resolve_right (by omega);obtain⟨ccs,b1,G,b3,b4,b5,b6,b7,Z⟩:=qBi M O hL o u t;have N:c*sz=L.ext:=by rw[←V,G,Nat.zero_add]
    have hcn:n*sz<=c*sz:=Nat.mul_le_mul_right _ X;have hi1:(i+1)*sz<=n*sz:=Nat.mul_le_mul_right _ l;have hi2:(i+1)*sz=i*sz+sz:=Nat.succ_mul _ _;refine(U.del w L.blk L.off n c i ccs b1 (by omega) b7 l X W hn).mono ?_;rintro e w' ⟨rfl,q,hq,rfl⟩;refine⟨_,_,rfl,qMT G V (by omega) W,qGq M C O hL o b1 G b3 b4 (b6.del _ _) (λv y=>?_) ?_ hq⟩
    ·unfold uG at y;rcases List.mem_append.1 y with h|h
     ·exact Z v (List.mem_of_mem_take h)
     exact Z v (List.mem_of_mem_drop h)
    rw[(b6.del _ _).length,qHJ (by omega) (by omega),A,U.zl];omega
end
section
variable{P:Program}
theorem gD(w:World)(A B ty h:TypeId)(k b o y l:Nat)(a:Addr)(x c m:Nat)(cs:List Value)(hu:P.underlying A=some (.slice h))(t:(P.info? h).map (·.size)=some k)(G:Nat.min x y=m)(C:cs.length=m*k)(e:∀j v,cs[j]? = some v->w.cell? (a.add j)=some v)(M:∀j,j<cs.length->(w.cell? ⟨b,o+j,none⟩).isSome=true)(K:∀j,j<cs.length->w.frozen? ⟨b,o+j,none⟩=false)(N:∀v∈cs,v.oneCell'=true):(Builtin.copy_ #[A,B] ty #[.slice (some ⟨b,o,none⟩) y l,.slice (some a) x c]).run P w=.ok (goInt m) (w.setCells b o cs):=by
 have u:=run_loadCells_list (P:=P) w a cs e;have p:=run_storeCells_cells (P:=P) b o cs 0 w (by simpa using M) (by simpa using K) N;rw[C]at u;subst G;cases q:P.info? h with
 |none=>simp[q]at t
 |some i=>
  have J:i.size=k:=by simpa[q]using t
  simp[Builtin.copy_,run_underlying hu,Builtin.lenOf,Builtin.firstCells,sizeOf,typeInfo,q,J,u,p]
theorem uW(w:World)(t e ty:TypeId)(z:Value)(p:P.underlying t=some (.slice e))(hv:∀w,(zeroValue e).run P w=.ok z w)(l:∀v∈z.cells.toList,v.oneCell'=true)(b o n c:Nat)(q:n=1)(A:∀j,j<z.cells.size->(w.cell? ⟨b,o+j,none⟩).isSome=true)(u:∀j,j<z.cells.size->w.frozen? ⟨b,o+j,none⟩=false):(Builtin.clear_ #[t] ty #[.slice (some ⟨b,o,none⟩) n c]).run P w=.ok (.tuple #[]) (w.setCells b o z.cells.toList):=by
 subst q;have y:(Builtin.zeroCells z.cells 1).toList=z.cells.toList:=by
  generalize z.cells=a;apply List.ext_getElem
  ·simp[Builtin.zeroCells]
  intro i l B;have x:i<a.size:=by simpa using B
  simp[Builtin.zeroCells,Nat.mod_eq_of_lt x,x]
 have h:=run_storeCells_cells (P:=P) b o z.cells.toList 0 w (by simpa using A) (by simpa using u) l;simp only[Nat.add_zero]at h;simp[Builtin.clear_,run_underlying p,hv,y,h]
theorem oH(P:Program){w:World}{g o:Nat}{t:TypeId}{cur:Array Value}{vs:List Value}(h:w.heap[g]? = some (.cells cur t (0,0)))(e:o+vs.length<=cur.size)(c:∀v∈vs,v.oneCell'=true):w.setCells g o vs=w.setRow g (cur.toList.take o++vs++cur.toList.drop (o+vs.length)).toArray:=by
 have p:∀j,o+j<cur.size->(w.cell? ⟨g,o+j,none⟩).isSome=true:=λj y=>by simp[World.cell?,h,y]
 have l:∀j,w.frozen? ⟨g,o+j,none⟩=false:=λj=>by simp[World.frozen?,h]
 have q:=run_storeCells_cells (P:=P) g o vs 0 w (λj y=>by simpa using p j (by omega)) (λj _=>by simpa using l j) c;have x:=wL P g o t (0,0) vs 0 cur w h (.inl rfl) (by simpa using e) c;rw[q]at x;simp only[Nat.add_zero]at x;injection x
end
section
variable{α:Type}
theorem qQu{L x y:List α}{o:Nat}(h:o+x.length+y.length<=L.length):(L.take o++x++L.drop (o+x.length)).take (o+x.length)++y++(L.take o++x++L.drop (o+x.length)).drop (o+x.length+y.length)=L.take o++(x++y)++L.drop (o+(x++y).length):=by
 have e:(L.take o++x).length=o+x.length:=by rw[List.length_append,List.length_take,Nat.min_eq_left (by omega)]
 rw[List.take_append_of_le_length (by omega),List.take_of_length_le (by omega),List.drop_append,e,List.drop_of_length_le (by omega),List.nil_append,List.drop_drop,List.length_append];simp only[List.append_assoc]
 congr 4
 omega
theorem qNw{L y x:List α}{o:Nat}(h:o+y.length+x.length<=L.length):(L.take (o+x.length)++y++L.drop (o+x.length+y.length)).take o++x++(L.take (o+x.length)++y++L.drop (o+x.length+y.length)).drop (o+x.length)=L.take o++(x++y)++L.drop (o+(x++y).length):=by
 have e:(L.take (o+x.length)).length=o+x.length:=by rw[List.length_take,Nat.min_eq_left (by omega)]
 have j:(L.take (o+x.length)++y++L.drop (o+x.length+y.length)).take o=L.take o:=by rw[List.append_assoc,List.take_append_of_le_length (by omega),List.take_take,Nat.min_eq_left (by omega)]
 have c:(L.take (o+x.length)++y++L.drop (o+x.length+y.length)).drop (o+x.length)=y++L.drop (o+x.length+y.length):=by rw[List.append_assoc,List.drop_append_of_le_length (by omega),List.drop_of_length_le (by omega),List.nil_append]
 rw[j,c,List.length_append,Nat.add_assoc];simp only[List.append_assoc]
theorem qCa{L:List Value}{off p:Nat}{v:List Value}(h:off+p<=L.length):L.take (off+p)++v++L.drop (off+p+v.length)=L.take off++(xU L off p++v)++L.drop (off+(xU L off p++v).length):=by rw[List.length_append,sR h,←Nat.add_assoc];unfold xU;rw[List.take_add];simp only[List.append_assoc]
theorem qDX{L:List Value}{off n p:Nat}(h:p<=n):(xU L off n).take p=xU L off p:=by unfold xU;rw[List.take_take,Nat.min_eq_left h]
theorem qGG{w:World}{A B:Array Value}{el:TypeId}{x:Nat×Nat}:(World.push w (.cells A el x)).setRow w.heap.size B=World.push w (.cells B el x):=by
 unfold World.setRow World.push
 congr 1
 refine Array.ext_getElem? λi=>?_;simp only[Array.getElem?_modify,Array.getElem?_push];by_cases h:w.heap.size=i
 ·subst h;simp
 simp[h,Ne.symm h]
end
section
variable{P:Program}
theorem step_copy_runK{ops:Array Oper}{o:Oper}{a:Act}{w:World}{K:Act->World->Prop}{Q:Exit->Act->World->Prop}{E:Prop}(l:o.guard=none)(d x:Operand)(c y:TypeId)(h:o.op=Op.call {callee:=Callee.builtin Builtin.copy,args:=#[d,x],argTypes:=#[c,y]})(v u:Value)(hd:a.eval d=v)(e:a.eval x=u){v':Value}{w':World}(hr:(Builtin.copy_ #[c,y] o.type #[v,u]).run P w=.ok v' w')(p:K (a.put o.dst v') w'):
  if Region.wanted o (yielded ops a.tmps)=true then Oper.wp P o a w K Q else E:=by
 have j:Region.wanted o (yielded ops a.tmps)=true:=by simp[Region.wanted,l]
 rw[if_pos j]
 unfold Oper.wp
 simp[execOp,h,resolve,invoke,builtin,hd,e,hr,Result.andThen]
 exact p
end
section
theorem qXD(P:Program){w:World}{g o:Nat}{t:TypeId}{cur:Array Value}{v1 h:List Value}(y:w.heap[g]? = some (.cells cur t (0,0)))(c:o+v1.length+h.length<=cur.size)(j:∀v∈v1,v.oneCell'=true)(e:∀v∈h,v.oneCell'=true):(w.setCells g o v1).setCells g (o+v1.length) h=w.setRow g (cur.toList.take o++(v1++h)++cur.toList.drop (o+(v1++h).length)).toArray:=by
 have x:o+v1.length+h.length<=cur.toList.length:=by rw[Array.length_toList];exact c
 rw[oH P y (by omega) j,oH P (setRow_heap w g cur _ t (0,0) y) (by simp only[List.size_toArray,List.length_append,List.length_take,List.length_drop];omega) e,setRow_setRow,qQu x]
theorem qXC(P:Program){w:World}{g o:Nat}{t:TypeId}{cur:Array Value}{v1 h:List Value}(y:w.heap[g]? = some (.cells cur t (0,0)))(c:o+v1.length+h.length<=cur.size)(j:∀v∈v1,v.oneCell'=true)(e:∀v∈h,v.oneCell'=true):(w.setCells g (o+h.length) v1).setCells g o h=w.setRow g (cur.toList.take o++(h++v1)++cur.toList.drop (o+(h++v1).length)).toArray:=by
 have x:o+v1.length+h.length<=cur.toList.length:=by rw[Array.length_toList];exact c
 rw[oH P y (by omega) j,oH P (setRow_heap w g cur _ t (0,0) y) (by simp only[List.size_toArray,List.length_append,List.length_take,List.length_drop];omega) e,setRow_setRow,qNw x]
theorem qHG(b:Nat):∀(vs:List Value) (o:Nat) (w:World),(w.setCells b o vs).drew=w.drew.setCells b o vs
 | [],_,_=>rfl
 |v::r,o,w=>by rw[World.setCells,World.setCells,qHG b r];rfl
end
theorem qJL{H:AH}{b:Nat}{k:ABlk}{x:AObj}(h:WF H)(l:H.blocks.get b=some k):WF (H.move b k x):=λc k' y=>by
 rw[AH.get_move]at y
 have o:=h b k l
 by_cases e:c=H.next
 ·subst e;rw[if_pos rfl]at y;cases y;exact⟨by show k.root<=_;omega,Nat.lt_succ_self _⟩
 rw[if_neg e]at y
 by_cases j:c=b
 ·rw[if_pos j]at y;cases y
 rw[if_neg j]at y
 have:=h c k' y
 exact⟨this.1,Nat.lt_succ_of_lt this.2⟩
theorem qP0{H:AH}{x:AObj}(h:WF H):WF (H.new x):=λc k' y=>by
 rw[AH.get_new]at y
 by_cases e:c=H.next
 ·subst e;rw[if_pos rfl]at y;cases y;exact⟨lR _,Nat.lt_succ_self _⟩
 rw[if_neg e]at y
 have:=h c k' y
 exact⟨this.1,Nat.lt_succ_of_lt this.2⟩
theorem qBT{L:Lim}{H:AH}{g:zB}{d:D}{v:Value}{lb:Nat->Nat}(q:WF H)(t:zB.le g H.blocks.get)(y:L.base H.next)(J:d.one=true)(A:kW g H.blocks.get {L with F:=[]} d v)(u:∀B,vR v=some B->g B=none):
  SM {L with F:=[]} ((⟨[⟨.fresh,true⟩],[(0,.v 0)],[],[]⟩:Pat).st 0) [d] (λ_=>v) lb g H where
 len:=rfl
 wf:=q
 mem:=t
 base:=y
 fix:=⟨lR _,λk a e=>by simp at e⟩
 vars i s p:=by
  cases i with
  |zero=>
   cases p
   exact⟨λ_=>J,A⟩
  |succ i=>cases p
 blks b x h:=by cases b<;>cases h
 sepLG b y:=by obtain⟨x,h⟩:=y;cases b<;>cases h
 sepFG i B _ G:=u B G
 sepL a b C _ _:=by obtain⟨x,h⟩:=C;cases a<;>cases h
 sepF i j B l c _ _:=by
  obtain⟨o,l⟩:=zC.1 l
  obtain⟨K,c⟩:=zC.1 c
  cases i with
  |zero=>cases j with
   |zero=>rfl
   |succ j=>cases c
  |succ i=>cases l
 sepX b i y _:=by obtain⟨x,h⟩:=y;cases b<;>cases h
def qXX:Go.Am.Mode:=⟨⟨[⟨.fresh,true⟩,⟨.pure,false⟩,⟨.fresh,true⟩],[(0,.v 0),(1,.v 1),(2,.v 2)],[],[]⟩,3,⟨[⟨.fresh,true⟩],[(0,.v 0)],[],[]⟩⟩
def qXY:Go.Am.Mode:=⟨⟨[⟨.fresh,true⟩,⟨.pure,false⟩,⟨.pure,false⟩],[(0,.v 0),(1,.v 1),(2,.v 2)],[],[]⟩,3,⟨[⟨.fresh,true⟩],[(0,.v 0)],[],[]⟩⟩
theorem qTH{args:List Value}{ve:Nat->Value}(j:args.length=3)(h:∀i,i<3->(T.ofList .leaf 0 args).get i=some (ve i)):args=[ve 0,ve 1,ve 2]:=by
 match args,j with
 | [a,b,c],_=>have e:=h 0 (by omega);have y:=h 1 (by omega);have x:=h 2 (by omega);rw[rI]at e y x;cases e;cases y;cases x;rfl
section
variable{E:Env}{f:FuncId}{el sz:Nat}{es:List D}{r:D}{i:Nat}{z:List Value}
theorem qOpz(hf:∃fn,E.funcs.get f=some fn)(hI:InsW E.prog f el sz)(N:∃ti,E.types.get el=some ti/\ti.size=sz)(G:1<sz)(J:∀e∈es,e.cells.length=sz)(hr:r.cells.length=sz)(M:i<=es.length)(hn:es.length<=2000000):Holds E (Nat.add gM f) (.mode qXX::[.sl el sz es,.leaf (.int .i64 i),.sl el sz [r]]) (xN [.sl el sz (es.take i++r::es.drop i)]):=by
 refine .inr ⟨f,qXX,_,rfl,rfl,hf,_,rfl,rfl,λL H g ve lb U x K _=>?_⟩;have A:U=[ve 0,ve 1,ve 2]:=qTH K λi M=>by
  match i,M with
  |0,_=>exact(x.slots 0 (.v 0) rfl).2
  |1,_=>exact(x.slots 1 (.v 1) rfl).2
  |2,_=>exact(x.slots 2 (.v 2) rfl).2
 subst A;have hes:∀e∈es.take i++r::es.drop i,e.cells.length=sz:=λe he=>by
  rcases List.mem_append.1 he with h|h
  ·exact J e (List.mem_of_mem_take h)
  rcases List.mem_cons.1 h with rfl|h
  ·exact hr
  exact J e (List.mem_of_mem_drop h)
 have X:(es.take i++r::es.drop i).length=es.length+1:=by rw[List.length_append,List.length_take,List.length_cons,List.length_drop];omega
 have h0:kW g H.blocks.get L (.sl el sz es) (ve 0):=(x.vars 0 _ rfl).2;have h1:DR g (.leaf (.int .i64 i)) (ve 1):=(x.vars 1 _ rfl).2;have h2:kW g H.blocks.get L (.sl el sz [r]) (ve 2):=(x.vars 2 _ rfl).2;have e1:ve 1=.int .i64 i:=h1.leaf_inv.1;have p:g H.next=none:=by
  cases hg:g H.next with
  |none=>rfl
  |some k=>exact absurd (x.wf _ _ (x.mem _ _ hg)).2 (Nat.lt_irrefl _)
 rcases h2 with q|⟨VB,l2,cs2,y,el2,rt2,sz2,es2,o⟩|⟨_,_,_,_,_,_,q⟩
 ·rcases q.sl with h|⟨_,_,h⟩<;>cases h
 rotate_left 1
 ·cases q.d
 cases o.d;have hl2:1=l2:=o.n;subst hl2;have t:=o.t;rw[Nat.one_mul]at t;have u:DRs g r.cells y:=by have:=o.r;simpa using this
 have C:y.length=sz:=by rw[u.length,hr]
 rcases h0 with q|⟨B,l,cs,vs,zS,rt,sz',es',c⟩|⟨_,_,_,_,_,_,q⟩
 rotate_left 2
 ·cases q.d
 ·
  -- none
  have h0:es=[]:=by
   rcases q.sl with h|⟨_,_,h⟩
   ·cases h
   injection h
  subst h0;have hi0:i=0:=Nat.le_zero.1 M;subst hi0;have W:ve 0=.slice none 0 0∨∃a,ve 0=.slice (some a) 0 0:=by
   rcases q with⟨h,_⟩|⟨_,h⟩
   ·exact .inl h
   exact .inr h
  refine⟨.slice (some ⟨H.next,0,none⟩) 1 qT,H.new (.cells y el),g,λ_=>.slice (some ⟨H.next,0,none⟩) 1 qT,?_,Nat.lt_succ_self _,qBT (qP0 x.wf) (λb k j=>?_) (x.base.mono (Nat.le_succ _)) rfl (.inr (.inl ⟨H.next,1,y,y,el,H.next,sz,[r],rfl,rfl,?_,x.base.new,?_,?_,rfl,?_,by decide,o.o⟩)) (λB O=>?_),λb j=>?_,λ_ _=>rfl,?_,rfl⟩
  ·rw[e1,o.v];exact qRd hI N G o.b t W
  ·rw[AH.get_new,if_neg (λe=>by rw[e,p]at j;cases j)];exact x.mem _ _ j
  ·rw[AH.get_new,if_pos rfl]
  ·rw[Nat.one_mul,xI (by omega),List.take_of_length_le (by omega)]
  ·simpa using u
  ·exact λe he=>by rw[List.mem_singleton.1 he];exact hr
  ·cases(show some H.next=some B from O);exact p
  ·rw[AH.get_new,if_neg (λe=>Nat.lt_irrefl _ (by have:=x.base.2 b j;rwa [e]at this))]
  exact Nat.min_le_left _ _
 cases c.d;have Z:VB≠B:=λe=>by have:=x.sepF 2 0 B rfl rfl (by rw[o.v,e];simp[vR]) (by rw[c.v];simp[vR]);cases this
 have hl:l=es.length:=c.n.symm;subst hl;have V:vs.length=es.length*sz:=by rw[c.r.length,gV J]
 have hle:i*sz<=es.length*sz:=Nat.mul_le_mul_right _ M;have hdr:DRs g ((es.take i++r::es.drop i).flatMap D.cells) (mS vs (i*sz) y):=by rw[List.flatMap_append,List.flatMap_cons,←gU J,←kP J];exact(DRs.take _ c.r).append (u.append (DRs.drop _ c.r))
 have hil:(mS vs (i*sz) y).length=(es.length+1)*sz:=by rw[qHb (by omega),V,C,Nat.succ_mul]
 refine⟨.slice (some ⟨H.next,0,none⟩) (es.length+1) qT,H.move B ⟨.cells cs el,rt,true⟩ (.cells (mS vs (i*sz) y) el),g,λ_=>.slice (some ⟨H.next,0,none⟩) (es.length+1) qT,?_,Nat.lt_succ_self _,qBT (qJL x.wf c.b) (λb k j=>?_) (x.base.mono (Nat.le_succ _)) rfl (.inr (.inl ⟨H.next,es.length+1,mS vs (i*sz) y,mS vs (i*sz) y,el,rt,sz,_,rfl,rfl,?_,?_,?_,hdr,X,hes,by unfold qT;omega,?_⟩)) (λB O=>?_),λb j=>?_,λ_ _=>rfl,?_,rfl⟩
 ·rw[e1,o.v,c.v];exact qOq hI N G c.b o.b Z c.t t M hn
 ·have O:g B=none:=x.sepFG 0 B rfl (by rw[c.v];simp[vR]);rw[AH.get_move,if_neg (λe=>by rw[e,p]at j;cases j),if_neg (λe=>by rw[e,O]at j;cases j)];exact x.mem _ _ j
 ·rw[AH.get_move,if_pos rfl]
 ·exact⟨c.rt.1,λhk=>Nat.lt_irrefl _ (x.base.2 _ hk)⟩
 ·rw[xI (by omega),List.take_of_length_le (by omega)]
 ·rw[List.all_eq_true];intro v hv;unfold mS at hv;have a1:=List.all_eq_true.1 c.o;have a2:=List.all_eq_true.1 o.o;rcases List.mem_append.1 hv with h|h
  ·exact a1 v (List.mem_of_mem_take h)
  rcases List.mem_append.1 h with h|h
  ·exact a2 v h
  exact a1 v (List.mem_of_mem_drop h)
 ·cases(show some H.next=some B from O);exact p
 ·rw[AH.get_move,if_neg (λe=>Nat.lt_irrefl _ (by have:=x.base.2 b j;rwa [e]at this)),if_neg (λe=>c.rt.2 (by rw[←e];exact j))]
 exact Nat.le_min.2 ⟨Nat.min_le_left _ _,lT (Nat.min_le_right _ _) c.rt.1⟩
theorem qPi(hf:∃fn,E.funcs.get f=some fn)(hD:DelW E.prog f el sz z)(M:∃V,E.types.get el=some V/\V.size=sz)(G:1<sz)(o:∀e∈es,e.cells.length=sz)(u:i<es.length)(Z:es.length<=2000000):Holds E (Nat.add gM f) (.mode qXY::[.sl el sz es,.leaf (.int .i64 i),.leaf (.int .i64 (i+1:Nat))]) (xN [.sl el sz (es.take i++es.drop (i+1))]):=by
 refine .inr ⟨f,qXY,_,rfl,rfl,hf,_,rfl,rfl,λL H g ve lb A x t _=>?_⟩;have j:A=[ve 0,ve 1,ve 2]:=qTH t λi u=>by
  match i,u with
  |0,_=>exact(x.slots 0 (.v 0) rfl).2
  |1,_=>exact(x.slots 1 (.v 1) rfl).2
  |2,_=>exact(x.slots 2 (.v 2) rfl).2
 subst j;have K:∀e∈es.take i++es.drop (i+1),e.cells.length=sz:=λe he=>by
  rcases List.mem_append.1 he with h|h
  ·exact o e (List.mem_of_mem_take h)
  exact o e (List.mem_of_mem_drop h)
 have J:(es.take i++es.drop (i+1)).length=es.length-1:=by rw[List.length_append,List.length_take,List.length_drop];omega
 have U:kW g H.blocks.get L (.sl el sz es) (ve 0):=(x.vars 0 _ rfl).2;have h1:DR g (.leaf (.int .i64 i)) (ve 1):=(x.vars 1 _ rfl).2;have h2:DR g (.leaf (.int .i64 (i+1:Nat))) (ve 2):=(x.vars 2 _ rfl).2;have e1:ve 1=.int .i64 i:=h1.leaf_inv.1;have e2:ve 2=.int .i64 (i+1:Nat):=h2.leaf_inv.1;have p:g H.next=none:=by
  cases hg:g H.next with
  |none=>rfl
  |some k=>exact absurd (x.wf _ _ (x.mem _ _ hg)).2 (Nat.lt_irrefl _)
 rcases U with q|⟨B,l,cs,vs,zS,rt,W,es',y⟩|⟨_,_,_,_,_,_,q⟩
 rotate_left 2
 ·cases q.d
 ·have U:es=[]:=by
   rcases q.sl with h|⟨_,_,h⟩
   ·cases h
   injection h
  subst U
  cases u
 cases y.d;have hl:l=es.length:=y.n.symm;subst hl;have C:vs.length=es.length*sz:=by rw[y.r.length,gV o]
 have hle:(i+1)*sz<=es.length*sz:=Nat.mul_le_mul_right _ u;have X:(i+1)*sz=i*sz+sz:=Nat.succ_mul _ _;have N:DRs g ((es.take i++es.drop (i+1)).flatMap D.cells) (uG vs (i*sz) ((i+1)*sz)):=by rw[List.flatMap_append,←gU o,←kP o];exact(DRs.take _ y.r).append (DRs.drop _ y.r)
 have hil:(uG vs (i*sz) ((i+1)*sz)).length=(es.length-1)*sz:=by rw[qHJ (by omega) (by omega),C,Nat.sub_mul];omega
 refine⟨.slice (some ⟨H.next,0,none⟩) (es.length-1) qT,H.move B ⟨.cells cs el,rt,true⟩ (.cells (uG vs (i*sz) ((i+1)*sz)) el),g,λ_=>.slice (some ⟨H.next,0,none⟩) (es.length-1) qT,?_,Nat.lt_succ_self _,qBT (qJL x.wf y.b) (λb k c=>?_) (x.base.mono (Nat.le_succ _)) rfl (.inr (.inl ⟨H.next,es.length-1,uG vs (i*sz) ((i+1)*sz),uG vs (i*sz) ((i+1)*sz),el,rt,sz,_,rfl,rfl,?_,?_,?_,N,J,K,by unfold qT;omega,?_⟩)) (λB O=>?_),λb c=>?_,λ_ _=>rfl,?_,rfl⟩
 ·rw[e1,e2,y.v];exact qPj hD M G y.b y.t u Z
 ·have O:g B=none:=x.sepFG 0 B rfl (by rw[y.v];simp[vR]);rw[AH.get_move,if_neg (λe=>by rw[e,p]at c;cases c),if_neg (λe=>by rw[e,O]at c;cases c)];exact x.mem _ _ c
 ·rw[AH.get_move,if_pos rfl]
 ·exact⟨y.rt.1,λhk=>Nat.lt_irrefl _ (x.base.2 _ hk)⟩
 ·rw[xI (by omega),List.take_of_length_le (by omega)]
 ·rw[List.all_eq_true];intro v hv;unfold uG at hv;have a1:=List.all_eq_true.1 y.o;rcases List.mem_append.1 hv with h|h
  ·exact a1 v (List.mem_of_mem_take h)
  exact a1 v (List.mem_of_mem_drop h)
 ·cases(show some H.next=some B from O);exact p
 ·rw[AH.get_move,if_neg (λe=>Nat.lt_irrefl _ (by have:=x.base.2 b c;rwa [e]at this)),if_neg (λe=>y.rt.2 (by rw[←e];exact c))]
 exact Nat.le_min.2 ⟨Nat.min_le_left _ _,lT (Nat.min_le_right _ _) y.rt.1⟩
end
end Go.Am
