/- What the abstract append does where the array must grow, the model's does too. Conditions: none. -/
import Derived.Test.YtpbmnkajhedaiaaGreatAm2
import Derived.Laws.IdiomStrings
import Derived.KernelRfl
import Derived.Laws.Externs
set_option linter.all false
namespace Go.Am
open Go
def kO(w:World):World:={w with drawn:=w.drawn+1}
section
variable{E:Env}{σ:vH}{H:AH}{w:World}
theorem dD(z:Array Value)(n:Nat):(Builtin.zeroCells z n).size=n*z.size:=by simp[Builtin.zeroCells]
theorem qAK{h c x:Nat}(y:c<h)(b:(4*h+4000)*(x+1)<=100000000000):¬(h:Int)>IntKind.i64.max/\¬Builtin.nextslicecap h c*x>2^48/\h<2^62:=by
 have j:=qIq h c y;have i:(4*h+4000)*(x+1)=(4*h+4000)*x+(4*h+4000):=by rw[Nat.mul_add];simp
 have g:Builtin.nextslicecap h c*x<=(4*h+4000)*x:=Nat.mul_le_mul_right _ (by omega);have e:IntKind.i64.max=9223372036854775807:=by decide
 refine⟨by rw[e];omega,by omega,by omega⟩
set_option maxHeartbeats 1000000 in
theorem qMo(he:EOk E){t xt x ty:TypeId}{ats:List TypeId}{ti B e:TI}{n len c:Nat}{C:Value}{b g z:List Value}{A:Option Addr}(O:E.types.get t=some ti)(hd:ti.desc=.slice x)(l:E.types.get xt=some B)(y:E.types.get x=some e)(j:e.zero=some z)(N:lS B.desc=false)(V:(Builtin.lenOf C).run E.prog w=.ok n w)(U:(Builtin.firstCells e.size n C).run E.prog (kO w)=.ok ⟨g⟩ (kO w))(W:(Builtin.firstCells e.size len (.slice A len c)).run E.prog (kO w)=.ok ⟨b⟩ (kO w))(J:c<len+n)(q:(4*(len+n)+4000)*(e.bytes+1)<=100000000000):∃(u:Nat) (rest:Array Value),len+n<=u/\u<zI/\rest.size=(u-(len+n))*e.size/\(Builtin.append_ ⟨t::xt::ats⟩ ty #[.slice A len c,C]).run E.prog w=.ok (.slice (some ⟨w.heap.size,0,none⟩) (len+n) u) (World.push (kO w) (.cells (⟨b⟩++⟨g⟩++rest) x)):=by
 obtain⟨L,r,S⟩:=qAK J q;obtain⟨M,Q,_,z3,_,z5⟩:=gA he y j (kO w);have hu:=λw=>zV he O w;rw[hd]at hu;have o:=λw=>zV he l w;have G:=λw=>zX he y w;obtain⟨i,hi,_,_,K,_⟩:=he.types x e y;have k:=λw=>run_typeInfo (P:=E.prog) w hi;rw[K]at r;have I:¬len+n<=c:=by omega
 have F:M.cells.size=e.size:=by rw[←z5,←z3];simp
 clear O l y he hd hi;refine⟨(len+n)+(w.tape w.drawn (.appendCap (len+n) c x))%(2^63-(len+n)),Builtin.zeroCells M.cells ((len+n)+(w.tape w.drawn (.appendCap (len+n) c x))%(2^63-(len+n))-(len+n)),by omega,?_,by rw[dD,F],?_⟩
 ·have:=Nat.mod_lt (w.tape w.drawn (.appendCap (len+n) c x)) (show 2^63-(len+n)>0 by omega);unfold zI;omega
 generalize B.desc=d at o N;have R:(Question.appendCap (len+n) c x).forced=false:=rfl;have p:(Question.appendCap (len+n) c x).cut (w.tape w.drawn (.appendCap (len+n) c x))=(len+n)+(w.tape w.drawn (.appendCap (len+n) c x))%(2^63-(len+n)):=rfl;cases d<;>first|(simp[lS]at N;done)|skip
 all_goals simp only[Builtin.append_,List.getElem?_toArray,List.getElem?_cons_zero,List.getElem?_cons_succ,Sem.run_bind,hu,Result.andThen_ok,G,o,Sem.run_pure,Bool.false_eq_true,if_false,V,if_neg I,k];rw[if_neg (by intro h;exact L h.1)];simp only[Sem.run_bind,k,Result.andThen_ok];rw[if_neg r];simp only[Sem.run_bind,run_choose,R,Bool.false_eq_true,if_false,Result.andThen_ok,p,run_askRoom,k];rw[show({w with drawn:=w.drawn+1}:World)=kO w from rfl];simp only[Bool.not_false,if_true,Sem.run_bind,W,U,Result.andThen_ok,Q,newRow,run_newObj,Sem.run_pure];rfl
set_option maxHeartbeats 1000000 in
theorem qMn(he:EOk E){t xt x ty:TypeId}{ats:List TypeId}{ti W e:TI}{n len c:Nat}{k:IntKind}{j y z:List Value}{A:Option Addr}(X:E.types.get t=some ti)(hd:ti.desc=.slice x)(r:E.types.get xt=some W)(g:E.types.get x=some e)(l:e.zero=some z)(hz:lS W.desc=true)(h2:(if n*e.size=0 then(#[]:Array Value)else⟨y⟩)=⟨y⟩)(Z:∀w,∃q,(zeroValue x).run E.prog w=.ok q w/\Builtin.zeroCells q.cells n=⟨y⟩)(h0:(Builtin.firstCells e.size len (.slice A len c)).run E.prog (kO w)=.ok ⟨j⟩ (kO w))(S:c<len+n)(G:(4*(len+n)+4000)*(e.bytes+1)<=100000000000):∃(J:Nat) (rest:Array Value),len+n<=J/\J<zI/\rest.size=(J-(len+n))*e.size/\(Builtin.append_ ⟨t::xt::ats⟩ ty #[.slice A len c,.int k (n:Int)]).run E.prog w=.ok (.slice (some ⟨w.heap.size,0,none⟩) (len+n) J) (World.push (kO w) (.cells (⟨j⟩++⟨y⟩++rest) x)):=by
 obtain⟨V,I,hb3⟩:=qAK S G;obtain⟨q,K,_,z3,_,z5⟩:=gA he g l (kO w);have hu:=λw=>zV he X w;rw[hd]at hu;have u:=λw=>zV he r w;have N:=λw=>zX he g w;obtain⟨i,hi,_,_,U,_⟩:=he.types x e g;have b:=λw=>run_typeInfo (P:=E.prog) w hi;have Q:¬len+n<=c:=by omega
 have M:q.cells.size=e.size:=by rw[←z5,←z3];simp
 have hw:IntKind.i64.wrap (n:Int)=(n:Int):=aL (by omega);have C:¬(n:Int)<0:=by omega
 have O:¬(n:Int)*(i.bytes:Int)>2^48:=by grind
 obtain⟨k',R⟩:=qGN hz;rw[R]at u;obtain⟨p,g1,g2⟩:=Z (kO w);have L:p=q:=by rw[K]at g1;cases g1;rfl
 subst L;rw[U]at I;clear X r g he hd hi Z g1;refine⟨(len+n)+(w.tape w.drawn (.appendCap (len+n) c x))%(2^63-(len+n)),Builtin.zeroCells p.cells ((len+n)+(w.tape w.drawn (.appendCap (len+n) c x))%(2^63-(len+n))-(len+n)),by omega,?_,by rw[dD,M],?_⟩
 ·have:=Nat.mod_lt (w.tape w.drawn (.appendCap (len+n) c x)) (show 2^63-(len+n)>0 by omega);unfold zI;omega
 have hq:(Question.appendCap (len+n) c x).forced=false:=rfl;have F:(Question.appendCap (len+n) c x).cut (w.tape w.drawn (.appendCap (len+n) c x))=(len+n)+(w.tape w.drawn (.appendCap (len+n) c x))%(2^63-(len+n)):=rfl;simp only[Builtin.append_,List.getElem?_toArray,List.getElem?_cons_zero,List.getElem?_cons_succ,Sem.run_bind,hu,Result.andThen_ok,N,u,Sem.run_pure,if_true,asInt,asIntOf,hw,if_neg C,b];rw[if_neg O];simp only[Sem.run_bind,Sem.run_pure,Result.andThen_ok,Int.toNat_natCast,if_neg Q,b];rw[if_neg (by intro h;exact V h.1)];simp only[Sem.run_bind,b,Result.andThen_ok];rw[if_neg I];simp only[Sem.run_bind,run_choose,hq,Bool.false_eq_true,if_false,Result.andThen_ok,F,run_askRoom,b];rw[show({w with drawn:=w.drawn+1}:World)=kO w from rfl];by_cases o:n*e.size=0
 ·rw[if_pos o]at h2;have B:y=[]:=by have:=congrArg Array.toList h2;simpa using this.symm
  subst B;simp only[Bool.not_true,Bool.false_eq_true,if_false,if_pos o,Sem.run_bind,h0,Result.andThen_ok,K,newRow,run_newObj,Sem.run_pure];rfl
 simp only[Bool.not_true,Bool.false_eq_true,if_false,if_neg o,Sem.run_bind,h0,Result.andThen_ok,K,g2,newRow,run_newObj,Sem.run_pure];rfl
theorem qJg(he:EOk E)(hr:HR E σ H w){s s' x x':Value}{ats:List TypeId}(ty:TypeId)(hs:VR σ s s')(hx:VR σ x x'):j9 E σ H w (j6 E H ats s x) (do pure (.value (←Builtin.append_ ⟨ats⟩ ty #[s',x']))):=by
 intro ar H' h hf;unfold j6 at h;split at h;case h_2=>cases h
 rename_i t xt rest base len cap;split at h;case h_2=>cases h
 rename_i W sz by_ z ag xi ht hxt;split at h;case h_2=>cases h
 rename_i e K;split at h;case h_2=>cases h
 rename_i ez n new hzero X;simp only[gH,vU,qZ,Nat.add_eq,Nat.mul_eq,Nat.succ_eq_add_one]at h;split at h;case isFalse=>cases h
 rename_i hbig0;have hbig:(4*(len+n)+4000)*(e.bytes+1)<=100000000000:=hbig0;have hnb:n*e.bytes<=2^48:=by grind
 have hnb':len+n<2^40:=by grind
 have hrd:HR E σ H (kO w):=(Step.drew hr (Nat.le_succ _)).hr;have sd:Step E σ H w σ H (kO w):=Step.drew hr (Nat.le_succ _);obtain⟨j,n1,n2,n3,n4⟩:=sV he hr hxt K X hx hnb (by omega);obtain⟨I,d1,d2,d3,d4⟩:=sV he hrd hxt K X hx hnb (by omega)
 have room:∀(A:Option Addr) (c:Nat) (w':World),len+n<=c->(storeAt? A (len*e.size) j).run E.prog w=.ok () w'->
     (Builtin.append_ ⟨t::xt::rest⟩ ty #[.slice A len c,x']).run E.prog w=.ok (.slice A (len+n) c) w':=by
   intro A c w' u R
   rcases n4 with⟨q1,q2,q3⟩|⟨q1,k,rfl,q2,q3⟩
   ·exact qMm he ht rfl hxt K q1 q2 q3 u R
   ·exact qMl he ht rfl hxt K q1 q2 q3 hnb (by omega) u R
 have grow:∀(A:Option Addr) (c:Nat) (g:List Value),c<len+n->(Builtin.firstCells e.size len (.slice A len c)).run E.prog (kO w)=.ok ⟨g⟩ (kO w)->
     ∃(q:Nat) (r:Array Value),len+n<=q/\q<zI/\r.size=(q-(len+n))*e.size/\
     (Builtin.append_ ⟨t::xt::rest⟩ ty #[.slice A len c,x']).run E.prog w =
       .ok (.slice (some ⟨w.heap.size,0,none⟩) (len+n) q) (World.push (kO w) (.cells (⟨g⟩++⟨I⟩++r) W)):=by
   intro A c g S P
   rcases d4 with⟨q1,q2,q3⟩|⟨q1,k,rfl,q2,q3⟩
   · rcases n4 with⟨_,p2,_⟩|⟨p1,_⟩
     ·exact qMo he ht rfl hxt K hzero q1 p2 q3 P S hbig
     ·rw[q1]at p1;cases p1
   ·exact qMn he ht rfl hxt K hzero q1 q2 q3 P S hbig
 have fresh:∀(old g:List Value) (q:Nat) (r:Array Value),VRs σ old g->old.length=len*e.size->old.all qH=true->r.size=(q-(len+n))*e.size->len+n<=q->
     ∃ M:Loc,M.blk=w.heap.size/\M.off=0/\M.ext=q*e.size/\M.sz=e.size/\
       ∀τ:vH,vH.le σ τ->pC E τ M true (.cells (old++new) W) (.cells (⟨g⟩++⟨I⟩++r) W):=by
   intro old g q r ho hol ho1 hrs hnc
   have hl1:=ho.length
   have hl2:=d1.length
   have hmul:q*e.size=len*e.size+n*e.size+(q-(len+n))*e.size:=by
     rw[←Nat.add_mul,←Nat.add_mul];congr 1;omega
   refine⟨⟨w.heap.size,0,q*e.size,e.size⟩,rfl,rfl,rfl,rfl,λτ hτ=>⟨λ_=>⟨.inl rfl,rfl,Nat.zero_mod _⟩,?_,?_,?_,?_⟩⟩
   ·simp[hl1,hl2,hrs,hol,d2];omega
   ·simp[hol,n2];omega
   ·intro ti hti;rw[K]at hti;cases hti;rfl
   · intro i v O
     have V:(old++new).all qH=true:=by rw[List.all_append,ho1,n3];rfl
     rw[List.all_eq_true]at V
     refine⟨V v (List.mem_of_getElem? O),?_⟩
     obtain⟨v',e1,e2⟩:=(ho.append d1).get i v O
     refine⟨v',?_,e2.mono hτ⟩
     have S:i<(g++I).length:=(gI e1).1
     simp only[Nat.zero_add]
     rw[Array.getElem?_append_left (by simpa using S)]
     simpa using e1
 have res:∀(M:Loc) (q:Nat),M.blk=w.heap.size->M.off=0->M.ext=q*e.size->M.sz=e.size->len+n<=q->q<zI->
     VR (σ.add H.next M) (.slice (some ⟨H.next,0,none⟩) (len+n) zI) (.slice (some ⟨w.heap.size,0,none⟩) (len+n) q):=by
   intro M q m1 m2 m3 m4 h1 h2
   have:=VR.sliceX (σ:=σ.add H.next M) (b:=H.next) (i:=0) (l:=len+n) (c:=q) vH.add_self h1 h2 (by rw[m4,m3];omega)
   rw[m1,m2]at this
   exact this
 have B:∀(A:Option Addr) (c:Nat) (old g:List Value),c<len+n->(Builtin.firstCells e.size len (.slice A len c)).run E.prog (kO w)=.ok ⟨g⟩ (kO w)->
     VRs σ old g->old.length=len*e.size->old.all qH=true->σ H.next=none->
     ∃ Q w' nx,(do pure (.value (←Builtin.append_ ⟨t::xt::rest⟩ ty #[.slice A len c,x'])):Sem Next).run E.prog w=.ok nx w'/\
       Step E σ H w Q (H.new (.cells (old++new) W)) w'/\qMw E Q w' (.val (.slice (some ⟨H.next,0,none⟩) (len+n) zI)) nx:=by
   intro A c old g S P ho hol ho1 y
   obtain⟨q,r,g1,g2,g3,g4⟩:=grow A c g S P
   obtain⟨M,m1,m2,m3,m4,m5⟩:=fresh old g q r ho hol ho1 g3 g1
   have st:=Step.new hrd y (.cells (old++new) W) _ M m1 (m5 _ (vH.add_le y))
   refine⟨σ.add H.next M,_,.value _,?_,sd.trans st,res M q m1 m2 m3 m4 g1 g2⟩
   simp[g4]
 split at h
 ·-- nothing is appended
  rename_i hn0;cases h;subst hn0;have hnil:j=[]:=by have:=n1.length;rw[n2,Nat.zero_mul]at this;exact List.length_eq_zero_iff.1 this
  have key:∀(A:Option Addr) (c:Nat),len<=c->VR σ (.slice base len cap) (.slice A len c)->
      ∃ Q w' nx,(do pure (.value (←Builtin.append_ ⟨t::xt::rest⟩ ty #[.slice A len c,x'])):Sem Next).run E.prog w=.ok nx w'/\Step E σ H w Q H w'/\
        qMw E Q w' (.val (.slice base len cap)) nx:=by
    intro A c u hv
    have R:(storeAt? A (len*e.size) j).run E.prog w=.ok () w:=by
      rw[hnil];cases A<;>rfl
    refine⟨σ,w,.value (.slice A len c),?_,Step.refl hr,hv⟩
    simp[room A c w u R]
  cases hs with
  |leaf P=>have h00:=P;simp only[vL,zR]at P;have hl0:len=0:=vP P.1.2;exact key base cap (by omega) (.leaf h00)
  |sliceE hb hl hc=>exact key _ _ hl (.sliceE hb hl hc)
  |sliceX hb hl hc hx=>exact key _ _ hl (.sliceX hb hl hc hx)
  |sliceZ hc=>exact key _ _ (vE _) (.sliceZ hc)
 ·rename_i hn0;split at h
  ·-- onto nil
   cases h;have y:=hf.head (Nat.lt_succ_self _);cases hs with
   |leaf P=>simp only[vL,zR]at P;have hl0:len=0:=vP P.1.2;have hc0:cap=0:=vP P.2;subst hl0 hc0;have:=B none 0 [] [] (by omega) rfl .nil (by simp) rfl y;simpa only[List.nil_append]using this
  ·rename_i b o;split at h
   ·-- of unknown G
    rename_i hcx;split at h;case h_2=>cases h
    rename_i cs el rt old hb p;split at h;case isFalse=>cases h
    rename_i hel';split at h;case isFalse=>cases h
    rename_i hmod2;cases h;have hmod:o%e.size=0:=hmod2;subst hel';have y:=hf.head (Nat.lt_succ_self _);obtain⟨old1,o1,o2,o3,o4⟩:=rU hr p hs;obtain⟨C,o1d,o2d,_,_⟩:=rU hrd p hs
    have F:∀(A:Addr) (c:Nat),s'=.slice (some A) len c->c<len+n->cs.length<=o+(len+n)*e.size->
        ∃ Q w' nx,(do pure (.value (←Builtin.append_ ⟨t::xt::rest⟩ ty #[.slice (some A) len c,x'])):Sem Next).run E.prog w=.ok nx w'/\
          Step E σ H w Q (H.move b ⟨.cells cs el,rt,true⟩ (.cells ((old++new)++cs.drop (o+(len+n)*e.size)) el)) w'/\qMw E Q w' (.val (.slice (some ⟨H.next,0,none⟩) (len+n) zI)) nx:=by
      intro A c e1 S hcsl
      rw[List.drop_of_length_le hcsl,List.append_nil]
      rw[e1]at o1d
      obtain⟨q,r,g1,g2,g3,g4⟩:=grow (some A) c C S o1d
      obtain⟨M,m1,m2,m3,m4,m5⟩:=fresh old C q r o2d o3 o4 g3 g1
      have st:=Step.move hrd y (M:=M) (x:=.cells (old++new) el) (w':=World.push (kO w) (.cells (⟨C⟩++⟨I⟩++r) el)) (L:=M) hb rfl (.inr ⟨rfl,m1⟩) (m5 _ (vH.add_le y))
      refine⟨σ.add H.next M,_,.value _,?_,sd.trans st,res M q m1 m2 m3 m4 g1 g2⟩
      simp[g4]
    cases hs with
    |leaf P=>simp[vL]at P
    |sliceE J hl hc=>omega
    | sliceX J hl hc Z=>
     rename_i c L;obtain⟨N,cel,fz,g1,g2,g3,g4,g5,g6⟩:=hr.cellsAt hb J;have hsz:L.sz=e.size:=g5 e K;by_cases u:len+n<=c
     ·-- within the G
      obtain⟨hfz,hcel,hoff⟩:=g2 rfl;have hlen:=n1.length;have hcm:len*e.size+n*e.size<=c*e.size:=by rw[←Nat.add_mul];exact Nat.mul_le_mul_right _ u
      rw[hsz]at Z
      have hrun:=kU E.prog L.blk (L.off+o+len*e.size) cel fz j 0 N w g1 hfz (by rw[hlen,n2];omega)
        (λv hv'=>by rw[qOI];have:=n1.all_one;rw[n3,List.all_eq_true]at this;exact this v hv')
      have R:storeAt? (some ⟨L.blk,L.off+o,none⟩) (len*e.size) j=storeCells ⟨L.blk,L.off+o+len*e.size,none⟩ j:=by simp only[storeAt?,mF]
      have hroom:=room (some ⟨L.blk,L.off+o,none⟩) c _ u (by rw[R];exact hrun);let M:Loc:=⟨L.blk,L.off+o,L.ext-o,e.size⟩;have hold':∀i v,old[i]? = some v->∃v',N[L.off+o+i]? = some v'/\VR σ v v':=by
       intro i v O;unfold oE at p;simp only[qZ,vU]at p;split at p
       ·cases p;simp at O
       ·split at p;case isFalse=>cases p
        obtain⟨cs2,el2,rt2,own2,hb2,he2,hn2⟩:=qCb p;rw[hb]at hb2;simp only[oI,ABlk.mk.injEq,AObj.cells.injEq]at hb2;obtain⟨⟨rfl,_⟩,_⟩:=hb2;rw[he2]at O;have hil:i<(List.take (Nat.mul len e.size) (List.drop o cs)).length:=(gI O).1;rw[List.length_take]at hil;rw[List.getElem?_take_of_lt (by omega),List.getElem?_drop]at O;obtain⟨_,v',e1,e2⟩:=g6 _ v O;exact⟨v',by rw[Nat.add_assoc];exact e1,e2⟩
      have st:=Step.move hr y (M:=M) (x:=.cells ((old++new)++cs.drop (o+(len+n)*e.size)) el)
        (w':=w.setRow L.blk (N.toList.take (L.off+o+len*e.size+0)++j++N.toList.drop (L.off+o+len*e.size+0+j.length)).toArray) hb rfl (.inl ⟨J,WSet.setRow g1,rfl⟩) (by
         refine⟨λ_=>⟨?_,hcel,?_⟩,?_,?_,?_,?_⟩
         ·have X:(N.toList.take (L.off+o+len*e.size+0)++j++N.toList.drop (L.off+o+len*e.size+0+j.length)).toArray.size=N.size:=by simp;omega
          rw[X];exact hfz
         ·show(L.off+o)%e.size=0;rw[Nat.add_mod,←hsz,hoff,hsz,hmod];exact Nat.zero_mod _
         ·simp[M];omega
         ·have hmul:(len+n)*e.size=len*e.size+n*e.size:=Nat.add_mul _ _ _;simp[M,o3,n2];omega
         ·intro ti hti;rw[K]at hti;cases hti;rfl
         ·intro i v O;have hmul:(len+n)*e.size=len*e.size+n*e.size:=Nat.add_mul _ _ _;rcases Nat.lt_or_ge i (old++new).length with hilt|hige;case inr=>
           rw[List.getElem?_append_right hige,List.getElem?_drop]at O;obtain⟨q1,v',q2,q3⟩:=g6 _ v O;refine⟨q1,v',?_,q3.mono (vH.add_le y)⟩;have hl0:(old++new).length=len*e.size+n*e.size:=by rw[List.length_append,o3,n2]
           have htk:(N.toList.take (L.off+o+len*e.size)).length=L.off+o+len*e.size:=by simp;omega
           simp only[Nat.add_zero,List.getElem?_toArray,M];rw[List.append_assoc,List.getElem?_append_right (by omega),List.getElem?_append_right (by omega),htk,List.getElem?_drop,Array.getElem?_toList,←q2]
           congr 1
           omega
          rw[List.getElem?_append_left hilt]at O;have V:(old++new).all qH=true:=by rw[List.all_append,o4,n3];rfl
          rw[List.all_eq_true]at V;refine⟨V v (List.mem_of_getElem? O),?_⟩;have htk:(N.toList.take (L.off+o+len*e.size)).length=L.off+o+len*e.size:=by simp;omega
          simp only[Nat.add_zero,List.getElem?_toArray,M];by_cases hio:i<old.length
          ·rw[List.getElem?_append_left hio]at O;obtain⟨v',e1,e2⟩:=hold' i v O;refine⟨v',?_,e2.mono (vH.add_le y)⟩;rw[List.append_assoc,List.getElem?_append_left (by omega),List.getElem?_take_of_lt (by omega),Array.getElem?_toList];exact e1
          ·rw[List.getElem?_append_right (by omega)]at O;obtain⟨v',e1,e2⟩:=n1.get _ v O;have hil:=(gI O).1;refine⟨v',?_,e2.mono (vH.add_le y)⟩;rw[List.append_assoc,List.getElem?_append_right (by omega),List.getElem?_append_left (by omega),htk,←e1]
           congr 1;omega)
      refine⟨σ.add H.next M,_,.value (.slice (some ⟨L.blk,L.off+o,none⟩) (len+n) c),?_,st,?_⟩
      ·simp[hroom]
      ·have:=VR.sliceX (σ:=σ.add H.next M) (b:=H.next) (i:=0) (l:=len+n) (c:=c) vH.add_self u hc (by simp[M];omega);exact this
     ·refine F _ _ rfl (by omega) ?_;rw[hsz]at Z;have h5:c*e.size<=(len+n)*e.size:=Nat.mul_le_mul_right _ (by omega);omega
    |sliceZ U=>
     refine F _ 0 rfl (by omega) ?_;rcases U with U|⟨_,L,hL1,hL2⟩
     ·exfalso;rw[U]at hcx;exact absurd hcx (by decide)
     ·obtain⟨_,_,_,_,_,_,hcl0,_⟩:=hr.cellsAt hb hL1;omega
   ·rename_i hcx;split at h
    ·-- within a known G
     rename_i u;simp only[Option.map_eq_some_iff]at h;obtain⟨H1,R,h⟩:=h;cases h;cases hs with
     |leaf P=>simp[vL]at P
     |sliceE J hl hc=>
      rename_i L;obtain⟨w',e1,e2⟩:=bT hr R J n1 n3;have hst':(storeAt? (some ⟨L.blk,L.off+o,none⟩) (len*e.size) j).run E.prog w=.ok () w':=by simp only[storeAt?,mF,Nat.add_assoc];exact e1
      refine⟨σ,w',.value (.slice (some ⟨L.blk,L.off+o,none⟩) (len+n) cap),?_,e2,.sliceE J u hc⟩;simp[room _ cap _ u hst']
     |sliceX J hl hc Z=>omega
     |sliceZ U=>rcases U with U|⟨U,_⟩<;>omega
    ·-- beyond it
     rename_i hgt;split at h;case h_2=>cases h
     rename_i old p;cases h;have y:=hf.head (Nat.lt_succ_self _);obtain⟨C,o1,o2,o3,o4⟩:=rU hrd p hs;cases hs with
     |leaf P=>simp[vL]at P
     |sliceE J hl hc=>exact B _ _ old C (by omega) o1 o2 o3 o4 y
     |sliceX J hl hc Z=>omega
     |sliceZ U=>exact B _ _ old C (by omega) o1 o2 o3 o4 y
  ·cases h
end
theorem jE{w:World}{r:Nat}{o:Obj}(P:Program)(h:w.heap[r]? = some o)(x:∀c e f,o≠.cells c e f):(getObj r).run P w=.ok o w:=by simp only[getObj,Sem.run,h];all_goals grind
theorem yV{w:World}{r:Nat}{o x:Obj}(P:Program)(h:w.heap[r]? = some o)(y:∀c e f,o≠.cells c e f):(setObj r x).run P w=.ok () {w with heap:=w.heap.setIfInBounds r x}:=by simp only[setObj,Sem.run,h];all_goals(cases o<;>first|rfl|exact absurd rfl (y _ _ _))
theorem WSet.setObj{w:World}{r:Nat}{o:Obj}(x:Obj)(h:w.heap[r]? = some o):WSet w {w with heap:=w.heap.setIfInBounds r x} r x where
 size:=by simp
 at_:=by grind
 else_ B y:=by simp only[Array.getElem?_setIfInBounds];rw[if_neg (λe=>y e.symm)]
 tape:=rfl
 os:=rfl
 output:=⟨rfl,vE _⟩
theorem xP{α x:Type}(P:Program)(f:α->Sem x):∀(s:Sem α),qT P (s >>= f)=(qT P s).bind λa=>qT P (f a):=by
 intro s;show qT P (s.bind f)=_;induction s with
 |pure a=>rfl
 |program k h=>simp only[Sem.bind,qT];exact h P
 |mark m k h=>simp only[Sem.bind,qT];exact h
 |_=>rfl
section
variable{E:Env}{σ:vH}{H:AH}{w:World}
theorem qDz(he:EOk E)(hr:HR E σ H w){t:TypeId}{l l' c c':Value}(hl:VR σ l l')(hc:VR σ c c'):j9 E σ H w (oX E H t l c) (do pure (.value (←Instr.makeSlice t l' c'))):=by
 intro ar H' h hf;unfold oX at h;split at h;case h_2=>cases h
 rename_i o sz by_ z0 ag ln x ht el ec;split at h;case h_2=>cases h
 rename_i ed e k W eag g;simp only[gH,qZ,vU,Nat.mul_eq,Nat.add_eq,Nat.succ_eq_add_one]at h;split at h;case isFalse=>cases h
 rename_i G;split at h;case isFalse=>cases h
 rename_i r;split at h;case isFalse=>cases h
 rename_i hbig;cases h;obtain⟨k1,rfl⟩:=nat?_spec el;obtain⟨k2,rfl⟩:=nat?_spec ec;rw[hl.int_inv,hc.int_inv];obtain⟨A,h1,h2,V,h4,h5⟩:=gA he g rfl w;have F:=oQ (σ:=σ) h2 V;have q:A.cells.size=e:=by rw[←G,←V];simp
 have hcn:x<=1000000000:=by grind
 have hcb:x*k<=1000000000:=by grind
 have J:IntKind.i64.wrap (Int.ofNat ln)=(ln:Int):=aL (by omega);have I:IntKind.i64.wrap (Int.ofNat x)=(x:Int):=aL (by omega);obtain⟨i,hi,_,_,O,_⟩:=he.types o _ g;have z:i.bytes=k:=O.symm;have K:=λw=>run_typeInfo (P:=E.prog) w hi;have M:=λw=>zX he g w
 obtain⟨p,j,k2⟩:∃p:Array Value,p=(if x*e=0 then #[]else A.cells)/\
   ((Array.range (x*e)).map (λi=>p[i%p.size]!)).toList=xM W x:=by
  by_cases y:x*e=0
  ·refine⟨#[],by simp[y],?_⟩
   rw[y]
   have:(xM W x).length=0:=by rw[yW,G,y]
   simp[List.length_eq_zero_iff.1 this]
  refine⟨A.cells,by simp[y],?_⟩
  rw[aI A.cells x e q.symm,V]
 have N:=hf.head (Nat.lt_succ_self _)
 obtain⟨L,C,B,Z,X,q5⟩:=qD4 hr N (cs:=xM W (if ln=0 then 0 else x)) (cs':=(Array.range (x*e)).map (λi=>p[i%p.size]!)) (el:=o)
  (by
   by_cases y:ln=0
   ·rw[if_pos y];exact .nil
   rw[if_neg y,k2,List.take_length];exact e9 F x)
  (by
   by_cases y:ln=0
   ·rw[if_pos y];exact Nat.zero_le _
   rw[if_neg y,yW,G];simp) (sJ h4 _)
 have hlt:¬((x:Int)<0∨(k:Int)*(x:Int)>2^48∨(ln:Int)<0∨(ln:Int)>(x:Int)):=by grind
 have U:decide ((x:Int)<0)=false:=fD (by omega);have S:decide ((k:Int)*(x:Int)>2^48)=false:=by grind
 have R:decide ((ln:Int)<0)=false:=fD (by omega);have Q:decide ((ln:Int)>(x:Int))=false:=by simp;omega
 refine⟨_,_,.value (.slice (some ⟨w.heap.size,0,none⟩) ln x),?_,q5,?_⟩
 ·simp only[Instr.makeSlice,Sem.run_bind,zV he ht,Result.andThen_ok,asInt,asIntOf,Sem.run_pure,K,J,I,z,U,S,R,Q,Bool.or_false,Bool.false_eq_true,if_false,run_askRoom,Int.toNat_natCast,M];by_cases y:x*e=0
  ·rw[if_pos y]at j;subst j;simp only[if_pos y,Sem.run_bind,Sem.run_pure,Result.andThen_ok,newRow,run_newObj];rfl
  rw[if_neg y]at j;subst j;simp only[if_neg y,Sem.run_bind,h1,Sem.run_pure,Result.andThen_ok,newRow,run_newObj];rfl
 by_cases u:ln=x
 ·subst u;have:=VR.sliceX (σ:=σ.add H.next L) (b:=H.next) (i:=0) (l:=ln) (c:=ln) vH.add_self (vE _) (by unfold zI;omega) (by rw[Z,X _ g];simp);rw[C,B]at this;rw[if_pos rfl];exact this
 rw[if_neg u];by_cases y:ln=0
 ·have:=VR.sliceX (σ:=σ.add H.next L) (b:=H.next) (i:=0) (l:=ln) (c:=x) vH.add_self r (by unfold zI;omega) (by rw[Z,X _ g];simp);rw[C,B]at this;rw[if_pos y];exact this
 have:=VR.sliceE (σ:=σ.add H.next L) (i:=0) (l:=ln) (c:=x) vH.add_self r (by unfold zI;omega);rw[C,B]at this;rw[if_neg y];exact this
theorem ERs.length:∀{es es':List MapEntry},ERs σ es es'->es'.length=es.length
 |_,_,.nil=>rfl
 |_,_,.cons _ _ _ _ h=>by simp[ERs.length h]
inductive FR (σ:vH):Option (Nat×Value)->Option (Nat×Value)->Prop
 |none:FR σ none none
 |some {i:Nat} {v v':Value} (h:VR σ v v'):FR σ (some (i,v)) (some (i,v'))
theorem qAN{kd:TypeDesc}{k:Value}:∀{es es':List MapEntry},ERs σ es es'->∀(i:Nat),
  (Instr.findNow kd k es i=none/\Instr.findNow kd k es' i=none)∨∃r h,Instr.findNow kd k es i=some r/\Instr.findNow kd k es' i=some h/\FR σ r h
 |_,_,.nil,i=>.inr ⟨none,none,rfl,rfl,.none⟩
 | _,_,.cons (e:=e) (e':=e') c y hv g x,i=>by
  simp only[Instr.findNow,y]
  cases Instr.sameNow kd k e.key with
  |none=>exact .inl ⟨rfl,rfl⟩
  |some b=>cases b with
   |true=>exact .inr ⟨_,_,rfl,rfl,.some hv⟩
   |false=>exact qAN x (i+1)
theorem eC{x:TypeId}{k:Value}:∀{es es':List MapEntry},ERs σ es es'->∀(i:Nat) (r:Option (Nat×Value)),qT E.prog (Instr.findAsking x k es i)=some r->
  ∃y,qT E.prog (Instr.findAsking x k es' i)=some y/\FR σ r y
 |_,_,.nil,i,r,h=>by
  have:r=none:=by simpa[Instr.findAsking,qT,pure]using h.symm
  subst this
  exact⟨none,h,.none⟩
 | _,_,.cons (e:=e) (e':=e') l j hv o g,i,r,h=>by
  simp only[Instr.findAsking,xP,j]at h ⊢
  cases c:qT E.prog (Op.equal x k e.key)with
  |none=>rw[c]at h;simp at h
  | some b=>
   rw[c]at h
   simp only[Option.bind_some]at h ⊢
   cases b with
   |true=>
    simp only[if_true]at h ⊢
    cases h
    exact⟨_,rfl,.some hv⟩
   |false=>
    simp only[Bool.false_eq_true,if_false]at h ⊢
    exact eC g (i+1) r h
theorem qG3{y:TypeId}{k:Value}{es es':List MapEntry}(h:ERs σ es es'){r:Option (Nat×Value)}(x:qT E.prog (Instr.findKey y k es)=some r):∃e,qT E.prog (Instr.findKey y k es')=some e/\FR σ r e:=by
 simp only[Instr.findKey,xP]at x ⊢;cases hd:qT E.prog (underlying y)with
 |none=>rw[hd]at x;simp at x
 |some kd=>
  rw[hd]at x;simp only[Option.bind_some]at x ⊢;rcases qAN (kd:=kd) (k:=k) h 0 with⟨c,b⟩|⟨j,g,c,b,i⟩
  ·rw[c]at x;rw[b];exact eC h 0 r x
  rw[c]at x;rw[b];cases x;exact⟨g,rfl,i⟩
theorem qAf{c:TypeId}{k k':Value}{es es':List MapEntry}(h:ERs σ es es')(g:VR σ k k'){r:Option (Nat×Value)}(x:qCH E c k es=some r):∃b,(Instr.checkKey es.isEmpty 10000 c k').run E.prog w=.ok () w/\(Instr.findKey c k' es').run E.prog w=.ok b w/\FR σ r b:=by
 unfold qCH at x;cases y:zK k with
 |false=>rw[y]at x;simp at x
 |true=>
  rw[y,cond_true,xP]at x;rw[nU y g];cases e:qT E.prog (Instr.checkKey es.isEmpty 10000 c k)with
  |none=>rw[e]at x;simp at x
  |some u=>rw[e]at x;obtain⟨b,g1,g2⟩:=qG3 h x;exact⟨b,yH _ _ _ _ e,yH _ _ _ _ g1,g2⟩
theorem qLW{y:TypeId}{k:Value}{r:Option (Nat×Value)}(h:qCH E y k []=some r):r=none:=by
 unfold qCH at h;cases x:zK k with
 |false=>rw[x]at h;simp at h
 | true=>
  rw[x,cond_true,xP]at h;cases c:qT E.prog (Instr.checkKey ([]:List MapEntry).isEmpty 10000 y k)with
  |none=>rw[c]at h;simp at h
  |some u=>
   rw[c]at h;simp only[Option.bind_some,Instr.findKey,xP]at h;cases b:qT E.prog (underlying y)with
   |none=>rw[b]at h;simp at h
   |some d=>rw[b]at h;simpa[Instr.findNow,qT,pure]using h.symm
theorem HR.mapAt(y:HR E σ H w){b ck rt:Nat}{L:Loc}{es:List MapEntry}{own:Bool}(c:H.blocks.get b=some ⟨.map es ck,rt,own⟩)(x:σ b=some L):L.off=0/\∃es',w.heap[L.blk]? = some (.map es' ck)/\ERs σ es es'.toList:=by obtain⟨o,i,h⟩:=y.objs b _ L c x;cases o<;>simp only[pC]at h;obtain⟨g,rfl,e⟩:=h;exact⟨g,_,i,e⟩
theorem qCl{es:List MapEntry}{es':Array MapEntry}(h:ERs σ es es'.toList):es'.isEmpty=es.isEmpty:=by
 have:=h.length;rw[Array.length_toList]at this;cases es with
 |nil=>simp at this ⊢;simpa using this
 |cons e es=>simp at this ⊢;intro e;rw[e]at this;simp at this
theorem qIy(he:EOk E)(S:HR E σ H w){t:TypeId}{x q k k' v:Value}{ok:Bool}(h:rI E H t x k ok=some v)(O:VR σ x q)(C:VR σ k k'):∃v',(Instr.lookup t q k' ok).run E.prog w=.ok v' w/\VR σ v v':=by
 unfold rI at h;split at h;case h_2=>cases h
 rename_i N et sz Z z ag es Q g;have y:=λw=>zV he Q w;have e:(q=.map none/\es=[])∨∃B es' ck,q=.map (some B)/\w.heap[B]? = some (.map es' ck)/\ERs σ es es'.toList:=by
  unfold qD8 at g;split at g
  ·cases g;cases O;exact .inl ⟨rfl,rfl⟩
  ·rename_i r;split at g;case h_2=>cases g
   rename_i ck rt own U;cases g;cases O with
   |leaf P=>simp[vL]at P
   |map R P=>obtain⟨_,es',g1,g2⟩:=S.mapAt U R;grind
  cases g
 split at h;case h_3=>cases h
 ·rename_i i u b;cases h;rcases e with⟨rfl,rfl⟩|⟨B,es',ck,rfl,G,c⟩
  ·cases qLW b
  obtain⟨M,c1,o,l⟩:=qAf (w:=w) c C b;cases l with
  |some hv=>
   rename_i L;rw[←qCl c]at c1;refine⟨bif ok then .tuple #[L,.bool true]else L,?_,?_⟩
   ·simp only[Instr.lookup,Sem.run_bind,y,Result.andThen_ok,Sem.run_pure,jE E.prog G (by simp),c1,o];cases ok<;>rfl
   cases ok
   ·exact hv
   exact .tuple (.cons hv (.cons (.leaf rfl) .nil))
 rename_i ed V W ez X b F;split at h;case h_2=>cases h
 rename_i p A;cases h;obtain⟨K,z2⟩:=qAA he F rfl A w;have j:VR σ p p:=xC _ _ z2;refine⟨bif ok then .tuple #[p,.bool false]else p,?_,?_⟩
 ·rcases e with⟨rfl,rfl⟩|⟨B,es',ck,rfl,G,c⟩
  ·obtain⟨M,c1,o,l⟩:=qAf (w:=w) (es':=[]) (σ:=σ) .nil C b;cases l;have J:(Instr.checkKey (#[]:Array MapEntry).isEmpty 10000 N k').run E.prog w=.ok () w:=c1;have I:(Instr.findKey N k' (#[]:Array MapEntry).toList).run E.prog w=.ok none w:=o;simp only[Instr.lookup,Sem.run_bind,y,Result.andThen_ok,Sem.run_pure,J,I,K];cases ok<;>rfl
  obtain⟨M,c1,o,l⟩:=qAf (w:=w) c C b;cases l;rw[←qCl c]at c1;simp only[Instr.lookup,Sem.run_bind,y,Result.andThen_ok,Sem.run_pure,jE E.prog G (by simp),c1,o,K];cases ok<;>rfl
 cases ok
 ·exact j
 exact .tuple (.cons j (.cons (.leaf rfl) .nil))
end
section
variable{E:Env}{σ:vH}{H:AH}{w:World}
theorem ERs.get:∀{es es':List MapEntry},ERs σ es es'->∀(i:Nat) (e:MapEntry),es[i]? = some e->∃e',es'[i]? = some e'/\e'.key=e.key/\e'.born=e.born
 |_,_,.nil,i,e,h=>by simp at h
 |_,_,.cons c y hv b x,0,e,h=>by simp at h;subst h;exact⟨_,rfl,y,b⟩
 |_,_,.cons c y hv b x,i+1,e,h=>by simpa using ERs.get x i e (by simpa using h)
theorem ERs.modify{k v v':Value}(x:zK k=true)(h:VR σ v v'):∀{es es':List MapEntry} (i:Nat),ERs σ es es'->
  ERs σ (Go.Am.modify es i k v) (es'.modify i λe=>{e with key:=k,val:=v'})
 |_,_,_,.nil=>by simp[Go.Am.modify];exact .nil
 |_,_,0,.cons c g hv b y=>by simp[Go.Am.modify];exact .cons x rfl h b y
 |_,_,i+1,.cons c g hv b y=>by simp[Go.Am.modify];exact .cons c g hv b (ERs.modify x h i y)
theorem ERs.snoc{e e':MapEntry}(y:zK e.key=true)(x:e'.key=e.key)(h:VR σ e.val e'.val)(b:e'.born=e.born):∀{es es':List MapEntry},ERs σ es es'->
  ERs σ (es++[e]) (es'++[e'])
 |_,_,.nil=>.cons y x h b .nil
 |_,_,.cons g i hv j c=>.cons g i hv j (ERs.snoc y x h b c)
theorem ERs.erase:∀{es es':List MapEntry} (i:Nat),ERs σ es es'->ERs σ (es.eraseIdx i) (es'.eraseIdx i)
 |_,_,_,.nil=>by simp;exact .nil
 |_,_,0,.cons x y hv b h=>by simpa using h
 |_,_,i+1,.cons x y hv b h=>by simp;exact .cons x y hv b (ERs.erase i h)
theorem qDs(es:Array MapEntry)(i:Nat)(f:MapEntry->MapEntry):(es.modify i f).toList=es.toList.modify i f:=by grind
theorem qBw(he:EOk E)(q:HR E σ H w){t:TypeId}{m m' k k' v v':Value}{H':AH}(h:mM E H t m k v=some H')(O:VR σ m m')(P:VR σ k k')(hv:VR σ v v'):∃w',(Instr.mapUpdate t m' k' v').run E.prog w=.ok () w'/\Step E σ H w σ H' w':=by
 unfold mM at h;split at h;case h_2=>cases h
 rename_i J V sz Q z ag r N;split at h;case h_2=>cases h
 rename_i es ck rt F;cases x:zK k with
 |false=>rw[x]at h;simp at h
 | true=>
  rw[x,cond_true]at h;rw[nU x P];cases O with
  |leaf o=>simp[vL]at o
  | map p o=>
   rename_i L;obtain⟨_,es',g,y⟩:=q.mapAt F p;have b:=λw=>zV he N w;simp only[xP]at h;cases I:qT E.prog (Instr.checkKey false 10000 J k)with
   |none=>rw[I]at h;simp at h
   | some u=>
    rw[I]at h;simp only[Option.bind_some]at h;have c1:=λw=>yH E.prog w _ _ I;cases G:qT E.prog (Instr.findKey J k es)with
    |none=>rw[G]at h;simp at h
    | some S=>
     rw[G]at h;obtain⟨U,g1,g2⟩:=qG3 y G;have K:=λw=>yH E.prog w _ _ g1;cases g2 with
     |none=>
      simp only[oI]at h;subst h;refine⟨_,?_,Step.write q F rfl p (WSet.setObj (.map (es'.push {key:=k,val:=v',born:=ck}) (ck+1)) g) ?_⟩
      ·simp only[Instr.mapUpdate,Sem.run_bind,b,Result.andThen_ok,jE E.prog g (by simp),c1,K,yV E.prog g (by simp)]
      exact⟨o,rfl,by rw[Array.toList_push];exact ERs.snoc (e:={key:=k,val:=v,born:=ck}) (e':={key:=k,val:=v',born:=ck}) x rfl hv rfl y⟩
     | some M=>
      rename_i i u R;simp only at h;split at h;case h_2=>cases h
      rename_i e B;cases c:Instr.sameBits 10000 e.key k with
      |false=>rw[c]at h;simp at h
      |true=>
       rw[c,cond_true]at h;simp only[oI]at h;subst h;obtain⟨e',C,A,_⟩:=y.get i e B;have l:(((es'[i]?).map (·.key)).getD k)=e.key:=by rw[←Array.getElem?_toList,C];simp[A]
       have j:∀w,(Instr.keyThatStays (((es'[i]?).map (·.key)).getD k) k).run E.prog w=.ok k w:=by intro w;rw[l];simp[Instr.keyThatStays,c]
       refine⟨_,?_,Step.write q F rfl p (WSet.setObj (.map (es'.modify i λe=>{e with key:=k,val:=v'}) ck) g) ?_⟩
       ·simp only[Instr.mapUpdate,Sem.run_bind,b,Result.andThen_ok,jE E.prog g (by simp),c1,K,j,yV E.prog g (by simp)]
       exact⟨o,rfl,by rw[qDs];exact y.modify x hv i⟩
theorem qI3(he:EOk E)(x:HR E σ H w){t ty:TypeId}{ats:List TypeId}{m m' k k':Value}{H':AH}(h:tQ E H t m k=some H')(y:VR σ m m')(b:VR σ k k'):
  ∃w',(Builtin.delete_ ⟨t::ats⟩ ty #[m',k']).run E.prog w=.ok (.tuple #[]) w'/\Step E σ H w σ H' w':=by unfold tQ at h;cases h
theorem qLh(he:EOk E)(g:HR E σ H w){t:TypeId}{ti:TI}{s:ByteArray}{b:Value}(e:E.types.get t=some ti)(hd:ti.desc=.string)(c:VR σ (.string s) b):j9 E σ H w (some (.val (.pointer (some ⟨H.next,0,none⟩)),H.new (.siter s 0))) (do pure (.value (←Instr.range t b))):=by
 intro k H' h j;cases h;rw[c.string_inv];have x:=λw=>zV he e w;rw[hd]at x;have y:=j.head (Nat.lt_succ_self _);have st:=Step.new g y (.siter s 0) (.stringIter s 0) ⟨w.heap.size,0,0,0⟩ rfl ⟨rfl,rfl,rfl⟩;refine⟨_,_,.value (.pointer (some ⟨w.heap.size,0,none⟩)),?_,st,?_⟩
 ·simp only[Instr.range,Sem.run_bind,x,Result.andThen_ok,Sem.run_pure,run_newObj];rfl
 exact VR.ptr (σ:=σ.add H.next ⟨w.heap.size,0,0,0⟩) (i:=0) vH.add_self
theorem ERs.filter{p:MapEntry->Bool}(x:∀e e':MapEntry,e'.born=e.born->p e'=p e):∀{es es':List MapEntry},ERs σ es es'->ERs σ (es.filter p) (es'.filter p)
 |_,_,.nil=>.nil
 |_,_,.cons (e:=e) (e':=e') g j hv y c=>by
  have h:=x e e' y;have b:=ERs.filter x c;cases i:p e
  ·grind
  simpa[List.filter_cons,h,i]using ERs.cons g j hv y b
theorem ERs.all{p:MapEntry->Bool}(h:∀e e':MapEntry,e'.born=e.born->p e'=p e):∀{es es':List MapEntry},ERs σ es es'->es'.all p=es.all p
 |_,_,.nil=>rfl
 |_,_,.cons b c hv y x=>by simp[h _ _ y,ERs.all h x]
theorem ERs.nil_inv{es':List MapEntry}(h:ERs σ [] es'):es'=[]:=by cases h;rfl
theorem qOP(e:HR E σ H w){it zC:Value}{str:Bool}{ty:TypeId}(j:VR σ it zC):j9 E σ H w (qB8 H it str) (do pure (.value (←Instr.next zC str ty))):=by
 intro q H' h p;unfold qB8 at h;split at h;case h_2=>cases h
 ·rename_i r;split at h;case h_2=>cases h
  rename_i s x rt i;cases j with
  |leaf c=>simp[vL]at c
  | ptr g=>
   rename_i L;obtain⟨o,g1,g2⟩:=e.objs r _ L i g;cases o<;>simp only[pC]at g2;obtain⟨c,l,k⟩:=g2;rw[l,k]at g1;simp only[vU]at h;rw[c];split at h
   ·rename_i b;cases h;refine⟨σ,_,.value (.tuple #[.bool true,goInt x,.int .i32 (Utf8.decode s x).1]),?_,Step.write e i rfl g (WSet.setObj (.stringIter s (x+(Utf8.decode s x).2)) g1) ⟨c,rfl,rfl⟩,?_⟩
    ·have y:x<s.size:=b;simp only[Instr.next,Nat.add_zero,Sem.run_bind,jE E.prog g1 (by simp),Result.andThen_ok,if_pos y,yV E.prog g1 (by simp),Sem.run_pure]
    exact .tuple (.cons (.leaf rfl) (.cons (.leaf rfl) (.cons (.leaf rfl) .nil)))
   rename_i b;cases h;refine⟨σ,w,.value (.tuple #[.bool false]),?_,Step.refl e,.tuple (.cons (.leaf rfl) .nil)⟩;have y:¬x<s.size:=b;simp only[Instr.next,Nat.add_zero,Sem.run_bind,jE E.prog g1 (by simp),Result.andThen_ok,if_neg y,Sem.run_pure]
theorem ERs.find{b:Nat}{e:MapEntry}:∀{es es':List MapEntry},ERs σ es es'->es.find? (λe=>e.born==b)=some e->
  ∃e',es'.find? (λe=>e.born==b)=some e'/\zK e.key=true/\e'.key=e.key/\VR σ e.val e'.val
 |_,_,.nil,h=>by simp at h
 |_,_,.cons (e:=x) (e':=c) i j hv k g,h=>by
  rw[List.find?_cons]at h ⊢
  rw[k]
  cases y:(x.born==b)with
  |true=>rw[y]at h;simp only[oI]at h;subst h;exact⟨c,rfl,i,j,hv⟩
  |false=>rw[y]at h;exact ERs.find g h
theorem qL4(A:HR E σ H w){it zC v:Value}(h:qI0 H it=some v)(K:VR σ it zC):∃v',(Instr.entry zC).run E.prog w=.ok v' w/\VR σ v v':=by
 unfold qI0 at h;split at h;case h_2=>cases h
 rename_i r;split at h;case h_2=>cases h
 rename_i m l seen z rt Q;split at h;case h_2=>cases h
 rename_i es ck C u O;rw[qZ]at h;split at h;case isFalse=>cases h
 rename_i P;split at h;case h_2=>cases h
 rename_i b g;split at h;case h_2=>cases h
 rename_i e i;cases h;cases K with
 |leaf t=>simp[vL]at t
 | ptr N=>
  rename_i L;obtain⟨o,g1,g2⟩:=A.objs r _ L Q N;cases o<;>simp only[pC]at g2;rename_i m' k y c;cases m' with
  |none=>simp at g2
  |some m'=>
   simp only at g2;obtain⟨t,⟨M,W,X,V⟩,U,S,R⟩:=g2;obtain⟨_,es',B,q⟩:=A.mapAt O W;rw[V]at B;subst U R;obtain⟨e',J,I,G,F⟩:=q.find i;rw[t];have j:y.back? = some b:=by rw[←g,←S,Array.getLast?_toList]
   refine⟨.tuple #[e'.key,e'.val],?_,.tuple (.cons (by rw[G];exact xC _ _ I) (.cons F .nil))⟩;have x:es'.find? (λe=>e.born==b)=some e':=by rw[←J,Array.find?_toList]
   have p:(ck != c)=false:=by simpa using P
   simp only[Instr.entry,Nat.add_zero,Sem.run_bind,jE E.prog g1 (by simp),jE E.prog B (by simp),Result.andThen_ok,j,p,x,Bool.false_eq_true,if_false,Sem.run_pure]
theorem qIr(he:EOk E)(g:HR E σ H w){t:TypeId}{ti:TI}{m ck rt:Nat}{own:Bool}{es:List MapEntry}{c:Value}{j u:TypeId}(l:E.types.get t=some ti)(hd:ti.desc=.map j u)(q:H.blocks.get m=some ⟨.map es ck,rt,own⟩)(k:VR σ (.map (some m)) c):j9 E σ H w (some (.val (.pointer (some ⟨H.next,0,none⟩)),H.new (.miter m ck [] ck))) (do pure (.value (←Instr.range t c))):=by
 intro z H' h o;cases h;have x:=λw=>zV he l w;rw[hd]at x;have y:=o.head (Nat.lt_succ_self _);cases k with
 |leaf b=>simp[vL]at b
 |map e b=>
  rename_i M;obtain⟨_,es',r,p⟩:=g.mapAt q e;have hle:vH.le σ (σ.add H.next ⟨w.heap.size,0,0,0⟩):=vH.add_le y;have st:=Step.new g y (.miter m ck [] ck) (.mapIter (some M.blk) ck #[] ck) ⟨w.heap.size,0,0,0⟩ rfl ⟨rfl,⟨M,hle _ _ e,b,rfl⟩,rfl,rfl,rfl⟩;refine⟨_,_,.value (.pointer (some ⟨w.heap.size,0,none⟩)),?_,st,?_⟩
  ·simp only[Instr.range,Sem.run_bind,x,Result.andThen_ok,jE E.prog r (by simp),Sem.run_pure,run_newObj];rfl
  exact VR.ptr (σ:=σ.add H.next ⟨w.heap.size,0,0,0⟩) (i:=0) vH.add_self
theorem qC4{m:String}:∀{cs:List Value} {l:List UInt8},pZ cs=some l->∀(acc:ByteArray) (w:World),
  (forIn cs acc (λc s=>(match c with|.int .u8 n=>pure (.yield (s.push (UInt8.ofNat n.toNat)))|_=>(do stuck m;pure (.yield s)):Sem (ForInStep ByteArray)))).run E.prog w=.ok ⟨⟨acc.data.toList++l⟩⟩ w
 | [],l,h,acc,w=>by
  simp[pZ]at h;subst h
  simp_all
 | c::cs,l,h,acc,w=>by
  unfold pZ at h
  split at h
  ·rename_i x;cases x
  ·rename_i b vs x
   cases x
   simp only[Option.map_eq_some_iff]at h
   obtain⟨e,y,rfl⟩:=h
   simp only[List.forIn_cons,Sem.run_bind,Sem.run_pure,Result.andThen_ok]
   rw[qC4 y]
   congr 3
   simp[ByteArray.push]
  cases h
theorem qBO{m:String}:∀{cs:List Value} {l:List UInt8},lP cs=some l->∀(acc:ByteArray) (w:World),
  (forIn cs acc (λc s=>(match c with|.int .i32 n=>pure (.yield (s++Utf8.encode n))|_=>(do stuck m;pure (.yield s)):Sem (ForInStep ByteArray)))).run E.prog w=.ok ⟨⟨acc.data.toList++l⟩⟩ w
 | [],l,h,acc,w=>by
  simp[lP]at h;subst h
  simp_all
 | c::cs,l,h,acc,w=>by
  unfold lP at h
  split at h
  ·rename_i x;cases x
  ·rename_i b vs x
   cases x
   simp only[Option.map_eq_some_iff]at h
   obtain⟨e,y,rfl⟩:=h
   simp only[List.forIn_cons,Sem.run_bind,Sem.run_pure,Result.andThen_ok]
   rw[qBO y]
   congr 3
   simp[←List.append_assoc]
  cases h
end
section
variable{E:Env}{σ:vH}{H:AH}{w:World}
theorem qC5:∀{cs cs':List Value} {l:List UInt8},pZ cs=some l->VRs σ cs cs'->pZ cs'=some l
 | [],[],_,h,.nil=>h
 |v::_,_::_,l,h,.cons hv y=>by
  unfold pZ at h;split at h
  ·rename_i x;cases x
  ·rename_i b vs x;cases x;simp only[Option.map_eq_some_iff]at h;obtain⟨e,c,rfl⟩:=h;rw[hv.int_inv];simp only[pZ,qC5 c y];rfl
  cases h
theorem qBP:∀{cs cs':List Value} {l:List UInt8},lP cs=some l->VRs σ cs cs'->lP cs'=some l
 | [],[],_,h,.nil=>h
 |v::_,_::_,l,h,.cons hv y=>by
  unfold lP at h;split at h
  ·rename_i x;cases x
  ·rename_i b vs x;cases x;simp only[Option.map_eq_some_iff]at h;obtain⟨e,c,rfl⟩:=h;rw[hv.int_inv];simp only[lP,qBP c y];rfl
  cases h
theorem qEQ(he:EOk E)(K:HR E σ H w){s d:TypeId}{a:Option Addr}{n c:Nat}{v v':Value}(h:eR E H s d (.slice a n c) n=some v)(C:VR σ (.slice a n c) v'):∃u,(Go.convert s d v').run E.prog w=.ok u w/\VR σ v u:=by
 unfold eR at h;split at h;case h_2=>cases h
 rename_i e I M Q O G L P N cs J hd t;obtain⟨cs',f1,f2,_,_⟩:=rU K t C;have g:=λw=>zV he J w;have i:=λw=>zV he hd w;have key:∀A o,v'=.slice A n o->(match A with|some A=>loadCells A n|none=>pure #[]).run E.prog w=.ok ⟨cs'⟩ w:=by
  rintro A o rfl;cases A with
  |none=>simp only[Builtin.firstCells,Sem.run_pure]at f1 ⊢;exact f1
  |some A=>simpa only[Builtin.firstCells,Nat.mul_one]using f1
 obtain⟨A,o,rfl⟩:∃A o,v'=.slice A n o:=by
  cases C with
  |leaf R=>exact⟨_,_,rfl⟩
  |sliceE _ _ _=>exact⟨_,_,rfl⟩
  |sliceX _ _ _ _=>exact⟨_,_,rfl⟩
  |sliceZ _=>exact⟨_,_,rfl⟩
 have j:=key A o rfl;split at h
 ·rename_i p z F B k;simp only[Option.map_eq_some_iff]at h;obtain⟨l,q,rfl⟩:=h;have b:=λw=>zV he k w;have x:=qC5 q f2;refine⟨_,?_,.leaf rfl⟩;cases A with
  |none=>
   simp only[Sem.run_pure,Result.ok.injEq,and_true]at j;have:cs'=[]:=by simpa using j.symm
   rw[this]at x;simp only[pZ,oI]at x;subst x;simp only[Go.convert,Sem.run_bind,g,i,Result.andThen_ok,b,Conv.bytesToString,Sem.run_pure];rfl
  |some A=>simp only at j;have y:=λm=>qC4 (E:=E) (m:=m) x ByteArray.empty w;simp only[Go.convert,Sem.run_bind,g,i,Result.andThen_ok,b,Conv.bytesToString,Sem.run_pure,j,←Array.forIn_toList];exact(congrArg (λr:Result ByteArray=>r.andThen λa w'=>Result.ok (Value.string a) w') (y _)).trans rfl
 ·rename_i p z F B k;simp only[Option.map_eq_some_iff]at h;obtain⟨l,q,rfl⟩:=h;have b:=λw=>zV he k w;have x:=qBP q f2;refine⟨_,?_,.leaf rfl⟩;cases A with
  |none=>
   simp only[Sem.run_pure,Result.ok.injEq,and_true]at j;have:cs'=[]:=by simpa using j.symm
   rw[this]at x;simp only[lP,oI]at x;subst x;simp only[Go.convert,Sem.run_bind,g,i,Result.andThen_ok,b,Conv.runesToString,Sem.run_pure];rfl
  |some A=>simp only at j;have y:=λm=>qBO (E:=E) (m:=m) x ByteArray.empty w;simp only[Go.convert,Sem.run_bind,g,i,Result.andThen_ok,b,Conv.runesToString,Sem.run_pure,j,←Array.forIn_toList];exact(congrArg (λr:Result ByteArray=>r.andThen λa w'=>Result.ok (Value.string a) w') (y _)).trans rfl
 cases h
theorem qHt(he:EOk E)(F:HR E σ H w){s d e:TypeId}{k di:TI}{b:ByteArray}(M:E.types.get s=some k)(q:k.desc=.string)(hd:E.types.get d=some di)(A:di.desc=.slice e):j9 E σ H w (bN E H e b) (do pure (.value (←Go.convert s d (.string b)))):=by
 intro V H' h O;unfold bN at h;split at h;case h_2=>cases h
 rename_i sz R z ag j;simp only[gH,qZ,vU]at h;split at h;case isFalse=>cases h
 rename_i Q;split at h;case isFalse=>cases h
 rename_i U;cases h;have u:=O.head (Nat.lt_succ_self _);obtain⟨_,_,us,_⟩:=he.types s k M;obtain⟨_,_,C,_⟩:=he.types d di hd;obtain⟨_,_,K,_⟩:=he.types e _ j;rw[q]at us;rw[A]at C;have run:=run_bytes_of_string (P:=E.prog) w s d e b us C K;have J:b.size<=grownCap w b.size 0 e:=grownCap_ge w b.size 0 e;have B:b.data.toList.length=b.size:=by rw[Array.length_toList];rfl
 have I:grownCap w b.size 0 e<zI:=by have:=grownCap_le_maxLen w b.size 0 e (by unfold maxLen;omega);unfold maxLen at this;unfold zI;omega
 generalize N:grownCap w b.size 0 e=y at run J I;have p:(bytesRow b y).size=y:=by unfold bytesRow;grind
 have r:HR E σ H (kO w):=(Step.drew F (Nat.le_succ _)).hr
 have st:=Step.new r u (.cells (b.data.toList.map λx=>Value.int .u8 x.toNat) e) (.cells (bytesRow b y) e ((bytesRow b y).size,(bytesRow b y).size+1)) ⟨w.heap.size,0,y,1⟩ rfl
  ⟨λ_=>⟨.inr (vE _),rfl,Nat.zero_mod _⟩,by rw[p];simp,by simp only[List.length_map];omega,λS g=>by rw[j]at g;cases g;exact Q.symm,λi v G=>by
   simp only[List.getElem?_map,Option.map_eq_some_iff]at G;obtain⟨x,o,rfl⟩:=G;refine⟨rfl,_,?_,.leaf rfl⟩;have t:i<b.data.size:=by have:=(gI o).1;simpa using this
   simp only[bytesRow,Nat.zero_add];rw[Array.getElem?_append_left (by simpa using t)];simp only[Array.getElem?_map];rw[Array.getElem?_toList]at o;rw[o];rfl⟩
 refine⟨_,_,.value (.slice (some ⟨w.heap.size,0,none⟩) b.size y),?_,(Step.drew F (Nat.le_succ _)).trans st,?_⟩
 ·simp only[Sem.run_bind,run,Result.andThen_ok,Sem.run_pure];rfl
 rw[B];exact VR.sliceX (σ:=σ.add H.next ⟨w.heap.size,0,y,1⟩) (b:=H.next) (i:=0) (l:=b.size) (c:=y) (L:=⟨w.heap.size,0,y,1⟩) vH.add_self J I (by simp)
theorem qJf(he:EOk E){xt y:TypeId}{ti:TI}{v v':Value}{ok:Bool}(A:E.types.get y=some ti)(hv:VR σ v v'):(∀u,bO E ti y v=some (some u)->∃o,(Instr.typeAssert v' xt y ok).run E.prog w=.ok (bif ok then .tuple #[o,.bool true]else o) w/\VR σ u o)/\(∀z j,bO E ti y v=some none->ok=true->ti.zero=some z->rF ti.agg z=some j->(Instr.typeAssert v' xt y ok).run E.prog w=.ok (.tuple #[j,.bool false]) w/\VR σ j j):=by
 have hu:=λw=>zV he A w;constructor
 ·intro u h;unfold bO at h;split at h
  ·rename_i b t x hd;split at h;case h_2=>cases h
   rename_i i r;split at h;case h_2=>cases h
   rename_i hm;cases h;cases hv with
   |leaf g=>simp[vL]at g
   |iface k=>refine⟨_,?_,.iface k⟩;rw[hd]at hu;simp only[Instr.typeAssert,Sem.run_bind,hu,Result.andThen_ok,run_typeInfo _ r,hm,Sem.run_pure];cases ok<;>rfl
  ·cases h
  ·cases h
  ·rename_i t x c;split at h;case isFalse=>cases h
   rename_i e;cases h;cases hv with
   |leaf g=>simp[vL]at g
   |iface k=>
    refine⟨_,?_,k⟩;subst e;revert hu;cases hd:ti.desc with
    |interface b=>exact absurd hd (c _)
    |_=>intro hu;simp only[Instr.typeAssert,Sem.run_bind,hu,Result.andThen_ok,if_true,Sem.run_pure];cases ok<;>rfl
  ·cases h
  cases h
 intro z j h q B p;subst q;obtain⟨l,z2⟩:=qAA he A B p w;refine⟨?_,xC _ _ z2⟩;unfold bO at h;split at h
 ·rename_i b t x hd;split at h;case h_2=>cases h
  rename_i i r;split at h;case h_1=>cases h
  rename_i m hm;cases hv with
  |leaf g=>simp[vL]at g
  |iface k=>rw[hd]at hu;simp only[Instr.typeAssert,Sem.run_bind,hu,Result.andThen_ok,run_typeInfo _ r,hm,Sem.run_pure,if_true,l]
 ·rename_i b hd;cases hv;rw[hd]at hu;simp only[Instr.typeAssert,Sem.run_bind,hu,Result.andThen_ok,Sem.run_pure,if_true,l]
 ·cases h
 ·rename_i t x c;split at h;case isTrue=>cases h
  rename_i e;cases hv with
  |leaf g=>simp[vL]at g
  |iface k=>
   revert hu;cases hd:ti.desc with
   |interface b=>exact absurd hd (c _)
   |_=>intro hu;simp only[Instr.typeAssert,Sem.run_bind,hu,Result.andThen_ok,if_neg e,Sem.run_pure,if_true,l]
 ·rename_i c;cases hv;revert hu;cases hd:ti.desc with
  |interface b=>exact absurd hd (c _)
  |_=>intro hu;simp only[Instr.typeAssert,Sem.run_bind,hu,Result.andThen_ok,Sem.run_pure,if_true,l]
 cases h
theorem qIt(he:EOk E){t:TypeId}{x k y:Value}{name:String}{f:FuncId}(h:pG E (.iface t x) name=some (f,y))(A:VR σ x k)(j:Nat):(method (j+1) t k name).run E.prog w=.ok (f,k) w/\y=x:=by
 simp only[pG]at h;split at h;case h_2=>cases h
 rename_i i q z l;split at h;case h_2=>cases h
 rename_i nm r p g e hm;simp only[gH,qZ]at h;split at h;case isFalse=>cases h
 rename_i u;have b:p.toList=[]:=List.length_eq_zero_iff.1 u;have o:p.isEmpty=true:=by cases p;simp at b;simp[b]
 have hu:=λw=>zV he l w;cases c:qBa q.desc e with
 |false=>rw[c]at h;simp at h
 |true=>rw[c,cond_true]at h;cases h;refine⟨?_,rfl⟩;simp only[method,Sem.run_bind,run_typeInfo _ z,Result.andThen_ok,hm,b,follow,Sem.run_pure,o,if_true,receiverAt,hu];revert c;cases hd:q.desc<;>intro c<;>simp only[qBa]at c<;>cases e<;>first|(cases c;done)|(simp at c;done)|rfl
theorem fP(he:EOk E){f:FuncId}{fn:Func}(x:E.funcs.get f=some fn)(h:Array Value):(callFunc f h).run E.prog w=.ok (.enter f h) w:=by
 obtain⟨i,g,e⟩:=he.funcs f fn x;have c:fn.body.isNone=false:=by cases y:fn.body<;>simp[y]at g ⊢
 have b : (fn.name == "runtime.NumGoroutine") = false := by simpa using e
 simp only[callFunc,Sem.run_bind,run_program,Result.andThen_ok,i,b,c,Bool.false_eq_true,if_false,Sem.run_pure]
theorem qRZ{v:Value}{name:String}{r:FuncId×Value}(h:pG E v name=some r):∃t x,v=.iface t x:=by unfold pG at h;grind
theorem mD(he:EOk E){v v' y:Value}{name:String}{f:FuncId}(h:pG E v name=some (f,y))(hv:VR σ v v'){fn:Func}(i:E.funcs.get f=some fn)(b:Array Value):∃c,(callMethod v' name b).run E.prog w=.ok (.enter f (#[c]++b)) w/\VR σ y c:=by
 obtain⟨t,x,rfl⟩:=qRZ h;cases hv with
 |leaf j=>simp[vL]at j
 |iface e=>rename_i g;obtain⟨n,hn⟩:∃n,E.prog.types.size+Made.depth=n+1:=⟨E.prog.types.size+Made.depth-1,by unfold Made.depth;omega⟩;obtain⟨g1,rfl⟩:=qIt (w:=w) he h e n;refine⟨g,?_,e⟩;simp only[callMethod,Sem.run_bind,run_program,Result.andThen_ok,hn,g1,fP he i]
end
section
variable{E:Env}{σ:vH}{H:AH}{w:World}{fr:Fr}{a:Act}
theorem VRs.cons_inv{v:Value}{l x:List Value}(h:VRs σ (v::l) x):∃v' r,x=v'::r/\VR σ v v'/\VRs σ l r:=by cases h with|cons h hs=>exact⟨_,_,rfl,h,hs⟩
theorem VRs.nil_inv{x:List Value}(h:VRs σ [] x):x=[]:=by cases h;rfl
theorem VR.slice_inv{a:Option Addr}{n c:Nat}{v':Value}(h:VR σ (.slice a n c) v'):∃b y,v'=.slice b n y/\(c<zI->y=c):=by
 cases h with
 |leaf e=>exact⟨_,_,rfl,λ_=>rfl⟩
 |sliceE _ _ _=>exact⟨_,_,rfl,λ_=>rfl⟩
 |sliceX _ _ _ _=>exact⟨_,_,rfl,λh=>absurd h (Nat.lt_irrefl _)⟩
 |sliceZ x=>exact⟨_,_,rfl,λh=>by rcases x with x|⟨x,_⟩<;>omega⟩
theorem j9.step{x:AR}{r:Option AH}{s:Sem Next}(h:∀H',r=some H'->∃w' nx,s.run E.prog w=.ok nx w'/\Step E σ H w σ H' w'/\qMw E σ w' x nx):j9 E σ H w (r.map λH'=>(x,H')) s:=by intro c H' he _;simp only[Option.map_eq_some_iff]at he;obtain⟨H1,b,y⟩:=he;cases y;obtain⟨w',nx,g⟩:=h _ b;exact⟨σ,w',nx,g⟩
theorem qZ0(he:EOk E)(k:HR E σ H w){ats:List TypeId}{ty:TypeId}{x e v:Value}(b:VR σ x e)(h:qGD E H ats x=some v):∃v',(Builtin.len_ ⟨ats⟩ ty #[e]).run E.prog w=.ok v' w/\VR σ v v':=by
 unfold qGD at h;split at h
 ·cases h
 rename_i t rest;split at h
 ·cases h
 rename_i A i;have hu:=λw=>zV he i w;split at h
 ·rename_i hd;cases h;rw[b.string_inv];rw[hd]at hu;exact⟨_,by simp[Builtin.len_,hu],.leaf rfl⟩
 ·rename_i hd;cases h;obtain⟨G,F,rfl,_⟩:=b.slice_inv;rw[hd]at hu;exact⟨_,by simp[Builtin.len_,hu],.leaf rfl⟩
 ·rename_i B C hd;rw[hd]at hu;simp only[Option.map_eq_some_iff]at h;obtain⟨es,y,rfl⟩:=h;unfold qD8 at y;split at y
  ·cases y;cases b;exact⟨_,by simp[Builtin.len_,hu],.leaf rfl⟩
  ·split at y;case h_2=>cases y
   rename_i r ck rt own q;cases y;cases b with
   |leaf g=>simp[vL]at g
   |map j g=>
    obtain⟨_,es',g1,g2⟩:=k.mapAt q j;refine⟨goInt es.length,?_,.leaf rfl⟩;have o:es'.size=es.length:=by rw[←g2.length];simp
    simp[Builtin.len_,hu,jE E.prog g1,o]
  cases y
 ·rename_i n el hd;rw[hd]at hu;cases h;exact⟨_,by simp[Builtin.len_,hu],.leaf rfl⟩
 ·rename_i p hd;rw[hd]at hu;split at h;case h_2=>cases h
  rename_i n el sz u z ag l;cases h;have c:=λw=>zV he l w;exact⟨_,by simp[Builtin.len_,hu,c],.leaf rfl⟩
 cases h
theorem zA6(he:EOk E){ats:List TypeId}{ty:TypeId}{x b v:Value}(c:VR σ x b)(h:qXK E ats x=some v):∃v',(Builtin.cap_ ⟨ats⟩ ty #[b]).run E.prog w=.ok v' w/\VR σ v v':=by
 unfold qXK at h;split at h
 ·cases h
 rename_i t rest;split at h
 ·cases h
 rename_i g e;have hu:=λw=>zV he e w;split at h;case h_2=>cases h
 rename_i hd;simp only[vU]at h;split at h;case isTrue=>cases h
 rename_i i;cases h;obtain⟨k,j,rfl,y⟩:=c.slice_inv;rw[hd]at hu;rw[y (by omega)];exact⟨_,by simp[Builtin.cap_,hu],.leaf rfl⟩
theorem qXy(he:EOk E)(A:HR E σ H w){ats:List TypeId}{ty:TypeId}{d I s r:Value}(k:VR σ d I)(g:VR σ s r):j9 E σ H w (qEA E H ats d s) (do pure (.value (←Builtin.copy_ ⟨ats⟩ ty #[I,r]))):=by
 intro U H' h S;unfold qEA at h;split at h
 ·cases h
 rename_i t rest;split at h
 ·cases h
 rename_i R J;have hu:=λw=>zV he J w;split at h;case h_2=>cases h
 rename_i G base q cap hd;rw[hd]at hu;split at h;case h_2=>cases h
 rename_i e sl B z;split at h
 ·cases h
 rename_i cs C;obtain⟨cs',f1,f2,N,M⟩:=rU A C g;have j:=qJ5 (E:=E) (w:=w) z g;have c:=λw=>zX he B w;simp only[qZ]at h;split at h
 ·rename_i l;cases h;have i:cs'=[]:=by have:=f2.length;rw[N,l,Nat.zero_mul]at this;exact List.length_eq_zero_iff.1 this
  subst i;obtain⟨Q,F,rfl,_⟩:=k.slice_inv;refine⟨σ,w,.value (goInt (Nat.min sl q)),?_,Step.refl A,.leaf rfl⟩;cases Q<;>simp[Builtin.copy_,hu,j,c,f1,storeCells]
 rename_i l;split at h;case h_2=>cases h
 rename_i b o;simp only[Option.map_eq_some_iff]at h;obtain⟨H1,u,h⟩:=h;cases h
 have p:∀(L:Loc) (F:Nat),σ b=some L->∃y w' nx,(do pure (.value (←Builtin.copy_ ⟨t::rest⟩ ty #[.slice (some ⟨L.blk,L.off+o,none⟩) q F,r])):Sem Next).run E.prog w=.ok nx w'/\
   Step E σ H w y H' w'/\qMw E y w' (.val (goInt (Nat.min sl q))) nx:=by
  intro L F x
  obtain⟨w',P,O⟩:=bT A u x f2 M
  refine⟨σ,w',.value (goInt (Nat.min sl q)),?_,O,.leaf rfl⟩
  simp[Builtin.copy_,hu,j,c,f1,P]
 cases k with
 |leaf l=>simp[vL]at l
 |sliceE x _ _=>exact p _ _ x
 |sliceX x _ _ _=>exact p _ _ x
 |sliceZ K=>simp at l
theorem qSM(he:EOk E)(u:HR E σ H w){ats:List TypeId}{ty:TypeId}{x q:Value}(r:VR σ x q):j9 E σ H w (qAm E H ats x) (do pure (.value (←Builtin.clear_ ⟨ats⟩ ty #[q]))):=by
 intro W H' h S;unfold qAm at h;split at h
 ·cases h
 rename_i t rest;split at h
 ·cases h
 rename_i R C;have hu:=λw=>zV he C w;split at h;case h_2=>cases h
 rename_i A base n cap hd;rw[hd]at hu;split at h;case h_2=>cases h
 rename_i V M N K O l;simp only[qZ]at h;split at h
 ·rename_i c;cases h;subst c;obtain⟨Q,p,rfl,_⟩:=r.slice_inv;refine⟨σ,w,.value (.tuple #[]),?_,Step.refl u,.tuple .nil⟩;cases Q<;>simp[Builtin.clear_,hu]
 rename_i c;split at h;case h_2=>cases h
 rename_i b o;simp only[Option.map_eq_some_iff]at h;obtain⟨H1,k,h⟩:=h;cases h;obtain⟨i,J,I,z,G,U⟩:=gA he l rfl w;have j:(Builtin.zeroCells i.cells n).toList=xM K n:=by unfold Builtin.zeroCells;rw[aI i.cells n i.cells.size rfl,z]
 have g:∀(L:Loc) (p:Nat),σ b=some L->∃e w' nx,(do pure (.value (←Builtin.clear_ ⟨t::rest⟩ ty #[.slice (some ⟨L.blk,L.off+o,none⟩) n p])):Sem Next).run E.prog w=.ok nx w'/\
   Step E σ H w e H' w'/\qMw E e w' (.val (.tuple #[])) nx:=by
  intro L p y
  obtain⟨w',B,P⟩:=bT u k y (e9 (oQ I z) n) (sJ G n)
  refine⟨σ,w',.value (.tuple #[]),?_,P,.tuple .nil⟩
  rw[←j]at B
  obtain⟨m,rfl⟩:=Nat.exists_eq_succ_of_ne_zero c
  simp[Builtin.clear_,hu,J,B]
 cases r with
 |leaf c=>simp[vL]at c
 |sliceE y _ _=>exact g _ _ y
 |sliceX y _ _ _=>exact g _ _ y
 |sliceZ F=>exact absurd rfl c
theorem aR(E:Env)(H H':AH)(ats:List TypeId)(p l:Value)(x:AR)(y:∀v,x≠.val v):wI E H ats p l≠some (x,H'):=λh=>by unfold wI at h;cases h
theorem qLy:(Extern.allGenericRows.lookup kI).isNone=true:=by kernel_rfl
theorem qLx:(Extern.allTypedRows.lookup kI).isNone=true:=by kernel_rfl
theorem qLw:Extern.allRows.lookup kI=some Extern.AbiNoEscape.same:=by kernel_rfl
theorem qDy{fn:Func}(h:fn.name=kI):Extern.find fn=some Extern.AbiNoEscape.same:=by have y:=Option.isNone_iff_eq_none.1 qLy;have x:=Option.isNone_iff_eq_none.1 qLx;simp only[Extern.find,h,y,x,qLw];rfl
theorem fM:∀{l x:List Value},l.all zK=true->VRs σ l x->x=l
 |_,_,_,.nil=>rfl
 |_,_,h,.cons hv y=>by simp only[List.all_cons,zR]at h;rw[nU h.1 hv,fM h.2 y]
theorem qHu(he:EOk E)(g:HR E σ H w)(b:Builtin){ats:List TypeId}(ty:TypeId)(o:Array Bool){args j:List Value}(i:VRs σ args j):j9 E σ H w (xY E H b ats args) (builtin b ⟨ats⟩ ty o ⟨j⟩):=by
 unfold xY;split
 ·split
  ·obtain⟨F,r,rfl,y,x⟩:=i.cons_inv;obtain⟨p,r,rfl,z,t⟩:=x.cons_inv;rw[t.nil_inv];exact qJg he g ty y z
  exact j9.none
 ·split
  ·obtain⟨p,r,rfl,y,x⟩:=i.cons_inv;rw[x.nil_inv];exact j9.one g λv hv=>qZ0 he g y hv
  exact j9.none
 ·split
  ·obtain⟨p,r,rfl,y,x⟩:=i.cons_inv;rw[x.nil_inv];exact j9.one g λv hv=>zA6 he y hv
  exact j9.none
 ·split
  ·obtain⟨p,r,rfl,y,x⟩:=i.cons_inv;rw[x.nil_inv];intro A H' h C;cases h;refine⟨σ,w,.value (.pointer none),?_,Step.refl g,.leaf rfl⟩;cases y with
   |leaf I=>rfl
  ·rename_i a l c;obtain⟨p,r,rfl,y,x⟩:=i.cons_inv;rw[x.nil_inv];intro A H' h C;rw[vU]at h;split at h;case isFalse=>cases h
   rename_i J;cases h;cases y with
   |leaf I=>simp[vL]at I
   |sliceE B K G=>refine⟨σ,w,.value (.pointer _),?_,Step.refl g,.ptr B⟩;obtain⟨k,rfl⟩:∃k,c=k+1:=⟨c-1,by omega⟩;rfl
   |sliceX B K G L=>refine⟨σ,w,.value (.pointer _),?_,Step.refl g,.ptr B⟩;rename_i c1 _;obtain⟨k,rfl⟩:∃k,c1=k+1:=⟨c1-1,by omega⟩;rfl
   |sliceZ G=>omega
  exact j9.none
 ·split
  ·obtain⟨N,r,rfl,y,x⟩:=i.cons_inv;obtain⟨O,r,rfl,z,t⟩:=x.cons_inv;rw[t.nil_inv];intro A H' h C;cases A with
   |val v=>obtain⟨w',u,g1,g2,g3⟩:=uC (ty:=ty) he g (by simp) h y z;refine⟨σ,w',.value u,?_,g2,g3⟩;simp only[builtin,Sem.run_bind];exact(congrArg (λr:Result Value=>r.andThen λa w'=>(pure (Next.value a):Sem Next).run E.prog w') g1).trans rfl
   |_=>exact absurd h (aR _ _ _ _ _ _ _ (λv e=>by cases e))
  exact j9.none
 ·split
  ·obtain⟨F,r,rfl,y,x⟩:=i.cons_inv;obtain⟨p,r,rfl,z,t⟩:=x.cons_inv;rw[t.nil_inv];exact qXy he g y z
  exact j9.none
 ·split
  ·obtain⟨p,r,rfl,y,x⟩:=i.cons_inv;rw[x.nil_inv];exact qSM he g y
  exact j9.none
 ·split
  ·obtain⟨F,r,rfl,y,x⟩:=i.cons_inv;obtain⟨p,r,rfl,z,t⟩:=x.cons_inv;rw[t.nil_inv];refine j9.step λH' M=>?_;obtain⟨w',g1,g2⟩:=qI3 (ty:=ty) he g M y z;refine⟨w',.value (.tuple #[]),?_,g2,.tuple .nil⟩;simp only[builtin,Sem.run_bind];exact congrArg (λr:Result Value=>r.andThen λa w'=>(pure (Next.value a):Sem Next).run E.prog w') g1
  exact j9.none
 ·cases q:args.all zK with
  |false=>exact j9.none
  |true=>rw[cond_true,fM q i];refine j9.one g λv hv=>?_;obtain⟨g1,g2⟩:=flat?_spec hv;exact⟨v,yH _ _ _ _ g1,xC _ _ g2⟩
 ·cases q:args.all zK with
  |false=>exact j9.none
  |true=>rw[cond_true,fM q i];refine j9.one g λv hv=>?_;obtain⟨g1,g2⟩:=flat?_spec hv;exact⟨v,yH _ _ _ _ g1,xC _ _ g2⟩
 ·split
  ·rw[i.nil_inv];intro A H' h C;cases h;exact⟨σ,w,.recover,rfl,Step.refl g,trivial⟩
  exact j9.none
 exact j9.none
theorem qIp(he:EOk E)(i:HR E σ H w){f:FuncId}{fn:Func}{n:Nat}{y:AR}{H':AH}(b:E.prog.funcs[f]? = some fn)(g:fn.name=nM)(e:fn.body.isNone=true)(c:(Extern.findNext fn).isNone=true)(h:qBc E H fn n=some (y,H'))(j:wV σ H.next H'.next):∃x w' nx,(callFunc f ⟨[.int .i64 (.ofNat n)]⟩).run E.prog w=.ok nx w'/\Step E σ H w x H' w'/\qMw E x w' y nx:=by unfold qBc at h;cases h
theorem cF(xs:Array Operand)(f:Operand->Value):(⟨xs.toList.map f⟩:Array Value)=xs.map f:=by apply Array.ext';simp
theorem qCX(y:Value)(l:List Value): #[y]++(⟨l⟩:Array Value)=⟨y::l⟩:=by apply Array.ext';simp
theorem zD3(x y z:List Value):(⟨x⟩:Array Value)++⟨y⟩++⟨z⟩=⟨x++y++z⟩:=by apply Array.ext';simp
theorem qQt(he:EOk E)(R:HR E σ H w)(c:Call)(ty:TypeId)(I:∀x∈c.operands.toList,∀v,ev E fr x=some v->VR σ v (a.eval x)):j9 E σ H w (kD E fr H c) (do let d ←resolve a.eval c ty;invoke d.target d.args):=by
 unfold kD;split
 ·exact j9.none
 rename_i args hargs;have z:=tL (a:=a) (λx G=>I x (by simp only[Call.operands,Array.toList_append,List.mem_append];exact .inr G)) hargs;have j:c.args.map a.eval=⟨c.args.toList.map a.eval⟩:=(cF _ _).symm;generalize hargs':c.args.toList.map a.eval=e at z j;have enter:∀(f:FuncId) (xs q:List Value) (s:Sem Next),VRs σ xs q->(∀fn,E.funcs.get f=some fn->s.run E.prog w=.ok (.enter f ⟨q⟩) w)->j9 E σ H w (pX E H f xs) s:=by
  intro f xs q s G hs Q H' h O;unfold pX at h;split at h;case h_2=>cases h
  rename_i fn i;cases h;exact⟨σ,w,.enter f ⟨q⟩,hs fn i,Step.refl R,rfl,G,fn,i⟩
 have U:∀(f:FuncId) (xs q:List Value) (s:Sem Next),VRs σ xs q->s.run E.prog w=(callFunc f ⟨q⟩).run E.prog w->j9 E σ H w (pK E H f xs) s:=by
  intro f xs q s G hs Q H' h O;unfold pK at h;split at h
  ·rename_i fn i;cases h;exact⟨σ,w,.enter f ⟨q⟩,by rw[hs,fP he i],Step.refl R,rfl,G,fn,i⟩
  unfold qWe at h;split at h
  ·rename_i n;split at h;case h_2=>cases h
   rename_i fn i;obtain⟨p',r,rfl,h1,h2⟩:=G.cons_inv;rw[h2.nil_inv,h1.int_inv]at hs;cases S:(fn.name==nM&&fn.body.isNone&&(Extern.findNext fn).isNone)with
   |false=>
    rw[S,cond_false]at h;split at h;case h_2=>cases h
    rename_i v hv;simp only[one,Option.map_eq_some_iff]at h;obtain⟨v1,V,h⟩:=h;cases h;obtain⟨g1,g2⟩:=flat?_spec V;cases g1;exact⟨σ,w,.value _,by rw[hs,yH _ _ _ _ hv],Step.refl R,xC _ _ g2⟩
   |true=>rw[S,cond_true]at h;simp only[zR,beq_iff_eq]at S;obtain⟨⟨q1,q2⟩,q3⟩:=S;obtain⟨σ',w',nx,g1,g2,g3⟩:=qIp he R i q1 q2 q3 h O;grind
  ·rename_i p;split at h;case h_2=>cases h
   rename_i fn i;obtain⟨p',r,rfl,h1,h2⟩:=G.cons_inv;rw[h2.nil_inv]at hs;cases S:(fn.name==kI&&fn.body.isNone&&(Extern.findNext fn).isNone)with
   |false=>rw[S]at h;cases h
   |true=>
   rw [S] at h;cases h;simp only [zR,beq_iff_eq] at S;obtain ⟨⟨q1,q2⟩,q3⟩:=S;have q4 : (fn.name == "runtime.NumGoroutine") = false := by rw [q1]; kernel_rfl
   refine⟨σ,w,.value p',?_,Step.refl R,h1⟩;rw[hs,run_callFunc_extern i q4 q2 (Option.isNone_iff_eq_none.1 q3) (qDy q1)];rfl
  cases X:xs.all zK with
  |false=>rw[X]at h;cases h
  |true=>
  rw[X,cond_true]at h;split at h;case h_2=>cases h
  rename_i v hv;simp only[one,Option.map_eq_some_iff]at h;obtain⟨v1,V,h⟩:=h;cases h;obtain⟨g1,g2⟩:=flat?_spec V;cases g1;rw[fM X G]at hs;exact⟨σ,w,.value _,by rw[hs,yH _ _ _ _ hv],Step.refl R,xC _ _ g2⟩
 split
 ·rename_i b J;have:=qHu he R b (ats:=c.argTypes.toList) ty (c.args.map λ|.const _=>true|_=>false) z;intro Q H' h O;obtain⟨σ',w',nx,g1,g2⟩:=this Q H' h O;refine⟨σ',w',nx,?_,g2⟩;simp only[resolve,J,j,Sem.run_bind,Sem.run_pure,Result.andThen_ok,invoke];exact g1
 ·rename_i r K J;split;case h_2=>exact j9.none
  rename_i v hv;have M:=I r (by simp[Call.operands,J]) v hv;split;case h_2=>exact j9.none
  rename_i f y hm;intro Q H' h O;cases i:E.funcs.get f with
  |none=>simp[pX,i]at h
  |some fn=>
   obtain⟨y',m1,m2⟩:=mD (w:=w) he hm M i ⟨e⟩;refine enter f (y::args) (y'::e) _ (.cons m2 z) ?_ Q H' h O;intro _ _;have G:(#[a.eval r]++(⟨e⟩:Array Value)).extract 1 (#[a.eval r]++(⟨e⟩:Array Value)).size=⟨e⟩:=by apply Array.ext';simp
   have B:(#[a.eval r]++(⟨e⟩:Array Value))[0]? = some (a.eval r):=by simp
   simp only[resolve,J,j,Sem.run_bind,Sem.run_pure,Result.andThen_ok,invoke,B,G,m1];rw[qCX]
 rename_i g J;split
 ·rename_i f first cap W
  have k:=I g (by simp[Call.operands,J]) _ W;generalize F:a.eval g=g' at k;cases k with
  |leaf B=>simp[vL]at B
  |func B N Z=>rename_i f1 c1;refine U f _ _ _ ((N.append z).append Z) ?_;simp only[resolve,J,j,Deferred.ofValue,F,Sem.run_bind,Sem.run_pure,Result.andThen_ok,invoke];rw[zD3]
 ·rename_i l first cap W
  have k:=I g (by simp[Call.operands,J]) _ W;generalize F:a.eval g=g' at k;cases k with
  |leaf B=>simp[vL]at B
  |func B _ _=>simp[rK]at B
  | yield hs B=>
   rename_i L;split;case h_2=>exact j9.none
   rename_i st pd t ps azq bd rt own hl;simp only[qZ];split;case isFalse=>exact j9.none
   rename_i hlen;intro Q H' h O;cases h;obtain⟨o,g1,g2⟩:=R.objs l _ L hl hs;cases o<;>simp only[pC]at g2;rename_i lo;obtain⟨_,q1,q2,q3,q4,q5,q6⟩:=g2;have hsz:(⟨e⟩:Array Value).size=lo.params.size:=by
    have:=z.length;have h2:lo.params.toList.length=ps.length:=by rw[q4]
    simp at h2 ⊢;omega
   refine⟨σ,w,.round L.blk lo.fn ((lo.params.zip ⟨e⟩).foldl (λtmps (t,a)=>tmps.setIfInBounds t a) lo.tmps) lo.assign lo.body,?_,Step.refl R,?_⟩
   ·have hne:¬(⟨e⟩:Array Value).size≠lo.params.size:=by rw[hsz];simp
    simp only[resolve,J,j,Deferred.ofValue,F,Sem.run_bind,Sem.run_pure,Result.andThen_ok,invoke,Instr.yield,Instr.getLoop,jE E.prog g1 (by simp),Array.empty_append];rw[if_neg hne];rfl
   exact⟨L,lo,e,hs,g1,z,by simpa using hsz,rfl⟩
 ·rename_i K first cap W
  have k:=I g (by simp[Call.operands,J]) _ W;generalize F:a.eval g=g' at k;cases k with
  |leaf B=>simp[vL]at B
  | func B N Z=>
   rename_i f1 c1 f1' c1';split;case h_2=>exact j9.none
   rename_i v rest M;have A:=N.append z;rw[M]at A;obtain⟨v',C,e1,e2,e3⟩:=A.cons_inv;split;case h_2=>exact j9.none
   rename_i f y hm;intro Q H' h O;cases i:E.funcs.get f with
   |none=>simp[pX,i]at h
   |some fn=>
    obtain⟨y',m1,m2⟩:=mD (w:=w) he hm e2 i ⟨C⟩;refine enter f (y::rest) (y'::C) _ (.cons m2 e3) ?_ Q H' h O;intro _ _;have P:(⟨f1'⟩:Array Value)++⟨e⟩=⟨v'::C⟩:=by apply Array.ext';simpa using e1
    have G:(⟨v'::C⟩:Array Value).extract 1 (⟨v'::C⟩:Array Value).size=⟨C⟩:=by apply Array.ext';simp
    have B:(⟨v'::C⟩:Array Value)[0]? = some v':=by simp
    simp only[resolve,J,j,Deferred.ofValue,F,Sem.run_bind,Sem.run_pure,Result.andThen_ok,invoke,P,B,G,m1];rw[qCX]
 ·rename_i t K first cap W
  have k:=I g (by simp[Call.operands,J]) _ W;generalize F:a.eval g=g' at k;cases k with
  |leaf B=>simp[vL]at B
  | func B N Z=>
   rename_i f1 c1 f1' c1';split;case h_2=>exact j9.none
   rename_i v rest M;have A:=N.append z;rw[M]at A;obtain⟨v',C,e1,e2,e3⟩:=A.cons_inv;have P:(⟨f1'⟩:Array Value)++⟨e⟩=⟨v'::C⟩:=by apply Array.ext';simpa using e1
   have G:(⟨v'::C⟩:Array Value).extract 1 (⟨v'::C⟩:Array Value).size=⟨C⟩:=by apply Array.ext';simp
   have h00:(⟨v'::C⟩:Array Value)[0]? = some v':=by simp
   cases htt:E.types.get t with
   |none=>exact j9.none
   | some ti=>
    have hu:=λw=>zV he htt w
    have fin:∀(u u':Value),VR σ u u'->((match ti.desc with|.interface _=>v'|_=>.iface t v')=u')->
      j9 E σ H w (match pG E u K with|some (f,x)=>pX E H f (x::rest)|none=>none) (do let d ←resolve a.eval c ty;invoke d.target d.args):=by
     intro u u' huu heq
     split
     case h_2=>exact j9.none
     rename_i f y hm
     intro Q H' h O
     cases i:E.funcs.get f with
     |none=>simp[pX,i]at h
     |some fn=>
      obtain⟨y',m1,m2⟩:=mD (w:=w) he hm huu i ⟨C⟩
      refine enter f (y::rest) (y'::C) _ (.cons m2 e3) ?_ Q H' h O
      intro _ _
      rw[←heq]at m1
      simp only[resolve,J,j,Deferred.ofValue,F,Sem.run_bind,Sem.run_pure,Result.andThen_ok,invoke,P,h00,G,hu]
      revert m1
      cases ti.desc<;>intro m1<;>simp only at m1 ⊢<;>rw[m1,qCX]
    obtain⟨d,s1,b1,z1,a1⟩:=ti;cases d;case interface=>exact fin v v' e2 rfl
    all_goals exact fin (.iface t v) (.iface t v') (.iface e2) rfl
 exact j9.none
end
section
variable{E:Env}{σ:vH}{H:AH}{w:World}{fr:Fr}{a:Act}
theorem qE8(x:Option Operand){vs:List Value}(b:∀y∈x.toList,∀v,ev E fr y=some v->VR σ v (a.eval y))(h:rV E fr x.toList=some vs):OR σ vs.head? (x.map a.eval):=by
 cases x with
 |none=>simp[rV]at h;subst h;exact .none
 |some x=>
  simp only[Option.toList,rV]at h;split at h
  ·cases h
  rename_i v hv;simp at h;subst h;exact .some (b x (by simp) v hv)
theorem qKX(E:Env)(H H':AH)(s d:TypeId)(a:Addr)(x:AR)(y:∀v,x≠.val v):qFY E H s d a≠some (x,H'):=λh=>by unfold qFY at h;cases h
theorem qKT(he:EOk E)(A:HR E σ H w)(o:Oper)(g:∀x∈o.op.operands.toList,∀v,ev E fr x=some v->VR σ v (a.eval x)):j9 E σ H w (v9 E fr o H) (execOp a.eval o):=by
 unfold v9;split
 ·
  -- move
  rename_i x j;simp only[j,Op.operands]at g;simp only[execOp,j];intro ar H' h Q;simp only[one,Option.map_eq_some_iff]at h;obtain⟨v,hv,h⟩:=h;cases h;exact⟨σ,w,.value (a.eval x),rfl,Step.refl A,g _ (by simp) _ hv⟩
 ·rename_i x j;simp only[j,Op.operands]at g;simp only[execOp,j];intro ar H' h Q;simp only[one,Option.map_eq_some_iff]at h;obtain⟨v,hv,h⟩:=h;cases h;exact⟨σ,w,.value (a.eval x),rfl,Step.refl A,g _ (by simp) _ hv⟩
 ·
  -- pick
  rename_i c x y j;simp only[j,Op.operands]at g;simp only[execOp,j];intro ar H' h Q;split at h
  ·rename_i hc;have hcr:=(g _ (by simp) _ hc).bool_inv;simp only[one,Option.map_eq_some_iff]at h;obtain⟨v,hv,h⟩:=h;cases h;refine⟨σ,w,.value (a.eval x),?_,Step.refl A,g _ (by simp) _ hv⟩;simp only[hcr,asBool,Sem.run_bind,Sem.run_pure,Result.andThen_ok,if_true]
  ·rename_i hc;have hcr:=(g _ (by simp) _ hc).bool_inv;simp only[one,Option.map_eq_some_iff]at h;obtain⟨v,hv,h⟩:=h;cases h;refine⟨σ,w,.value (a.eval y),?_,Step.refl A,g _ (by simp) _ hv⟩;simp only[hcr,asBool,Sem.run_bind,Sem.run_pure,Result.andThen_ok,Bool.false_eq_true,if_false]
  cases h
 ·rename_i t j;simp only[j,Op.operands]at g;simp only[execOp,j];exact qMr he A t
 ·
  -- box
  rename_i t x j;simp only[j,Op.operands]at g;simp only[execOp,j];split
  ·exact j9.none
  ·rename_i v W hv;exact qSV he A t (g _ (by simp) _ hv) (λc e=>W c e)
  exact j9.none
 ·
  -- build
  rename_i t ps j;simp only[j,Op.operands]at g;simp only[execOp,j];split
  ·rename_i qs hq;have hp:=uL (a:=a) (λx C=>g x (by simpa using C)) hq;refine j9.one A λv hv=>?_;obtain⟨v',g1,g2⟩:=qMg (w:=w) he hp hv;refine⟨v',?_,g2⟩;have:(ps.map λ(i,x)=>(i,a.eval x))=⟨ps.toList.map λ(i,x)=>(i,a.eval x)⟩:=by apply Array.ext';simp
   rw[this];exact g1
  exact j9.none
 ·rename_i t n ps j;simp only[j,Op.operands]at g;simp only[execOp,j];split
  ·rename_i qs hq;have hp:=uL (a:=a) (λx C=>g x (by simpa using C)) hq;have:(ps.map λ(i,x)=>(i,a.eval x))=⟨ps.toList.map λ(i,x)=>(i,a.eval x)⟩:=by apply Array.ext';simp
   rw[this];exact qC7 he A hp
  exact j9.none
 ·rename_i t x j;simp only[j,Op.operands]at g;simp only[execOp,j];split
  ·rename_i v hv;exact j9.one A λu hu=>qGC he A hu (g _ (by simp) _ hv)
  exact j9.none
 ·
  -- store
  rename_i t x y j;simp only[j,Op.operands]at g;simp only[execOp,j];split
  ·exact j9.none
  ·rename_i va vb W V U;refine j9.step λH' hH=>?_;obtain⟨w',g1,g2⟩:=qK3 he A hH (g _ (by simp) _ V) (g _ (by simp) _ U) (λc e=>W c e);exact⟨w',.skip,by simp only[Sem.run_bind,g1,Result.andThen_ok,Sem.run_pure],g2,trivial⟩
  exact j9.none
 ·
  -- nilCheck
  rename_i x j;simp only[j,Op.operands]at g;simp only[execOp,j];intro ar H' h Q;split at h
  ·rename_i p hv;cases h;have B:=g _ (by simp) _ hv;generalize C:a.eval x=x' at B;cases B with
   |leaf N=>simp[vL]at N
   |ptr hs=>exact⟨σ,w,.value _,by simp only[C];rfl,Step.refl A,VR.ptr hs⟩
  ·rename_i t u hv;cases h;have B:=g _ (by simp) _ hv;generalize C:a.eval x=x' at B;cases B with
   |leaf N=>simp[vL]at N
   |iface hs=>exact⟨σ,w,.value _,by simp only[C];rfl,Step.refl A,VR.iface hs⟩
  ·rename_i f p q hv;cases h;have B:=g _ (by simp) _ hv;generalize C:a.eval x=x' at B;cases B with
   |leaf N=>simp[vL]at N
   |func I J h3=>exact⟨σ,w,.value _,by simp only[C];rfl,Step.refl A,VR.func I J h3⟩
  ·rename_i f p q hv;cases h;have B:=g _ (by simp) _ hv;generalize C:a.eval x=x' at B;cases B with
   |leaf N=>simp[vL]at N
   |func I J h3=>simp[rK]at I
   |yield I J=>exact⟨σ,w,.value _,by simp only[C];rfl,Step.refl A,VR.yield I J⟩
  cases h
 ·
  -- binOp
  rename_i op t x y ty j;simp only[j,Op.operands]at g;simp only[execOp,j];split
  ·rename_i va vb V U;exact j9.one A λu hu=>qSZ he hu (g _ (by simp) _ V) (g _ (by simp) _ U)
  exact j9.none
 ·rename_i op t x j;simp only[j,Op.operands]at g;simp only[execOp,j];split
  ·rename_i v hv;cases Z:zK v with
   |false=>exact j9.none
   |true=>refine j9.one A λu hu=>?_;obtain⟨g1,g2⟩:=flat?_spec hu;rw[nU Z (g _ (by simp) _ hv)];exact⟨u,yH _ _ _ _ g1,xC _ _ g2⟩
  exact j9.none
 ·
  -- convert
  rename_i s d x j;simp only[j,Op.operands]at g;simp only[execOp,j];split
  ·rename_i p n c hv;exact j9.one A λu hu=>qEQ he A hu (g _ (by simp) _ hv)
  ·rename_i p hv;intro ar H' h Q;cases ar with
   |val v=>obtain⟨rfl,u,g1,g2⟩:=qMK he A h (g _ (by simp) _ hv);refine⟨σ,w,.value u,?_,Step.refl A,g2⟩;simp only[Sem.run_bind,g1,Result.andThen_ok,Sem.run_pure]
   |_=>exact absurd h (qKX _ _ _ _ _ _ _ (λv e=>by cases e))
  ·rename_i b hv;rw[(g _ (by simp) _ hv).string_inv];split
   ·rename_i e _ _ _ _ hts htd;exact qHt he A hts rfl htd rfl
   refine j9.one A λu hu=>?_;obtain⟨g1,g2⟩:=flat?_spec hu;exact⟨u,yH _ _ _ _ g1,xC _ _ g2⟩
  ·rename_i v hns hnp hnstr hv;cases Z:zK v with
   |false=>exact j9.none
   |true=>refine j9.one A λu hu=>?_;obtain⟨g1,g2⟩:=flat?_spec hu;rw[nU Z (g _ (by simp) _ hv)];exact⟨u,yH _ _ _ _ g1,xC _ _ g2⟩
  exact j9.none
 ·
  -- K
  rename_i t x j;simp only[j,Op.operands]at g;simp only[execOp,j];split
  ·exact j9.none
  ·rename_i ti v hni F hv;refine j9.one A λu hu=>?_;cases hu;have hu:=zV he F w;refine⟨.iface t (a.eval x),?_,.iface (g _ (by simp) _ hv)⟩;simp only[Instr.makeInterface,Sem.run_bind,hu,Result.andThen_ok];cases hd:ti.desc<;>first|rfl|skip
   exact(hni _ _ _ _ _ (by rw[←hd])).elim
  exact j9.none
 ·
  -- makeFunc
  rename_i fn f c j;simp only[j,Op.operands]at g;simp only[execOp,j];split
  ·rename_i vf vc hvf hvc;have I:=tL (a:=a) (λx C=>g x (by simp;exact .inl (by simpa using C))) hvf;have J:=tL (a:=a) (λx C=>g x (by simp;exact .inr (by simpa using C))) hvc;refine j9.one A λu hu=>?_;cases X:rK fn with
   |false=>rw[X]at hu;simp at hu
   |true=>rw[X]at hu;simp only[if_true,oI]at hu;subst hu;refine⟨_,rfl,?_⟩;rw[←cF,←cF];exact .func X I J
  exact j9.none
 ·
  -- makeMap
  rename_i t j;simp only[j,Op.operands]at g;simp only[execOp,j];intro ar H' h Q;cases h;have hf':=Q.head (Nat.lt_succ_self _);have st:=Step.new A hf' (.map [] 0) (.map #[] 0) ⟨w.heap.size,0,0,0⟩ rfl ⟨rfl,rfl,.nil⟩;exact⟨_,_,.value (.map (some w.heap.size)),rfl,st,VR.map (L:=⟨w.heap.size,0,0,0⟩) vH.add_self rfl⟩
 ·rename_i t x j;simp only[j,Op.operands]at g;simp only[execOp,j];split
  ·rename_i kt et sz O z ag k n F hv;intro ar H' h Q;cases h;have hf':=Q.head (Nat.lt_succ_self _);have st:=Step.new A hf' (.map [] 0) (.map #[] 0) ⟨w.heap.size,0,0,0⟩ rfl ⟨rfl,rfl,.nil⟩;refine⟨_,_,.value (.map (some w.heap.size)),?_,st,VR.map (L:=⟨w.heap.size,0,0,0⟩) vH.add_self rfl⟩;have hu:=zV he F w;have hxi:=(g _ (by simp) _ hv).int_inv;simp only[Instr.makeMap,Option.map,Sem.run_bind,hu,Result.andThen_ok,hxi,asInt,asIntOf,Sem.run_pure,run_newObj];rfl
  exact j9.none
 ·rename_i t l c j;simp only[j,Op.operands]at g;simp only[execOp,j];split
  ·rename_i vl vc hl hc;exact qDz he A (g _ (by simp) _ hl) (g _ (by simp) _ hc)
  exact j9.none
 ·
  -- slice
  rename_i t x lo M mx j;simp only[j,Op.operands]at g;simp only[execOp,j];split
  ·rename_i vx vlo vhi vmx C hlo hhi hmx;exact j9.one A λu hu=>qK7 he A hu (g _ (by simp) _ C) (qE8 lo (λy hy=>g y (by cases lo<;>simp_all)) hlo) (qE8 M (λy hy=>g y (by cases M<;>simp_all)) hhi) (qE8 mx (λy hy=>g y (by cases mx<;>simp_all)) hmx)
  exact j9.none
 ·rename_i s x f j;simp only[j,Op.operands]at g;simp only[execOp,j];split
  ·rename_i v hv;exact j9.one A λu hu=>qLX he hu (g _ (by simp) _ hv)
  exact j9.none
 ·
  -- field
  rename_i t x f j;simp only[j,Op.operands]at g;simp only[execOp,j];split
  ·rename_i cs fs sz O z ag hv F;split
   ·rename_i fd hfd;exact j9.one A λu hu=>qIQ he F rfl hfd hu (g _ (by simp) _ hv)
   exact j9.none
  exact j9.none
 ·
  -- S
  rename_i t x i j;simp only[j,Op.operands]at g;simp only[execOp,j];split
  ·rename_i v n hv M;simp only[Option.bind_eq_some_iff]at M;obtain⟨iv,I,J⟩:=M;exact j9.one A λu hu=>qLO he hu J (g _ (by simp) _ hv) (g _ (by simp) _ I)
  exact j9.none
 ·
  -- index
  rename_i t x i j;simp only[j,Op.operands]at g;simp only[execOp,j];split
  ·rename_i s n sz O z ag hv M F;simp only[Option.bind_eq_some_iff]at M;obtain⟨iv,I,J⟩:=M;split
   ·rename_i b hb;refine j9.one A λu hu=>?_;cases hu;exact⟨_,qIG he F rfl J hb (g _ (by simp) _ hv) (g _ (by simp) _ I),.leaf rfl⟩
   exact j9.none
  ·rename_i cs n len elem sz O z ag hv M F;simp only[Option.bind_eq_some_iff]at M;obtain⟨iv,I,J⟩:=M;split
   ·rename_i e hel;rw[vU];split
    ·rename_i hlt;exact j9.one A λu hu=>qIF he F rfl hel J hlt hu (g _ (by simp) _ hv) (g _ (by simp) _ I)
    exact j9.none
   exact j9.none
  exact j9.none
 ·rename_i t x k ok j;simp only[j,Op.operands]at g;simp only[execOp,j];split
  ·rename_i vx vk C hk;exact j9.one A λu hu=>qIy he A hu (g _ (by simp) _ C) (g _ (by simp) _ hk)
  exact j9.none
 ·
  -- R
  rename_i t m k x j;simp only[j,Op.operands]at g;simp only[execOp,j];split
  ·rename_i vm vk vx hm hk C;refine j9.step λH' hH=>?_;obtain⟨w',g1,g2⟩:=qBw he A hH (g _ (by simp) _ hm) (g _ (by simp) _ hk) (g _ (by simp) _ C);exact⟨w',.skip,by simp only[Sem.run_bind,g1,Result.andThen_ok,Sem.run_pure],g2,trivial⟩
  exact j9.none
 ·rename_i t m k x j;simp only[j,Op.operands]at g;simp only[execOp,j];split
  ·rename_i vm vk vx hm hk C;refine j9.step λH' hH=>?_;obtain⟨w',g1,g2⟩:=qBw he A hH (g _ (by simp) _ hm) (g _ (by simp) _ hk) (g _ (by simp) _ C);exact⟨w',.skip,by simp only[Sem.run_bind,g1,Result.andThen_ok,Sem.run_pure],g2,trivial⟩
  exact j9.none
 ·
  -- range
  rename_i t x j;simp only[j,Op.operands]at g;simp only[execOp,j];split
  ·rename_i s sz O z ag hv F;exact qLh he A F rfl (g _ (by simp) _ hv)
  ·rename_i hv F;split
   ·rename_i hb;exact qIr he A F rfl hb (g _ (by simp) _ hv)
   exact j9.none
  exact j9.none
 ·rename_i it str j;simp only[j,Op.operands]at g;simp only[execOp,j];split
  ·rename_i v hv;exact qOP A (g _ (by simp) _ hv)
  exact j9.none
 ·rename_i it j;simp only[j,Op.operands]at g;simp only[execOp,j];split
  ·rename_i v hv;exact j9.one A λu hu=>qL4 A hu (g _ (by simp) _ hv)
  exact j9.none
 ·
  -- P
  rename_i x xt asserted ok j;simp only[j,Op.operands]at g;simp only[execOp,j];split
  ·rename_i v ti hv F;have hb:=qJf (w:=w) (xt:=xt) (ok:=ok) he F (g _ (by simp) _ hv);split
   ·rename_i u hu;refine j9.one A λr G=>?_;cases G;obtain⟨u',g1,g2⟩:=hb.1 u hu;refine⟨_,g1,?_⟩;cases ok
    ·exact g2
    exact .tuple (.cons g2 (.cons (.leaf rfl) .nil))
   ·rename_i hu;cases ok with
    |false=>exact j9.none
    |true=>
     refine j9.one A λr G=>?_;split at G
     ·rename_i z hz;simp only[Option.map_eq_some_iff]at G;obtain⟨zv,hzv,rfl⟩:=G;obtain⟨g1,g2⟩:=hb.2 z zv hu rfl hz hzv;exact⟨_,g1,.tuple (.cons g2 (.cons (.leaf rfl) .nil))⟩
     cases G
   exact j9.none
  exact j9.none
 ·
  -- extract
  rename_i x i j;simp only[j,Op.operands]at g;simp only[execOp,j];split
  ·rename_i vs hv;refine j9.one A λu hu=>?_;have B:=g _ (by simp) _ hv;generalize C:a.eval x=x' at B;cases B with
   |leaf N=>simp[vL]at N
   |tuple hc=>obtain⟨v',g1,g2⟩:=hc.get _ _ hu;refine⟨v',?_,g2⟩;simp only[Instr.extract,List.getElem?_toArray,g1,Sem.run_pure]
  exact j9.none
 ·rename_i c j;simp only[j,Op.operands]at g;simp only[execOp,j];exact qQt he A c o.type g
 exact j9.none
end
end Go.Am
