/- What the abstract append does where the array must grow, the model's does too. Conditions: none. -/
import Derived.Test.YtminhjecpnpaeaaGreatDoorAm2
import Derived.Laws.IdiomStrings
import Derived.KernelRfl
import Derived.Laws.Externs
set_option linter.unusedVariables false
set_option linter.unusedSimpArgs false
namespace Go.Am
open Go
def kS(w:World):World:={w with drawn:=w.drawn+1}
section
variable{E:Env}{σ:zU}{H:AH}{w:World}
theorem wQ(z:Array Value)(n:Nat):(Builtin.zeroCells z n).size=n*z.size:=by simp[Builtin.zeroCells]
theorem qA0{h c x:Nat}(y:c<h)(b:(4*h+4000)*(x+1)<=100000000000):¬(h:Int)>IntKind.i64.max/\¬Builtin.nextslicecap h c*x>2^48/\h<2^62:=by
 have i:=qII h c y;have g:(4*h+4000)*(x+1)=(4*h+4000)*x+(4*h+4000):=by rw[Nat.mul_add];simp
 have h3:Builtin.nextslicecap h c*x<=(4*h+4000)*x:=Nat.mul_le_mul_right _ (by omega);have e:IntKind.i64.max=9223372036854775807:=by decide
 refine⟨by rw[e];omega,by omega,by omega⟩
set_option maxHeartbeats 1000000 in
theorem qMD(he:EOk E){t xt x ty:TypeId}{ats:List TypeId}{N B e:TI}{n len c:Nat}{C:Value}{b g z:List Value}{A:Option Addr}(Q:E.types.get t=some N)(hd:N.desc=.slice x)(l:E.types.get xt=some B)(y:E.types.get x=some e)(j:e.zero=some z)(O:lU B.desc=false)(X:(Builtin.lenOf C).run E.prog w=.ok n w)(W:(Builtin.firstCells e.size n C).run E.prog (kS w)=.ok ⟨g⟩ (kS w))(Z:(Builtin.firstCells e.size len (.slice A len c)).run E.prog (kS w)=.ok ⟨b⟩ (kS w))(J:c<len+n)(q:(4*(len+n)+4000)*(e.bytes+1)<=100000000000):∃(u:Nat) (rest:Array Value),len+n<=u/\u<qT/\rest.size=(u-(len+n))*e.size/\(Builtin.append_ ⟨t::xt::ats⟩ ty #[.slice A len c,C]).run E.prog w=.ok (.slice (some ⟨w.heap.size,0,none⟩) (len+n) u) (World.push (kS w) (.cells (⟨b⟩++⟨g⟩++rest) x)):=by
 obtain⟨L,r,V⟩:=qA0 J q;obtain⟨M,S,_,z3,_,z5⟩:=kZ he y j (kS w);have hu:=λw=>zN he Q w;rw[hd]at hu;have o:=λw=>zN he l w;have G:=λw=>zQ he y w;obtain⟨i,R,_,_,K,_⟩:=he.types x e y;have k:=λw=>run_typeInfo (P:=E.prog) w R;rw[K]at r;have I:¬len+n<=c:=by omega
 have F:M.cells.size=e.size:=by rw[←z5,←z3];simp
 clear Q l y he hd R;refine⟨(len+n)+(w.tape w.drawn (.appendCap (len+n) c x))%(2^63-(len+n)),Builtin.zeroCells M.cells ((len+n)+(w.tape w.drawn (.appendCap (len+n) c x))%(2^63-(len+n))-(len+n)),by omega,?_,by rw[wQ,F],?_⟩
 ·have:=Nat.mod_lt (w.tape w.drawn (.appendCap (len+n) c x)) (show 2^63-(len+n)>0 by omega);unfold qT;omega
 generalize B.desc=d at o O;have U:(Question.appendCap (len+n) c x).forced=false:=rfl;have p:(Question.appendCap (len+n) c x).cut (w.tape w.drawn (.appendCap (len+n) c x))=(len+n)+(w.tape w.drawn (.appendCap (len+n) c x))%(2^63-(len+n)):=rfl;cases d<;>first|(simp[lU]at O;done)|skip
 all_goals simp only[Builtin.append_,List.getElem?_toArray,List.getElem?_cons_zero,List.getElem?_cons_succ,Sem.run_bind,hu,Result.andThen_ok,G,o,Sem.run_pure,Bool.false_eq_true,if_false,X,if_neg I,k];rw[if_neg (by intro h;exact L h.1)];simp only[Sem.run_bind,k,Result.andThen_ok];rw[if_neg r];simp only[Sem.run_bind,run_choose,U,Bool.false_eq_true,if_false,Result.andThen_ok,p,run_askRoom,k];rw[show({w with drawn:=w.drawn+1}:World)=kS w from rfl];simp only[Bool.not_false,if_true,Sem.run_bind,Z,W,Result.andThen_ok,S,newRow,run_newObj,Sem.run_pure];rfl
set_option maxHeartbeats 1000000 in
theorem qMC(he:EOk E){t xt x ty:TypeId}{ats:List TypeId}{X W e:TI}{n len c:Nat}{k:IntKind}{j y z:List Value}{A:Option Addr}(Z:E.types.get t=some X)(hd:X.desc=.slice x)(r:E.types.get xt=some W)(g:E.types.get x=some e)(l:e.zero=some z)(hz:lU W.desc=true)(h2:(if n*e.size=0 then(#[]:Array Value)else⟨y⟩)=⟨y⟩)(h3:∀w,∃q,(zeroValue x).run E.prog w=.ok q w/\Builtin.zeroCells q.cells n=⟨y⟩)(h0:(Builtin.firstCells e.size len (.slice A len c)).run E.prog (kS w)=.ok ⟨j⟩ (kS w))(S:c<len+n)(G:(4*(len+n)+4000)*(e.bytes+1)<=100000000000):∃(J:Nat) (rest:Array Value),len+n<=J/\J<qT/\rest.size=(J-(len+n))*e.size/\(Builtin.append_ ⟨t::xt::ats⟩ ty #[.slice A len c,.int k (n:Int)]).run E.prog w=.ok (.slice (some ⟨w.heap.size,0,none⟩) (len+n) J) (World.push (kS w) (.cells (⟨j⟩++⟨y⟩++rest) x)):=by
 obtain⟨V,I,hb3⟩:=qA0 S G;obtain⟨q,K,_,z3,_,z5⟩:=kZ he g l (kS w);have hu:=λw=>zN he Z w;rw[hd]at hu;have u:=λw=>zN he r w;have N:=λw=>zQ he g w;obtain⟨i,hi,_,_,U,_⟩:=he.types x e g;have b:=λw=>run_typeInfo (P:=E.prog) w hi;have Q:¬len+n<=c:=by omega
 have M:q.cells.size=e.size:=by rw[←z5,←z3];simp
 have hw:IntKind.i64.wrap (n:Int)=(n:Int):=sA (by omega);have C:¬(n:Int)<0:=by omega
 have O:¬(n:Int)*(i.bytes:Int)>2^48:=by grind
 obtain⟨k',R⟩:=qHa hz;rw[R]at u;obtain⟨p,g1,g2⟩:=h3 (kS w);have L:p=q:=by rw[K]at g1;cases g1;rfl
 subst L;rw[U]at I;clear Z r g he hd hi h3 g1;refine⟨(len+n)+(w.tape w.drawn (.appendCap (len+n) c x))%(2^63-(len+n)),Builtin.zeroCells p.cells ((len+n)+(w.tape w.drawn (.appendCap (len+n) c x))%(2^63-(len+n))-(len+n)),by omega,?_,by rw[wQ,M],?_⟩
 ·have:=Nat.mod_lt (w.tape w.drawn (.appendCap (len+n) c x)) (show 2^63-(len+n)>0 by omega);unfold qT;omega
 have hq:(Question.appendCap (len+n) c x).forced=false:=rfl;have F:(Question.appendCap (len+n) c x).cut (w.tape w.drawn (.appendCap (len+n) c x))=(len+n)+(w.tape w.drawn (.appendCap (len+n) c x))%(2^63-(len+n)):=rfl;simp only[Builtin.append_,List.getElem?_toArray,List.getElem?_cons_zero,List.getElem?_cons_succ,Sem.run_bind,hu,Result.andThen_ok,N,u,Sem.run_pure,if_true,asInt,asIntOf,hw,if_neg C,b];rw[if_neg O];simp only[Sem.run_bind,Sem.run_pure,Result.andThen_ok,Int.toNat_natCast,if_neg Q,b];rw[if_neg (by intro h;exact V h.1)];simp only[Sem.run_bind,b,Result.andThen_ok];rw[if_neg I];simp only[Sem.run_bind,run_choose,hq,Bool.false_eq_true,if_false,Result.andThen_ok,F,run_askRoom,b];rw[show({w with drawn:=w.drawn+1}:World)=kS w from rfl];by_cases o:n*e.size=0
 ·rw[if_pos o]at h2;have B:y=[]:=by have:=congrArg Array.toList h2;simpa using this.symm
  subst B;simp only[Bool.not_true,Bool.false_eq_true,if_false,if_pos o,Sem.run_bind,h0,Result.andThen_ok,K,newRow,run_newObj,Sem.run_pure];rfl
 simp only[Bool.not_true,Bool.false_eq_true,if_false,if_neg o,Sem.run_bind,h0,Result.andThen_ok,K,g2,newRow,run_newObj,Sem.run_pure];rfl
theorem qJz(he:EOk E)(hr:HR E σ H w){s s' x x':Value}{ats:List TypeId}(ty:TypeId)(hs:VR σ s s')(hx:VR σ x x'):jZ E σ H w (jV E H ats s x) (do pure (.value (←Builtin.append_ ⟨ats⟩ ty #[s',x']))):=by
 intro ar H' h hf;unfold jV at h;split at h;case h_2=>cases h
 rename_i t xt rest base len cap;split at h;case h_2=>cases h
 rename_i W sz by_ z ag xi ht hxt;split at h;case h_2=>cases h
 rename_i e N;split at h;case h_2=>cases h
 rename_i ez n new hzero X;simp only[gG,vQ,qY,Nat.add_eq,Nat.mul_eq,Nat.succ_eq_add_one]at h;split at h;case isFalse=>cases h
 rename_i hbig0;have hbig:(4*(len+n)+4000)*(e.bytes+1)<=100000000000:=hbig0;have hnb:n*e.bytes<=2^48:=by grind
 have hnb':len+n<2^40:=by grind
 have hrd:HR E σ H (kS w):=(Step.drew hr (Nat.le_succ _)).hr;have sd:Step E σ H w σ H (kS w):=Step.drew hr (Nat.le_succ _);obtain⟨j,n1,n2,n3,n4⟩:=tF he hr hxt N X hx hnb (by omega);obtain⟨J,d1,d2,d3,d4⟩:=tF he hrd hxt N X hx hnb (by omega)
 have room:∀(A:Option Addr) (c:Nat) (w':World),len+n<=c->(storeAt? A (len*e.size) j).run E.prog w=.ok () w'->
     (Builtin.append_ ⟨t::xt::rest⟩ ty #[.slice A len c,x']).run E.prog w=.ok (.slice A (len+n) c) w':=by
   intro A c w' B R
   rcases n4 with⟨q1,q2,q3⟩|⟨q1,k,rfl,q2,q3⟩
   ·exact qMB he ht rfl hxt N q1 q2 q3 B R
   ·exact qMA he ht rfl hxt N q1 q2 q3 hnb (by omega) B R
 have grow:∀(A:Option Addr) (c:Nat) (g:List Value),c<len+n->(Builtin.firstCells e.size len (.slice A len c)).run E.prog (kS w)=.ok ⟨g⟩ (kS w)->
     ∃(r:Nat) (u:Array Value),len+n<=r/\r<qT/\u.size=(r-(len+n))*e.size/\
     (Builtin.append_ ⟨t::xt::rest⟩ ty #[.slice A len c,x']).run E.prog w =
       .ok (.slice (some ⟨w.heap.size,0,none⟩) (len+n) r) (World.push (kS w) (.cells (⟨g⟩++⟨J⟩++u) W)):=by
   intro A c g S P
   rcases d4 with⟨q1,q2,q3⟩|⟨q1,k,rfl,q2,q3⟩
   · rcases n4 with⟨_,p2,_⟩|⟨p1,_⟩
     ·exact qMD he ht rfl hxt N hzero q1 p2 q3 P S hbig
     ·rw[q1]at p1;cases p1
   ·exact qMC he ht rfl hxt N hzero q1 q2 q3 P S hbig
 have fresh:∀(old g:List Value) (r:Nat) (u:Array Value),VRs σ old g->old.length=len*e.size->old.all qE=true->u.size=(r-(len+n))*e.size->len+n<=r->
     ∃ M:Loc,M.blk=w.heap.size/\M.off=0/\M.ext=r*e.size/\M.sz=e.size/\
       ∀τ:zU,zU.le σ τ->oA E τ M true (.cells (old++new) W) (.cells (⟨g⟩++⟨J⟩++u) W):=by
   intro old g r u ho hol ho1 hrs hnc
   have hl1:=ho.length
   have hl2:=d1.length
   have hmul:r*e.size=len*e.size+n*e.size+(r-(len+n))*e.size:=by
     rw[←Nat.add_mul,←Nat.add_mul];congr 1;omega
   refine⟨⟨w.heap.size,0,r*e.size,e.size⟩,rfl,rfl,rfl,rfl,λτ hτ=>⟨λ_=>⟨.inl rfl,rfl,Nat.zero_mod _⟩,?_,?_,?_,?_⟩⟩
   ·simp[hl1,hl2,hrs,hol,d2];omega
   ·simp[hol,n2];omega
   ·intro ti hti;rw[N]at hti;cases hti;rfl
   · intro i v O
     have V:(old++new).all qE=true:=by rw[List.all_append,ho1,n3];rfl
     rw[List.all_eq_true]at V
     refine⟨V v (List.mem_of_getElem? O),?_⟩
     obtain⟨v',e1,e2⟩:=(ho.append d1).get i v O
     refine⟨v',?_,e2.mono hτ⟩
     have S:i<(g++J).length:=(gI e1).1
     simp only[Nat.zero_add]
     rw[Array.getElem?_append_left (by simpa using S)]
     simpa using e1
 have res:∀(M:Loc) (r:Nat),M.blk=w.heap.size->M.off=0->M.ext=r*e.size->M.sz=e.size->len+n<=r->r<qT->
     VR (σ.add H.next M) (.slice (some ⟨H.next,0,none⟩) (len+n) qT) (.slice (some ⟨w.heap.size,0,none⟩) (len+n) r):=by
   intro M r m1 m2 m3 m4 h1 h2
   have:=VR.sliceX (σ:=σ.add H.next M) (b:=H.next) (i:=0) (l:=len+n) (c:=r) zU.add_self h1 h2 (by rw[m4,m3];omega)
   rw[m1,m2]at this
   exact this
 have C:∀(A:Option Addr) (c:Nat) (old g:List Value),c<len+n->(Builtin.firstCells e.size len (.slice A len c)).run E.prog (kS w)=.ok ⟨g⟩ (kS w)->
     VRs σ old g->old.length=len*e.size->old.all qE=true->σ H.next=none->
     ∃ Q w' nx,(do pure (.value (←Builtin.append_ ⟨t::xt::rest⟩ ty #[.slice A len c,x'])):Sem Next).run E.prog w=.ok nx w'/\
       Step E σ H w Q (H.new (.cells (old++new) W)) w'/\qMK E Q w' (.val (.slice (some ⟨H.next,0,none⟩) (len+n) qT)) nx:=by
   intro A c old g S P ho hol ho1 y
   obtain⟨r,u,g1,g2,g3,g4⟩:=grow A c g S P
   obtain⟨M,m1,m2,m3,m4,m5⟩:=fresh old g r u ho hol ho1 g3 g1
   have st:=Step.new hrd y (.cells (old++new) W) _ M m1 (m5 _ (zU.add_le y))
   refine⟨σ.add H.next M,_,.value _,?_,sd.trans st,res M r m1 m2 m3 m4 g1 g2⟩
   simp[g4]
 split at h
 ·-- nothing is appended
  rename_i hn0;cases h;subst hn0;have hnil:j=[]:=by have:=n1.length;rw[n2,Nat.zero_mul]at this;exact List.length_eq_zero_iff.1 this
  have key:∀(A:Option Addr) (c:Nat),len<=c->VR σ (.slice base len cap) (.slice A len c)->
      ∃ Q w' nx,(do pure (.value (←Builtin.append_ ⟨t::xt::rest⟩ ty #[.slice A len c,x'])):Sem Next).run E.prog w=.ok nx w'/\Step E σ H w Q H w'/\
        qMK E Q w' (.val (.slice base len cap)) nx:=by
    intro A c B hv
    have R:(storeAt? A (len*e.size) j).run E.prog w=.ok () w:=by
      rw[hnil];cases A<;>rfl
    refine⟨σ,w,.value (.slice A len c),?_,Step.refl hr,hv⟩
    simp[room A c w B R]
  cases hs with
  |leaf P=>have h00:=P;simp only[zX,aE]at P;have hl0:len=0:=vE P.1.2;exact key base cap (by omega) (.leaf h00)
  |sliceE hb hl hc=>exact key _ _ hl (.sliceE hb hl hc)
  |sliceX hb hl hc hx=>exact key _ _ hl (.sliceX hb hl hc hx)
  |sliceZ hc=>exact key _ _ (lR _) (.sliceZ hc)
 ·rename_i hn0;split at h
  ·-- onto nil
   cases h;have y:=hf.head (Nat.lt_succ_self _);cases hs with
   |leaf P=>simp only[zX,aE]at P;have hl0:len=0:=vE P.1.2;have hc0:cap=0:=vE P.2;subst hl0 hc0;have:=C none 0 [] [] (by omega) rfl .nil (by simp) rfl y;simpa only[List.nil_append]using this
  ·rename_i b o;split at h
   ·-- of unknown I
    rename_i hcx;split at h;case h_2=>cases h
    rename_i cs el rt old hb p;split at h;case isFalse=>cases h
    rename_i hel';split at h;case isFalse=>cases h
    rename_i hmod2;cases h;have hmod:o%e.size=0:=hmod2;subst hel';have y:=hf.head (Nat.lt_succ_self _);obtain⟨old1,o1,o2,o3,o4⟩:=nK hr p hs;obtain⟨F,o1d,o2d,_,_⟩:=nK hrd p hs
    have G:∀(A:Addr) (c:Nat),s'=.slice (some A) len c->c<len+n->cs.length<=o+(len+n)*e.size->
        ∃ Q w' nx,(do pure (.value (←Builtin.append_ ⟨t::xt::rest⟩ ty #[.slice (some A) len c,x'])):Sem Next).run E.prog w=.ok nx w'/\
          Step E σ H w Q (H.move b ⟨.cells cs el,rt,true⟩ (.cells ((old++new)++cs.drop (o+(len+n)*e.size)) el)) w'/\qMK E Q w' (.val (.slice (some ⟨H.next,0,none⟩) (len+n) qT)) nx:=by
      intro A c e1 S hcsl
      rw[List.drop_of_length_le hcsl,List.append_nil]
      rw[e1]at o1d
      obtain⟨r,u,g1,g2,g3,g4⟩:=grow (some A) c F S o1d
      obtain⟨M,m1,m2,m3,m4,m5⟩:=fresh old F r u o2d o3 o4 g3 g1
      have st:=Step.move hrd y (M:=M) (x:=.cells (old++new) el) (w':=World.push (kS w) (.cells (⟨F⟩++⟨J⟩++u) el)) (L:=M) hb rfl (.inr ⟨rfl,m1⟩) (m5 _ (zU.add_le y))
      refine⟨σ.add H.next M,_,.value _,?_,sd.trans st,res M r m1 m2 m3 m4 g1 g2⟩
      simp[g4]
    cases hs with
    |leaf P=>simp[zX]at P
    |sliceE K hl hc=>omega
    | sliceX K hl hc Z=>
     rename_i c L;obtain⟨ccs,cel,fz,g1,g2,g3,g4,g5,g6⟩:=hr.cellsAt hb K;have hsz:L.sz=e.size:=g5 e N;by_cases B:len+n<=c
     ·-- within the I
      obtain⟨hfz,hcel,hoff⟩:=g2 rfl;have hlen:=n1.length;have hcm:len*e.size+n*e.size<=c*e.size:=by rw[←Nat.add_mul];exact Nat.mul_le_mul_right _ B
      rw[hsz]at Z
      have hrun:=wL E.prog L.blk (L.off+o+len*e.size) cel fz j 0 ccs w g1 (hfz.imp id And.left) (by rw[hlen,n2];omega)
        (λv hv'=>by rw[qIF];have:=n1.all_one;rw[n3,List.all_eq_true]at this;exact this v hv')
      have R:storeAt? (some ⟨L.blk,L.off+o,none⟩) (len*e.size) j=storeCells ⟨L.blk,L.off+o+len*e.size,none⟩ j:=by simp only[storeAt?,mM]
      have hroom:=room (some ⟨L.blk,L.off+o,none⟩) c _ B (by rw[R];exact hrun);let M:Loc:=⟨L.blk,L.off+o,L.ext-o,e.size⟩;have hold':∀i v,old[i]? = some v->∃v',ccs[L.off+o+i]? = some v'/\VR σ v v':=by
       intro i v O;unfold oR at p;simp only[qY,vQ]at p;split at p
       ·cases p;simp at O
       ·split at p;case isFalse=>cases p
        obtain⟨cs2,el2,rt2,own2,hb2,he2,hn2⟩:=qCp p;rw[hb]at hb2;simp only[oI,ABlk.mk.injEq,AObj.cells.injEq]at hb2;obtain⟨⟨rfl,_⟩,_⟩:=hb2;rw[he2]at O;have hil:i<(List.take (Nat.mul len e.size) (List.drop o cs)).length:=(gI O).1;rw[List.length_take]at hil;rw[List.getElem?_take_of_lt (by omega),List.getElem?_drop]at O;obtain⟨_,v',e1,e2⟩:=g6 _ v O;exact⟨v',by rw[Nat.add_assoc];exact e1,e2⟩
      have st:=Step.move hr y (M:=M) (x:=.cells ((old++new)++cs.drop (o+(len+n)*e.size)) el)
        (w':=w.setRow L.blk (ccs.toList.take (L.off+o+len*e.size+0)++j++ccs.toList.drop (L.off+o+len*e.size+0+j.length)).toArray) hb rfl (.inl ⟨K,WSet.setRow g1,rfl⟩) (by
         refine⟨λ_=>⟨?_,hcel,?_⟩,?_,?_,?_,?_⟩
         ·have X:(ccs.toList.take (L.off+o+len*e.size+0)++j++ccs.toList.drop (L.off+o+len*e.size+0+j.length)).toArray.size=ccs.size:=by simp;omega
          rw[X];exact hfz.imp id λq=>⟨q.1,(show e.size=1 by rw[←hsz];exact q.2)⟩
         ·show(L.off+o)%e.size=0;rw[Nat.add_mod,←hsz,hoff,hsz,hmod];exact Nat.zero_mod _
         ·simp[M];omega
         ·have hmul:(len+n)*e.size=len*e.size+n*e.size:=Nat.add_mul _ _ _;simp[M,o3,n2];omega
         ·intro ti hti;rw[N]at hti;cases hti;rfl
         ·intro i v O;have hmul:(len+n)*e.size=len*e.size+n*e.size:=Nat.add_mul _ _ _;rcases Nat.lt_or_ge i (old++new).length with hilt|hige;case inr=>
           rw[List.getElem?_append_right hige,List.getElem?_drop]at O;obtain⟨q1,v',q2,q3⟩:=g6 _ v O;refine⟨q1,v',?_,q3.mono (zU.add_le y)⟩;have hl0:(old++new).length=len*e.size+n*e.size:=by rw[List.length_append,o3,n2]
           have htk:(ccs.toList.take (L.off+o+len*e.size)).length=L.off+o+len*e.size:=by simp;omega
           simp only[Nat.add_zero,List.getElem?_toArray,M];rw[List.append_assoc,List.getElem?_append_right (by omega),List.getElem?_append_right (by omega),htk,List.getElem?_drop,Array.getElem?_toList,←q2]
           congr 1
           omega
          rw[List.getElem?_append_left hilt]at O;have V:(old++new).all qE=true:=by rw[List.all_append,o4,n3];rfl
          rw[List.all_eq_true]at V;refine⟨V v (List.mem_of_getElem? O),?_⟩;have htk:(ccs.toList.take (L.off+o+len*e.size)).length=L.off+o+len*e.size:=by simp;omega
          simp only[Nat.add_zero,List.getElem?_toArray,M];by_cases hio:i<old.length
          ·rw[List.getElem?_append_left hio]at O;obtain⟨v',e1,e2⟩:=hold' i v O;refine⟨v',?_,e2.mono (zU.add_le y)⟩;rw[List.append_assoc,List.getElem?_append_left (by omega),List.getElem?_take_of_lt (by omega),Array.getElem?_toList];exact e1
          ·rw[List.getElem?_append_right (by omega)]at O;obtain⟨v',e1,e2⟩:=n1.get _ v O;have hil:=(gI O).1;refine⟨v',?_,e2.mono (zU.add_le y)⟩;rw[List.append_assoc,List.getElem?_append_right (by omega),List.getElem?_append_left (by omega),htk,←e1]
           congr 1;omega)
      refine⟨σ.add H.next M,_,.value (.slice (some ⟨L.blk,L.off+o,none⟩) (len+n) c),?_,st,?_⟩
      ·simp[hroom]
      ·have:=VR.sliceX (σ:=σ.add H.next M) (b:=H.next) (i:=0) (l:=len+n) (c:=c) zU.add_self B hc (by simp[M];omega);exact this
     ·refine G _ _ rfl (by omega) ?_;rw[hsz]at Z;have h5:c*e.size<=(len+n)*e.size:=Nat.mul_le_mul_right _ (by omega);omega
    |sliceZ U=>
     refine G _ 0 rfl (by omega) ?_;rcases U with U|⟨_,L,hL1,hL2⟩
     ·exfalso;rw[U]at hcx;exact absurd hcx (by decide)
     ·obtain⟨_,_,_,_,_,_,hcl0,_⟩:=hr.cellsAt hb hL1;omega
   ·rename_i hcx;split at h
    ·-- within a known I
     rename_i B;simp only[Option.map_eq_some_iff]at h;obtain⟨H1,R,h⟩:=h;cases h;cases hs with
     |leaf P=>simp[zX]at P
     |sliceE K hl hc=>
      rename_i L;obtain⟨w',e1,e2⟩:=bX hr R K n1 n3;have hst':(storeAt? (some ⟨L.blk,L.off+o,none⟩) (len*e.size) j).run E.prog w=.ok () w':=by simp only[storeAt?,mM,Nat.add_assoc];exact e1
      refine⟨σ,w',.value (.slice (some ⟨L.blk,L.off+o,none⟩) (len+n) cap),?_,e2,.sliceE K B hc⟩;simp[room _ cap _ B hst']
     |sliceX K hl hc Z=>omega
     |sliceZ U=>rcases U with U|⟨U,_⟩<;>omega
    ·-- beyond it
     rename_i hgt;split at h;case h_2=>cases h
     rename_i old p;cases h;have y:=hf.head (Nat.lt_succ_self _);obtain⟨F,o1,o2,o3,o4⟩:=nK hrd p hs;cases hs with
     |leaf P=>simp[zX]at P
     |sliceE K hl hc=>exact C _ _ old F (by omega) o1 o2 o3 o4 y
     |sliceX K hl hc Z=>omega
     |sliceZ U=>exact C _ _ old F (by omega) o1 o2 o3 o4 y
  ·cases h
end
end Go.Am
namespace Go.Am
open Go
theorem jD{w:World}{r:Nat}{o:Obj}(P:Program)(h:w.heap[r]? = some o)(x:∀c e f,o≠.cells c e f):(getObj r).run P w=.ok o w:=by simp only[getObj,Sem.run,h];all_goals grind
theorem kG{w:World}{r:Nat}{o x:Obj}(P:Program)(h:w.heap[r]? = some o)(y:∀c e f,o≠.cells c e f):(setObj r x).run P w=.ok () {w with heap:=w.heap.setIfInBounds r x}:=by simp only[setObj,Sem.run,h];all_goals(cases o<;>first|rfl|exact absurd rfl (y _ _ _))
theorem WSet.setObj{w:World}{r:Nat}{o:Obj}(x:Obj)(h:w.heap[r]? = some o):WSet w {w with heap:=w.heap.setIfInBounds r x} r x where
 size:=by simp
 at_:=by grind
 else_ B y:=by simp only[Array.getElem?_setIfInBounds];rw[if_neg (λe=>y e.symm)]
 tape:=rfl
 os:=rfl
 output:=⟨rfl,lR _⟩
theorem xJ{α h:Type}(P:Program)(f:α->Sem h):∀(s:Sem α),qS P (s >>= f)=(qS P s).bind λa=>qS P (f a):=by
 intro s;show qS P (s.bind f)=_;induction s with
 |pure a=>rfl
 |program k ih=>simp only[Sem.bind,qS];exact ih P
 |mark m k ih=>simp only[Sem.bind,qS];exact ih
 |_=>rfl
section
variable{E:Env}{σ:zU}{H:AH}{w:World}
theorem qDH(he:EOk E)(hr:HR E σ H w){t:TypeId}{l l' c c':Value}(hl:VR σ l l')(hc:VR σ c c'):jZ E σ H w (gK E H t l c) (do pure (.value (←Instr.makeSlice t l' c'))):=by
 intro ar H' h hf;unfold gK at h;split at h;case h_2=>cases h
 rename_i p sz by_ z0 ag e x ht el ec;split at h;case h_2=>cases h
 rename_i ed g o W eag j;simp only[gG,qY,vQ,Nat.mul_eq,Nat.add_eq,Nat.succ_eq_add_one]at h;split at h;case isFalse=>cases h
 rename_i I;split at h;case isFalse=>cases h
 rename_i u;split at h;case isFalse=>cases h
 rename_i hbig;cases h;obtain⟨k1,rfl⟩:=nat?_spec el;obtain⟨k2,rfl⟩:=nat?_spec ec;rw[hl.int_inv,hc.int_inv];obtain⟨B,h1,h2,h3,h4,h5⟩:=kZ he j rfl w;have G:=pG (σ:=σ) h2 h3;have r:B.cells.size=g:=by rw[←I,←h3];simp
 have hcn:x<=1000000000:=by grind
 have hcb:x*o<=1000000000:=by grind
 have K:IntKind.i64.wrap (Int.ofNat e)=(e:Int):=sA (by omega);have J:IntKind.i64.wrap (Int.ofNat x)=(x:Int):=sA (by omega);obtain⟨i,hi,_,_,Q,_⟩:=he.types p _ j;have A:i.bytes=o:=Q.symm;have M:=λw=>run_typeInfo (P:=E.prog) w hi;have N:=λw=>zQ he j w
 obtain⟨q,k,k2⟩:∃q:Array Value,q=(if x*g=0 then #[]else B.cells)/\
   ((Array.range (x*g)).map (λi=>q[i%q.size]!)).toList=xG W x:=by
  by_cases y:x*g=0
  ·refine⟨#[],by simp[y],?_⟩
   rw[y]
   have:(xG W x).length=0:=by rw[kH,I,y]
   simp[List.length_eq_zero_iff.1 this]
  refine⟨B.cells,by simp[y],?_⟩
  rw[aX B.cells x g r.symm,h3]
 have O:=hf.head (Nat.lt_succ_self _)
 obtain⟨L,F,C,Z,X,q5⟩:=qEb hr O (cs:=xG W (if e=0 then 0 else x)) (cs':=(Array.range (x*g)).map (λi=>q[i%q.size]!)) (el:=p)
  (by
   by_cases y:e=0
   ·rw[if_pos y];exact .nil
   rw[if_neg y,k2,List.take_length];exact e7 G x)
  (by
   by_cases y:e=0
   ·rw[if_pos y];exact Nat.zero_le _
   rw[if_neg y,kH,I];simp) (sW h4 _)
 have hlt:¬((x:Int)<0∨(o:Int)*(x:Int)>2^48∨(e:Int)<0∨(e:Int)>(x:Int)):=by grind
 have V:decide ((x:Int)<0)=false:=decide_eq_false (by omega);have U:decide ((o:Int)*(x:Int)>2^48)=false:=by grind
 have S:decide ((e:Int)<0)=false:=decide_eq_false (by omega);have R:decide ((e:Int)>(x:Int))=false:=by simp;omega
 refine⟨_,_,.value (.slice (some ⟨w.heap.size,0,none⟩) e x),?_,q5,?_⟩
 ·simp only[Instr.makeSlice,Sem.run_bind,zN he ht,Result.andThen_ok,asInt,asIntOf,Sem.run_pure,M,K,J,A,V,U,S,R,Bool.or_false,Bool.false_eq_true,if_false,run_askRoom,Int.toNat_natCast,N];by_cases y:x*g=0
  ·rw[if_pos y]at k;subst k;simp only[if_pos y,Sem.run_bind,Sem.run_pure,Result.andThen_ok,newRow,run_newObj];rfl
  rw[if_neg y]at k;subst k;simp only[if_neg y,Sem.run_bind,h1,Sem.run_pure,Result.andThen_ok,newRow,run_newObj];rfl
 by_cases z:e=x
 ·subst z;have:=VR.sliceX (σ:=σ.add H.next L) (b:=H.next) (i:=0) (l:=e) (c:=e) zU.add_self (lR _) (by unfold qT;omega) (by rw[Z,X _ j];simp);rw[F,C]at this;rw[if_pos rfl];exact this
 rw[if_neg z];by_cases y:e=0
 ·have:=VR.sliceX (σ:=σ.add H.next L) (b:=H.next) (i:=0) (l:=e) (c:=x) zU.add_self u (by unfold qT;omega) (by rw[Z,X _ j];simp);rw[F,C]at this;rw[if_pos y];exact this
 have:=VR.sliceE (σ:=σ.add H.next L) (i:=0) (l:=e) (c:=x) zU.add_self u (by unfold qT;omega);rw[F,C]at this;rw[if_neg y];exact this
theorem ERs.length:∀{es es':List MapEntry},ERs σ es es'->es'.length=es.length
 |_,_,.nil=>rfl
 |_,_,.cons _ _ _ _ h=>by simp[ERs.length h]
inductive FR (σ:zU):Option (Nat×Value)->Option (Nat×Value)->Prop
 |none:FR σ none none
 |some {i:Nat} {v v':Value} (h:VR σ v v'):FR σ (some (i,v)) (some (i,v'))
theorem qA3{kd:TypeDesc}{k:Value}:∀{es es':List MapEntry},ERs σ es es'->∀(i:Nat),
  (Instr.findNow kd k es i=none/\Instr.findNow kd k es' i=none)∨∃r h,Instr.findNow kd k es i=some r/\Instr.findNow kd k es' i=some h/\FR σ r h
 |_,_,.nil,i=>.inr ⟨none,none,rfl,rfl,.none⟩
 | _,_,.cons (e:=e) (e':=e') c y hv g x,i=>by
  simp only[Instr.findNow,y]
  cases Instr.sameNow kd k e.key with
  |none=>exact .inl ⟨rfl,rfl⟩
  |some b=>cases b with
   |true=>exact .inr ⟨_,_,rfl,rfl,.some hv⟩
   |false=>exact qA3 x (i+1)
theorem eE{x:TypeId}{k:Value}:∀{es es':List MapEntry},ERs σ es es'->∀(i:Nat) (r:Option (Nat×Value)),qS E.prog (Instr.findAsking x k es i)=some r->
  ∃y,qS E.prog (Instr.findAsking x k es' i)=some y/\FR σ r y
 |_,_,.nil,i,r,h=>by
  have:r=none:=by simpa[Instr.findAsking,qS,pure]using h.symm
  subst this
  exact⟨none,h,.none⟩
 | _,_,.cons (e:=e) (e':=e') l j hv o g,i,r,h=>by
  simp only[Instr.findAsking,xJ,j]at h ⊢
  cases c:qS E.prog (Op.equal x k e.key)with
  |none=>rw[c]at h;simp at h
  | some b=>
   rw[c]at h
   simp only[Option.bind_some]at h ⊢
   cases b with
   |true=>
    simp only[if_true]at h ⊢
    cases h
    exact⟨_,rfl,.some hv⟩
   |false=>
    simp only[Bool.false_eq_true,if_false]at h ⊢
    exact eE g (i+1) r h
theorem qHs{y:TypeId}{k:Value}{es es':List MapEntry}(h:ERs σ es es'){r:Option (Nat×Value)}(x:qS E.prog (Instr.findKey y k es)=some r):∃e,qS E.prog (Instr.findKey y k es')=some e/\FR σ r e:=by
 simp only[Instr.findKey,xJ]at x ⊢;cases hd:qS E.prog (underlying y)with
 |none=>rw[hd]at x;simp at x
 |some kd=>
  rw[hd]at x;simp only[Option.bind_some]at x ⊢;rcases qA3 (kd:=kd) (k:=k) h 0 with⟨c,b⟩|⟨i,g,c,b,h3⟩
  ·rw[c]at x;rw[b];exact eE h 0 r x
  rw[c]at x;rw[b];cases x;exact⟨g,rfl,h3⟩
theorem qAr{c:TypeId}{k k':Value}{es es':List MapEntry}(h:ERs σ es es')(g:VR σ k k'){r:Option (Nat×Value)}(x:qCT E c k es=some r):∃b,(Instr.checkKey es.isEmpty 10000 c k').run E.prog w=.ok () w/\(Instr.findKey c k' es').run E.prog w=.ok b w/\FR σ r b:=by
 unfold qCT at x;cases y:zF k with
 |false=>rw[y]at x;simp at x
 |true=>
  rw[y,cond_true,xJ]at x;rw[mE y g];cases e:qS E.prog (Instr.checkKey es.isEmpty 10000 c k)with
  |none=>rw[e]at x;simp at x
  |some u=>rw[e]at x;obtain⟨b,g1,g2⟩:=qHs h x;exact⟨b,yJ _ _ _ _ e,yJ _ _ _ _ g1,g2⟩
theorem qL8{y:TypeId}{k:Value}{r:Option (Nat×Value)}(h:qCT E y k []=some r):r=none:=by
 unfold qCT at h;cases x:zF k with
 |false=>rw[x]at h;simp at h
 | true=>
  rw[x,cond_true,xJ]at h;cases c:qS E.prog (Instr.checkKey ([]:List MapEntry).isEmpty 10000 y k)with
  |none=>rw[c]at h;simp at h
  |some u=>
   rw[c]at h;simp only[Option.bind_some,Instr.findKey,xJ]at h;cases b:qS E.prog (underlying y)with
   |none=>rw[b]at h;simp at h
   |some d=>rw[b]at h;simpa[Instr.findNow,qS,pure]using h.symm
theorem HR.mapAt(y:HR E σ H w){b ck rt:Nat}{L:Loc}{es:List MapEntry}{own:Bool}(c:H.blocks.get b=some ⟨.map es ck,rt,own⟩)(x:σ b=some L):L.off=0/\∃es',w.heap[L.blk]? = some (.map es' ck)/\ERs σ es es'.toList:=by obtain⟨o,g,h⟩:=y.objs b _ L c x;cases o<;>simp only[oA]at h;obtain⟨h3,rfl,e⟩:=h;exact⟨h3,_,g,e⟩
theorem qCw{es:List MapEntry}{es':Array MapEntry}(h:ERs σ es es'.toList):es'.isEmpty=es.isEmpty:=by
 have:=h.length;rw[Array.length_toList]at this;cases es with
 |nil=>simp at this ⊢;simpa using this
 |cons e es=>simp at this ⊢;intro e;rw[e]at this;simp at this
theorem qIQ(he:EOk E)(R:HR E σ H w){t:TypeId}{x p k k' v:Value}{ok:Bool}(h:rB E H t x k ok=some v)(N:VR σ x p)(A:VR σ k k'):∃v',(Instr.lookup t p k' ok).run E.prog w=.ok v' w/\VR σ v v':=by
 unfold rB at h;split at h;case h_2=>cases h
 rename_i M et sz X z ag es P g;have y:=λw=>zN he P w;have e:(p=.map none/\es=[])∨∃B es' ck,p=.map (some B)/\w.heap[B]? = some (.map es' ck)/\ERs σ es es'.toList:=by
  unfold qEd at g;split at g
  ·cases g;cases N;exact .inl ⟨rfl,rfl⟩
  ·rename_i r;split at g;case h_2=>cases g
   rename_i ck Z own S;cases g;cases N with
   |leaf O=>simp[zX]at O
   |map Q O=>obtain⟨_,es',g1,g2⟩:=R.mapAt S Q;grind
  cases g
 split at h;case h_3=>cases h
 ·rename_i i u b;cases h;rcases e with⟨rfl,rfl⟩|⟨B,es',ck,rfl,F,c⟩
  ·cases qL8 b
  obtain⟨L,c1,l,c3⟩:=qAr (w:=w) c A b;cases c3 with
  |some hv=>
   rename_i K;rw[←qCw c]at c1;refine⟨bif ok then .tuple #[K,.bool true]else K,?_,?_⟩
   ·simp only[Instr.lookup,Sem.run_bind,y,Result.andThen_ok,Sem.run_pure,jD E.prog F (by simp),c1,l];cases ok<;>rfl
   cases ok
   ·exact hv
   exact .tuple (.cons hv (.cons (.leaf rfl) .nil))
 rename_i ed U V ez W b C;split at h;case h_2=>cases h
 rename_i o q;cases h;obtain⟨J,z2⟩:=qAN he C rfl q w;have j:VR σ o o:=j7 _ _ z2;refine⟨bif ok then .tuple #[o,.bool false]else o,?_,?_⟩
 ·rcases e with⟨rfl,rfl⟩|⟨B,es',ck,rfl,F,c⟩
  ·obtain⟨L,c1,l,c3⟩:=qAr (w:=w) (es':=[]) (σ:=σ) .nil A b;cases c3;have I:(Instr.checkKey (#[]:Array MapEntry).isEmpty 10000 M k').run E.prog w=.ok () w:=c1;have G:(Instr.findKey M k' (#[]:Array MapEntry).toList).run E.prog w=.ok none w:=l;simp only[Instr.lookup,Sem.run_bind,y,Result.andThen_ok,Sem.run_pure,I,G,J];cases ok<;>rfl
  obtain⟨L,c1,l,c3⟩:=qAr (w:=w) c A b;cases c3;rw[←qCw c]at c1;simp only[Instr.lookup,Sem.run_bind,y,Result.andThen_ok,Sem.run_pure,jD E.prog F (by simp),c1,l,J];cases ok<;>rfl
 cases ok
 ·exact j
 exact .tuple (.cons j (.cons (.leaf rfl) .nil))
end
end Go.Am
namespace Go.Am
open Go
section
variable{E:Env}{σ:zU}{H:AH}{w:World}
theorem ERs.get:∀{es es':List MapEntry},ERs σ es es'->∀(i:Nat) (e:MapEntry),es[i]? = some e->∃e',es'[i]? = some e'/\e'.key=e.key/\e'.born=e.born
 |_,_,.nil,i,e,h=>by simp at h
 |_,_,.cons c y hv b x,0,e,h=>by simp at h;subst h;exact⟨_,rfl,y,b⟩
 |_,_,.cons c y hv b x,i+1,e,h=>by simpa using ERs.get x i e (by simpa using h)
theorem ERs.modify{k v v':Value}(x:zF k=true)(h:VR σ v v'):∀{es es':List MapEntry} (i:Nat),ERs σ es es'->
  ERs σ (Go.Am.modify es i k v) (es'.modify i λe=>{e with key:=k,val:=v'})
 |_,_,_,.nil=>by simp[Go.Am.modify];exact .nil
 |_,_,0,.cons c g hv b y=>by simp[Go.Am.modify];exact .cons x rfl h b y
 |_,_,i+1,.cons c g hv b y=>by simp[Go.Am.modify];exact .cons c g hv b (ERs.modify x h i y)
theorem ERs.snoc{e e':MapEntry}(y:zF e.key=true)(x:e'.key=e.key)(h:VR σ e.val e'.val)(b:e'.born=e.born):∀{es es':List MapEntry},ERs σ es es'->
  ERs σ (es++[e]) (es'++[e'])
 |_,_,.nil=>.cons y x h b .nil
 |_,_,.cons g i hv j c=>.cons g i hv j (ERs.snoc y x h b c)
theorem qDB(es:Array MapEntry)(i:Nat)(f:MapEntry->MapEntry):(es.modify i f).toList=es.toList.modify i f:=by grind
theorem qBJ(he:EOk E)(q:HR E σ H w){t:TypeId}{m J k k' v v':Value}{H':AH}(h:pW E H t m k v=some H')(P:VR σ m J)(Q:VR σ k k')(hv:VR σ v v'):∃w',(Instr.mapUpdate t J k' v').run E.prog w=.ok () w'/\Step E σ H w σ H' w':=by
 unfold pW at h;split at h;case h_2=>cases h
 rename_i K X sz R z ag r O;split at h;case h_2=>cases h
 rename_i es ck U F;cases x:zF k with
 |false=>rw[x]at h;simp at h
 | true=>
  rw[x,cond_true]at h;rw[mE x Q];cases P with
  |leaf o=>simp[zX]at o
  | map p o=>
   rename_i L;obtain⟨_,es',g,y⟩:=q.mapAt F p;have b:=λw=>zN he O w;simp only[xJ]at h;cases I:qS E.prog (Instr.checkKey false 10000 K k)with
   |none=>rw[I]at h;simp at h
   | some u=>
    rw[I]at h;simp only[Option.bind_some]at h;have c1:=λw=>yJ E.prog w _ _ I;cases G:qS E.prog (Instr.findKey K k es)with
    |none=>rw[G]at h;simp at h
    | some V=>
     rw[G]at h;obtain⟨W,g1,g2⟩:=qHs y G;have M:=λw=>yJ E.prog w _ _ g1;cases g2 with
     |none=>
      simp only[oI]at h;subst h;refine⟨_,?_,Step.write q F rfl p (WSet.setObj (.map (es'.push {key:=k,val:=v',born:=ck}) (ck+1)) g) ?_⟩
      ·simp only[Instr.mapUpdate,Sem.run_bind,b,Result.andThen_ok,jD E.prog g (by simp),c1,M,kG E.prog g (by simp)]
      exact⟨o,rfl,by rw[Array.toList_push];exact ERs.snoc (e:={key:=k,val:=v,born:=ck}) (e':={key:=k,val:=v',born:=ck}) x rfl hv rfl y⟩
     | some N=>
      rename_i i u S;simp only at h;split at h;case h_2=>cases h
      rename_i e B;cases c:Instr.sameBits 10000 e.key k with
      |false=>rw[c]at h;simp at h
      |true=>
       rw[c,cond_true]at h;simp only[oI]at h;subst h;obtain⟨e',C,A,_⟩:=y.get i e B;have l:(((es'[i]?).map (·.key)).getD k)=e.key:=by rw[←Array.getElem?_toList,C];simp[A]
       have j:∀w,(Instr.keyThatStays (((es'[i]?).map (·.key)).getD k) k).run E.prog w=.ok k w:=by intro w;rw[l];simp[Instr.keyThatStays,c]
       refine⟨_,?_,Step.write q F rfl p (WSet.setObj (.map (es'.modify i λe=>{e with key:=k,val:=v'}) ck) g) ?_⟩
       ·simp only[Instr.mapUpdate,Sem.run_bind,b,Result.andThen_ok,jD E.prog g (by simp),c1,M,j,kG E.prog g (by simp)]
       exact⟨o,rfl,by rw[qDB];exact y.modify x hv i⟩
theorem qJn(he:EOk E)(y:HR E σ H w){t ty:TypeId}{ats:List TypeId}{m x k k':Value}{H':AH}(h:uF E H t m k=some H')(b:VR σ m x)(c:VR σ k k'):
  ∃w',(Builtin.delete_ ⟨t::ats⟩ ty #[x,k']).run E.prog w=.ok (.tuple #[]) w'/\Step E σ H w σ H' w':=by unfold uF at h;cases h
theorem qLz(he:EOk E)(j:HR E σ H w){t:TypeId}{c:TI}{s:ByteArray}{b:Value}(g:E.types.get t=some c)(hd:c.desc=.string)(e:VR σ (.string s) b):jZ E σ H w (some (.val (.pointer (some ⟨H.next,0,none⟩)),H.new (.siter s 0))) (do pure (.value (←Instr.range t b))):=by
 intro l H' h k;cases h;rw[e.string_inv];have x:=λw=>zN he g w;rw[hd]at x;have y:=k.head (Nat.lt_succ_self _);have st:=Step.new j y (.siter s 0) (.stringIter s 0) ⟨w.heap.size,0,0,0⟩ rfl ⟨rfl,rfl,rfl⟩;refine⟨_,_,.value (.pointer (some ⟨w.heap.size,0,none⟩)),?_,st,?_⟩
 ·simp only[Instr.range,Sem.run_bind,x,Result.andThen_ok,Sem.run_pure,run_newObj];rfl
 exact VR.ptr (σ:=σ.add H.next ⟨w.heap.size,0,0,0⟩) (i:=0) zU.add_self
theorem ERs.filter{p:MapEntry->Bool}(x:∀e e':MapEntry,e'.born=e.born->p e'=p e):∀{es es':List MapEntry},ERs σ es es'->ERs σ (es.filter p) (es'.filter p)
 |_,_,.nil=>.nil
 |_,_,.cons (e:=e) (e':=e') c i hv y b=>by
  have h:=x e e' y;have ih:=ERs.filter x b;cases g:p e
  ·grind
  simpa[List.filter_cons,h,g]using ERs.cons c i hv y ih
theorem ERs.all{p:MapEntry->Bool}(h:∀e e':MapEntry,e'.born=e.born->p e'=p e):∀{es es':List MapEntry},ERs σ es es'->es'.all p=es.all p
 |_,_,.nil=>rfl
 |_,_,.cons b c hv y x=>by simp[h _ _ y,ERs.all h x]
theorem ERs.nil_inv{es':List MapEntry}(h:ERs σ [] es'):es'=[]:=by cases h;rfl
theorem qNY(e:HR E σ H w){it vW:Value}{str:Bool}{ty:TypeId}(j:VR σ it vW):jZ E σ H w (qAU H it str) (do pure (.value (←Instr.next vW str ty))):=by
 intro t H' h q;unfold qAU at h;split at h;case h_2=>cases h
 ·rename_i r;split at h;case h_2=>cases h
  rename_i s x p i;cases j with
  |leaf c=>simp[zX]at c
  | ptr g=>
   rename_i L;obtain⟨o,g1,g2⟩:=e.objs r _ L i g;cases o<;>simp only[oA]at g2;obtain⟨c,l,k⟩:=g2;rw[l,k]at g1;simp only[vQ]at h;rw[c];split at h
   ·rename_i b;cases h;refine⟨σ,_,.value (.tuple #[.bool true,goInt x,.int .i32 (Utf8.decode s x).1]),?_,Step.write e i rfl g (WSet.setObj (.stringIter s (x+(Utf8.decode s x).2)) g1) ⟨c,rfl,rfl⟩,?_⟩
    ·have y:x<s.size:=b;simp only[Instr.next,Nat.add_zero,Sem.run_bind,jD E.prog g1 (by simp),Result.andThen_ok,if_pos y,kG E.prog g1 (by simp),Sem.run_pure]
    exact .tuple (.cons (.leaf rfl) (.cons (.leaf rfl) (.cons (.leaf rfl) .nil)))
   rename_i b;cases h;refine⟨σ,w,.value (.tuple #[.bool false]),?_,Step.refl e,.tuple (.cons (.leaf rfl) .nil)⟩;have y:¬x<s.size:=b;simp only[Instr.next,Nat.add_zero,Sem.run_bind,jD E.prog g1 (by simp),Result.andThen_ok,if_neg y,Sem.run_pure]
theorem ERs.find{b:Nat}{e:MapEntry}:∀{es es':List MapEntry},ERs σ es es'->es.find? (λe=>e.born==b)=some e->
  ∃e',es'.find? (λe=>e.born==b)=some e'/\zF e.key=true/\e'.key=e.key/\VR σ e.val e'.val
 |_,_,.nil,h=>by simp at h
 |_,_,.cons (e:=x) (e':=c) i j hv k g,h=>by
  rw[List.find?_cons]at h ⊢
  rw[k]
  cases y:(x.born==b)with
  |true=>rw[y]at h;simp only[oI]at h;subst h;exact⟨c,rfl,i,j,hv⟩
  |false=>rw[y]at h;exact ERs.find g h
theorem qMk(B:HR E σ H w){it vW v:Value}(h:qFT H it=some v)(N:VR σ it vW):∃v',(Instr.entry vW).run E.prog w=.ok v' w/\VR σ v v':=by
 unfold qFT at h;split at h;case h_2=>cases h
 rename_i r;split at h;case h_2=>cases h
 rename_i m l seen A Z R;split at h;case h_2=>cases h
 rename_i es ck F u P;rw[qY]at h;split at h;case isFalse=>cases h
 rename_i Q;split at h;case h_2=>cases h
 rename_i b g;split at h;case h_2=>cases h
 rename_i e i;cases h;cases N with
 |leaf t=>simp[zX]at t
 | ptr O=>
  rename_i L;obtain⟨o,g1,g2⟩:=B.objs r _ L R O;cases o<;>simp only[oA]at g2;rename_i z k y c;cases z with
  |none=>simp at g2
  |some z=>
   simp only at g2;obtain⟨t,⟨M,X,h3,W⟩,V,U,S⟩:=g2;obtain⟨_,es',C,q⟩:=B.mapAt P X;rw[W]at C;subst V S;obtain⟨e',K,J,I,G⟩:=q.find i;rw[t];have j:y.back? = some b:=by rw[←g,←U,Array.getLast?_toList]
   refine⟨.tuple #[e'.key,e'.val],?_,.tuple (.cons (by rw[I];exact j7 _ _ J) (.cons G .nil))⟩;have x:es'.find? (λe=>e.born==b)=some e':=by rw[←K,Array.find?_toList]
   have p:(ck != c)=false:=by simpa using Q
   simp only[Instr.entry,Nat.add_zero,Sem.run_bind,jD E.prog g1 (by simp),jD E.prog C (by simp),Result.andThen_ok,j,p,x,Bool.false_eq_true,if_false,Sem.run_pure]
theorem qIJ(he:EOk E)(j:HR E σ H w){t:TypeId}{e:TI}{m ck rt:Nat}{own:Bool}{es:List MapEntry}{c:Value}{k z:TypeId}(o:E.types.get t=some e)(hd:e.desc=.map k z)(r:H.blocks.get m=some ⟨.map es ck,rt,own⟩)(l:VR σ (.map (some m)) c):jZ E σ H w (some (.val (.pointer (some ⟨H.next,0,none⟩)),H.new (.miter m ck [] ck))) (do pure (.value (←Instr.range t c))):=by
 intro A H' h p;cases h;have x:=λw=>zN he o w;rw[hd]at x;have y:=p.head (Nat.lt_succ_self _);cases l with
 |leaf b=>simp[zX]at b
 |map g b=>
  rename_i M;obtain⟨_,es',u,q⟩:=j.mapAt r g;have hle:zU.le σ (σ.add H.next ⟨w.heap.size,0,0,0⟩):=zU.add_le y;have st:=Step.new j y (.miter m ck [] ck) (.mapIter (some M.blk) ck #[] ck) ⟨w.heap.size,0,0,0⟩ rfl ⟨rfl,⟨M,hle _ _ g,b,rfl⟩,rfl,rfl,rfl⟩;refine⟨_,_,.value (.pointer (some ⟨w.heap.size,0,none⟩)),?_,st,?_⟩
  ·simp only[Instr.range,Sem.run_bind,x,Result.andThen_ok,jD E.prog u (by simp),Sem.run_pure,run_newObj];rfl
  exact VR.ptr (σ:=σ.add H.next ⟨w.heap.size,0,0,0⟩) (i:=0) zU.add_self
theorem qDh{m:String}:∀{cs:List Value} {l:List UInt8},nA cs=some l->∀(acc:ByteArray) (w:World),
  (forIn cs acc (λc s=>(match c with|.int .u8 n=>pure (.yield (s.push (UInt8.ofNat n.toNat)))|_=>(do stuck m;pure (.yield s)):Sem (ForInStep ByteArray)))).run E.prog w=.ok ⟨⟨acc.data.toList++l⟩⟩ w
 | [],l,h,acc,w=>by
  simp[nA]at h;subst h
  simp_all
 | c::cs,l,h,acc,w=>by
  unfold nA at h
  split at h
  ·rename_i x;cases x
  ·rename_i b vs x
   cases x
   simp only[Option.map_eq_some_iff]at h
   obtain⟨e,y,rfl⟩:=h
   simp only[List.forIn_cons,Sem.run_bind,Sem.run_pure,Result.andThen_ok]
   rw[qDh y]
   congr 3
   simp[ByteArray.push]
  cases h
theorem qBY{m:String}:∀{cs:List Value} {l:List UInt8},lS cs=some l->∀(acc:ByteArray) (w:World),
  (forIn cs acc (λc s=>(match c with|.int .i32 n=>pure (.yield (s++Utf8.encode n))|_=>(do stuck m;pure (.yield s)):Sem (ForInStep ByteArray)))).run E.prog w=.ok ⟨⟨acc.data.toList++l⟩⟩ w
 | [],l,h,acc,w=>by
  simp[lS]at h;subst h
  simp_all
 | c::cs,l,h,acc,w=>by
  unfold lS at h
  split at h
  ·rename_i x;cases x
  ·rename_i b vs x
   cases x
   simp only[Option.map_eq_some_iff]at h
   obtain⟨e,y,rfl⟩:=h
   simp only[List.forIn_cons,Sem.run_bind,Sem.run_pure,Result.andThen_ok]
   rw[qBY y]
   congr 3
   simp[←List.append_assoc]
  cases h
end
end Go.Am
namespace Go.Am
open Go
section
variable{E:Env}{σ:zU}{H:AH}{w:World}
theorem qDi:∀{cs cs':List Value} {l:List UInt8},nA cs=some l->VRs σ cs cs'->nA cs'=some l
 | [],[],_,h,.nil=>h
 |v::_,_::_,l,h,.cons hv y=>by
  unfold nA at h;split at h
  ·rename_i x;cases x
  ·rename_i b vs x;cases x;simp only[Option.map_eq_some_iff]at h;obtain⟨e,c,rfl⟩:=h;rw[hv.int_inv];simp only[nA,qDi c y];rfl
  cases h
theorem qBZ:∀{cs cs':List Value} {l:List UInt8},lS cs=some l->VRs σ cs cs'->lS cs'=some l
 | [],[],_,h,.nil=>h
 |v::_,_::_,l,h,.cons hv y=>by
  unfold lS at h;split at h
  ·rename_i x;cases x
  ·rename_i b vs x;cases x;simp only[Option.map_eq_some_iff]at h;obtain⟨e,c,rfl⟩:=h;rw[hv.int_inv];simp only[lS,qBZ c y];rfl
  cases h
theorem qE4(he:EOk E)(L:HR E σ H w){s d:TypeId}{a:Option Addr}{n c:Nat}{v v':Value}(h:l7 E H s d (.slice a n c) n=some v)(F:VR σ (.slice a n c) v'):∃u,(Go.convert s d v').run E.prog w=.ok u w/\VR σ v u:=by
 unfold l7 at h;split at h;case h_2=>cases h
 rename_i e J N R P I M Q O cs K hd z;obtain⟨cs',f1,f2,_,_⟩:=nK L z F;have g:=λw=>zN he K w;have i:=λw=>zN he hd w;have q:∀A o,v'=.slice A n o->(match A with|some A=>loadCells A n|none=>pure #[]).run E.prog w=.ok ⟨cs'⟩ w:=by
  rintro A o rfl;cases A with
  |none=>simp only[Builtin.firstCells,Sem.run_pure]at f1 ⊢;exact f1
  |some A=>simpa only[Builtin.firstCells,Nat.mul_one]using f1
 obtain⟨A,o,rfl⟩:∃A o,v'=.slice A n o:=by
  cases F with
  |leaf S=>exact⟨_,_,rfl⟩
  |sliceE _ _ _=>exact⟨_,_,rfl⟩
  |sliceX _ _ _ _=>exact⟨_,_,rfl⟩
  |sliceZ _=>exact⟨_,_,rfl⟩
 have j:=q A o rfl;split at h
 ·rename_i p B G C k;simp only[Option.map_eq_some_iff]at h;obtain⟨l,t,rfl⟩:=h;have b:=λw=>zN he k w;have x:=qDi t f2;refine⟨_,?_,.leaf rfl⟩;cases A with
  |none=>
   simp only[Sem.run_pure,Result.ok.injEq,and_true]at j;have:cs'=[]:=by simpa using j.symm
   rw[this]at x;simp only[nA,oI]at x;subst x;simp only[Go.convert,Sem.run_bind,g,i,Result.andThen_ok,b,Conv.bytesToString,Sem.run_pure];rfl
  |some A=>simp only at j;have y:=λm=>qDh (E:=E) (m:=m) x ByteArray.empty w;simp only[Go.convert,Sem.run_bind,g,i,Result.andThen_ok,b,Conv.bytesToString,Sem.run_pure,j,←Array.forIn_toList];exact(congrArg (λr:Result ByteArray=>r.andThen λa w'=>Result.ok (Value.string a) w') (y _)).trans rfl
 ·rename_i p B G C k;simp only[Option.map_eq_some_iff]at h;obtain⟨l,t,rfl⟩:=h;have b:=λw=>zN he k w;have x:=qBZ t f2;refine⟨_,?_,.leaf rfl⟩;cases A with
  |none=>
   simp only[Sem.run_pure,Result.ok.injEq,and_true]at j;have:cs'=[]:=by simpa using j.symm
   rw[this]at x;simp only[lS,oI]at x;subst x;simp only[Go.convert,Sem.run_bind,g,i,Result.andThen_ok,b,Conv.runesToString,Sem.run_pure];rfl
  |some A=>simp only at j;have y:=λm=>qBY (E:=E) (m:=m) x ByteArray.empty w;simp only[Go.convert,Sem.run_bind,g,i,Result.andThen_ok,b,Conv.runesToString,Sem.run_pure,j,←Array.forIn_toList];exact(congrArg (λr:Result ByteArray=>r.andThen λa w'=>Result.ok (Value.string a) w') (y _)).trans rfl
 cases h
theorem qHW(he:EOk E)(G:HR E σ H w){s d e:TypeId}{k C:TI}{b:ByteArray}(N:E.types.get s=some k)(q:k.desc=.string)(hd:E.types.get d=some C)(A:C.desc=.slice e):jZ E σ H w (mK E H e b) (do pure (.value (←Go.convert s d (.string b)))):=by
 intro W H' h Q;unfold mK at h;split at h;case h_2=>cases h
 rename_i sz S z ag j;simp only[gG,qY,vQ]at h;split at h;case isFalse=>cases h
 rename_i R;split at h;case isFalse=>cases h
 rename_i V;cases h;have u:=Q.head (Nat.lt_succ_self _);obtain⟨_,_,us,_⟩:=he.types s k N;obtain⟨_,_,F,_⟩:=he.types d C hd;obtain⟨_,_,M,_⟩:=he.types e _ j;rw[q]at us;rw[A]at F;have run:=run_bytes_of_string (P:=E.prog) w s d e b us F M;have K:b.size<=grownCap w b.size 0 e:=grownCap_ge w b.size 0 e;have B:b.data.toList.length=b.size:=by rw[Array.length_toList];rfl
 have J:grownCap w b.size 0 e<qT:=by have:=grownCap_le_maxLen w b.size 0 e (by unfold maxLen;omega);unfold maxLen at this;unfold qT;omega
 generalize O:grownCap w b.size 0 e=y at run K J;have p:(bytesRow b y).size=y:=by unfold bytesRow;grind
 have r:HR E σ H (kS w):=(Step.drew G (Nat.le_succ _)).hr
 have st:=Step.new r u (.cells (b.data.toList.map λx=>Value.int .u8 x.toNat) e) (.cells (bytesRow b y) e ((bytesRow b y).size,(bytesRow b y).size+1)) ⟨w.heap.size,0,y,1⟩ rfl
  ⟨λ_=>⟨.inr ⟨lR _,rfl⟩,rfl,Nat.zero_mod _⟩,by rw[p];simp,by simp only[List.length_map];omega,λU g=>by rw[j]at g;cases g;exact R.symm,λi v I=>by
   simp only[List.getElem?_map,Option.map_eq_some_iff]at I;obtain⟨x,o,rfl⟩:=I;refine⟨rfl,_,?_,.leaf rfl⟩;have t:i<b.data.size:=by have:=(gI o).1;simpa using this
   simp only[bytesRow,Nat.zero_add];rw[Array.getElem?_append_left (by simpa using t)];simp only[Array.getElem?_map];rw[Array.getElem?_toList]at o;rw[o];rfl⟩
 refine⟨_,_,.value (.slice (some ⟨w.heap.size,0,none⟩) b.size y),?_,(Step.drew G (Nat.le_succ _)).trans st,?_⟩
 ·simp only[Sem.run_bind,run,Result.andThen_ok,Sem.run_pure];rfl
 rw[B];exact VR.sliceX (σ:=σ.add H.next ⟨w.heap.size,0,y,1⟩) (b:=H.next) (i:=0) (l:=b.size) (c:=y) (L:=⟨w.heap.size,0,y,1⟩) zU.add_self K J (by simp)
theorem qJy(he:EOk E){xt y:TypeId}{e:TI}{v v':Value}{ok:Bool}(B:E.types.get y=some e)(hv:VR σ v v'):(∀u,nN E e y v=some (some u)->∃p,(Instr.typeAssert v' xt y ok).run E.prog w=.ok (bif ok then .tuple #[p,.bool true]else p) w/\VR σ u p)/\(∀z k,nN E e y v=some none->ok=true->e.zero=some z->pU e.agg z=some k->(Instr.typeAssert v' xt y ok).run E.prog w=.ok (.tuple #[k,.bool false]) w/\VR σ k k):=by
 have hu:=λw=>zN he B w;constructor
 ·intro u h;unfold nN at h;split at h
  ·rename_i b t x hd;split at h;case h_2=>cases h
   rename_i i A;split at h;case h_2=>cases h
   rename_i hm;cases h;cases hv with
   |leaf j=>simp[zX]at j
   |iface l=>refine⟨_,?_,.iface l⟩;rw[hd]at hu;simp only[Instr.typeAssert,Sem.run_bind,hu,Result.andThen_ok,run_typeInfo _ A,hm,Sem.run_pure];cases ok<;>rfl
  ·cases h
  ·cases h
  ·rename_i t x c;split at h;case isFalse=>cases h
   rename_i g;cases h;cases hv with
   |leaf j=>simp[zX]at j
   |iface l=>
    refine⟨_,?_,l⟩;subst g;revert hu;cases hd:e.desc with
    |interface b=>exact absurd hd (c _)
    |_=>intro hu;simp only[Instr.typeAssert,Sem.run_bind,hu,Result.andThen_ok,if_true,Sem.run_pure];cases ok<;>rfl
  ·cases h
  cases h
 intro z k h r C q;subst r;obtain⟨o,z2⟩:=qAN he B C q w;refine⟨?_,j7 _ _ z2⟩;unfold nN at h;split at h
 ·rename_i b t x hd;split at h;case h_2=>cases h
  rename_i i A;split at h;case h_1=>cases h
  rename_i m hm;cases hv with
  |leaf j=>simp[zX]at j
  |iface l=>rw[hd]at hu;simp only[Instr.typeAssert,Sem.run_bind,hu,Result.andThen_ok,run_typeInfo _ A,hm,Sem.run_pure,if_true,o]
 ·rename_i b hd;cases hv;rw[hd]at hu;simp only[Instr.typeAssert,Sem.run_bind,hu,Result.andThen_ok,Sem.run_pure,if_true,o]
 ·cases h
 ·rename_i t x c;split at h;case isTrue=>cases h
  rename_i g;cases hv with
  |leaf j=>simp[zX]at j
  |iface l=>
   revert hu;cases hd:e.desc with
   |interface b=>exact absurd hd (c _)
   |_=>intro hu;simp only[Instr.typeAssert,Sem.run_bind,hu,Result.andThen_ok,if_neg g,Sem.run_pure,if_true,o]
 ·rename_i c;cases hv;revert hu;cases hd:e.desc with
  |interface b=>exact absurd hd (c _)
  |_=>intro hu;simp only[Instr.typeAssert,Sem.run_bind,hu,Result.andThen_ok,Sem.run_pure,if_true,o]
 cases h
theorem qIK(he:EOk E){t:TypeId}{x k y:Value}{name:String}{f:FuncId}(h:rA E (.iface t x) name=some (f,y))(B:VR σ x k)(j:Nat):(method (j+1) t k name).run E.prog w=.ok (f,k) w/\y=x:=by
 simp only[rA]at h;split at h;case h_2=>cases h
 rename_i i q z l;split at h;case h_2=>cases h
 rename_i A r p g e hm;simp only[gG,qY]at h;split at h;case isFalse=>cases h
 rename_i u;have b:p.toList=[]:=List.length_eq_zero_iff.1 u;have o:p.isEmpty=true:=by cases p;simp at b;simp[b]
 have hu:=λw=>zN he l w;cases c:qBk q.desc e with
 |false=>rw[c]at h;simp at h
 |true=>rw[c,cond_true]at h;cases h;refine⟨?_,rfl⟩;simp only[method,Sem.run_bind,run_typeInfo _ z,Result.andThen_ok,hm,b,follow,Sem.run_pure,o,if_true,receiverAt,hu];revert c;cases hd:q.desc<;>intro c<;>simp only[qBk]at c<;>cases e<;>first|(cases c;done)|(simp at c;done)|rfl
theorem fO(he:EOk E){f:FuncId}{fn:Func}(x:E.funcs.get f=some fn)(h:Array Value):(callFunc f h).run E.prog w=.ok (.enter f h) w:=by
 obtain⟨g,e,h3⟩:=he.funcs f fn x;have c:fn.body.isNone=false:=by cases y:fn.body<;>simp[y]at e ⊢
 have b : (fn.name == "runtime.NumGoroutine") = false := by simpa using h3
 simp only[callFunc,Sem.run_bind,run_program,Result.andThen_ok,g,b,c,Bool.false_eq_true,if_false,Sem.run_pure]
theorem qQW{v:Value}{name:String}{r:FuncId×Value}(h:rA E v name=some r):∃t x,v=.iface t x:=by unfold rA at h;grind
theorem mJ(he:EOk E){v v' y:Value}{name:String}{f:FuncId}(h:rA E v name=some (f,y))(hv:VR σ v v'){fn:Func}(j:E.funcs.get f=some fn)(b:Array Value):∃c,(callMethod v' name b).run E.prog w=.ok (.enter f (#[c]++b)) w/\VR σ y c:=by
 obtain⟨t,x,rfl⟩:=qQW h;cases hv with
 |leaf k=>simp[zX]at k
 |iface e=>rename_i g;obtain⟨n,i⟩:∃n,E.prog.types.size+Made.depth=n+1:=⟨E.prog.types.size+Made.depth-1,by unfold Made.depth;omega⟩;obtain⟨g1,rfl⟩:=qIK (w:=w) he h e n;refine⟨g,?_,e⟩;simp only[callMethod,Sem.run_bind,run_program,Result.andThen_ok,i,g1,fO he j]
end
end Go.Am
namespace Go.Am
open Go
section
variable{E:Env}{σ:zU}{H:AH}{w:World}{fr:Fr}{a:Act}
theorem VRs.cons_inv{v:Value}{l x:List Value}(h:VRs σ (v::l) x):∃v' r,x=v'::r/\VR σ v v'/\VRs σ l r:=by cases h with|cons h hs=>exact⟨_,_,rfl,h,hs⟩
theorem VRs.nil_inv{x:List Value}(h:VRs σ [] x):x=[]:=by cases h;rfl
theorem VR.slice_inv{a:Option Addr}{n c:Nat}{v':Value}(h:VR σ (.slice a n c) v'):∃b y,v'=.slice b n y/\(c<qT->y=c):=by
 cases h with
 |leaf e=>exact⟨_,_,rfl,λ_=>rfl⟩
 |sliceE _ _ _=>exact⟨_,_,rfl,λ_=>rfl⟩
 |sliceX _ _ _ _=>exact⟨_,_,rfl,λh=>absurd h (Nat.lt_irrefl _)⟩
 |sliceZ x=>exact⟨_,_,rfl,λh=>by rcases x with x|⟨x,_⟩<;>omega⟩
theorem jZ.step{x:AR}{r:Option AH}{s:Sem Next}(h:∀H',r=some H'->∃w' nx,s.run E.prog w=.ok nx w'/\Step E σ H w σ H' w'/\qMK E σ w' x nx):jZ E σ H w (r.map λH'=>(x,H')) s:=by intro c H' he _;simp only[Option.map_eq_some_iff]at he;obtain⟨H1,b,y⟩:=he;cases y;obtain⟨w',nx,g⟩:=h _ b;exact⟨σ,w',nx,g⟩
theorem qX5(he:EOk E)(k:HR E σ H w){ats:List TypeId}{ty:TypeId}{x e v:Value}(b:VR σ x e)(h:qG0 E H ats x=some v):∃v',(Builtin.len_ ⟨ats⟩ ty #[e]).run E.prog w=.ok v' w/\VR σ v v':=by
 unfold qG0 at h;split at h
 ·cases h
 rename_i t rest;split at h
 ·cases h
 rename_i A i;have hu:=λw=>zN he i w;split at h
 ·rename_i hd;cases h;rw[b.string_inv];rw[hd]at hu;exact⟨_,by simp[Builtin.len_,hu],.leaf rfl⟩
 ·rename_i hd;cases h;obtain⟨I,G,rfl,_⟩:=b.slice_inv;rw[hd]at hu;exact⟨_,by simp[Builtin.len_,hu],.leaf rfl⟩
 ·rename_i C F hd;rw[hd]at hu;simp only[Option.map_eq_some_iff]at h;obtain⟨es,y,rfl⟩:=h;unfold qEd at y;split at y
  ·cases y;cases b;exact⟨_,by simp[Builtin.len_,hu],.leaf rfl⟩
  ·split at y;case h_2=>cases y
   rename_i r ck B own q;cases y;cases b with
   |leaf g=>simp[zX]at g
   |map j g=>
    obtain⟨_,es',g1,g2⟩:=k.mapAt q j;refine⟨goInt es.length,?_,.leaf rfl⟩;have o:es'.size=es.length:=by rw[←g2.length];simp
    simp[Builtin.len_,hu,jD E.prog g1,o]
  cases y
 ·rename_i n el hd;rw[hd]at hu;cases h;exact⟨_,by simp[Builtin.len_,hu],.leaf rfl⟩
 ·rename_i p hd;rw[hd]at hu;split at h;case h_2=>cases h
  rename_i n el sz u z ag l;cases h;have c:=λw=>zN he l w;exact⟨_,by simp[Builtin.len_,hu,c],.leaf rfl⟩
 cases h
theorem qYT(he:EOk E){ats:List TypeId}{ty:TypeId}{x b v:Value}(c:VR σ x b)(h:qVV E ats x=some v):∃v',(Builtin.cap_ ⟨ats⟩ ty #[b]).run E.prog w=.ok v' w/\VR σ v v':=by
 unfold qVV at h;split at h
 ·cases h
 rename_i t rest;split at h
 ·cases h
 rename_i g e;have hu:=λw=>zN he e w;split at h;case h_2=>cases h
 rename_i hd;simp only[vQ]at h;split at h;case isTrue=>cases h
 rename_i i;cases h;obtain⟨k,j,rfl,y⟩:=c.slice_inv;rw[hd]at hu;rw[y (by omega)];exact⟨_,by simp[Builtin.cap_,hu],.leaf rfl⟩
theorem qVJ(he:EOk E)(A:HR E σ H w){ats:List TypeId}{ty:TypeId}{d d' s r:Value}(k:VR σ d d')(g:VR σ s r):jZ E σ H w (qEH E H ats d s) (do pure (.value (←Builtin.copy_ ⟨ats⟩ ty #[d',r]))):=by
 intro U H' h S;unfold qEH at h;split at h
 ·cases h
 rename_i t rest;split at h
 ·cases h
 rename_i R J;have hu:=λw=>zN he J w;split at h;case h_2=>cases h
 rename_i I base q cap hd;rw[hd]at hu;split at h;case h_2=>cases h
 rename_i e sl B z;split at h
 ·cases h
 rename_i cs C;obtain⟨cs',f1,f2,N,M⟩:=nK A C g;have j:=qKq (E:=E) (w:=w) z g;have c:=λw=>zQ he B w;simp only[qY]at h;split at h
 ·rename_i l;cases h;have i:cs'=[]:=by have:=f2.length;rw[N,l,Nat.zero_mul]at this;exact List.length_eq_zero_iff.1 this
  subst i;obtain⟨Q,F,rfl,_⟩:=k.slice_inv;refine⟨σ,w,.value (goInt (Nat.min sl q)),?_,Step.refl A,.leaf rfl⟩;cases Q<;>simp[Builtin.copy_,hu,j,c,f1,storeCells]
 rename_i l;split at h;case h_2=>cases h
 rename_i b o;simp only[Option.map_eq_some_iff]at h;obtain⟨H1,u,h⟩:=h;cases h
 have p:∀(L:Loc) (F:Nat),σ b=some L->∃y w' G,(do pure (.value (←Builtin.copy_ ⟨t::rest⟩ ty #[.slice (some ⟨L.blk,L.off+o,none⟩) q F,r])):Sem Next).run E.prog w=.ok G w'/\
   Step E σ H w y H' w'/\qMK E y w' (.val (goInt (Nat.min sl q))) G:=by
  intro L F x
  obtain⟨w',P,O⟩:=bX A u x f2 M
  refine⟨σ,w',.value (goInt (Nat.min sl q)),?_,O,.leaf rfl⟩
  simp[Builtin.copy_,hu,j,c,f1,P]
 cases k with
 |leaf l=>simp[zX]at l
 |sliceE x _ _=>exact p _ _ x
 |sliceX x _ _ _=>exact p _ _ x
 |sliceZ K=>simp at l
theorem qRZ(he:EOk E)(z:HR E σ H w){ats:List TypeId}{ty:TypeId}{x q:Value}(u:VR σ x q):jZ E σ H w (qAz E H ats x) (do pure (.value (←Builtin.clear_ ⟨ats⟩ ty #[q]))):=by
 intro W H' h S;unfold qAz at h;split at h
 ·cases h
 rename_i t rest;split at h
 ·cases h
 rename_i R C;have hu:=λw=>zN he C w;split at h;case h_2=>cases h
 rename_i A base n cap hd;rw[hd]at hu;split at h;case h_2=>cases h
 rename_i V M N K O l;simp only[qY]at h;split at h
 ·rename_i c;cases h;subst c;obtain⟨Q,p,rfl,_⟩:=u.slice_inv;refine⟨σ,w,.value (.tuple #[]),?_,Step.refl z,.tuple .nil⟩;cases Q<;>simp[Builtin.clear_,hu]
 rename_i c;split at h;case h_2=>cases h
 rename_i b o;simp only[Option.map_eq_some_iff]at h;obtain⟨H1,k,h⟩:=h;cases h;obtain⟨i,J,I,h3,G,U⟩:=kZ he l rfl w;have j:(Builtin.zeroCells i.cells n).toList=xG K n:=by unfold Builtin.zeroCells;rw[aX i.cells n i.cells.size rfl,h3]
 have g:∀(L:Loc) (p:Nat),σ b=some L->∃e w' r,(do pure (.value (←Builtin.clear_ ⟨t::rest⟩ ty #[.slice (some ⟨L.blk,L.off+o,none⟩) n p])):Sem Next).run E.prog w=.ok r w'/\
   Step E σ H w e H' w'/\qMK E e w' (.val (.tuple #[])) r:=by
  intro L p y
  obtain⟨w',B,P⟩:=bX z k y (e7 (pG I h3) n) (sW G n)
  refine⟨σ,w',.value (.tuple #[]),?_,P,.tuple .nil⟩
  rw[←j]at B
  obtain⟨m,rfl⟩:=Nat.exists_eq_succ_of_ne_zero c
  simp[Builtin.clear_,hu,J,B]
 cases u with
 |leaf c=>simp[zX]at c
 |sliceE y _ _=>exact g _ _ y
 |sliceX y _ _ _=>exact g _ _ y
 |sliceZ F=>exact absurd rfl c
theorem sI(E:Env)(H H':AH)(ats:List TypeId)(p l:Value)(x:AR)(y:∀v,x≠.val v):wF E H ats p l≠some (x,H'):=λh=>by unfold wF at h;cases h
theorem qLR:(Extern.allGenericRows.lookup kM).isNone=true:=by kernel_rfl
theorem qLQ:(Extern.allTypedRows.lookup kM).isNone=true:=by kernel_rfl
theorem qLP:Extern.allRows.lookup kM=some Extern.AbiNoEscape.same:=by kernel_rfl
theorem qDG{fn:Func}(h:fn.name=kM):Extern.find fn=some Extern.AbiNoEscape.same:=by have y:=Option.isNone_iff_eq_none.1 qLR;have x:=Option.isNone_iff_eq_none.1 qLQ;simp only[Extern.find,h,y,x,qLP];rfl
theorem fM:∀{l x:List Value},l.all zF=true->VRs σ l x->x=l
 |_,_,_,.nil=>rfl
 |_,_,h,.cons hv y=>by simp only[List.all_cons,aE]at h;rw[mE h.1 hv,fM h.2 y]
theorem qHX(he:EOk E)(g:HR E σ H w)(b:Builtin){ats:List TypeId}(ty:TypeId)(o:Array Bool){args j:List Value}(i:VRs σ args j):jZ E σ H w (xR E H b ats args) (builtin b ⟨ats⟩ ty o ⟨j⟩):=by
 unfold xR;split
 ·split
  ·obtain⟨C,r,rfl,y,x⟩:=i.cons_inv;obtain⟨p,r,rfl,h3,t⟩:=x.cons_inv;rw[t.nil_inv];exact qJz he g ty y h3
  exact jZ.none
 ·split
  ·obtain⟨p,r,rfl,y,x⟩:=i.cons_inv;rw[x.nil_inv];exact jZ.one g λv hv=>qX5 he g y hv
  exact jZ.none
 ·split
  ·obtain⟨p,r,rfl,y,x⟩:=i.cons_inv;rw[x.nil_inv];exact jZ.one g λv hv=>qYT he y hv
  exact jZ.none
 ·split
  ·obtain⟨p,r,rfl,y,x⟩:=i.cons_inv;rw[x.nil_inv];intro z H' h B;cases h;refine⟨σ,w,.value (.pointer none),?_,Step.refl g,.leaf rfl⟩;cases y with
   |leaf G=>rfl
  ·rename_i a l c;obtain⟨p,r,rfl,y,x⟩:=i.cons_inv;rw[x.nil_inv];intro z H' h B;rw[vQ]at h;split at h;case isFalse=>cases h
   rename_i I;cases h;cases y with
   |leaf G=>simp[zX]at G
   |sliceE A J F=>refine⟨σ,w,.value (.pointer _),?_,Step.refl g,.ptr A⟩;obtain⟨k,rfl⟩:∃k,c=k+1:=⟨c-1,by omega⟩;rfl
   |sliceX A J F K=>refine⟨σ,w,.value (.pointer _),?_,Step.refl g,.ptr A⟩;rename_i c1 _;obtain⟨k,rfl⟩:∃k,c1=k+1:=⟨c1-1,by omega⟩;rfl
   |sliceZ F=>omega
  exact jZ.none
 ·split
  ·obtain⟨M,r,rfl,y,x⟩:=i.cons_inv;obtain⟨N,r,rfl,h3,t⟩:=x.cons_inv;rw[t.nil_inv];intro z H' h B;cases z with
   |val v=>obtain⟨w',u,g1,g2,g3⟩:=uR (ty:=ty) he g (by simp) h y h3;refine⟨σ,w',.value u,?_,g2,g3⟩;simp only[builtin,Sem.run_bind];exact(congrArg (λr:Result Value=>r.andThen λa w'=>(pure (Next.value a):Sem Next).run E.prog w') g1).trans rfl
   |_=>exact absurd h (sI _ _ _ _ _ _ _ (λv e=>by cases e))
  exact jZ.none
 ·split
  ·obtain⟨C,r,rfl,y,x⟩:=i.cons_inv;obtain⟨p,r,rfl,h3,t⟩:=x.cons_inv;rw[t.nil_inv];exact qVJ he g y h3
  exact jZ.none
 ·split
  ·obtain⟨p,r,rfl,y,x⟩:=i.cons_inv;rw[x.nil_inv];exact qRZ he g y
  exact jZ.none
 ·split
  ·obtain⟨C,r,rfl,y,x⟩:=i.cons_inv;obtain⟨p,r,rfl,h3,t⟩:=x.cons_inv;rw[t.nil_inv];refine jZ.step λH' L=>?_;obtain⟨w',g1,g2⟩:=qJn (ty:=ty) he g L y h3;refine⟨w',.value (.tuple #[]),?_,g2,.tuple .nil⟩;simp only[builtin,Sem.run_bind];exact congrArg (λr:Result Value=>r.andThen λa w'=>(pure (Next.value a):Sem Next).run E.prog w') g1
  exact jZ.none
 ·cases q:args.all zF with
  |false=>exact jZ.none
  |true=>rw[cond_true,fM q i];refine jZ.one g λv hv=>?_;obtain⟨g1,g2⟩:=flat?_spec hv;exact⟨v,yJ _ _ _ _ g1,j7 _ _ g2⟩
 ·cases q:args.all zF with
  |false=>exact jZ.none
  |true=>rw[cond_true,fM q i];refine jZ.one g λv hv=>?_;obtain⟨g1,g2⟩:=flat?_spec hv;exact⟨v,yJ _ _ _ _ g1,j7 _ _ g2⟩
 ·split
  ·rw[i.nil_inv];intro z H' h B;cases h;exact⟨σ,w,.recover,rfl,Step.refl g,trivial⟩
  exact jZ.none
 exact jZ.none
theorem qIH(he:EOk E)(j:HR E σ H w){f:FuncId}{fn:Func}{n:Nat}{b:AR}{H':AH}(c:E.prog.funcs[f]? = some fn)(i:fn.name=mA)(g:fn.body.isNone=true)(e:(Extern.findNext fn).isNone=true)(h:qBm E H fn n=some (b,H'))(k:yD σ H.next H'.next):∃x w' y,(callFunc f ⟨[.int .i64 (.ofNat n)]⟩).run E.prog w=.ok y w'/\Step E σ H w x H' w'/\qMK E x w' b y:=by unfold qBm at h;cases h
theorem cK(xs:Array Operand)(f:Operand->Value):(⟨xs.toList.map f⟩:Array Value)=xs.map f:=by apply Array.ext';simp
theorem qC9(y:Value)(l:List Value): #[y]++(⟨l⟩:Array Value)=⟨y::l⟩:=by apply Array.ext';simp
theorem zAo(x y z:List Value):(⟨x⟩:Array Value)++⟨y⟩++⟨z⟩=⟨x++y++z⟩:=by apply Array.ext';simp
theorem qPu(he:EOk E)(R:HR E σ H w)(c:Call)(ty:TypeId)(I:∀x∈c.operands.toList,∀v,ev E fr x=some v->VR σ v (a.eval x)):jZ E σ H w (yL E fr H c) (do let d ←resolve a.eval c ty;invoke d.target d.args):=by
 unfold yL;split
 ·exact jZ.none
 rename_i args hargs;have z:=uA (a:=a) (λx G=>I x (by simp only[Call.operands,Array.toList_append,List.mem_append];exact .inr G)) hargs;have j:c.args.map a.eval=⟨c.args.toList.map a.eval⟩:=(cK _ _).symm;generalize hargs':c.args.toList.map a.eval=e at z j;have enter:∀(f:FuncId) (xs q:List Value) (s:Sem Next),VRs σ xs q->(∀fn,E.funcs.get f=some fn->s.run E.prog w=.ok (.enter f ⟨q⟩) w)->jZ E σ H w (rY E H f xs) s:=by
  intro f xs q s G hs Q H' h O;unfold rY at h;split at h;case h_2=>cases h
  rename_i fn i;cases h;exact⟨σ,w,.enter f ⟨q⟩,hs fn i,Step.refl R,rfl,G,fn,i⟩
 have U:∀(f:FuncId) (xs q:List Value) (s:Sem Next),VRs σ xs q->s.run E.prog w=(callFunc f ⟨q⟩).run E.prog w->jZ E σ H w (oU E H f xs) s:=by
  intro f xs q s G hs Q H' h O;unfold oU at h;split at h
  ·rename_i fn i;cases h;exact⟨σ,w,.enter f ⟨q⟩,by rw[hs,fO he i],Step.refl R,rfl,G,fn,i⟩
  unfold qUi at h;split at h
  ·rename_i n;split at h;case h_2=>cases h
   rename_i fn i;obtain⟨p',r,rfl,h1,h2⟩:=G.cons_inv;rw[h2.nil_inv,h1.int_inv]at hs;cases S:(fn.name==mA&&fn.body.isNone&&(Extern.findNext fn).isNone)with
   |false=>
    rw[S,cond_false]at h;split at h;case h_2=>cases h
    rename_i v hv;simp only[one,Option.map_eq_some_iff]at h;obtain⟨v1,V,h⟩:=h;cases h;obtain⟨g1,g2⟩:=flat?_spec V;cases g1;exact⟨σ,w,.value _,by rw[hs,yJ _ _ _ _ hv],Step.refl R,j7 _ _ g2⟩
   |true=>rw[S,cond_true]at h;simp only[aE,beq_iff_eq]at S;obtain⟨⟨q1,q2⟩,q3⟩:=S;obtain⟨σ',w',nx,g1,g2,g3⟩:=qIH he R i q1 q2 q3 h O;grind
  ·rename_i p;split at h;case h_2=>cases h
   rename_i fn i;obtain⟨p',r,rfl,h1,h2⟩:=G.cons_inv;rw[h2.nil_inv]at hs;cases S:(fn.name==kM&&fn.body.isNone&&(Extern.findNext fn).isNone)with
   |false=>rw[S]at h;cases h
   |true=>
   rw [S] at h;cases h;simp only [aE,beq_iff_eq] at S;obtain ⟨⟨q1,q2⟩,q3⟩:=S;have q4 : (fn.name == "runtime.NumGoroutine") = false := by rw [q1]; kernel_rfl
   refine⟨σ,w,.value p',?_,Step.refl R,h1⟩;rw[hs,run_callFunc_extern i q4 q2 (Option.isNone_iff_eq_none.1 q3) (qDG q1)];rfl
  cases X:xs.all zF with
  |false=>rw[X]at h;cases h
  |true=>
  rw[X,cond_true]at h;split at h;case h_2=>cases h
  rename_i v hv;simp only[one,Option.map_eq_some_iff]at h;obtain⟨v1,V,h⟩:=h;cases h;obtain⟨g1,g2⟩:=flat?_spec V;cases g1;rw[fM X G]at hs;exact⟨σ,w,.value _,by rw[hs,yJ _ _ _ _ hv],Step.refl R,j7 _ _ g2⟩
 split
 ·rename_i b J;have:=qHX he R b (ats:=c.argTypes.toList) ty (c.args.map λ|.const _=>true|_=>false) z;intro Q H' h O;obtain⟨σ',w',nx,g1,g2⟩:=this Q H' h O;refine⟨σ',w',nx,?_,g2⟩;simp only[resolve,J,j,Sem.run_bind,Sem.run_pure,Result.andThen_ok,invoke];exact g1
 ·rename_i r K J;split;case h_2=>exact jZ.none
  rename_i v hv;have M:=I r (by simp[Call.operands,J]) v hv;split;case h_2=>exact jZ.none
  rename_i f y hm;intro Q H' h O;cases i:E.funcs.get f with
  |none=>simp[rY,i]at h
  |some fn=>
   obtain⟨y',m1,m2⟩:=mJ (w:=w) he hm M i ⟨e⟩;refine enter f (y::args) (y'::e) _ (.cons m2 z) ?_ Q H' h O;intro _ _;have G:(#[a.eval r]++(⟨e⟩:Array Value)).extract 1 (#[a.eval r]++(⟨e⟩:Array Value)).size=⟨e⟩:=by apply Array.ext';simp
   have B:(#[a.eval r]++(⟨e⟩:Array Value))[0]? = some (a.eval r):=by simp
   simp only[resolve,J,j,Sem.run_bind,Sem.run_pure,Result.andThen_ok,invoke,B,G,m1];rw[qC9]
 rename_i g J;split
 ·rename_i f first cap W
  have k:=I g (by simp[Call.operands,J]) _ W;generalize F:a.eval g=g' at k;cases k with
  |leaf B=>simp[zX]at B
  |func B N Z=>rename_i f1 c1;refine U f _ _ _ ((N.append z).append Z) ?_;simp only[resolve,J,j,Deferred.ofValue,F,Sem.run_bind,Sem.run_pure,Result.andThen_ok,invoke];rw[zAo]
 ·rename_i l first cap W
  have k:=I g (by simp[Call.operands,J]) _ W;generalize F:a.eval g=g' at k;cases k with
  |leaf B=>simp[zX]at B
  |func B _ _=>simp[rD]at B
  | yield hs B=>
   rename_i L;split;case h_2=>exact jZ.none
   rename_i st pd t ps az bd rt own hl;simp only[qY];split;case isFalse=>exact jZ.none
   rename_i hlen;intro Q H' h O;cases h;obtain⟨o,g1,g2⟩:=R.objs l _ L hl hs;cases o<;>simp only[oA]at g2;rename_i lo;obtain⟨_,q1,q2,q3,q4,q5,q6⟩:=g2;have hsz:(⟨e⟩:Array Value).size=lo.params.size:=by
    have:=z.length;have h2:lo.params.toList.length=ps.length:=by rw[q4]
    simp at h2 ⊢;omega
   refine⟨σ,w,.round L.blk lo.fn ((lo.params.zip ⟨e⟩).foldl (λtmps (t,a)=>tmps.setIfInBounds t a) lo.tmps) lo.assign lo.body,?_,Step.refl R,?_⟩
   ·have hne:¬(⟨e⟩:Array Value).size≠lo.params.size:=by rw[hsz];simp
    simp only[resolve,J,j,Deferred.ofValue,F,Sem.run_bind,Sem.run_pure,Result.andThen_ok,invoke,Instr.yield,Instr.getLoop,jD E.prog g1 (by simp),Array.empty_append];rw[if_neg hne];rfl
   exact⟨L,lo,e,hs,g1,z,by simpa using hsz,rfl⟩
 ·rename_i K first cap W
  have k:=I g (by simp[Call.operands,J]) _ W;generalize F:a.eval g=g' at k;cases k with
  |leaf B=>simp[zX]at B
  | func B N Z=>
   rename_i f1 c1 f1' c1';split;case h_2=>exact jZ.none
   rename_i v rest M;have A:=N.append z;rw[M]at A;obtain⟨v',C,e1,e2,e3⟩:=A.cons_inv;split;case h_2=>exact jZ.none
   rename_i f y hm;intro Q H' h O;cases i:E.funcs.get f with
   |none=>simp[rY,i]at h
   |some fn=>
    obtain⟨y',m1,m2⟩:=mJ (w:=w) he hm e2 i ⟨C⟩;refine enter f (y::rest) (y'::C) _ (.cons m2 e3) ?_ Q H' h O;intro _ _;have P:(⟨f1'⟩:Array Value)++⟨e⟩=⟨v'::C⟩:=by apply Array.ext';simpa using e1
    have G:(⟨v'::C⟩:Array Value).extract 1 (⟨v'::C⟩:Array Value).size=⟨C⟩:=by apply Array.ext';simp
    have B:(⟨v'::C⟩:Array Value)[0]? = some v':=by simp
    simp only[resolve,J,j,Deferred.ofValue,F,Sem.run_bind,Sem.run_pure,Result.andThen_ok,invoke,P,B,G,m1];rw[qC9]
 ·rename_i t K first cap W
  have k:=I g (by simp[Call.operands,J]) _ W;generalize F:a.eval g=g' at k;cases k with
  |leaf B=>simp[zX]at B
  | func B N Z=>
   rename_i f1 c1 f1' c1';split;case h_2=>exact jZ.none
   rename_i v rest M;have A:=N.append z;rw[M]at A;obtain⟨v',C,e1,e2,e3⟩:=A.cons_inv;have P:(⟨f1'⟩:Array Value)++⟨e⟩=⟨v'::C⟩:=by apply Array.ext';simpa using e1
   have G:(⟨v'::C⟩:Array Value).extract 1 (⟨v'::C⟩:Array Value).size=⟨C⟩:=by apply Array.ext';simp
   have h00:(⟨v'::C⟩:Array Value)[0]? = some v':=by simp
   cases htt:E.types.get t with
   |none=>exact jZ.none
   | some ti=>
    have hu:=λw=>zN he htt w
    have fin:∀(u u':Value),VR σ u u'->((match ti.desc with|.interface _=>v'|_=>.iface t v')=u')->
      jZ E σ H w (match rA E u K with|some (f,x)=>rY E H f (x::rest)|none=>none) (do let d ←resolve a.eval c ty;invoke d.target d.args):=by
     intro u u' huu heq
     split
     case h_2=>exact jZ.none
     rename_i f y hm
     intro Q H' h O
     cases i:E.funcs.get f with
     |none=>simp[rY,i]at h
     |some fn=>
      obtain⟨y',m1,m2⟩:=mJ (w:=w) he hm huu i ⟨C⟩
      refine enter f (y::rest) (y'::C) _ (.cons m2 e3) ?_ Q H' h O
      intro _ _
      rw[←heq]at m1
      simp only[resolve,J,j,Deferred.ofValue,F,Sem.run_bind,Sem.run_pure,Result.andThen_ok,invoke,P,h00,G,hu]
      revert m1
      cases ti.desc<;>intro m1<;>simp only at m1 ⊢<;>rw[m1,qC9]
    obtain⟨d,s1,b1,z1,a1⟩:=ti;cases d;case interface=>exact fin v v' e2 rfl
    all_goals exact fin (.iface t v) (.iface t v') (.iface e2) rfl
 exact jZ.none
end
end Go.Am
namespace Go.Am
open Go
section
variable{E:Env}{σ:zU}{H:AH}{w:World}{fr:Fr}{a:Act}
theorem qFo(x:Option Operand){vs:List Value}(b:∀y∈x.toList,∀v,ev E fr y=some v->VR σ v (a.eval y))(h:rO E fr x.toList=some vs):OR σ vs.head? (x.map a.eval):=by
 cases x with
 |none=>simp[rO]at h;subst h;exact .none
 |some x=>
  simp only[Option.toList,rO]at h;split at h
  ·cases h
  rename_i v hv;simp at h;subst h;exact .some (b x (by simp) v hv)
theorem qLj(E:Env)(H H':AH)(s d:TypeId)(a:Addr)(x:AR)(y:∀v,x≠.val v):qDP E H s d a≠some (x,H'):=λh=>by unfold qDP at h;cases h
theorem qLe(he:EOk E)(A:HR E σ H w)(o:Oper)(g:∀x∈o.op.operands.toList,∀v,ev E fr x=some v->VR σ v (a.eval x)):jZ E σ H w (vT E fr o H) (execOp a.eval o):=by
 unfold vT;split
 ·
  -- move
  rename_i x j;simp only[j,Op.operands]at g;simp only[execOp,j];intro ar H' h Q;simp only[one,Option.map_eq_some_iff]at h;obtain⟨v,hv,h⟩:=h;cases h;exact⟨σ,w,.value (a.eval x),rfl,Step.refl A,g _ (by simp) _ hv⟩
 ·rename_i x j;simp only[j,Op.operands]at g;simp only[execOp,j];intro ar H' h Q;simp only[one,Option.map_eq_some_iff]at h;obtain⟨v,hv,h⟩:=h;cases h;exact⟨σ,w,.value (a.eval x),rfl,Step.refl A,g _ (by simp) _ hv⟩
 ·
  -- pick
  rename_i c x y j;simp only[j,Op.operands]at g;simp only[execOp,j];intro ar H' h Q;split at h
  ·rename_i hc;have hcr:=(g _ (by simp) _ hc).bool_inv;simp only[one,Option.map_eq_some_iff]at h;obtain⟨v,hv,h⟩:=h;cases h;refine⟨σ,w,.value (a.eval x),?_,Step.refl A,g _ (by simp) _ hv⟩;simp only[hcr,asBool,Sem.run_bind,Sem.run_pure,Result.andThen_ok,if_true]
  ·rename_i hc;have hcr:=(g _ (by simp) _ hc).bool_inv;simp only[one,Option.map_eq_some_iff]at h;obtain⟨v,hv,h⟩:=h;cases h;refine⟨σ,w,.value (a.eval y),?_,Step.refl A,g _ (by simp) _ hv⟩;simp only[hcr,asBool,Sem.run_bind,Sem.run_pure,Result.andThen_ok,Bool.false_eq_true,if_false]
  cases h
 ·rename_i t j;simp only[j,Op.operands]at g;simp only[execOp,j];exact qMF he A t
 ·
  -- box
  rename_i t x j;simp only[j,Op.operands]at g;simp only[execOp,j];split
  ·exact jZ.none
  ·rename_i v W hv;exact qR6 he A t (g _ (by simp) _ hv) (λc e=>W c e)
  exact jZ.none
 ·
  -- build
  rename_i t ps j;simp only[j,Op.operands]at g;simp only[execOp,j];split
  ·rename_i qs hq;have hp:=uZ (a:=a) (λx C=>g x (by simpa using C)) hq;refine jZ.one A λv hv=>?_;obtain⟨v',g1,g2⟩:=qMw (w:=w) he hp hv;refine⟨v',?_,g2⟩;have:(ps.map λ(i,x)=>(i,a.eval x))=⟨ps.toList.map λ(i,x)=>(i,a.eval x)⟩:=by apply Array.ext';simp
   rw[this];exact g1
  exact jZ.none
 ·rename_i t n ps j;simp only[j,Op.operands]at g;simp only[execOp,j];split
  ·rename_i qs hq;have hp:=uZ (a:=a) (λx C=>g x (by simpa using C)) hq;have:(ps.map λ(i,x)=>(i,a.eval x))=⟨ps.toList.map λ(i,x)=>(i,a.eval x)⟩:=by apply Array.ext';simp
   rw[this];exact qDk he A hp
  exact jZ.none
 ·rename_i t x j;simp only[j,Op.operands]at g;simp only[execOp,j];split
  ·rename_i v hv;exact jZ.one A λu hu=>qGZ he A hu (g _ (by simp) _ hv)
  exact jZ.none
 ·
  -- store
  rename_i t x y j;simp only[j,Op.operands]at g;simp only[execOp,j];split
  ·exact jZ.none
  ·rename_i va vb W V U;refine jZ.step λH' hH=>?_;obtain⟨w',g1,g2⟩:=qLo he A hH (g _ (by simp) _ V) (g _ (by simp) _ U) (λc e=>W c e);exact⟨w',.skip,by simp only[Sem.run_bind,g1,Result.andThen_ok,Sem.run_pure],g2,trivial⟩
  exact jZ.none
 ·
  -- nilCheck
  rename_i x j;simp only[j,Op.operands]at g;simp only[execOp,j];intro ar H' h Q;split at h
  ·rename_i p hv;cases h;have B:=g _ (by simp) _ hv;generalize C:a.eval x=x' at B;cases B with
   |leaf N=>simp[zX]at N
   |ptr hs=>exact⟨σ,w,.value _,by simp only[C];rfl,Step.refl A,VR.ptr hs⟩
  ·rename_i t u hv;cases h;have B:=g _ (by simp) _ hv;generalize C:a.eval x=x' at B;cases B with
   |leaf N=>simp[zX]at N
   |iface hs=>exact⟨σ,w,.value _,by simp only[C];rfl,Step.refl A,VR.iface hs⟩
  ·rename_i f p q hv;cases h;have B:=g _ (by simp) _ hv;generalize C:a.eval x=x' at B;cases B with
   |leaf N=>simp[zX]at N
   |func I J h3=>exact⟨σ,w,.value _,by simp only[C];rfl,Step.refl A,VR.func I J h3⟩
  ·rename_i f p q hv;cases h;have B:=g _ (by simp) _ hv;generalize C:a.eval x=x' at B;cases B with
   |leaf N=>simp[zX]at N
   |func I J h3=>simp[rD]at I
   |yield I J=>exact⟨σ,w,.value _,by simp only[C];rfl,Step.refl A,VR.yield I J⟩
  cases h
 ·
  -- binOp
  rename_i op t x y ty j;simp only[j,Op.operands]at g;simp only[execOp,j];split
  ·rename_i va vb V U;exact jZ.one A λu hu=>qR9 he hu (g _ (by simp) _ V) (g _ (by simp) _ U)
  exact jZ.none
 ·rename_i op t x j;simp only[j,Op.operands]at g;simp only[execOp,j];split
  ·rename_i v hv;cases Z:zF v with
   |false=>exact jZ.none
   |true=>refine jZ.one A λu hu=>?_;obtain⟨g1,g2⟩:=flat?_spec hu;rw[mE Z (g _ (by simp) _ hv)];exact⟨u,yJ _ _ _ _ g1,j7 _ _ g2⟩
  exact jZ.none
 ·
  -- convert
  rename_i s d x j;simp only[j,Op.operands]at g;simp only[execOp,j];split
  ·rename_i p n c hv;exact jZ.one A λu hu=>qE4 he A hu (g _ (by simp) _ hv)
  ·rename_i p hv;intro ar H' h Q;cases ar with
   |val v=>obtain⟨rfl,u,g1,g2⟩:=qMU he A h (g _ (by simp) _ hv);refine⟨σ,w,.value u,?_,Step.refl A,g2⟩;simp only[Sem.run_bind,g1,Result.andThen_ok,Sem.run_pure]
   |_=>exact absurd h (qLj _ _ _ _ _ _ _ (λv e=>by cases e))
  ·rename_i b hv;rw[(g _ (by simp) _ hv).string_inv];split
   ·rename_i e _ _ _ _ hts htd;exact qHW he A hts rfl htd rfl
   refine jZ.one A λu hu=>?_;obtain⟨g1,g2⟩:=flat?_spec hu;exact⟨u,yJ _ _ _ _ g1,j7 _ _ g2⟩
  ·rename_i v hns hnp hnstr hv;cases Z:zF v with
   |false=>exact jZ.none
   |true=>refine jZ.one A λu hu=>?_;obtain⟨g1,g2⟩:=flat?_spec hu;rw[mE Z (g _ (by simp) _ hv)];exact⟨u,yJ _ _ _ _ g1,j7 _ _ g2⟩
  exact jZ.none
 ·
  -- K
  rename_i t x j;simp only[j,Op.operands]at g;simp only[execOp,j];split
  ·exact jZ.none
  ·rename_i ti v hni F hv;refine jZ.one A λu hu=>?_;cases hu;have hu:=zN he F w;refine⟨.iface t (a.eval x),?_,.iface (g _ (by simp) _ hv)⟩;simp only[Instr.makeInterface,Sem.run_bind,hu,Result.andThen_ok];cases hd:ti.desc<;>first|rfl|skip
   exact(hni _ _ _ _ _ (by rw[←hd])).elim
  exact jZ.none
 ·
  -- makeFunc
  rename_i fn f c j;simp only[j,Op.operands]at g;simp only[execOp,j];split
  ·rename_i vf vc hvf hvc;have I:=uA (a:=a) (λx C=>g x (by simp;exact .inl (by simpa using C))) hvf;have J:=uA (a:=a) (λx C=>g x (by simp;exact .inr (by simpa using C))) hvc;refine jZ.one A λu hu=>?_;cases X:rD fn with
   |false=>rw[X]at hu;simp at hu
   |true=>rw[X]at hu;simp only[if_true,oI]at hu;subst hu;refine⟨_,rfl,?_⟩;rw[←cK,←cK];exact .func X I J
  exact jZ.none
 ·
  -- makeMap
  rename_i t j;simp only[j,Op.operands]at g;simp only[execOp,j];intro ar H' h Q;cases h;have hf':=Q.head (Nat.lt_succ_self _);have st:=Step.new A hf' (.map [] 0) (.map #[] 0) ⟨w.heap.size,0,0,0⟩ rfl ⟨rfl,rfl,.nil⟩;exact⟨_,_,.value (.map (some w.heap.size)),rfl,st,VR.map (L:=⟨w.heap.size,0,0,0⟩) zU.add_self rfl⟩
 ·rename_i t x j;simp only[j,Op.operands]at g;simp only[execOp,j];split
  ·rename_i kt et sz O z ag k n F hv;intro ar H' h Q;cases h;have hf':=Q.head (Nat.lt_succ_self _);have st:=Step.new A hf' (.map [] 0) (.map #[] 0) ⟨w.heap.size,0,0,0⟩ rfl ⟨rfl,rfl,.nil⟩;refine⟨_,_,.value (.map (some w.heap.size)),?_,st,VR.map (L:=⟨w.heap.size,0,0,0⟩) zU.add_self rfl⟩;have hu:=zN he F w;have hxi:=(g _ (by simp) _ hv).int_inv;simp only[Instr.makeMap,Option.map,Sem.run_bind,hu,Result.andThen_ok,hxi,asInt,asIntOf,Sem.run_pure,run_newObj];rfl
  exact jZ.none
 ·rename_i t l c j;simp only[j,Op.operands]at g;simp only[execOp,j];split
  ·rename_i vl vc hl hc;exact qDH he A (g _ (by simp) _ hl) (g _ (by simp) _ hc)
  exact jZ.none
 ·
  -- slice
  rename_i t x lo M mx j;simp only[j,Op.operands]at g;simp only[execOp,j];split
  ·rename_i vx vlo vhi vmx C hlo hhi hmx;exact jZ.one A λu hu=>qLs he A hu (g _ (by simp) _ C) (qFo lo (λy hy=>g y (by cases lo<;>simp_all)) hlo) (qFo M (λy hy=>g y (by cases M<;>simp_all)) hhi) (qFo mx (λy hy=>g y (by cases mx<;>simp_all)) hmx)
  exact jZ.none
 ·rename_i s x f j;simp only[j,Op.operands]at g;simp only[execOp,j];split
  ·rename_i v hv;exact jZ.one A λu hu=>qL9 he hu (g _ (by simp) _ hv)
  exact jZ.none
 ·
  -- field
  rename_i t x f j;simp only[j,Op.operands]at g;simp only[execOp,j];split
  ·rename_i cs fs sz O z ag hv F;split
   ·rename_i fd hfd;exact jZ.one A λu hu=>qJa he F rfl hfd hu (g _ (by simp) _ hv)
   exact jZ.none
  exact jZ.none
 ·
  -- S
  rename_i t x i j;simp only[j,Op.operands]at g;simp only[execOp,j];split
  ·rename_i v n hv M;simp only[Option.bind_eq_some_iff]at M;obtain⟨iv,I,J⟩:=M;exact jZ.one A λu hu=>qL3 he hu J (g _ (by simp) _ hv) (g _ (by simp) _ I)
  exact jZ.none
 ·
  -- index
  rename_i t x i j;simp only[j,Op.operands]at g;simp only[execOp,j];split
  ·rename_i s n sz O z ag hv M F;simp only[Option.bind_eq_some_iff]at M;obtain⟨iv,I,J⟩:=M;split
   ·rename_i b hb;refine jZ.one A λu hu=>?_;cases hu;exact⟨_,qI2 he F rfl J hb (g _ (by simp) _ hv) (g _ (by simp) _ I),.leaf rfl⟩
   exact jZ.none
  ·rename_i cs n len elem sz O z ag hv M F;simp only[Option.bind_eq_some_iff]at M;obtain⟨iv,I,J⟩:=M;split
   ·rename_i e hel;rw[vQ];split
    ·rename_i hlt;exact jZ.one A λu hu=>qI1 he F rfl hel J hlt hu (g _ (by simp) _ hv) (g _ (by simp) _ I)
    exact jZ.none
   exact jZ.none
  exact jZ.none
 ·rename_i t x k ok j;simp only[j,Op.operands]at g;simp only[execOp,j];split
  ·rename_i vx vk C hk;exact jZ.one A λu hu=>qIQ he A hu (g _ (by simp) _ C) (g _ (by simp) _ hk)
  exact jZ.none
 ·
  -- R
  rename_i t m k x j;simp only[j,Op.operands]at g;simp only[execOp,j];split
  ·rename_i vm vk vx hm hk C;refine jZ.step λH' hH=>?_;obtain⟨w',g1,g2⟩:=qBJ he A hH (g _ (by simp) _ hm) (g _ (by simp) _ hk) (g _ (by simp) _ C);exact⟨w',.skip,by simp only[Sem.run_bind,g1,Result.andThen_ok,Sem.run_pure],g2,trivial⟩
  exact jZ.none
 ·rename_i t m k x j;simp only[j,Op.operands]at g;simp only[execOp,j];split
  ·rename_i vm vk vx hm hk C;refine jZ.step λH' hH=>?_;obtain⟨w',g1,g2⟩:=qBJ he A hH (g _ (by simp) _ hm) (g _ (by simp) _ hk) (g _ (by simp) _ C);exact⟨w',.skip,by simp only[Sem.run_bind,g1,Result.andThen_ok,Sem.run_pure],g2,trivial⟩
  exact jZ.none
 ·
  -- range
  rename_i t x j;simp only[j,Op.operands]at g;simp only[execOp,j];split
  ·rename_i s sz O z ag hv F;exact qLz he A F rfl (g _ (by simp) _ hv)
  ·rename_i hv F;split
   ·rename_i hb;exact qIJ he A F rfl hb (g _ (by simp) _ hv)
   exact jZ.none
  exact jZ.none
 ·rename_i it str j;simp only[j,Op.operands]at g;simp only[execOp,j];split
  ·rename_i v hv;exact qNY A (g _ (by simp) _ hv)
  exact jZ.none
 ·rename_i it j;simp only[j,Op.operands]at g;simp only[execOp,j];split
  ·rename_i v hv;exact jZ.one A λu hu=>qMk A hu (g _ (by simp) _ hv)
  exact jZ.none
 ·
  -- P
  rename_i x xt asserted ok j;simp only[j,Op.operands]at g;simp only[execOp,j];split
  ·rename_i v ti hv F;have hb:=qJy (w:=w) (xt:=xt) (ok:=ok) he F (g _ (by simp) _ hv);split
   ·rename_i u hu;refine jZ.one A λr G=>?_;cases G;obtain⟨u',g1,g2⟩:=hb.1 u hu;refine⟨_,g1,?_⟩;cases ok
    ·exact g2
    exact .tuple (.cons g2 (.cons (.leaf rfl) .nil))
   ·rename_i hu;cases ok with
    |false=>exact jZ.none
    |true=>
     refine jZ.one A λr G=>?_;split at G
     ·rename_i z hz;simp only[Option.map_eq_some_iff]at G;obtain⟨zv,hzv,rfl⟩:=G;obtain⟨g1,g2⟩:=hb.2 z zv hu rfl hz hzv;exact⟨_,g1,.tuple (.cons g2 (.cons (.leaf rfl) .nil))⟩
     cases G
   exact jZ.none
  exact jZ.none
 ·
  -- extract
  rename_i x i j;simp only[j,Op.operands]at g;simp only[execOp,j];split
  ·rename_i vs hv;refine jZ.one A λu hu=>?_;have B:=g _ (by simp) _ hv;generalize C:a.eval x=x' at B;cases B with
   |leaf N=>simp[zX]at N
   |tuple hc=>obtain⟨v',g1,g2⟩:=hc.get _ _ hu;refine⟨v',?_,g2⟩;simp only[Instr.extract,List.getElem?_toArray,g1,Sem.run_pure]
  exact jZ.none
 ·rename_i c j;simp only[j,Op.operands]at g;simp only[execOp,j];exact qPu he A c o.type g
 exact jZ.none
end
end Go.Am
