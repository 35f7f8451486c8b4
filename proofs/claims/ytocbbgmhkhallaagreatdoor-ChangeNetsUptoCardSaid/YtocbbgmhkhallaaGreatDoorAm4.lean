/- What the abstract append does where the array must grow, the model's does too. Conditions: none. -/
import Derived.Test.YtocbbgmhkhallaaGreatDoorAm2
import Derived.Laws.IdiomStrings
import Derived.KernelRfl
import Derived.Laws.Externs
set_option linter.unusedVariables false
set_option linter.unusedSimpArgs false
namespace Go.Am
open Go
abbrev cq:=@Nat.zero_le
abbrev cw:=@List.getElem?_map
abbrev df:=@List.nil_append
abbrev dq:=@List.getElem?_cons_zero
abbrev eo:=@List.all_cons
abbrev fc:=@Nat.zero_add
abbrev fm:=@Nat.add_mul
abbrev ig:=@Option.isNone_iff_eq_none
abbrev il:=@Nat.succ_eq_add_one
abbrev ir:=@Nat.lt_or_ge
abbrev iw:=@Option.bind_eq_some_iff
abbrev ix:=@List.getElem?_cons_succ
abbrev iz:=@List.drop_of_length_le
abbrev jh:=@Go.run_newObj
abbrev jl:=@Array.getElem?_append_left
abbrev jt:=@Nat.mul_eq
def gD(w:LP):LP:={w with drawn:=w.drawn+1}
variable{A:Option Addr}{ats:List LN}{c:Nat}{t ty:LN}{ti:TI}{x x':LQ}
section
variable{E:Env}{σ:vO}{H:AH}{w:LP}
theorem dX(z:LD)(n:Nat):(Builtin.zeroCells z n).size=n*z.size:=by simp[Builtin.zeroCells]
theorem qBa{h y:Nat}(b:c<h)(e:(4*h+4000)*(y+1)<=100000000000):¬(h:Int)>IntKind.i64.max/\¬Builtin.nextslicecap h c*y>2^48/\h<2^62:=by
 have j:=qI3 h c b;have i:(4*h+4000)*(y+1)=(4*h+4000)*y+(4*h+4000):=by rw[Nat.mul_add];simp
 have h3:Builtin.nextslicecap h c*y<=(4*h+4000)*y:=eu _ (by omega);have g:IntKind.i64.max=9223372036854775807:=by decide
 refine⟨by rw[g];omega,by omega,by omega⟩
set_option maxHeartbeats 1000000 in
theorem qMT(he:EOk E){xt y:LN}{I e:TI}{n len:Nat}{g j z:LA}(S:E.types.get t=some ti)(hd:ti.desc=.slice y)(q:E.types.get xt=some I)(b:E.types.get y=some e)(l:e.zero=some z)(R:bF I.desc=false)(h1:(Builtin.lenOf x').run E.prog w=.ok n w)(h2:(Builtin.firstCells e.size n x').run E.prog (gD w)=.ok ⟨j⟩ (gD w))(h0:(Builtin.firstCells e.size len (.slice A len c)).run E.prog (gD w)=.ok ⟨g⟩ (gD w))(M:c<len+n)(C:(4*(len+n)+4000)*(e.bytes+1)<=100000000000):∃(G:Nat) (rest:LD),len+n<=G/\G<zX/\rest.size=(G-(len+n))*e.size/\(Builtin.append_ ⟨t::xt::ats⟩ ty #[.slice A len c,x']).run E.prog w=.ok (.slice (some ⟨w.heap.size,0,none⟩) (len+n) G) (World.push (gD w) (.cells (⟨g⟩++⟨j⟩++rest) y)):=by
 obtain⟨O,F,hb3⟩:=qBa M C;obtain⟨Q,X,_,W,_,V⟩:=gL he b l (gD w);have hu:=λw=>vE he S w;rw[hd]at hu;have u:=λw=>vE he q w;have K:=λw=>vH he b w;obtain⟨i,U,_,_,N,_⟩:=he.types y e b;have p:=λw=>gv (P:=E.prog) w U;rw[N]at F;have L:¬len+n<=c:=by omega
 have J:Q.cells.size=e.size:=by rw[←V,←W];simp
 clear S q b he hd U;refine⟨(len+n)+(w.tape w.drawn (.appendCap (len+n) c y))%(2^63-(len+n)),Builtin.zeroCells Q.cells ((len+n)+(w.tape w.drawn (.appendCap (len+n) c y))%(2^63-(len+n))-(len+n)),by omega,?_,by rw[dX,J],?_⟩
 ·have:=Nat.mod_lt (w.tape w.drawn (.appendCap (len+n) c y)) (show 2^63-(len+n)>0 by omega);unfold zX;omega
 generalize I.desc=d at u R;have Z:(Question.appendCap (len+n) c y).forced=false:=rfl;have B:(Question.appendCap (len+n) c y).cut (w.tape w.drawn (.appendCap (len+n) c y))=(len+n)+(w.tape w.drawn (.appendCap (len+n) c y))%(2^63-(len+n)):=rfl;cases d<;>first|(simp[bF]at R;done)|skip
 all_goals simp only[Builtin.append_,ft,dq,ix,au,hu,ah,K,u,ax,cz,gl,h1,bf L,p];rw[bf (by intro h;exact O h.1)];simp only[au,p,ah];rw[bf F];simp only[au,run_choose,Z,cz,gl,ah,B,run_askRoom,p];rw[show({w with drawn:=w.drawn+1}:LP)=gD w from rfl];simp only[Bool.not_false,dn,au,h0,h2,ah,X,newRow,jh,ax];rfl
set_option maxHeartbeats 1000000 in
theorem qMS(he:EOk E){xt y:LN}{xi e:TI}{n len:Nat}{k:IntKind}{l b z:LA}(ht:E.types.get t=some ti)(hd:ti.desc=.slice y)(C:E.types.get xt=some xi)(j:E.types.get y=some e)(p:e.zero=some z)(hz:bF xi.desc=true)(h2:(if n*e.size=0 then(#[]:LD)else⟨b⟩)=⟨b⟩)(h3:∀w,∃B,(zeroValue y).run E.prog w=.ok B w/\Builtin.zeroCells B.cells n=⟨b⟩)(h0:(Builtin.firstCells e.size len (.slice A len c)).run E.prog (gD w)=.ok ⟨l⟩ (gD w))(W:c<len+n)(K:(4*(len+n)+4000)*(e.bytes+1)<=100000000000):∃(M:Nat) (rest:LD),len+n<=M/\M<zX/\rest.size=(M-(len+n))*e.size/\(Builtin.append_ ⟨t::xt::ats⟩ ty #[.slice A len c,.int k (n:Int)]).run E.prog w=.ok (.slice (some ⟨w.heap.size,0,none⟩) (len+n) M) (World.push (gD w) (.cells (⟨l⟩++⟨b⟩++rest) y)):=by
 obtain⟨Z,L,hb3⟩:=qBa W K;obtain⟨B,N,_,z3,_,z5⟩:=gL he j p (gD w);have hu:=λw=>vE he ht w;rw[hd]at hu;have F:=λw=>vE he C w;have R:=λw=>vH he j w;obtain⟨i,hi,_,_,X,_⟩:=he.types y e j;have g:=λw=>gv (P:=E.prog) w hi;have U:¬len+n<=c:=by omega
 have Q:B.cells.size=e.size:=by rw[←z5,←z3];simp
 have hw:IntKind.i64.wrap (n:Int)=(n:Int):=sS (by omega);have I:¬(n:Int)<0:=by omega
 have S:¬(n:Int)*(i.bytes:Int)>2^48:=by grind
 obtain⟨k',V⟩:=qHt hz;rw[V]at F;obtain⟨u,g1,g2⟩:=h3 (gD w);have O:u=B:=by rw[N]at g1;cases g1;rfl
 subst O;rw[X]at L;clear ht C j he hd hi h3 g1;refine⟨(len+n)+(w.tape w.drawn (.appendCap (len+n) c y))%(2^63-(len+n)),Builtin.zeroCells u.cells ((len+n)+(w.tape w.drawn (.appendCap (len+n) c y))%(2^63-(len+n))-(len+n)),by omega,?_,by rw[dX,Q],?_⟩
 ·have:=Nat.mod_lt (w.tape w.drawn (.appendCap (len+n) c y)) (show 2^63-(len+n)>0 by omega);unfold zX;omega
 have hq:(Question.appendCap (len+n) c y).forced=false:=rfl;have J:(Question.appendCap (len+n) c y).cut (w.tape w.drawn (.appendCap (len+n) c y))=(len+n)+(w.tape w.drawn (.appendCap (len+n) c y))%(2^63-(len+n)):=rfl;simp only[Builtin.append_,ft,dq,ix,au,hu,ah,R,F,ax,dn,asInt,asIntOf,hw,bf I,g];rw[bf S];simp only[au,ax,ah,Int.toNat_natCast,bf U,g];rw[bf (by intro h;exact Z h.1)];simp only[au,g,ah];rw[bf L];simp only[au,run_choose,hq,cz,gl,ah,J,run_askRoom,g];rw[show({w with drawn:=w.drawn+1}:LP)=gD w from rfl];by_cases q:n*e.size=0
 ·rw[bo q]at h2;have G:b=[]:=by have:=congrArg Array.toList h2;simpa using this.symm
  subst G;simp only[Bool.not_true,cz,gl,bo q,au,h0,ah,N,newRow,jh,ax];rfl
 simp only[Bool.not_true,cz,gl,bf q,au,h0,ah,N,g2,newRow,jh,ax];rfl
theorem qJP(he:EOk E)(hr:HR E σ H w){s s':LQ}(ty:LN)(hs:VR σ s s')(hx:VR σ x x'):xF E σ H w (xC E H ats s x) (do pure (.value (←Builtin.append_ ⟨ats⟩ ty #[s',x']))):=by
 intro ar H' h hf;unfold xC at h;split at h;case h_2=>cases h
 rename_i t xt rest base len cap;split at h;case h_2=>cases h
 rename_i Z sz by_ z ag xi ht hxt;split at h;case h_2=>cases h
 rename_i e O;split at h;case h_2=>cases h
 rename_i ez n new hzero hnew;simp only[gS,jD,zI,Nat.add_eq,jt,il]at h;split at h;case isFalse=>cases h
 rename_i hbig0;have hbig:(4*(len+n)+4000)*(e.bytes+1)<=100000000000:=hbig0;have hnb:n*e.bytes<=2^48:=by grind
 have hnb':len+n<2^40:=by grind
 have hrd:HR E σ H (gD w):=(Step.drew hr (cx _)).hr;have sd:Step E σ H w σ H (gD w):=Step.drew hr (cx _);obtain⟨j,n1,n2,n3,n4⟩:=tQ he hr hxt O hnew hx hnb (by omega);obtain⟨K,d1,d2,d3,d4⟩:=tQ he hrd hxt O hnew hx hnb (by omega)
 have room:∀(A:Option Addr) (c:Nat) (w':LP),len+n<=c->(storeAt? A (len*e.size) j).run E.prog w=.ok () w'->
     (Builtin.append_ ⟨t::xt::rest⟩ ty #[.slice A len c,x']).run E.prog w=.ok (.slice A (len+n) c) w':=by
   intro A c w' C U
   rcases n4 with⟨q1,q2,q3⟩|⟨q1,k,rfl,q2,q3⟩
   ·exact qMR he ht rfl hxt O q1 q2 q3 C U
   ·exact qMQ he ht rfl hxt O q1 q2 q3 hnb (by omega) C U
 have grow:∀(A:Option Addr) (c:Nat) (g:LA),c<len+n->(Builtin.firstCells e.size len (.slice A len c)).run E.prog (gD w)=.ok ⟨g⟩ (gD w)->
     ∃(u:Nat) (B:LD),len+n<=u/\u<zX/\B.size=(u-(len+n))*e.size/\
     (Builtin.append_ ⟨t::xt::rest⟩ ty #[.slice A len c,x']).run E.prog w =
       .ok (.slice (some ⟨w.heap.size,0,none⟩) (len+n) u) (World.push (gD w) (.cells (⟨g⟩++⟨K⟩++B) Z)):=by
   intro A c g V R
   rcases d4 with⟨q1,q2,q3⟩|⟨q1,k,rfl,q2,q3⟩
   · rcases n4 with⟨_,p2,_⟩|⟨p1,_⟩
     ·exact qMT he ht rfl hxt O hzero q1 p2 q3 R V hbig
     ·rw[q1]at p1;cases p1
   ·exact qMS he ht rfl hxt O hzero q1 q2 q3 R V hbig
 have fresh:∀(kp g:LA) (u:Nat) (B:LD),VRs σ kp g->kp.length=len*e.size->kp.all qU=true->B.size=(u-(len+n))*e.size->len+n<=u->
     ∃ M:Loc,M.hS=w.heap.size/\M.off=0/\M.ext=u*e.size/\M.sz=e.size/\
       ∀τ:vO,vO.le σ τ->m9 E τ M true (.cells (kp++new) Z) (.cells (⟨g⟩++⟨K⟩++B) Z):=by
   intro kp g u B ho hol ho1 hrs hnc
   have hl1:=ho.length
   have hl2:=d1.length
   have hmul:u*e.size=len*e.size+n*e.size+(u-(len+n))*e.size:=by
     rw[←fm,←fm];congr 1;omega
   refine⟨⟨w.heap.size,0,u*e.size,e.size⟩,rfl,rfl,rfl,rfl,λτ hτ=>⟨λ_=>⟨.inl rfl,rfl,Nat.zero_mod _⟩,?_,?_,?_,?_⟩⟩
   ·simp[hl1,hl2,hrs,hol,d2];omega
   ·simp[hol,n2];omega
   ·intro ti hti;rw[O]at hti;cases hti;rfl
   · intro i v Q
     have X:(kp++new).all qU=true:=by rw[fh,ho1,n3];rfl
     rw[al]at X
     refine⟨X v (be Q),?_⟩
     obtain⟨v',e1,e2⟩:=(ho.append d1).get i v Q
     refine⟨v',?_,e2.mono hτ⟩
     have V:i<(g++K).length:=(gI e1).1
     simp only[fc]
     rw[jl (by simpa using V)]
     simpa using e1
 have res:∀(M:Loc) (u:Nat),M.hS=w.heap.size->M.off=0->M.ext=u*e.size->M.sz=e.size->len+n<=u->u<zX->
     VR (σ.add H.next M) (.slice (some ⟨H.next,0,none⟩) (len+n) zX) (.slice (some ⟨w.heap.size,0,none⟩) (len+n) u):=by
   intro M u m1 m2 m3 m4 h1 h2
   have:=VR.jd (σ:=σ.add H.next M) (b:=H.next) (i:=0) (l:=len+n) (c:=u) vO.g7 h1 h2 (by rw[m4,m3];omega)
   rw[m1,m2]at this
   exact this
 have F:∀(A:Option Addr) (c:Nat) (kp g:LA),c<len+n->(Builtin.firstCells e.size len (.slice A len c)).run E.prog (gD w)=.ok ⟨g⟩ (gD w)->
     VRs σ kp g->kp.length=len*e.size->kp.all qU=true->σ H.next=none->
     ∃ S w' nx,(do pure (.value (←Builtin.append_ ⟨t::xt::rest⟩ ty #[.slice A len c,x'])):Sem Next).run E.prog w=.ok nx w'/\
       Step E σ H w S (H.new (.cells (kp++new) Z)) w'/\qM0 E S w' (.val (.slice (some ⟨H.next,0,none⟩) (len+n) zX)) nx:=by
   intro A c kp g V R ho hol ho1 y
   obtain⟨u,B,g1,g2,g3,g4⟩:=grow A c g V R
   obtain⟨M,m1,m2,m3,m4,m5⟩:=fresh kp g u B ho hol ho1 g3 g1
   have st:=Step.new hrd y (.cells (kp++new) Z) _ M m1 (m5 _ (vO.ln y))
   refine⟨σ.add H.next M,_,.value _,?_,sd.trans st,res M u m1 m2 m3 m4 g1 g2⟩
   simp[g4]
 split at h
 ·-- nothing is appended
  rename_i hn0;cases h;subst hn0;have hnil:j=[]:=by have:=n1.length;rw[n2,iq]at this;exact cy.1 this
  have key:∀(A:Option Addr) (c:Nat),len<=c->VR σ (.slice base len cap) (.slice A len c)->
      ∃ S w' nx,(do pure (.value (←Builtin.append_ ⟨t::xt::rest⟩ ty #[.slice A len c,x'])):Sem Next).run E.prog w=.ok nx w'/\Step E σ H w S H w'/\
        qM0 E S w' (.val (.slice base len cap)) nx:=by
    intro A c C hv
    have U:(storeAt? A (len*e.size) j).run E.prog w=.ok () w:=by
      rw[hnil];cases A<;>rfl
    refine⟨σ,w,.value (.slice A len c),?_,Step.refl hr,hv⟩
    simp[room A c w C U]
  cases hs with
  |leaf R=>have h00:=R;simp only[v8,aE]at R;have hl0:len=0:=vW R.1.2;exact key base cap (by omega) (.leaf h00)
  |ka hb hl hc=>exact key _ _ hl (.ka hb hl hc)
  |jd hb hl hc hx=>exact key _ _ hl (.jd hb hl hc hx)
  |ki hc=>exact key _ _ (vP _) (.ki hc)
 ·rename_i hn0;split at h
  ·-- onto nil
   cases h;have y:=hf.head (bw _);cases hs with
   |leaf R=>simp only[v8,aE]at R;have hl0:len=0:=vW R.1.2;have hc0:cap=0:=vW R.2;subst hl0 hc0;have:=F none 0 [] [] (by omega) rfl .nil (by simp) rfl y;simpa only[df]using this
  ·rename_i b o;split at h
   ·-- of unknown J
    rename_i hcx;split at h;case h_2=>cases h
    rename_i cs el rt kp hb p;split at h;case isFalse=>cases h
    rename_i hel';split at h;case isFalse=>cases h
    rename_i hmod2;cases h;have hmod:o%e.size=0:=hmod2;subst hel';have y:=hf.head (bw _);obtain⟨old1,o1,o2,o3,o4⟩:=nX hr p hs;obtain⟨G,o1d,o2d,_,_⟩:=nX hrd p hs
    have I:∀(A:Addr) (c:Nat),s'=.slice (some A) len c->c<len+n->cs.length<=o+(len+n)*e.size->
        ∃ S w' nx,(do pure (.value (←Builtin.append_ ⟨t::xt::rest⟩ ty #[.slice (some A) len c,x'])):Sem Next).run E.prog w=.ok nx w'/\
          Step E σ H w S (H.move b ⟨.cells cs el,rt,true⟩ (.cells ((kp++new)++cs.drop (o+(len+n)*e.size)) el)) w'/\qM0 E S w' (.val (.slice (some ⟨H.next,0,none⟩) (len+n) zX)) nx:=by
      intro A c e1 V hcsl
      rw[iz hcsl,cr]
      rw[e1]at o1d
      obtain⟨u,B,g1,g2,g3,g4⟩:=grow (some A) c G V o1d
      obtain⟨M,m1,m2,m3,m4,m5⟩:=fresh kp G u B o2d o3 o4 g3 g1
      have st:=Step.move hrd y (M:=M) (x:=.cells (kp++new) el) (w':=World.push (gD w) (.cells (⟨G⟩++⟨K⟩++B) el)) (L:=M) hb rfl (.inr ⟨rfl,m1⟩) (m5 _ (vO.ln y))
      refine⟨σ.add H.next M,_,.value _,?_,sd.trans st,res M u m1 m2 m3 m4 g1 g2⟩
      simp[g4]
    cases hs with
    |leaf R=>simp[v8]at R
    |ka N hl hc=>omega
    | jd N hl hc hext=>
     rename_i c L;obtain⟨P,cel,fz,g1,g2,g3,g4,g5,g6⟩:=hr.mc hb N;have hsz:L.sz=e.size:=g5 e O;by_cases C:len+n<=c
     ·-- within the J
      obtain⟨hfz,hcel,hoff⟩:=g2 rfl;have hlen:=n1.length;have hcm:len*e.size+n*e.size<=c*e.size:=by rw[←fm];exact eu _ C
      rw[hsz]at hext
      have hrun:=gG E.prog L.hS (L.off+o+len*e.size) cel fz j 0 P w g1 (hfz.imp id And.left) (by rw[hlen,n2];omega)
        (λv hv'=>by rw[qOL];have:=n1.mf;rw[n3,al]at this;exact this v hv')
      have U:storeAt? (some ⟨L.hS,L.off+o,none⟩) (len*e.size) j=storeCells ⟨L.hS,L.off+o+len*e.size,none⟩ j:=by simp only[storeAt?,m7]
      have hroom:=room (some ⟨L.hS,L.off+o,none⟩) c _ C (by rw[U];exact hrun);let M:Loc:=⟨L.hS,L.off+o,L.ext-o,e.size⟩;have hold':∀i v,kp[i]? = some v->∃v',P[L.off+o+i]? = some v'/\VR σ v v':=by
       intro i v Q;unfold oX at p;simp only[zI,jD]at p;split at p
       ·cases p;simp at Q
       ·split at p;case isFalse=>cases p
        obtain⟨cs2,el2,rt2,own2,hb2,he2,hn2⟩:=qCy p;rw[hb]at hb2;simp only[oI,ABlk.mk.injEq,AObj.cells.injEq]at hb2;obtain⟨⟨rfl,_⟩,_⟩:=hb2;rw[he2]at Q;have hil:i<(List.take (Nat.mul len e.size) (List.drop o cs)).length:=(gI Q).1;rw[cg]at hil;rw[fu (by omega),fw]at Q;obtain⟨_,v',e1,e2⟩:=g6 _ v Q;exact⟨v',by rw[gr];exact e1,e2⟩
      have st:=Step.move hr y (M:=M) (x:=.cells ((kp++new)++cs.drop (o+(len+n)*e.size)) el)
        (w':=w.setRow L.hS (P.toList.take (L.off+o+len*e.size+0)++j++P.toList.drop (L.off+o+len*e.size+0+j.length)).toArray) hb rfl (.inl ⟨N,WSet.setRow g1,rfl⟩) (by
         refine⟨λ_=>⟨?_,hcel,?_⟩,?_,?_,?_,?_⟩
         ·have hnew:(P.toList.take (L.off+o+len*e.size+0)++j++P.toList.drop (L.off+o+len*e.size+0+j.length)).toArray.size=P.size:=by simp;omega
          rw[hnew];exact hfz.imp id λq=>⟨q.1,(show e.size=1 by rw[←hsz];exact q.2)⟩
         ·show(L.off+o)%e.size=0;rw[Nat.add_mod,←hsz,hoff,hsz,hmod];exact Nat.zero_mod _
         ·simp[M];omega
         ·have hmul:(len+n)*e.size=len*e.size+n*e.size:=fm _ _ _;simp[M,o3,n2];omega
         ·intro ti hti;rw[O]at hti;cases hti;rfl
         ·intro i v Q;have hmul:(len+n)*e.size=len*e.size+n*e.size:=fm _ _ _;rcases ir i (kp++new).length with hilt|hige;case inr=>
           rw[bu hige,fw]at Q;obtain⟨q1,v',q2,q3⟩:=g6 _ v Q;refine⟨q1,v',?_,q3.mono (vO.ln y)⟩;have hl0:(kp++new).length=len*e.size+n*e.size:=by rw[bx,o3,n2]
           have htk:(P.toList.take (L.off+o+len*e.size)).length=L.off+o+len*e.size:=by simp;omega
           simp only[fx,ft,M];rw[ay,bu (by omega),bu (by omega),htk,fw,ff,←q2]
           congr 1
           omega
          rw[bz hilt]at Q;have X:(kp++new).all qU=true:=by rw[fh,o4,n3];rfl
          rw[al]at X;refine⟨X v (be Q),?_⟩;have htk:(P.toList.take (L.off+o+len*e.size)).length=L.off+o+len*e.size:=by simp;omega
          simp only[fx,ft,M];by_cases hio:i<kp.length
          ·rw[bz hio]at Q;obtain⟨v',e1,e2⟩:=hold' i v Q;refine⟨v',?_,e2.mono (vO.ln y)⟩;rw[ay,bz (by omega),fu (by omega),ff];exact e1
          ·rw[bu (by omega)]at Q;obtain⟨v',e1,e2⟩:=n1.get _ v Q;have hil:=(gI Q).1;refine⟨v',?_,e2.mono (vO.ln y)⟩;rw[ay,bu (by omega),bz (by omega),htk,←e1]
           congr 1;omega)
      refine⟨σ.add H.next M,_,.value (.slice (some ⟨L.hS,L.off+o,none⟩) (len+n) c),?_,st,?_⟩
      ·simp[hroom]
      ·have:=VR.jd (σ:=σ.add H.next M) (b:=H.next) (i:=0) (l:=len+n) (c:=c) vO.g7 C hc (by simp[M];omega);exact this
     ·refine I _ _ rfl (by omega) ?_;rw[hsz]at hext;have h5:c*e.size<=(len+n)*e.size:=eu _ (by omega);omega
    |ki W=>
     refine I _ 0 rfl (by omega) ?_;rcases W with W|⟨_,L,hL1,hL2⟩
     ·exfalso;rw[W]at hcx;exact absurd hcx (by decide)
     ·obtain⟨_,_,_,_,_,_,hcl0,_⟩:=hr.mc hb hL1;omega
   ·rename_i hcx;split at h
    ·-- within a known J
     rename_i C;simp only[aa]at h;obtain⟨H1,U,h⟩:=h;cases h;cases hs with
     |leaf R=>simp[v8]at R
     |ka N hl hc=>
      rename_i L;obtain⟨w',e1,e2⟩:=cL hr U N n1 n3;have hst':(storeAt? (some ⟨L.hS,L.off+o,none⟩) (len*e.size) j).run E.prog w=.ok () w':=by simp only[storeAt?,m7,gr];exact e1
      refine⟨σ,w',.value (.slice (some ⟨L.hS,L.off+o,none⟩) (len+n) cap),?_,e2,.ka N C hc⟩;simp[room _ cap _ C hst']
     |jd N hl hc hext=>omega
     |ki W=>rcases W with W|⟨W,_⟩<;>omega
    ·-- beyond it
     rename_i hgt;split at h;case h_2=>cases h
     rename_i kp p;cases h;have y:=hf.head (bw _);obtain⟨G,o1,o2,o3,o4⟩:=nX hrd p hs;cases hs with
     |leaf R=>simp[v8]at R
     |ka N hl hc=>exact F _ _ kp G (by omega) o1 o2 o3 o4 y
     |jd N hl hc hext=>omega
     |ki W=>exact F _ _ kp G (by omega) o1 o2 o3 o4 y
  ·cases h
end
variable{o:Obj}{w:LP}
theorem jK{r:Nat}(P:LK)(h:w.heap[r]? = some o)(y:∀c e f,o≠.cells c e f):(getObj r).run P w=.ok o w:=by simp only[getObj,Sem.run,h];all_goals grind
theorem kP{r:Nat}{y:Obj}(P:LK)(h:w.heap[r]? = some o)(b:∀c e f,o≠.cells c e f):(setObj r y).run P w=.ok () {w with heap:=w.heap.setIfInBounds r y}:=by simp only[setObj,Sem.run,h];all_goals(cases o<;>first|rfl|exact absurd rfl (b _ _ _))
theorem WSet.setObj{r:Nat}(y:Obj)(h:w.heap[r]? = some o):WSet w {w with heap:=w.heap.setIfInBounds r y} r y where
 size:=by simp
 at_:=by grind
 og B b:=by simp only[Array.getElem?_setIfInBounds];rw[bf (λe=>b e.symm)]
 tape:=rfl
 os:=rfl
 output:=⟨rfl,vP _⟩
theorem wC{α h:Type}(P:LK)(f:α->Sem h):∀(s:Sem α),zB P (s >>= f)=(zB P s).bind λa=>zB P (f a):=by
 intro s;show zB P (s.bind f)=_;induction s with
 |pure a=>rfl
 |program k ih=>simp only[Sem.bind,zB];exact ih P
 |mark m k ih=>simp only[Sem.bind,zB];exact ih
 |_=>rfl
variable{es':List MapEntry}{k v:LQ}{kt:LN}{r:Option (Nat×LQ)}
section
variable{E:Env}{σ:vO}{H:AH}{w:LP}
theorem qDX(he:EOk E)(hr:HR E σ H w){l l' c c':LQ}(hl:VR σ l l')(hc:VR σ c c'):xF E σ H w (gV E H t l c) (do pure (.value (←Instr.makeSlice t l' c'))):=by
 intro ar H' h hf;unfold gV at h;split at h;case h_2=>cases h
 rename_i z sz by_ z0 ag g y ht el ec;split at h;case h_2=>cases h
 rename_i ed j u ez eag p;simp only[gS,zI,jD,jt,Nat.add_eq,il]at h;split at h;case isFalse=>cases h
 rename_i O;split at h;case isFalse=>cases h
 rename_i F;split at h;case isFalse=>cases h
 rename_i hbig;cases h;obtain⟨k1,rfl⟩:=nat?_spec el;obtain⟨k2,rfl⟩:=nat?_spec ec;rw[hl.kz,hc.kz];obtain⟨J,h1,h2,h3,h4,h5⟩:=gL he p rfl w;have N:=pK (σ:=σ) h2 h3;have C:J.cells.size=j:=by rw[←O,←h3];simp
 have hcn:y<=1000000000:=by grind
 have hcb:y*u<=1000000000:=by grind
 have R:IntKind.i64.wrap (Int.ofNat g)=(g:Int):=sS (by omega);have Q:IntKind.i64.wrap (Int.ofNat y)=(y:Int):=sS (by omega);obtain⟨i,hi,_,_,W,_⟩:=he.types z _ p;have I:i.bytes=u:=W.symm;have S:=λw=>gv (P:=E.prog) w hi;have U:=λw=>vH he p w
 obtain⟨B,q,k2⟩:∃B:LD,B=(if y*j=0 then #[]else J.cells)/\
   ((Array.range (y*j)).map (λi=>B[i%B.size]!)).toList=xX ez y:=by
  by_cases e:y*j=0
  ·refine⟨#[],by simp[e],?_⟩
   rw[e]
   have:(xX ez y).length=0:=by rw[kQ,O,e]
   simp[cy.1 this]
  refine⟨J.cells,by simp[e],?_⟩
  rw[sP J.cells y j C.symm,h3]
 have V:=hf.head (bw _)
 obtain⟨L,M,K,q3,q4,q5⟩:=qEx hr V (cs:=xX ez (if g=0 then 0 else y)) (cs':=(Array.range (y*j)).map (λi=>B[i%B.size]!)) (el:=z)
  (by
   by_cases e:g=0
   ·rw[bo e];exact .nil
   rw[bf e,k2,List.take_length];exact fN N y)
  (by
   by_cases e:g=0
   ·rw[bo e];exact cq _
   rw[bf e,kQ,O];simp) (tF h4 _)
 have hlt:¬((y:Int)<0∨(u:Int)*(y:Int)>2^48∨(g:Int)<0∨(g:Int)>(y:Int)):=by grind
 have hb1:decide ((y:Int)<0)=false:=fD (by omega);have hb2:decide ((u:Int)*(y:Int)>2^48)=false:=by grind
 have Z:decide ((g:Int)<0)=false:=fD (by omega);have X:decide ((g:Int)>(y:Int))=false:=by simp;omega
 refine⟨_,_,.value (.slice (some ⟨w.heap.size,0,none⟩) g y),?_,q5,?_⟩
 ·simp only[Instr.makeSlice,au,vE he ht,ah,asInt,asIntOf,ax,S,R,Q,I,hb1,hb2,Z,X,Bool.or_false,cz,gl,run_askRoom,Int.toNat_natCast,U];by_cases e:y*j=0
  ·rw[bo e]at q;subst q;simp only[bo e,au,ax,ah,newRow,jh];rfl
  rw[bf e]at q;subst q;simp only[bf e,au,h1,ax,ah,newRow,jh];rfl
 by_cases G:g=y
 ·subst G;have:=VR.jd (σ:=σ.add H.next L) (b:=H.next) (i:=0) (l:=g) (c:=g) vO.g7 (vP _) (by unfold zX;omega) (by rw[q3,q4 _ p];simp);rw[M,K]at this;rw[bo rfl];exact this
 rw[bf G];by_cases e:g=0
 ·have:=VR.jd (σ:=σ.add H.next L) (b:=H.next) (i:=0) (l:=g) (c:=y) vO.g7 F (by unfold zX;omega) (by rw[q3,q4 _ p];simp);rw[M,K]at this;rw[bo e];exact this
 have:=VR.ka (σ:=σ.add H.next L) (i:=0) (l:=g) (c:=y) vO.g7 F (by unfold zX;omega);rw[M,K]at this;rw[bf e];exact this
theorem ERs.length:∀{es es':List MapEntry},ERs σ es es'->es'.length=es.length
 |_,_,.nil=>rfl
 |_,_,.cons _ _ _ _ h=>by simp[ERs.length h]
inductive FR (σ:vO):Option (Nat×LQ)->Option (Nat×LQ)->Prop
 |none:FR σ none none
 |some {i:Nat} {v v':LQ} (h:VR σ v v'):FR σ (some (i,v)) (some (i,v'))
theorem qBe{kd:TypeDesc}{k:LQ}:∀{es es':List MapEntry},ERs σ es es'->∀(i:Nat),
  (Instr.findNow kd k es i=none/\Instr.findNow kd k es' i=none)∨∃r h,Instr.findNow kd k es i=some r/\Instr.findNow kd k es' i=some h/\FR σ r h
 |_,_,.nil,i=>.inr ⟨none,none,rfl,rfl,.none⟩
 | _,_,.cons (e:=e) (e':=e') j g hv l y,i=>by
  simp only[Instr.findNow,g]
  cases Instr.sameNow kd k e.key with
  |none=>exact .inl ⟨rfl,rfl⟩
  |some b=>cases b with
   |true=>exact .inr ⟨_,_,rfl,rfl,.some hv⟩
   |false=>exact qBe y (i+1)
theorem eY{kt:LN}{k:LQ}:∀{es es':List MapEntry},ERs σ es es'->∀(i:Nat) (r:Option (Nat×LQ)),zB E.prog (Instr.findAsking kt k es i)=some r->
  ∃y,zB E.prog (Instr.findAsking kt k es' i)=some y/\FR σ r y
 |_,_,.nil,i,r,h=>by
  have:r=none:=by simpa[Instr.findAsking,zB,pure]using h.symm
  subst this
  exact⟨none,h,.none⟩
 | _,_,.cons (e:=e) (e':=e') p l hv q j,i,r,h=>by
  simp only[Instr.findAsking,wC,l]at h ⊢
  cases g:zB E.prog (Op.equal kt k e.key)with
  |none=>rw[g]at h;simp at h
  | some b=>
   rw[g]at h
   simp only[bn]at h ⊢
   cases b with
   |true=>
    simp only[dn]at h ⊢
    cases h
    exact⟨_,rfl,.some hv⟩
   |false=>
    simp only[cz,gl]at h ⊢
    exact eY j (i+1) r h
theorem qHG{es:List MapEntry}(h:ERs σ es es')(y:zB E.prog (Instr.findKey kt k es)=some r):∃g,zB E.prog (Instr.findKey kt k es')=some g/\FR σ r g:=by
 simp only[Instr.findKey,wC]at y ⊢;cases hd:zB E.prog (underlying kt)with
 |none=>rw[hd]at y;simp at y
 |some kd=>
  rw[hd]at y;simp only[bn]at y ⊢;rcases qBe (kd:=kd) (k:=k) h 0 with⟨e,b⟩|⟨j,i,e,b,h3⟩
  ·rw[e]at y;rw[b];exact eY h 0 r y
  rw[e]at y;rw[b];cases y;exact⟨i,rfl,h3⟩
theorem qAC{k':LQ}{es:List MapEntry}(h:ERs σ es es')(i:VR σ k k')(y:qC0 E kt k es=some r):∃e,(Instr.checkKey es.isEmpty 10000 kt k').run E.prog w=.ok () w/\(Instr.findKey kt k' es').run E.prog w=.ok e w/\FR σ r e:=by
 unfold qC0 at y;cases b:zP k with
 |false=>rw[b]at y;simp at y
 |true=>
  rw[b,ai,wC]at y;rw[mS b i];cases g:zB E.prog (Instr.checkKey es.isEmpty 10000 kt k)with
  |none=>rw[g]at y;simp at y
  |some u=>rw[g]at y;obtain⟨e,l,j⟩:=qHG h y;exact⟨e,yW _ _ _ _ g,yW _ _ _ _ l,j⟩
theorem qMn(h:qC0 E kt k []=some r):r=none:=by
 unfold qC0 at h;cases y:zP k with
 |false=>rw[y]at h;simp at h
 | true=>
  rw[y,ai,wC]at h;cases e:zB E.prog (Instr.checkKey ([]:List MapEntry).isEmpty 10000 kt k)with
  |none=>rw[e]at h;simp at h
  |some u=>
   rw[e]at h;simp only[bn,Instr.findKey,wC]at h;cases b:zB E.prog (underlying kt)with
   |none=>rw[b]at h;simp at h
   |some d=>rw[b]at h;simpa[Instr.findNow,zB,pure]using h.symm
theorem HR.oz(e:HR E σ H w){b ck rt:Nat}{L:Loc}{es:List MapEntry}{own:Bool}(g:H.blocks.get b=some ⟨.map es ck,rt,own⟩)(y:σ b=some L):L.off=0/\∃es',w.heap[L.hS]? = some (.map es' ck)/\ERs σ es es'.toList:=by obtain⟨o,j,h⟩:=e.kq b _ L g y;cases o<;>simp only[m9]at h;obtain⟨h3,rfl,i⟩:=h;exact⟨h3,_,j,i⟩
theorem qCE{es:List MapEntry}{es':Array MapEntry}(h:ERs σ es es'.toList):es'.isEmpty=es.isEmpty:=by
 have:=h.length;rw[gu]at this;cases es with
 |nil=>simp at this ⊢;simpa using this
 |cons e es=>simp at this ⊢;intro e;rw[e]at this;simp at this
theorem qI7(he:EOk E)(V:HR E σ H w){k':LQ}{ok:Bool}(h:rI E H t x k ok=some v)(P:VR σ x x')(G:VR σ k k'):∃v',(Instr.lookup t x' k' ok).run E.prog w=.ok v' w/\VR σ v v':=by
 unfold rI at h;split at h;case h_2=>cases h
 rename_i kt et sz by_ z ag es S j;have y:=λw=>vE he S w;have g:(x'=.map none/\es=[])∨∃B es' ck,x'=.map (some B)/\w.heap[B]? = some (.map es' ck)/\ERs σ es es'.toList:=by
  unfold qEz at j;split at j
  ·cases j;cases P;exact .inl ⟨rfl,rfl⟩
  ·rename_i r;split at j;case h_2=>cases j
   rename_i ck rt own W;cases j;cases P with
   |leaf Q=>simp[v8]at Q
   |map U Q=>obtain⟨_,es',g1,g2⟩:=V.oz W U;grind
  cases j
 split at h;case h_3=>cases h
 ·rename_i i u b;cases h;rcases g with⟨rfl,rfl⟩|⟨B,es',ck,rfl,J,e⟩
  ·cases qMn b
  obtain⟨O,c1,q,p⟩:=qAC (w:=w) e G b;cases p with
  |some hv=>
   rename_i N;rw[←qCE e]at c1;refine⟨bif ok then .tuple #[N,.bool true]else N,?_,?_⟩
   ·simp only[Instr.lookup,au,y,ah,ax,jK E.prog J (by simp),c1,q];cases ok<;>rfl
   cases ok
   ·exact hv
   exact .tuple (.cons hv (.cons (.leaf rfl) .nil))
 rename_i ed X Z ez eag b I;split at h;case h_2=>cases h
 rename_i C F;cases h;obtain⟨M,R⟩:=qAV he I rfl F w;have l:VR σ C C:=xJ _ _ R;refine⟨bif ok then .tuple #[C,.bool false]else C,?_,?_⟩
 ·rcases g with⟨rfl,rfl⟩|⟨B,es',ck,rfl,J,e⟩
  ·obtain⟨O,c1,q,p⟩:=qAC (w:=w) (es':=[]) (σ:=σ) .nil G b;cases p;have L:(Instr.checkKey (#[]:Array MapEntry).isEmpty 10000 kt k').run E.prog w=.ok () w:=c1;have K:(Instr.findKey kt k' (#[]:Array MapEntry).toList).run E.prog w=.ok none w:=q;simp only[Instr.lookup,au,y,ah,ax,L,K,M];cases ok<;>rfl
  obtain⟨O,c1,q,p⟩:=qAC (w:=w) e G b;cases p;rw[←qCE e]at c1;simp only[Instr.lookup,au,y,ah,ax,jK E.prog J (by simp),c1,q,M];cases ok<;>rfl
 cases ok
 ·exact l
 exact .tuple (.cons l (.cons (.leaf rfl) .nil))
end
variable{H':AH}{v':LQ}
section
variable{E:Env}{σ:vO}{H:AH}{w:LP}
theorem ERs.get:∀{es es':List MapEntry},ERs σ es es'->∀(i:Nat) (e:MapEntry),es[i]? = some e->∃e',es'[i]? = some e'/\e'.key=e.key/\e'.born=e.born
 |_,_,.nil,i,e,h=>by simp at h
 |_,_,.cons j b hv g y,0,e,h=>by simp at h;subst h;exact⟨_,rfl,b,g⟩
 |_,_,.cons j b hv g y,i+1,e,h=>by simpa using ERs.get y i e (by simpa using h)
theorem ERs.modify{k v v':LQ}(y:zP k=true)(h:VR σ v v'):∀{es es':List MapEntry} (i:Nat),ERs σ es es'->
  ERs σ (Go.Am.modify es i k v) (es'.modify i λe=>{e with key:=k,val:=v'})
 |_,_,_,.nil=>by simp[Go.Am.modify];exact .nil
 |_,_,0,.cons j l hv g b=>by simp[Go.Am.modify];exact .cons y rfl h g b
 |_,_,i+1,.cons j l hv g b=>by simp[Go.Am.modify];exact .cons j l hv g (ERs.modify y h i b)
theorem ERs.snoc{e e':MapEntry}(b:zP e.key=true)(y:e'.key=e.key)(h:VR σ e.val e'.val)(g:e'.born=e.born):∀{es es':List MapEntry},ERs σ es es'->
  ERs σ (es++[e]) (es'++[e'])
 |_,_,.nil=>.cons b y h g .nil
 |_,_,.cons j l hv p i=>.cons j l hv p (ERs.snoc b y h g i)
theorem qDP(es:Array MapEntry)(i:Nat)(f:MapEntry->MapEntry):(es.modify i f).toList=es.toList.modify i f:=by grind
theorem qBT(he:EOk E)(F:HR E σ H w){m m' k':LQ}(h:rE E H t m k v=some H')(R:VR σ m m')(S:VR σ k k')(hv:VR σ v v'):∃w',(Instr.mapUpdate t m' k' v').run E.prog w=.ok () w'/\Step E σ H w σ H' w':=by
 unfold rE at h;split at h;case h_2=>cases h
 rename_i kt et sz W z ag r Q;split at h;case h_2=>cases h
 rename_i es ck rt K;cases y:zP k with
 |false=>rw[y]at h;simp at h
 | true=>
  rw[y,ai]at h;rw[mS y S];cases R with
  |leaf B=>simp[v8]at B
  | map C B=>
   rename_i L;obtain⟨_,es',l,b⟩:=F.oz K C;have g:=λw=>vE he Q w;simp only[wC]at h;cases N:zB E.prog (Instr.checkKey false 10000 kt k)with
   |none=>rw[N]at h;simp at h
   | some u=>
    rw[N]at h;simp only[bn]at h;have c1:=λw=>yW E.prog w _ _ N;cases M:zB E.prog (Instr.findKey kt k es)with
    |none=>rw[M]at h;simp at h
    | some Z=>
     rw[M]at h;obtain⟨r',V,U⟩:=qHG b M;have O:=λw=>yW E.prog w _ _ V;cases U with
     |none=>
      simp only[oI]at h;subst h;refine⟨_,?_,Step.write F K rfl C (WSet.setObj (.map (es'.push {key:=k,val:=v',born:=ck}) (ck+1)) l) ?_⟩
      ·simp only[Instr.mapUpdate,au,g,ah,jK E.prog l (by simp),c1,O,kP E.prog l (by simp)]
      exact⟨B,rfl,by rw[Array.toList_push];exact ERs.snoc (e:={key:=k,val:=v,born:=ck}) (e':={key:=k,val:=v',born:=ck}) y rfl hv rfl b⟩
     | some P=>
      rename_i i u X;simp only at h;split at h;case h_2=>cases h
      rename_i e I;cases j:Instr.sameBits 10000 e.key k with
      |false=>rw[j]at h;simp at h
      |true=>
       rw[j,ai]at h;simp only[oI]at h;subst h;obtain⟨e',J,G,_⟩:=b.get i e I;have q:(((es'[i]?).map (·.key)).getD k)=e.key:=by rw[←ff,J];simp[G]
       have p:∀w,(Instr.keyThatStays (((es'[i]?).map (·.key)).getD k) k).run E.prog w=.ok k w:=by intro w;rw[q];simp[Instr.keyThatStays,j]
       refine⟨_,?_,Step.write F K rfl C (WSet.setObj (.map (es'.modify i λe=>{e with key:=k,val:=v'}) ck) l) ?_⟩
       ·simp only[Instr.mapUpdate,au,g,ah,jK E.prog l (by simp),c1,O,p,kP E.prog l (by simp)]
       exact⟨B,rfl,by rw[qDP];exact b.modify y hv i⟩
theorem qJE(he:EOk E)(y:HR E σ H w){m m' k':LQ}(h:uM E H t m k=some H')(b:VR σ m m')(e:VR σ k k'):
  ∃w',(Builtin.delete_ ⟨t::ats⟩ ty #[m',k']).run E.prog w=.ok (.tuple #[]) w'/\Step E σ H w σ H' w':=by unfold uM at h;cases h
theorem qLL(he:EOk E)(j:HR E σ H w){s:LJ}(g:E.types.get t=some ti)(hd:ti.desc=.string)(e:VR σ (.string s) x'):xF E σ H w (some (.val (.pointer (some ⟨H.next,0,none⟩)),H.new (.lx s 0))) (do pure (.value (←Instr.range t x'))):=by
 intro p H' h l;cases h;rw[e.kA];have y:=λw=>vE he g w;rw[hd]at y;have b:=l.head (bw _);have st:=Step.new j b (.lx s 0) (.stringIter s 0) ⟨w.heap.size,0,0,0⟩ rfl ⟨rfl,rfl,rfl⟩;refine⟨_,_,.value (.pointer (some ⟨w.heap.size,0,none⟩)),?_,st,?_⟩
 ·simp only[Instr.range,au,y,ah,ax,jh];rfl
 exact VR.ptr (σ:=σ.add H.next ⟨w.heap.size,0,0,0⟩) (i:=0) vO.g7
theorem ERs.filter{p:MapEntry->Bool}(y:∀e e':MapEntry,e'.born=e.born->p e'=p e):∀{es es':List MapEntry},ERs σ es es'->ERs σ (es.filter p) (es'.filter p)
 |_,_,.nil=>.nil
 |_,_,.cons (e:=e) (e':=e') i l hv b g=>by
  have h:=y e e' b;have ih:=ERs.filter y g;cases j:p e
  ·grind
  simpa[List.filter_cons,h,j]using ERs.cons i l hv b ih
theorem ERs.all{p:MapEntry->Bool}(h:∀e e':MapEntry,e'.born=e.born->p e'=p e):∀{es es':List MapEntry},ERs σ es es'->es'.all p=es.all p
 |_,_,.nil=>rfl
 |_,_,.cons g i hv b y=>by simp[h _ _ b,ERs.all h y]
theorem ERs.ky(h:ERs σ [] es'):es'=[]:=by cases h;rfl
theorem qOU(j:HR E σ H w){it zO:LQ}{str:Bool}(u:VR σ it zO):xF E σ H w (qA1 H it str) (do pure (.value (←Instr.next zO str ty))):=by
 intro F H' h C;unfold qA1 at h;split at h;case h_2=>cases h
 ·rename_i r;split at h;case h_2=>cases h
  rename_i s y rt p;cases u with
  |leaf i=>simp[v8]at i
  | ptr l=>
   rename_i L;obtain⟨o,g,q⟩:=j.kq r _ L p l;cases o<;>simp only[m9]at q;obtain⟨i,B,z⟩:=q;rw[B,z]at g;simp only[jD]at h;rw[i];split at h
   ·rename_i e;cases h;refine⟨σ,_,.value (.tuple #[.bool true,goInt y,.int .i32 (Utf8.decode s y).1]),?_,Step.write j p rfl l (WSet.setObj (.stringIter s (y+(Utf8.decode s y).2)) g) ⟨i,rfl,rfl⟩,?_⟩
    ·have b:y<s.size:=e;simp only[Instr.next,fx,au,jK E.prog g (by simp),ah,bo b,kP E.prog g (by simp),ax]
    exact .tuple (.cons (.leaf rfl) (.cons (.leaf rfl) (.cons (.leaf rfl) .nil)))
   rename_i e;cases h;refine⟨σ,w,.value (.tuple #[.bool false]),?_,Step.refl j,.tuple (.cons (.leaf rfl) .nil)⟩;have b:¬y<s.size:=e;simp only[Instr.next,fx,au,jK E.prog g (by simp),ah,bf b,ax]
theorem ERs.find{b:Nat}{e:MapEntry}:∀{es es':List MapEntry},ERs σ es es'->es.find? (λe=>e.born==b)=some e->
  ∃e',es'.find? (λe=>e.born==b)=some e'/\zP e.key=true/\e'.key=e.key/\VR σ e.val e'.val
 |_,_,.nil,h=>by simp at h
 |_,_,.cons (e:=x) (e':=x') i j hv l g,h=>by
  rw[List.find?_cons]at h ⊢
  rw[l]
  cases y:(x.born==b)with
  |true=>rw[y]at h;simp only[oI]at h;subst h;exact⟨x',rfl,i,j,hv⟩
  |false=>rw[y]at h;exact ERs.find g h
theorem qMz(J:HR E σ H w){it zO:LQ}(h:qGh H it=some v)(S:VR σ it zO):∃v',(Instr.entry zO).run E.prog w=.ok v' w/\VR σ v v':=by
 unfold qGh at h;split at h;case h_2=>cases h
 rename_i r;split at h;case h_2=>cases h
 rename_i m z seen I rt X;split at h;case h_2=>cases h
 rename_i es ck N G V;rw[zI]at h;split at h;case isFalse=>cases h
 rename_i W;split at h;case h_2=>cases h
 rename_i b j;split at h;case h_2=>cases h
 rename_i e l;cases h;cases S with
 |leaf F=>simp[v8]at F
 | ptr U=>
  rename_i L;obtain⟨o,g1,u⟩:=J.kq r _ L X U;cases o<;>simp only[m9]at u;rename_i m' q g i;cases m' with
  |none=>simp at u
  |some m'=>
   simp only at u;obtain⟨F,⟨M,h2,h3,h4⟩,h5,h6,Z⟩:=u;obtain⟨_,es',K,C⟩:=J.oz V h2;rw[h4]at K;subst h5 Z;obtain⟨e',R,Q,P,O⟩:=C.find l;rw[F];have p:g.back? = some b:=by rw[←j,←h6,Array.getLast?_toList]
   refine⟨.tuple #[e'.key,e'.val],?_,.tuple (.cons (by rw[P];exact xJ _ _ Q) (.cons O .nil))⟩;have y:es'.find? (λe=>e.born==b)=some e':=by rw[←R,Array.find?_toList]
   have B:(ck != i)=false:=by simpa using W
   simp only[Instr.entry,fx,au,jK E.prog g1 (by simp),jK E.prog K (by simp),ah,p,B,y,cz,gl,ax]
theorem qI4(he:EOk E)(j:HR E σ H w){m ck rt:Nat}{own:Bool}{es:List MapEntry}{C:LN}(p:E.types.get t=some ti)(hd:ti.desc=.map kt C)(z:H.blocks.get m=some ⟨.map es ck,rt,own⟩)(l:VR σ (.map (some m)) x'):xF E σ H w (some (.val (.pointer (some ⟨H.next,0,none⟩)),H.new (.oa m ck [] ck))) (do pure (.value (←Instr.range t x'))):=by
 intro F H' h q;cases h;have y:=λw=>vE he p w;rw[hd]at y;have b:=q.head (bw _);cases l with
 |leaf e=>simp[v8]at e
 |map g e=>
  rename_i M;obtain⟨_,es',B,u⟩:=j.oz z g;have hle:vO.le σ (σ.add H.next ⟨w.heap.size,0,0,0⟩):=vO.ln b;have st:=Step.new j b (.oa m ck [] ck) (.mapIter (some M.hS) ck #[] ck) ⟨w.heap.size,0,0,0⟩ rfl ⟨rfl,⟨M,hle _ _ g,e,rfl⟩,rfl,rfl,rfl⟩;refine⟨_,_,.value (.pointer (some ⟨w.heap.size,0,none⟩)),?_,st,?_⟩
  ·simp only[Instr.range,au,y,ah,jK E.prog B (by simp),ax,jh];rfl
  exact VR.ptr (σ:=σ.add H.next ⟨w.heap.size,0,0,0⟩) (i:=0) vO.g7
theorem qDq{m:String}:∀{cs:LA} {l:List UInt8},nE cs=some l->∀(acc:LJ) (w:LP),
  (forIn cs acc (λc s=>(match c with|.int .u8 n=>pure (.yield (s.push (UInt8.ofNat n.toNat)))|_=>(do stuck m;pure (.yield s)):Sem (ForInStep LJ)))).run E.prog w=.ok ⟨⟨acc.data.toList++l⟩⟩ w
 | [],l,h,acc,w=>by
  simp[nE]at h;subst h
  simp_all
 | c::cs,l,h,acc,w=>by
  unfold nE at h
  split at h
  ·rename_i y;cases y
  ·rename_i b vs y
   cases y
   simp only[aa]at h
   obtain⟨g,e,rfl⟩:=h
   simp only[List.forIn_cons,au,ax,ah]
   rw[qDq e]
   congr 3
   simp[ByteArray.push]
  cases h
theorem qCa{m:String}:∀{cs:LA} {l:List UInt8},bE cs=some l->∀(acc:LJ) (w:LP),
  (forIn cs acc (λc s=>(match c with|.int .i32 n=>pure (.yield (s++Utf8.encode n))|_=>(do stuck m;pure (.yield s)):Sem (ForInStep LJ)))).run E.prog w=.ok ⟨⟨acc.data.toList++l⟩⟩ w
 | [],l,h,acc,w=>by
  simp[bE]at h;subst h
  simp_all
 | c::cs,l,h,acc,w=>by
  unfold bE at h
  split at h
  ·rename_i y;cases y
  ·rename_i b vs y
   cases y
   simp only[aa]at h
   obtain⟨g,e,rfl⟩:=h
   simp only[List.forIn_cons,au,ax,ah]
   rw[qCa e]
   congr 3
   simp[←List.append_assoc]
  cases h
end
variable{f:LO}{fn:Func}{name:String}
section
variable{E:Env}{σ:vO}{H:AH}{w:LP}
theorem qDr:∀{cs cs':LA} {l:List UInt8},nE cs=some l->VRs σ cs cs'->nE cs'=some l
 | [],[],_,h,.nil=>h
 |v::_,_::_,l,h,.cons hv e=>by
  unfold nE at h;split at h
  ·rename_i y;cases y
  ·rename_i b vs y;cases y;simp only[aa]at h;obtain⟨i,g,rfl⟩:=h;rw[hv.kz];simp only[nE,qDr g e];rfl
  cases h
theorem qCb:∀{cs cs':LA} {l:List UInt8},bE cs=some l->VRs σ cs cs'->bE cs'=some l
 | [],[],_,h,.nil=>h
 |v::_,_::_,l,h,.cons hv e=>by
  unfold bE at h;split at h
  ·rename_i y;cases y
  ·rename_i b vs y;cases y;simp only[aa]at h;obtain⟨i,g,rfl⟩:=h;rw[hv.kz];simp only[bE,qCb g e];rfl
  cases h
theorem qFn(he:EOk E)(P:HR E σ H w){s d:LN}{a:Option Addr}{n:Nat}(h:bQ E H s d (.slice a n c) n=some v)(K:VR σ (.slice a n c) v'):∃u,(Go.convert s d v').run E.prog w=.ok u w/\VR σ v u:=by
 unfold bQ at h;split at h;case h_2=>cases h
 rename_i e N R W U M Q V S cs O hd G;obtain⟨cs',f1,f2,_,_⟩:=nX P G K;have i:=λw=>vE he O w;have j:=λw=>vE he hd w;have C:∀A z,v'=.slice A n z->(match A with|some A=>loadCells A n|none=>pure #[]).run E.prog w=.ok ⟨cs'⟩ w:=by
  rintro A z rfl;cases A with
  |none=>simp only[Builtin.firstCells,ax]at f1 ⊢;exact f1
  |some A=>simpa only[Builtin.firstCells,Nat.mul_one]using f1
 obtain⟨A,z,rfl⟩:∃A z,v'=.slice A n z:=by
  cases K with
  |leaf X=>exact⟨_,_,rfl⟩
  |ka _ _ _=>exact⟨_,_,rfl⟩
  |jd _ _ _ _=>exact⟨_,_,rfl⟩
  |ki _=>exact⟨_,_,rfl⟩
 have p:=C A z rfl;split at h
 ·rename_i B I L J q;simp only[aa]at h;obtain⟨l,F,rfl⟩:=h;have g:=λw=>vE he q w;have y:=qDr F f2;refine⟨_,?_,.leaf rfl⟩;cases A with
  |none=>
   simp only[ax,jo,and_true]at p;have:cs'=[]:=by simpa using p.symm
   rw[this]at y;simp only[nE,oI]at y;subst y;simp only[Go.convert,au,i,j,ah,g,Conv.bytesToString,ax];rfl
  |some A=>simp only at p;have b:=λm=>qDq (E:=E) (m:=m) y ByteArray.empty w;simp only[Go.convert,au,i,j,ah,g,Conv.bytesToString,ax,p,←Array.forIn_toList];exact(congrArg (λr:Result LJ=>r.andThen λa w'=>Result.ok (Value.string a) w') (b _)).trans rfl
 ·rename_i B I L J q;simp only[aa]at h;obtain⟨l,F,rfl⟩:=h;have g:=λw=>vE he q w;have y:=qCb F f2;refine⟨_,?_,.leaf rfl⟩;cases A with
  |none=>
   simp only[ax,jo,and_true]at p;have:cs'=[]:=by simpa using p.symm
   rw[this]at y;simp only[bE,oI]at y;subst y;simp only[Go.convert,au,i,j,ah,g,Conv.runesToString,ax];rfl
  |some A=>simp only at p;have b:=λm=>qCa (E:=E) (m:=m) y ByteArray.empty w;simp only[Go.convert,au,i,j,ah,g,Conv.runesToString,ax,p,←Array.forIn_toList];exact(congrArg (λr:Result LJ=>r.andThen λa w'=>Result.ok (Value.string a) w') (b _)).trans rfl
 cases h
theorem qIb(he:EOk E)(N:HR E σ H w){s d e:LN}{p K:TI}{b:LJ}(U:E.types.get s=some p)(B:p.desc=.string)(hd:E.types.get d=some K)(I:K.desc=.slice e):xF E σ H w (mY E H e b) (do pure (.value (←Go.convert s d (.string b)))):=by
 intro ar H' h W;unfold mY at h;split at h;case h_2=>cases h
 rename_i sz Z z ag j;simp only[gS,zI,jD]at h;split at h;case isFalse=>cases h
 rename_i X;split at h;case isFalse=>cases h
 rename_i h2;cases h;have G:=W.head (bw _);obtain⟨_,_,us,_⟩:=he.types s p U;obtain⟨_,_,M,_⟩:=he.types d K hd;obtain⟨_,_,S,_⟩:=he.types e _ j;rw[B]at us;rw[I]at M;have run:=run_bytes_of_string (P:=E.prog) w s d e b us M S;have R:b.size<=grownCap w b.size 0 e:=grownCap_ge w b.size 0 e;have J:b.data.toList.length=b.size:=by rw[gu];rfl
 have Q:grownCap w b.size 0 e<zX:=by have:=grownCap_le_maxLen w b.size 0 e (by unfold maxLen;omega);unfold maxLen at this;unfold zX;omega
 generalize V:grownCap w b.size 0 e=y at run R Q;have u:(bytesRow b y).size=y:=by unfold bytesRow;grind
 have C:HR E σ H (gD w):=(Step.drew N (cx _)).hr
 have st:=Step.new C G (.cells (b.data.toList.map λx=>Value.int .u8 x.toNat) e) (.cells (bytesRow b y) e ((bytesRow b y).size,(bytesRow b y).size+1)) ⟨w.heap.size,0,y,1⟩ rfl
  ⟨λ_=>⟨.inr ⟨vP _,rfl⟩,rfl,Nat.zero_mod _⟩,by rw[u];simp,by simp only[bk];omega,λti g=>by rw[j]at g;cases g;exact X.symm,λi v O=>by
   simp only[cw,aa]at O;obtain⟨x,q,rfl⟩:=O;refine⟨rfl,_,?_,.leaf rfl⟩;have F:i<b.data.size:=by have:=(gI q).1;simpa using this
   simp only[bytesRow,fc];rw[jl (by simpa using F)];simp only[Array.getElem?_map];rw[ff]at q;rw[q];rfl⟩
 refine⟨_,_,.value (.slice (some ⟨w.heap.size,0,none⟩) b.size y),?_,(Step.drew N (cx _)).trans st,?_⟩
 ·simp only[au,run,ah,ax];rfl
 rw[J];exact VR.jd (σ:=σ.add H.next ⟨w.heap.size,0,y,1⟩) (b:=H.next) (i:=0) (l:=b.size) (c:=y) (L:=⟨w.heap.size,0,y,1⟩) vO.g7 R Q (by simp)
theorem qJO(he:EOk E){xt y:LN}{ok:Bool}(I:E.types.get y=some ti)(hv:VR σ v v'):(∀u,mA E ti y v=some (some u)->∃B,(Instr.typeAssert v' xt y ok).run E.prog w=.ok (bif ok then .tuple #[B,.bool true]else B) w/\VR σ u B)/\(∀z l,mA E ti y v=some none->ok=true->ti.zero=some z->rD ti.agg z=some l->(Instr.typeAssert v' xt y ok).run E.prog w=.ok (.tuple #[l,.bool false]) w/\VR σ l l):=by
 have hu:=λw=>vE he I w;constructor
 ·intro u h;unfold mA at h;split at h
  ·rename_i b t x hd;split at h;case h_2=>cases h
   rename_i i G;split at h;case h_2=>cases h
   rename_i hm;cases h;cases hv with
   |leaf j=>simp[v8]at j
   |iface p=>refine⟨_,?_,.iface p⟩;rw[hd]at hu;simp only[Instr.typeAssert,au,hu,ah,gv _ G,hm,ax];cases ok<;>rfl
  ·cases h
  ·cases h
  ·rename_i t x e;split at h;case isFalse=>cases h
   rename_i g;cases h;cases hv with
   |leaf j=>simp[v8]at j
   |iface p=>
    refine⟨_,?_,p⟩;subst g;revert hu;cases hd:ti.desc with
    |interface b=>exact absurd hd (e _)
    |_=>intro hu;simp only[Instr.typeAssert,au,hu,ah,dn,ax];cases ok<;>rfl
  ·cases h
  cases h
 intro z l h F K C;subst F;obtain⟨q,J⟩:=qAV he I K C w;refine⟨?_,xJ _ _ J⟩;unfold mA at h;split at h
 ·rename_i b t x hd;split at h;case h_2=>cases h
  rename_i i G;split at h;case h_1=>cases h
  rename_i m hm;cases hv with
  |leaf j=>simp[v8]at j
  |iface p=>rw[hd]at hu;simp only[Instr.typeAssert,au,hu,ah,gv _ G,hm,ax,dn,q]
 ·rename_i b hd;cases hv;rw[hd]at hu;simp only[Instr.typeAssert,au,hu,ah,ax,dn,q]
 ·cases h
 ·rename_i t x e;split at h;case isTrue=>cases h
  rename_i g;cases hv with
  |leaf j=>simp[v8]at j
  |iface p=>
   revert hu;cases hd:ti.desc with
   |interface b=>exact absurd hd (e _)
   |_=>intro hu;simp only[Instr.typeAssert,au,hu,ah,bf g,ax,dn,q]
 ·rename_i e;cases hv;revert hu;cases hd:ti.desc with
  |interface b=>exact absurd hd (e _)
  |_=>intro hu;simp only[Instr.typeAssert,au,hu,ah,ax,dn,q]
 cases h
theorem qI5(he:EOk E){y:LQ}(h:rH E (.iface t x) name=some (f,y))(F:VR σ x x')(l:Nat):(method (l+1) t x' name).run E.prog w=.ok (f,x') w/\y=x:=by
 simp only[rH]at h;split at h;case h_2=>cases h
 rename_i i ti C q;split at h;case h_2=>cases h
 rename_i nm z p g j hm;simp only[gS,zI]at h;split at h;case isFalse=>cases h
 rename_i B;have b:p.toList=[]:=cy.1 B;have u:p.isEmpty=true:=by cases p;simp at b;simp[b]
 have hu:=λw=>vE he q w;cases e:qBz ti.desc j with
 |false=>rw[e]at h;simp at h
 |true=>rw[e,ai]at h;cases h;refine⟨?_,rfl⟩;simp only[method,au,gv _ C,ah,hm,b,follow,ax,u,dn,receiverAt,hu];revert e;cases hd:ti.desc<;>intro e<;>simp only[qBz]at e<;>cases j<;>first|(cases e;done)|(simp at e;done)|rfl
theorem iF(he:EOk E)(y:E.funcs.get f=some fn)(h:LD):(callFunc f h).run E.prog w=.ok (.enter f h) w:=by
 obtain⟨i,g,h3⟩:=he.funcs f fn y;have e:fn.body.isNone=false:=by cases b:fn.body<;>simp[b]at g ⊢
 have h5 : (fn.name == "runtime.NumGoroutine") = false := by simpa using h3
 simp only[callFunc,au,run_program,ah,i,h5,e,cz,gl,ax]
theorem qRE{r:LO×LQ}(h:rH E v name=some r):∃t x,v=.iface t x:=by unfold rH at h;grind
theorem mX(he:EOk E){y:LQ}(h:rH E v name=some (f,y))(hv:VR σ v v')(j:E.funcs.get f=some fn)(b:LD):∃e,(callMethod v' name b).run E.prog w=.ok (.enter f (#[e]++b)) w/\VR σ y e:=by
 obtain⟨t,x,rfl⟩:=qRE h;cases hv with
 |leaf l=>simp[v8]at l
 |iface g=>rename_i x';obtain⟨n,i⟩:∃n,E.prog.types.size+Made.depth=n+1:=⟨E.prog.types.size+Made.depth-1,by unfold Made.depth;omega⟩;obtain⟨p,rfl⟩:=qI5 (w:=w) he h g n;refine⟨x',?_,g⟩;simp only[callMethod,au,run_program,ah,i,p,iF he j]
end
section
variable{E:Env}{σ:vO}{H:AH}{w:LP}{fr:Fr}{a:Act}
theorem VRs.cons_inv{l y:LA}(h:VRs σ (v::l) y):∃v' r,y=v'::r/\VR σ v v'/\VRs σ l r:=by cases h with|cons h hs=>exact⟨_,_,rfl,h,hs⟩
theorem VRs.ky{y:LA}(h:VRs σ [] y):y=[]:=by cases h;rfl
theorem VR.ma{a:Option Addr}{n:Nat}(h:VR σ (.slice a n c) v'):∃e b,v'=.slice e n b/\(c<zX->b=c):=by
 cases h with
 |leaf g=>exact⟨_,_,rfl,λ_=>rfl⟩
 |ka _ _ _=>exact⟨_,_,rfl,λ_=>rfl⟩
 |jd _ _ _ _=>exact⟨_,_,rfl,λh=>absurd h (Nat.lt_irrefl _)⟩
 |ki y=>exact⟨_,_,rfl,λh=>by rcases y with y|⟨y,_⟩<;>omega⟩
theorem xF.step{y:AR}{r:Option AH}{s:Sem Next}(h:∀H',r=some H'->∃w' nx,s.run E.prog w=.ok nx w'/\Step E σ H w σ H' w'/\qM0 E σ w' y nx):xF E σ H w (r.map λH'=>(y,H')) s:=by intro i H' he _;simp only[aa]at he;obtain⟨H1,e,b⟩:=he;cases b;obtain⟨w',nx,g⟩:=h _ e;exact⟨σ,w',nx,g⟩
theorem zA3(he:EOk E)(l:HR E σ H w)(b:VR σ x x')(h:qHl E H ats x=some v):∃v',(Builtin.len_ ⟨ats⟩ ty #[x']).run E.prog w=.ok v' w/\VR σ v v':=by
 unfold qHl at h;split at h
 ·cases h
 rename_i t rest;split at h
 ·cases h
 rename_i ti i;have hu:=λw=>vE he i w;split at h
 ·rename_i hd;cases h;rw[b.kA];rw[hd]at hu;exact⟨_,by simp[Builtin.len_,hu],.leaf rfl⟩
 ·rename_i hd;cases h;obtain⟨K,J,rfl,_⟩:=b.ma;rw[hd]at hu;exact⟨_,by simp[Builtin.len_,hu],.leaf rfl⟩
 ·rename_i kt I hd;rw[hd]at hu;simp only[aa]at h;obtain⟨es,y,rfl⟩:=h;unfold qEz at y;split at y
  ·cases y;cases b;exact⟨_,by simp[Builtin.len_,hu],.leaf rfl⟩
  ·split at y;case h_2=>cases y
   rename_i r ck rt own B;cases y;cases b with
   |leaf g=>simp[v8]at g
   |map j g=>
    obtain⟨_,es',F,C⟩:=l.oz B j;refine⟨goInt es.length,?_,.leaf rfl⟩;have u:es'.size=es.length:=by rw[←C.length];simp
    simp[Builtin.len_,hu,jK E.prog F,u]
  cases y
 ·rename_i n el hd;rw[hd]at hu;cases h;exact⟨_,by simp[Builtin.len_,hu],.leaf rfl⟩
 ·rename_i p hd;rw[hd]at hu;split at h;case h_2=>cases h
  rename_i n el sz G z ag q;cases h;have e:=λw=>vE he q w;exact⟨_,by simp[Builtin.len_,hu,e],.leaf rfl⟩
 cases h
theorem zBQ(he:EOk E)(b:VR σ x x')(h:qYg E ats x=some v):∃v',(Builtin.cap_ ⟨ats⟩ ty #[x']).run E.prog w=.ok v' w/\VR σ v v':=by
 unfold qYg at h;split at h
 ·cases h
 rename_i t rest;split at h
 ·cases h
 rename_i ti e;have hu:=λw=>vE he e w;split at h;case h_2=>cases h
 rename_i hd;simp only[jD]at h;split at h;case isTrue=>cases h
 rename_i g;cases h;obtain⟨j,i,rfl,y⟩:=b.ma;rw[hd]at hu;rw[y (by omega)];exact⟨_,by simp[Builtin.cap_,hu],.leaf rfl⟩
theorem qX5(he:EOk E)(I:HR E σ H w){d d' s C:LQ}(q:VR σ d d')(j:VR σ s C):xF E σ H w (qE1 E H ats d s) (do pure (.value (←Builtin.copy_ ⟨ats⟩ ty #[d',C]))):=by
 intro X H' h W;unfold qE1 at h;split at h
 ·cases h
 rename_i t rest;split at h
 ·cases h
 rename_i ti O;have hu:=λw=>vE he O w;split at h;case h_2=>cases h
 rename_i N base B cap hd;rw[hd]at hu;split at h;case h_2=>cases h
 rename_i e sl J G;split at h
 ·cases h
 rename_i cs K;obtain⟨cs',f1,f2,R,Q⟩:=nX I K j;have p:=qKG (E:=E) (w:=w) G j;have i:=λw=>vH he J w;simp only[zI]at h;split at h
 ·rename_i u;cases h;have l:cs'=[]:=by have:=f2.length;rw[R,u,iq]at this;exact cy.1 this
  subst l;obtain⟨V,M,rfl,_⟩:=q.ma;refine⟨σ,w,.value (goInt (Nat.min sl B)),?_,Step.refl I,.leaf rfl⟩;cases V<;>simp[Builtin.copy_,hu,p,i,f1,storeCells]
 rename_i u;split at h;case h_2=>cases h
 rename_i b o;simp only[aa]at h;obtain⟨H1,F,h⟩:=h;cases h
 have z:∀(L:Loc) (M:Nat),σ b=some L->∃g w' nx,(do pure (.value (←Builtin.copy_ ⟨t::rest⟩ ty #[.slice (some ⟨L.hS,L.off+o,none⟩) B M,C])):Sem Next).run E.prog w=.ok nx w'/\
   Step E σ H w g H' w'/\qM0 E g w' (.val (goInt (Nat.min sl B))) nx:=by
  intro L M y
  obtain⟨w',U,S⟩:=cL I F y f2 Q
  refine⟨σ,w',.value (goInt (Nat.min sl B)),?_,S,.leaf rfl⟩
  simp[Builtin.copy_,hu,p,i,f1,U]
 cases q with
 |leaf u=>simp[v8]at u
 |ka y _ _=>exact z _ _ y
 |jd y _ _ _=>exact z _ _ y
 |ki P=>simp at u
theorem qSM(he:EOk E)(B:HR E σ H w)(z:VR σ x x'):xF E σ H w (qAJ E H ats x) (do pure (.value (←Builtin.clear_ ⟨ats⟩ ty #[x']))):=by
 intro W H' h U;unfold qAJ at h;split at h
 ·cases h
 rename_i t rest;split at h
 ·cases h
 rename_i ti G;have hu:=λw=>vE he G w;split at h;case h_2=>cases h
 rename_i C base n cap hd;rw[hd]at hu;split at h;case h_2=>cases h
 rename_i V O P N Q q;simp only[zI]at h;split at h
 ·rename_i e;cases h;subst e;obtain⟨S,u,rfl,_⟩:=z.ma;refine⟨σ,w,.value (.tuple #[]),?_,Step.refl B,.tuple .nil⟩;cases S<;>simp[Builtin.clear_,hu]
 rename_i e;split at h;case h_2=>cases h
 rename_i b o;simp only[aa]at h;obtain⟨H1,p,h⟩:=h;cases h;obtain⟨j,M,K,h3,J,h5⟩:=gL he q rfl w;have l:(Builtin.zeroCells j.cells n).toList=xX N n:=by unfold Builtin.zeroCells;rw[sP j.cells n j.cells.size rfl,h3]
 have i:∀(L:Loc) (u:Nat),σ b=some L->∃g w' nx,(do pure (.value (←Builtin.clear_ ⟨t::rest⟩ ty #[.slice (some ⟨L.hS,L.off+o,none⟩) n u])):Sem Next).run E.prog w=.ok nx w'/\
   Step E σ H w g H' w'/\qM0 E g w' (.val (.tuple #[])) nx:=by
  intro L u y
  obtain⟨w',F,R⟩:=cL B p y (fN (pK K h3) n) (tF J n)
  refine⟨σ,w',.value (.tuple #[]),?_,R,.tuple .nil⟩
  rw[←l]at F
  obtain⟨m,rfl⟩:=Nat.exists_eq_succ_of_ne_zero e
  simp[Builtin.clear_,hu,M,F]
 cases z with
 |leaf e=>simp[v8]at e
 |ka y _ _=>exact i _ _ y
 |jd y _ _ _=>exact i _ _ y
 |ki I=>exact absurd rfl e
theorem sW(E:Env)(H H':AH)(ats:List LN)(p l:LQ)(y:AR)(b:∀v,y≠.val v):wW E H ats p l≠some (y,H'):=λh=>by unfold wW at h;cases h
theorem qL3:(Extern.allGenericRows.lookup k9).isNone=true:=by kernel_rfl
theorem qL2:(Extern.allTypedRows.lookup k9).isNone=true:=by kernel_rfl
theorem qL1:Extern.allRows.lookup k9=some Extern.AbiNoEscape.same:=by kernel_rfl
theorem qDW(h:fn.name=k9):Extern.find fn=some Extern.AbiNoEscape.same:=by have b:=ig.1 qL3;have y:=ig.1 qL2;simp only[Extern.find,h,b,y,qL1];rfl
theorem iA:∀{l y:LA},l.all zP=true->VRs σ l y->y=l
 |_,_,_,.nil=>rfl
 |_,_,h,.cons hv b=>by simp only[eo,aE]at h;rw[mS h.1 hv,iA h.2 b]
theorem qIc(he:EOk E)(i:HR E σ H w)(b:Builtin)(ty:LN)(q:Array Bool){args p:LA}(j:VRs σ args p):xF E σ H w (wJ E H b ats args) (builtin b ⟨ats⟩ ty q ⟨p⟩):=by
 unfold wJ;split
 ·split
  ·obtain⟨K,r,rfl,g,y⟩:=j.cons_inv;obtain⟨x',r,rfl,h3,B⟩:=y.cons_inv;rw[B.ky];exact qJP he i ty g h3
  exact xF.none
 ·split
  ·obtain⟨x',r,rfl,g,y⟩:=j.cons_inv;rw[y.ky];exact xF.one i λv hv=>zA3 he i g hv
  exact xF.none
 ·split
  ·obtain⟨x',r,rfl,g,y⟩:=j.cons_inv;rw[y.ky];exact xF.one i λv hv=>zBQ he g hv
  exact xF.none
 ·split
  ·obtain⟨x',r,rfl,g,y⟩:=j.cons_inv;rw[y.ky];intro G H' h J;cases h;refine⟨σ,w,.value (.pointer none),?_,Step.refl i,.leaf rfl⟩;cases g with
   |leaf M=>rfl
  ·rename_i a l c;obtain⟨x',r,rfl,g,y⟩:=j.cons_inv;rw[y.ky];intro G H' h J;rw[jD]at h;split at h;case isFalse=>cases h
   rename_i N;cases h;cases g with
   |leaf M=>simp[v8]at M
   |ka I O L=>refine⟨σ,w,.value (.pointer _),?_,Step.refl i,.ptr I⟩;obtain⟨k,rfl⟩:∃k,c=k+1:=⟨c-1,by omega⟩;rfl
   |jd I O L P=>refine⟨σ,w,.value (.pointer _),?_,Step.refl i,.ptr I⟩;rename_i c1 _;obtain⟨k,rfl⟩:∃k,c1=k+1:=⟨c1-1,by omega⟩;rfl
   |ki L=>omega
  exact xF.none
 ·split
  ·obtain⟨S,r,rfl,g,y⟩:=j.cons_inv;obtain⟨U,r,rfl,h3,B⟩:=y.cons_inv;rw[B.ky];intro G H' h J;cases G with
   |val v=>obtain⟨w',u,F,C,R⟩:=uZ (ty:=ty) he i (by simp) h g h3;refine⟨σ,w',.value u,?_,C,R⟩;simp only[builtin,au];exact(congrArg (λr:Result LQ=>r.andThen λa w'=>(pure (Next.value a):Sem Next).run E.prog w') F).trans rfl
   |_=>exact absurd h (sW _ _ _ _ _ _ _ (λv e=>by cases e))
  exact xF.none
 ·split
  ·obtain⟨K,r,rfl,g,y⟩:=j.cons_inv;obtain⟨x',r,rfl,h3,B⟩:=y.cons_inv;rw[B.ky];exact qX5 he i g h3
  exact xF.none
 ·split
  ·obtain⟨x',r,rfl,g,y⟩:=j.cons_inv;rw[y.ky];exact qSM he i g
  exact xF.none
 ·split
  ·obtain⟨K,r,rfl,g,y⟩:=j.cons_inv;obtain⟨x',r,rfl,h3,B⟩:=y.cons_inv;rw[B.ky];refine xF.step λH' Q=>?_;obtain⟨w',F,C⟩:=qJE (ty:=ty) he i Q g h3;refine⟨w',.value (.tuple #[]),?_,C,.tuple .nil⟩;simp only[builtin,au];exact congrArg (λr:Result LQ=>r.andThen λa w'=>(pure (Next.value a):Sem Next).run E.prog w') F
  exact xF.none
 ·cases z:args.all zP with
  |false=>exact xF.none
  |true=>rw[ai,iA z j];refine xF.one i λv hv=>?_;obtain⟨F,C⟩:=flat?_spec hv;exact⟨v,yW _ _ _ _ F,xJ _ _ C⟩
 ·cases z:args.all zP with
  |false=>exact xF.none
  |true=>rw[ai,iA z j];refine xF.one i λv hv=>?_;obtain⟨F,C⟩:=flat?_spec hv;exact⟨v,yW _ _ _ _ F,xJ _ _ C⟩
 ·split
  ·rw[j.ky];intro G H' h J;cases h;exact⟨σ,w,.recover,rfl,Step.refl i,trivial⟩
  exact xF.none
 exact xF.none
theorem qI1(he:EOk E)(l:HR E σ H w){n:Nat}{b:AR}(e:E.prog.funcs[f]? = some fn)(j:fn.name=mM)(i:fn.body.isNone=true)(g:(Extern.findNext fn).isNone=true)(h:qBC E H fn n=some (b,H'))(p:yU σ H.next H'.next):∃y w' nx,(callFunc f ⟨[.int .i64 (.ofNat n)]⟩).run E.prog w=.ok nx w'/\Step E σ H w y H' w'/\qM0 E y w' b nx:=by unfold qBC at h;cases h
theorem cW(xs:Array LM)(f:LM->LQ):(⟨xs.toList.map f⟩:LD)=xs.map f:=by apply fq;simp
theorem qDi(y:LQ)(l:LA): #[y]++(⟨l⟩:LD)=⟨y::l⟩:=by apply fq;simp
theorem zEy(x y z:LA):(⟨x⟩:LD)++⟨y⟩++⟨z⟩=⟨x++y++z⟩:=by apply fq;simp
theorem qQe(he:EOk E)(U:HR E σ H w)(c:Call)(ty:LN)(K:∀x∈c.operands.toList,∀v,ev E fr x=some v->VR σ v (a.eval x)):xF E σ H w (kX E fr H c) (do let d ←resolve a.eval c ty;invoke d.target d.args):=by
 unfold kX;split
 ·exact xF.none
 rename_i args hargs;have B:=uI (a:=a) (λx J=>K x (by simp only[Call.operands,Array.toList_append,bh];exact .inr J)) hargs;have j:c.args.map a.eval=⟨c.args.toList.map a.eval⟩:=(cW _ _).symm;generalize hargs':c.args.toList.map a.eval=e at B j;have enter:∀(f:LO) (xs z:LA) (s:Sem Next),VRs σ xs z->(∀fn,E.funcs.get f=some fn->s.run E.prog w=.ok (.enter f ⟨z⟩) w)->xF E σ H w (nB E H f xs) s:=by
  intro f xs z s J hs R H' h P;unfold nB at h;split at h;case h_2=>cases h
  rename_i fn i;cases h;exact⟨σ,w,.enter f ⟨z⟩,hs fn i,Step.refl U,rfl,J,fn,i⟩
 have Z:∀(f:LO) (xs z:LA) (s:Sem Next),VRs σ xs z->s.run E.prog w=(callFunc f ⟨z⟩).run E.prog w->xF E σ H w (nQ E H f xs) s:=by
  intro f xs z s J hs R H' h P;unfold nQ at h;split at h
  ·rename_i fn i;cases h;exact⟨σ,w,.enter f ⟨z⟩,by rw[hs,iF he i],Step.refl U,rfl,J,fn,i⟩
  unfold qWi at h;split at h
  ·rename_i n;split at h;case h_2=>cases h
   rename_i fn i;obtain⟨p',r,rfl,h1,h2⟩:=J.cons_inv;rw[h2.ky,h1.kz]at hs;cases V:(fn.name==mM&&fn.body.isNone&&(Extern.findNext fn).isNone)with
   |false=>
    rw[V,bc]at h;split at h;case h_2=>cases h
    rename_i v hv;simp only[one,aa]at h;obtain⟨v1,hv1,h⟩:=h;cases h;obtain⟨X,W⟩:=flat?_spec hv1;cases X;exact⟨σ,w,.value _,by rw[hs,yW _ _ _ _ hv],Step.refl U,xJ _ _ W⟩
   |true=>rw[V,ai]at h;simp only[aE,beq_iff_eq]at V;obtain⟨⟨q1,q2⟩,q3⟩:=V;obtain⟨σ',w',nx,X,W,g3⟩:=qI1 he U i q1 q2 q3 h P;grind
  ·rename_i p;split at h;case h_2=>cases h
   rename_i fn i;obtain⟨p',r,rfl,h1,h2⟩:=J.cons_inv;rw[h2.ky]at hs;cases V:(fn.name==k9&&fn.body.isNone&&(Extern.findNext fn).isNone)with
   |false=>rw[V]at h;cases h
   |true=>
   rw [V] at h;cases h;simp only [aE,beq_iff_eq] at V;obtain ⟨⟨q1,q2⟩,q3⟩:=V;have q4 : (fn.name == "runtime.NumGoroutine") = false := by rw [q1]; kernel_rfl
   refine⟨σ,w,.value p',?_,Step.refl U,h1⟩;rw[hs,run_callFunc_extern i q4 q2 (ig.1 q3) (qDW q1)];rfl
  cases hfl:xs.all zP with
  |false=>rw[hfl]at h;cases h
  |true=>
  rw[hfl,ai]at h;split at h;case h_2=>cases h
  rename_i v hv;simp only[one,aa]at h;obtain⟨v1,hv1,h⟩:=h;cases h;obtain⟨X,W⟩:=flat?_spec hv1;cases X;rw[iA hfl J]at hs;exact⟨σ,w,.value _,by rw[hs,yW _ _ _ _ hv],Step.refl U,xJ _ _ W⟩
 split
 ·rename_i b M;have:=qIc he U b (ats:=c.argTypes.toList) ty (c.args.map λ|.const _=>true|_=>false) B;intro R H' h P;obtain⟨σ',w',nx,X,W⟩:=this R H' h P;refine⟨σ',w',nx,?_,W⟩;simp only[resolve,M,j,au,ax,ah,invoke];exact X
 ·rename_i r name M;split;case h_2=>exact xF.none
  rename_i v hv;have N:=K r (by simp[Call.operands,M]) v hv;split;case h_2=>exact xF.none
  rename_i f y hm;intro R H' h P;cases i:E.funcs.get f with
  |none=>simp[nB,i]at h
  |some fn=>
   obtain⟨y',S,m2⟩:=mX (w:=w) he hm N i ⟨e⟩;refine enter f (y::args) (y'::e) _ (.cons m2 B) ?_ R H' h P;intro _ _;have J:(#[a.eval r]++(⟨e⟩:LD)).extract 1 (#[a.eval r]++(⟨e⟩:LD)).size=⟨e⟩:=by apply fq;simp
   have F:(#[a.eval r]++(⟨e⟩:LD))[0]? = some (a.eval r):=by simp
   simp only[resolve,M,j,au,ax,ah,invoke,F,J,S];rw[qDi]
 rename_i g M;split
 ·rename_i f first cap hg
  have q:=K g (by simp[Call.operands,M]) _ hg;generalize I:a.eval g=g' at q;cases q with
  |leaf F=>simp[v8]at F
  |func F O hc1=>rename_i f1 c1;refine Z f _ _ _ ((O.append B).append hc1) ?_;simp only[resolve,M,j,Deferred.ofValue,I,au,ax,ah,invoke];rw[zEy]
 ·rename_i l first cap hg
  have q:=K g (by simp[Call.operands,M]) _ hg;generalize I:a.eval g=g' at q;cases q with
  |leaf F=>simp[v8]at F
  |func F _ _=>simp[rM]at F
  | yield hs F=>
   rename_i L;split;case h_2=>exact xF.none
   rename_i st pd t ps az bd rt own hl;simp only[zI];split;case isFalse=>exact xF.none
   rename_i hlen;intro R H' h P;cases h;obtain⟨o,X,W⟩:=U.kq l _ L hl hs;cases o<;>simp only[m9]at W;rename_i lo;obtain⟨_,q1,q2,q3,q4,q5,q6⟩:=W;have hsz:(⟨e⟩:LD).size=lo.params.size:=by
    have:=B.length;have h2:lo.params.toList.length=ps.length:=by rw[q4]
    simp at h2 ⊢;omega
   refine⟨σ,w,.round L.hS lo.fn ((lo.params.zip ⟨e⟩).foldl (λtmps (t,a)=>tmps.setIfInBounds t a) lo.tmps) lo.assign lo.body,?_,Step.refl U,?_⟩
   ·have hne:¬(⟨e⟩:LD).size≠lo.params.size:=by rw[hsz];simp
    simp only[resolve,M,j,Deferred.ofValue,I,au,ax,ah,invoke,Instr.yield,Instr.getLoop,jK E.prog X (by simp),Array.empty_append];rw[bf hne];rfl
   exact⟨L,lo,e,hs,X,B,by simpa using hsz,rfl⟩
 ·rename_i name first cap hg
  have q:=K g (by simp[Call.operands,M]) _ hg;generalize I:a.eval g=g' at q;cases q with
  |leaf F=>simp[v8]at F
  | func F O hc1=>
   rename_i f1 c1 f1' c1';split;case h_2=>exact xF.none
   rename_i v rest N;have C:=O.append B;rw[N]at C;obtain⟨v',G,e1,e2,e3⟩:=C.cons_inv;split;case h_2=>exact xF.none
   rename_i f y hm;intro R H' h P;cases i:E.funcs.get f with
   |none=>simp[nB,i]at h
   |some fn=>
    obtain⟨y',S,m2⟩:=mX (w:=w) he hm e2 i ⟨G⟩;refine enter f (y::rest) (y'::G) _ (.cons m2 e3) ?_ R H' h P;intro _ _;have Q:(⟨f1'⟩:LD)++⟨e⟩=⟨v'::G⟩:=by apply fq;simpa using e1
    have J:(⟨v'::G⟩:LD).extract 1 (⟨v'::G⟩:LD).size=⟨G⟩:=by apply fq;simp
    have F:(⟨v'::G⟩:LD)[0]? = some v':=by simp
    simp only[resolve,M,j,Deferred.ofValue,I,au,ax,ah,invoke,Q,F,J,S];rw[qDi]
 ·rename_i t name first cap hg
  have q:=K g (by simp[Call.operands,M]) _ hg;generalize I:a.eval g=g' at q;cases q with
  |leaf F=>simp[v8]at F
  | func F O hc1=>
   rename_i f1 c1 f1' c1';split;case h_2=>exact xF.none
   rename_i v rest N;have C:=O.append B;rw[N]at C;obtain⟨v',G,e1,e2,e3⟩:=C.cons_inv;have Q:(⟨f1'⟩:LD)++⟨e⟩=⟨v'::G⟩:=by apply fq;simpa using e1
   have J:(⟨v'::G⟩:LD).extract 1 (⟨v'::G⟩:LD).size=⟨G⟩:=by apply fq;simp
   have h00:(⟨v'::G⟩:LD)[0]? = some v':=by simp
   cases htt:E.types.get t with
   |none=>exact xF.none
   | some ti=>
    have hu:=λw=>vE he htt w
    have fin:∀(u u':LQ),VR σ u u'->((match ti.desc with|.interface _=>v'|_=>.iface t v')=u')->
      xF E σ H w (match rH E u name with|some (f,x)=>nB E H f (x::rest)|none=>none) (do let d ←resolve a.eval c ty;invoke d.target d.args):=by
     intro u u' huu heq
     split
     case h_2=>exact xF.none
     rename_i f y hm
     intro R H' h P
     cases i:E.funcs.get f with
     |none=>simp[nB,i]at h
     |some fn=>
      obtain⟨y',S,m2⟩:=mX (w:=w) he hm huu i ⟨G⟩
      refine enter f (y::rest) (y'::G) _ (.cons m2 e3) ?_ R H' h P
      intro _ _
      rw[←heq]at S
      simp only[resolve,M,j,Deferred.ofValue,I,au,ax,ah,invoke,Q,h00,J,hu]
      revert S
      cases ti.desc<;>intro S<;>simp only at S ⊢<;>rw[S,qDi]
    obtain⟨d,s1,b1,z1,a1⟩:=ti;cases d;case interface=>exact fin v v' e2 rfl
    all_goals exact fin (.iface t v) (.iface t v') (.iface e2) rfl
 exact xF.none
end
section
variable{E:Env}{σ:vO}{H:AH}{w:LP}{fr:Fr}{a:Act}
theorem qFJ(x:Option LM){vs:LA}(b:∀y∈x.toList,∀v,ev E fr y=some v->VR σ v (a.eval y))(h:rS E fr x.toList=some vs):OR σ vs.head? (x.map a.eval):=by
 cases x with
 |none=>simp[rS]at h;subst h;exact .none
 |some x=>
  simp only[Option.toList,rS]at h;split at h
  ·cases h
  rename_i v hv;simp at h;subst h;exact .some (b x (by simp) v hv)
theorem qLv(E:Env)(H H':AH)(s d:LN)(a:Addr)(y:AR)(b:∀v,y≠.val v):qEa E H s d a≠some (y,H'):=λh=>by unfold qEa at h;cases h
theorem qLq(he:EOk E)(B:HR E σ H w)(o:Oper)(g:∀x∈o.op.operands.toList,∀v,ev E fr x=some v->VR σ v (a.eval x)):xF E σ H w (jH E fr o H) (execOp a.eval o):=by
 unfold jH;split
 ·
  -- move
  rename_i x j;simp only[j,Op.operands]at g;simp only[execOp,j];intro ar H' h U;simp only[one,aa]at h;obtain⟨v,hv,h⟩:=h;cases h;exact⟨σ,w,.value (a.eval x),rfl,Step.refl B,g _ (by simp) _ hv⟩
 ·rename_i x j;simp only[j,Op.operands]at g;simp only[execOp,j];intro ar H' h U;simp only[one,aa]at h;obtain⟨v,hv,h⟩:=h;cases h;exact⟨σ,w,.value (a.eval x),rfl,Step.refl B,g _ (by simp) _ hv⟩
 ·
  -- pick
  rename_i c x y j;simp only[j,Op.operands]at g;simp only[execOp,j];intro ar H' h U;split at h
  ·rename_i hc;have hcr:=(g _ (by simp) _ hc).nt;simp only[one,aa]at h;obtain⟨v,hv,h⟩:=h;cases h;refine⟨σ,w,.value (a.eval x),?_,Step.refl B,g _ (by simp) _ hv⟩;simp only[hcr,asBool,au,ax,ah,dn]
  ·rename_i hc;have hcr:=(g _ (by simp) _ hc).nt;simp only[one,aa]at h;obtain⟨v,hv,h⟩:=h;cases h;refine⟨σ,w,.value (a.eval y),?_,Step.refl B,g _ (by simp) _ hv⟩;simp only[hcr,asBool,au,ax,ah,cz,gl]
  cases h
 ·rename_i t j;simp only[j,Op.operands]at g;simp only[execOp,j];exact qMV he B t
 ·
  -- box
  rename_i t x j;simp only[j,Op.operands]at g;simp only[execOp,j];split
  ·exact xF.none
  ·rename_i v hnt hv;exact qSV he B t (g _ (by simp) _ hv) (λc e=>hnt c e)
  exact xF.none
 ·
  -- build
  rename_i t ps j;simp only[j,Op.operands]at g;simp only[execOp,j];split
  ·rename_i qs hq;have hp:=qAg (a:=a) (λx F=>g x (by simpa using F)) hq;refine xF.one B λv hv=>?_;obtain⟨v',I,G⟩:=qMM (w:=w) he hp hv;refine⟨v',?_,G⟩;have:(ps.map λ(i,x)=>(i,a.eval x))=⟨ps.toList.map λ(i,x)=>(i,a.eval x)⟩:=by apply fq;simp
   rw[this];exact I
  exact xF.none
 ·rename_i t n ps j;simp only[j,Op.operands]at g;simp only[execOp,j];split
  ·rename_i qs hq;have hp:=qAg (a:=a) (λx F=>g x (by simpa using F)) hq;have:(ps.map λ(i,x)=>(i,a.eval x))=⟨ps.toList.map λ(i,x)=>(i,a.eval x)⟩:=by apply fq;simp
   rw[this];exact qDt he B hp
  exact xF.none
 ·rename_i t x j;simp only[j,Op.operands]at g;simp only[execOp,j];split
  ·rename_i v hv;exact xF.one B λu hu=>qHk he B hu (g _ (by simp) _ hv)
  exact xF.none
 ·
  -- store
  rename_i t x y j;simp only[j,Op.operands]at g;simp only[execOp,j];split
  ·exact xF.none
  ·rename_i va vb hnt Z X;refine xF.step λH' hH=>?_;obtain⟨w',I,G⟩:=qLB he B hH (g _ (by simp) _ Z) (g _ (by simp) _ X) (λc e=>hnt c e);exact⟨w',.skip,by simp only[au,I,ah,ax],G,trivial⟩
  exact xF.none
 ·
  -- nilCheck
  rename_i x j;simp only[j,Op.operands]at g;simp only[execOp,j];intro ar H' h U;split at h
  ·rename_i p hv;cases h;have C:=g _ (by simp) _ hv;generalize F:a.eval x=x' at C;cases C with
   |leaf Q=>simp[v8]at Q
   |ptr hs=>exact⟨σ,w,.value _,by simp only[F];rfl,Step.refl B,VR.ptr hs⟩
  ·rename_i t u hv;cases h;have C:=g _ (by simp) _ hv;generalize F:a.eval x=x' at C;cases C with
   |leaf Q=>simp[v8]at Q
   |iface hs=>exact⟨σ,w,.value _,by simp only[F];rfl,Step.refl B,VR.iface hs⟩
  ·rename_i f p q hv;cases h;have C:=g _ (by simp) _ hv;generalize F:a.eval x=x' at C;cases C with
   |leaf Q=>simp[v8]at Q
   |func M N h3=>exact⟨σ,w,.value _,by simp only[F];rfl,Step.refl B,VR.func M N h3⟩
  ·rename_i f p q hv;cases h;have C:=g _ (by simp) _ hv;generalize F:a.eval x=x' at C;cases C with
   |leaf Q=>simp[v8]at Q
   |func M N h3=>simp[rM]at M
   |yield M N=>exact⟨σ,w,.value _,by simp only[F];rfl,Step.refl B,VR.yield M N⟩
  cases h
 ·
  -- binOp
  rename_i op t x y ty j;simp only[j,Op.operands]at g;simp only[execOp,j];split
  ·rename_i va vb Z X;exact xF.one B λu hu=>qSY he hu (g _ (by simp) _ Z) (g _ (by simp) _ X)
  exact xF.none
 ·rename_i op t x j;simp only[j,Op.operands]at g;simp only[execOp,j];split
  ·rename_i v hv;cases hfl:zP v with
   |false=>exact xF.none
   |true=>refine xF.one B λu hu=>?_;obtain⟨I,G⟩:=flat?_spec hu;rw[mS hfl (g _ (by simp) _ hv)];exact⟨u,yW _ _ _ _ I,xJ _ _ G⟩
  exact xF.none
 ·
  -- convert
  rename_i s d x j;simp only[j,Op.operands]at g;simp only[execOp,j];split
  ·rename_i p n c hv;exact xF.one B λu hu=>qFn he B hu (g _ (by simp) _ hv)
  ·rename_i p hv;intro ar H' h U;cases ar with
   |val v=>obtain⟨rfl,u,I,G⟩:=qNf he B h (g _ (by simp) _ hv);refine⟨σ,w,.value u,?_,Step.refl B,G⟩;simp only[au,I,ah,ax]
   |_=>exact absurd h (qLv _ _ _ _ _ _ _ (λv e=>by cases e))
  ·rename_i b hv;rw[(g _ (by simp) _ hv).kA];split
   ·rename_i e _ _ _ _ hts htd;exact qIb he B hts rfl htd rfl
   refine xF.one B λu hu=>?_;obtain⟨I,G⟩:=flat?_spec hu;exact⟨u,yW _ _ _ _ I,xJ _ _ G⟩
  ·rename_i v hns hnp hnstr hv;cases hfl:zP v with
   |false=>exact xF.none
   |true=>refine xF.one B λu hu=>?_;obtain⟨I,G⟩:=flat?_spec hu;rw[mS hfl (g _ (by simp) _ hv)];exact⟨u,yW _ _ _ _ I,xJ _ _ G⟩
  exact xF.none
 ·
  -- O
  rename_i t x j;simp only[j,Op.operands]at g;simp only[execOp,j];split
  ·exact xF.none
  ·rename_i ti v hni J hv;refine xF.one B λu hu=>?_;cases hu;have hu:=vE he J w;refine⟨.iface t (a.eval x),?_,.iface (g _ (by simp) _ hv)⟩;simp only[Instr.makeInterface,au,hu,ah];cases hd:ti.desc<;>first|rfl|skip
   exact(hni _ _ _ _ _ (by rw[←hd])).elim
  exact xF.none
 ·
  -- makeFunc
  rename_i fn f c j;simp only[j,Op.operands]at g;simp only[execOp,j];split
  ·rename_i vf vc hvf hvc;have M:=uI (a:=a) (λx F=>g x (by simp;exact .inl (by simpa using F))) hvf;have N:=uI (a:=a) (λx F=>g x (by simp;exact .inr (by simpa using F))) hvc;refine xF.one B λu hu=>?_;cases hfn:rM fn with
   |false=>rw[hfn]at hu;simp at hu
   |true=>rw[hfn]at hu;simp only[dn,oI]at hu;subst hu;refine⟨_,rfl,?_⟩;rw[←cW,←cW];exact .func hfn M N
  exact xF.none
 ·
  -- makeMap
  rename_i t j;simp only[j,Op.operands]at g;simp only[execOp,j];intro ar H' h U;cases h;have hf':=U.head (bw _);have st:=Step.new B hf' (.map [] 0) (.map #[] 0) ⟨w.heap.size,0,0,0⟩ rfl ⟨rfl,rfl,.nil⟩;exact⟨_,_,.value (.map (some w.heap.size)),rfl,st,VR.map (L:=⟨w.heap.size,0,0,0⟩) vO.g7 rfl⟩
 ·rename_i t x j;simp only[j,Op.operands]at g;simp only[execOp,j];split
  ·rename_i kt et sz R z ag k n J hv;intro ar H' h U;cases h;have hf':=U.head (bw _);have st:=Step.new B hf' (.map [] 0) (.map #[] 0) ⟨w.heap.size,0,0,0⟩ rfl ⟨rfl,rfl,.nil⟩;refine⟨_,_,.value (.map (some w.heap.size)),?_,st,VR.map (L:=⟨w.heap.size,0,0,0⟩) vO.g7 rfl⟩;have hu:=vE he J w;have hxi:=(g _ (by simp) _ hv).kz;simp only[Instr.makeMap,Option.map,au,hu,ah,hxi,asInt,asIntOf,ax,jh];rfl
  exact xF.none
 ·rename_i t l c j;simp only[j,Op.operands]at g;simp only[execOp,j];split
  ·rename_i vl vc hl hc;exact qDX he B (g _ (by simp) _ hl) (g _ (by simp) _ hc)
  exact xF.none
 ·
  -- slice
  rename_i t x lo P mx j;simp only[j,Op.operands]at g;simp only[execOp,j];split
  ·rename_i vx vlo vhi vmx F hlo hhi hmx;exact xF.one B λu hu=>qLF he B hu (g _ (by simp) _ F) (qFJ lo (λy hy=>g y (by cases lo<;>simp_all)) hlo) (qFJ P (λy hy=>g y (by cases P<;>simp_all)) hhi) (qFJ mx (λy hy=>g y (by cases mx<;>simp_all)) hmx)
  exact xF.none
 ·rename_i s x f j;simp only[j,Op.operands]at g;simp only[execOp,j];split
  ·rename_i v hv;exact xF.one B λu hu=>qMo he hu (g _ (by simp) _ hv)
  exact xF.none
 ·
  -- field
  rename_i t x f j;simp only[j,Op.operands]at g;simp only[execOp,j];split
  ·rename_i cs fs sz R z ag hv J;split
   ·rename_i fd hfd;exact xF.one B λu hu=>qJr he J rfl hfd hu (g _ (by simp) _ hv)
   exact xF.none
  exact xF.none
 ·
  -- W
  rename_i t x i j;simp only[j,Op.operands]at g;simp only[execOp,j];split
  ·rename_i v n hv P;simp only[iw]at P;obtain⟨iv,M,N⟩:=P;exact xF.one B λu hu=>qMh he hu N (g _ (by simp) _ hv) (g _ (by simp) _ M)
  exact xF.none
 ·
  -- index
  rename_i t x i j;simp only[j,Op.operands]at g;simp only[execOp,j];split
  ·rename_i s n sz R z ag hv P J;simp only[iw]at P;obtain⟨iv,M,N⟩:=P;split
   ·rename_i b hb;refine xF.one B λu hu=>?_;cases hu;exact⟨_,qJh he J rfl N hb (g _ (by simp) _ hv) (g _ (by simp) _ M),.leaf rfl⟩
   exact xF.none
  ·rename_i cs n len elem sz R z ag hv P J;simp only[iw]at P;obtain⟨iv,M,N⟩:=P;split
   ·rename_i e hel;rw[jD];split
    ·rename_i hlt;exact xF.one B λu hu=>qJg he J rfl hel N hlt hu (g _ (by simp) _ hv) (g _ (by simp) _ M)
    exact xF.none
   exact xF.none
  exact xF.none
 ·rename_i t x k ok j;simp only[j,Op.operands]at g;simp only[execOp,j];split
  ·rename_i vx vk F hk;exact xF.one B λu hu=>qI7 he B hu (g _ (by simp) _ F) (g _ (by simp) _ hk)
  exact xF.none
 ·
  -- V
  rename_i t m k x j;simp only[j,Op.operands]at g;simp only[execOp,j];split
  ·rename_i vm vk vx hm hk F;refine xF.step λH' hH=>?_;obtain⟨w',I,G⟩:=qBT he B hH (g _ (by simp) _ hm) (g _ (by simp) _ hk) (g _ (by simp) _ F);exact⟨w',.skip,by simp only[au,I,ah,ax],G,trivial⟩
  exact xF.none
 ·rename_i t m k x j;simp only[j,Op.operands]at g;simp only[execOp,j];split
  ·rename_i vm vk vx hm hk F;refine xF.step λH' hH=>?_;obtain⟨w',I,G⟩:=qBT he B hH (g _ (by simp) _ hm) (g _ (by simp) _ hk) (g _ (by simp) _ F);exact⟨w',.skip,by simp only[au,I,ah,ax],G,trivial⟩
  exact xF.none
 ·
  -- range
  rename_i t x j;simp only[j,Op.operands]at g;simp only[execOp,j];split
  ·rename_i s sz R z ag hv J;exact qLL he B J rfl (g _ (by simp) _ hv)
  ·rename_i hv J;split
   ·rename_i hb;exact qI4 he B J rfl hb (g _ (by simp) _ hv)
   exact xF.none
  exact xF.none
 ·rename_i it str j;simp only[j,Op.operands]at g;simp only[execOp,j];split
  ·rename_i v hv;exact qOU B (g _ (by simp) _ hv)
  exact xF.none
 ·rename_i it j;simp only[j,Op.operands]at g;simp only[execOp,j];split
  ·rename_i v hv;exact xF.one B λu hu=>qMz B hu (g _ (by simp) _ hv)
  exact xF.none
 ·
  -- S
  rename_i x xt asserted ok j;simp only[j,Op.operands]at g;simp only[execOp,j];split
  ·rename_i v ti hv J;have hb:=qJO (w:=w) (xt:=xt) (ok:=ok) he J (g _ (by simp) _ hv);split
   ·rename_i u hu;refine xF.one B λr K=>?_;cases K;obtain⟨u',I,G⟩:=hb.1 u hu;refine⟨_,I,?_⟩;cases ok
    ·exact G
    exact .tuple (.cons G (.cons (.leaf rfl) .nil))
   ·rename_i hu;cases ok with
    |false=>exact xF.none
    |true=>
     refine xF.one B λr K=>?_;split at K
     ·rename_i z hz;simp only[aa]at K;obtain⟨zv,hzv,rfl⟩:=K;obtain⟨I,G⟩:=hb.2 z zv hu rfl hz hzv;exact⟨_,I,.tuple (.cons G (.cons (.leaf rfl) .nil))⟩
     cases K
   exact xF.none
  exact xF.none
 ·
  -- extract
  rename_i x i j;simp only[j,Op.operands]at g;simp only[execOp,j];split
  ·rename_i vs hv;refine xF.one B λu hu=>?_;have C:=g _ (by simp) _ hv;generalize F:a.eval x=x' at C;cases C with
   |leaf Q=>simp[v8]at Q
   |tuple hc=>obtain⟨v',I,G⟩:=hc.get _ _ hu;refine⟨v',?_,G⟩;simp only[Instr.extract,ft,I,ax]
  exact xF.none
 ·rename_i c j;simp only[j,Op.operands]at g;simp only[execOp,j];exact qQe he B c o.type g
 exact xF.none
end
end Go.Am
