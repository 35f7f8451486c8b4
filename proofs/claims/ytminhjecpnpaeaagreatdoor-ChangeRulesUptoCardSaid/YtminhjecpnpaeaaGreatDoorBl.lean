/- What the row says of the tables of unicode/utf8, in the abstract heap's words. Conditions: none. -/
import Derived.Test.YtminhjecpnpaeaaGreatDoorBc
import Derived.Lib.LaidU8T
import Derived.Test.YtminhjecpnpaeaaGreatDoorYd
import Derived.Test.YtminhjecpnpaeaaGreatDoorBk
import Derived.Test.YtminhjecpnpaeaaGreatDoorOr
import Derived.Test.YtminhjecpnpaeaaGreatDoorTie
import Derived.Test.YtminhjecpnpaeaaGreatDoorCards
import Derived.ProofKit
import Derived.LaidMore
import Derived.Lay
import Derived.SevenTiedAt
import Derived.OpenShut
import Derived.JoinedCond
import Derived.MakeChecks
import Derived.Stop.Joined
import Derived.Deep.DeepHandedRow
set_option linter.unusedVariables false
set_option linter.unusedSimpArgs false
namespace Go.Proofs.YtminhjecpnpaeaaGreatDoor
open Go Go.Am Go.Proofs Go.RowKit Go.Lib
theorem qK8{w:World}{b i:Nat}{v:Value}(h:w.cell? ⟨b,i,none⟩=some v):∃ccs x y,w.heap[b]? = some (.cells ccs x y)/\ccs[i]? = some v:=by
 unfold World.cell? at h;cases c:w.heap[b]? with
 |none=>rw[c]at h;cases h
 |some o=>
  rw[c]at h;cases o with
  |cells ccs x y=>exact⟨ccs,x,y,rfl,by simpa using h⟩
  |_=>cases h
theorem qRj{E:Env}{b el rt:Nat}{cs:List Value}{y:Bool}(h:jW b E.laid=some ⟨.cells cs el,rt,y⟩):(qCI E b).off=0/\(qCI E b).ext=cs.length/\∀x,E.types.get el=some x->(qCI E b).sz=x.size:=by unfold qCI;rw[h];exact⟨rfl,rfl,λx c=>by simp only[c]⟩
theorem qJQ{E:Env}{w:World}{b n:Nat}{cs:List Value}(B:cs.length=n+1)(q:jW b E.laid=some ⟨.cells cs 5,0,false⟩)(x:∀i v,cs[i]? = some v->w.cell? ⟨b,i,none⟩=some v/\qE v=true/\zX v=true)(σ:zU):∃o,w.heap[b]? = some o/\oA E σ (qCI E b) false (.cells cs 5) o:=by
 have l:n<cs.length:=by omega
 obtain⟨u,g2,g3⟩:=qRj q;obtain⟨ccs,A,C,y,t⟩:=qK8 (x n _ (List.getElem?_eq_getElem l)).1;refine⟨_,y,?_⟩;simp only[oA];rw[u,g2];refine⟨(λh=>by cases h),?_,lR _,g3,λi v p=>?_⟩
 ·have:=(Array.getElem?_eq_some_iff.1 t).1;omega
 obtain⟨k,j,g⟩:=x i v p;obtain⟨e,c,z,h3,r⟩:=qK8 k;rw[y]at h3;cases h3;refine⟨j,v,?_,.leaf g⟩;rw[Nat.zero_add];exact r
theorem tM:EE.laid=qE7:=by unfold EE;rfl
theorem qVe:qYp.length=256:=by simp[qYp]
theorem qWh:qYZ.length=32:=by simp[qYZ]
theorem qYj:jW 0 EE.laid=some ⟨.cells qYp 5,0,false⟩:=by rw[tM];unfold qE7 jW;exact if_pos rfl
theorem qYi:jW 1 EE.laid=some ⟨.cells qYZ 5,0,false⟩:=by rw[tM];unfold qE7 jW;rw[if_neg (by decide:¬1=0)];unfold jW;exact if_pos rfl
theorem qTV{w:World}(g:Utf8Tabs 0 1 w):TabOK EE EE.prog.globals.size w:=by
 have j:=qU8;refine⟨by rw[tM];decide,?_,?_⟩
 ·rw[tM];intro p b;simp only[qE7,List.mem_cons,List.mem_nil_iff,or_false]at b;rcases b with rfl|rfl
  ·exact⟨by omega,lR _,rfl⟩
  exact⟨by omega,Nat.zero_le _,rfl⟩
 rw[tM];intro p b σ;simp only[qE7,List.mem_cons,List.mem_nil_iff,or_false]at b;rcases b with rfl|rfl
 ·refine qJQ (n:=255) qVe qYj (λi v x=>?_) σ;simp only[qYp,List.getElem?_map]at x;cases y:(List.range 256)[i]? with
  |none=>rw[y]at x;cases x
  |some c=>
   have h:i<256:=by have:=(gI y).1;simpa using this
   rw[List.getElem?_range h]at y;cases y;rw[List.getElem?_range h]at x;cases x;exact⟨g.1 i h,rfl,rfl⟩
 refine qJQ (n:=31) qWh qYi (λi v x=>?_) σ;simp only[qYZ,List.getElem?_map]at x;cases y:(List.range 32)[i]? with
 |none=>rw[y]at x;cases x
 |some c=>
  have h:i<32:=by have:=(gI y).1;simpa using this
  rw[List.getElem?_range h]at y;cases y;rw[List.getElem?_range h]at x;cases x;refine⟨?_,rfl,rfl⟩;show w.cell? ⟨1,i,none⟩=some (.int .u8 ((if i%2=0 then accLo (i/2)else accHi (i/2):Nat):Int));by_cases e:i%2=0
  ·rw[if_pos e];have:=(g.2 (i/2) (by omega)).1;rw[show 2*(i/2)=i by omega]at this;exact this
  rw[if_neg e];have:=(g.2 (i/2) (by omega)).2;rw[show 2*(i/2)+1=i by omega]at this;exact this
theorem qYr:U8Extra Tryz.prog qCr:=⟨by kernel_rfl,by kernel_rfl,by kernel_rfl,by kernel_rfl,by kernel_rfl,by kernel_rfl,by kernel_rfl⟩
theorem qTW{w : World}(h3 : VarReads Tryz.prog w "unicode/utf8.first" firstData)(h : VarReads Tryz.prog w "unicode/utf8.acceptRanges" acceptData): TabOK EE EE.prog.globals.size w :=
 qTV (utf8Tabs_of_readsT (U8Types.of196 qUY) qYr h3 h)
end Go.Proofs.YtminhjecpnpaeaaGreatDoor
namespace Go.Proofs.YtminhjecpnpaeaaGreatDoor
open Go Go.Am Go.Proofs
mutual
theorem qF4{H:Type}:∀d:DataW H,xX d<=Rows.uptoBulk d
 |.lit l=>by cases l<;>simp[xX,Rows.uptoBulk]
 |.nil=>by simp[xX,Rows.uptoBulk]
 |.ptr d=>by have:=qF4 d;simp only[xX,Rows.uptoBulk];omega
 |.slice a b=>by have:=eL a;have:=eL b;simp only[xX,Rows.uptoBulk];omega
 |.agg a=>by have:=eL a;simp only[xX,Rows.uptoBulk];omega
 |.iface _ d=>by have:=qF4 d;simp only[xX,Rows.uptoBulk];omega
 |.map _=>by simp only[xX,Rows.uptoBulk];omega
 |.held _=>by simp[xX,Rows.uptoBulk]
theorem eL{H:Type}:∀l:List (DataW H),kT l<=Rows.uptoBulkAll l
 | []=>lR _
 |d::l=>by have:=qF4 d;have:=eL l;simp only[kT,Rows.uptoBulkAll];omega
end
theorem qUa:qAC Tryz.prog 100 Tryz.f3.params.toList=some [qMI,.int .i64,qEM]:=by kernel_rfl
theorem qQ5(ds:List D)(h:j8 1048576 [qMI,.int .i64,qEM] ds):Holds EE 3 ds (dB true):=by simp only[j8]at h;obtain⟨p,r,rfl,j,q,l,rfl,g,o,c,rfl,b,rfl⟩:=h;obtain⟨i,rfl⟩:=g;simp only[qEM,qC,j8]at b;obtain⟨_,rfl,f,_,rfl,k,t,_,rfl,e,p1,_,rfl,y,w,_,rfl,x,_,_,rfl,⟨u,rfl⟩,_,_,rfl,⟨v,rfl⟩,rfl⟩:=b;exact Ry.h3 (by simpa only[qC,j8]using j) (by simpa only[qC,j8]using k) (by simpa only[qC,j8]using e) (by simpa only[qC,j8]using y) (by simpa only[qC,j8]using x) qYW
theorem qQx:EE.prog=Tryz.prog:=by unfold EE;rfl
theorem qXB(t:TypeId)(x:TI)(h:EE.types.get t=some x):x.size=Tryz.prog.cellsOf t:=qIs he h
theorem qQ4{H:Type}{enc:TypeId×Value->H}{W:World}{args:List Value}{ds:List (DataW H)}{p:List MemPlace}(c:DataW.TrodAll enc Tryz.prog W 0 (λ_=>true) true Tryz.f3.params.toList args ds p)(h:∀(j:Nat) t v,Tryz.f3.params.toList[j]? = some t->args[j]? = some v->Value.okWide Tryz.prog W .any 0 t v)(b:kT ds<=1048576)(y:TabOK EE EE.prog.globals.size W):Calls Tryz.prog 3 ⟨args⟩ W λe w'=>e=.returned (.bool true)/\Kept W w':=by have k:=qUa;have i:=qXB;have h3:=qQx;have g:=qQ5;generalize x:Tryz.f3.params.toList=ts at *;generalize l:Tryz.prog=P at *;exact qIX (E:=EE) h3 i k g c h b y
open Go.ChangeShapes Go.WideShapes Go.ChangeAt Go.RowKit
namespace changeRules
theorem own:ownKnob Tryz.prog.godebug=none:=by kernel_rfl
theorem laid:laidOutB Tryz.prog=true:=by kernel_rfl
theorem qZS:mapsRowed Tryz.prog=true:=by kernel_rfl
theorem full:∀t e,t<Tryz.prog.types.size->Tryz.prog.underlying t=some (.slice e)->0<Tryz.prog.cellsOf e:=slices_full_of Tryz.prog (by kernel_rfl)
theorem qQw:∀t∈Tryz.f3.params.toList,t<Tryz.prog.types.size:=by
 have h:(Tryz.f3.params.toList.all λt=>Nat.blt t Tryz.prog.types.size)=true:=by kernel_rfl
 intro t x;exact o9 (List.all_eq_true.1 h t x)
def empty:Value:=.agg #[.slice none 0 0,.string ⟨#[]⟩,.slice none 0 0,.slice none 0 0,.slice none 0 0,.int .i64 0,.slice none 0 0,.slice none 0 0,.slice none 0 0]
def qFV:Value:=.agg #[.slice none 0 0,.slice none 0 0,.slice none 0 0,.slice none 0 0,.bool false,.bool false]
def qVz{H:Type}:DataW H:=.agg [.agg [.nil],.agg [.lit (.string []),.nil,.nil],.nil,.agg [.lit (.int .i64 0),.nil,.nil],.nil]
def qRP{H:Type}:DataW H:=.agg [.nil,.nil,.nil,.nil,.lit (.bool false),.lit (.bool false)]
abbrev lv: List (String × DataW Unit) := [("unicode/utf8.acceptRanges", Rows.laid_unicode_utf8_acceptRanges), ("unicode/utf8.first", Rows.laid_unicode_utf8_first)]
theorem qOh(h:Os):laidMet Tryz.prog Rows.changeRulesUptoRow.laid ((World.laidAll Tryz.prog h lv).forCall (λ_ _=>0) ⟨#[],#[empty,.int .i64 0,qFV],[]⟩).memory:=
 laidMet_laidAll (laid:=lv) _ (by kernel_rfl) (by kernel_rfl)
theorem qXI(x:Os){H:Type}(enc:TypeId×Value->H):∃h,DataW.whole enc Tryz.prog ((World.laidAll Tryz.prog x lv).forCall (λ_ _=>0) ⟨#[],#[empty,.int .i64 0,qFV],[]⟩).memory Tryz.f3.params.toList Rows.changeRulesSpec.vars false #[empty,.int .i64 0,qFV].toList 8=some ([qVz,.lit (.int .i64 0),qRP],[],h):=
 ⟨[],by kernel_rfl⟩
theorem qON:Rows.laid_unicode_utf8_first=Go.Lib.firstData:=by kernel_rfl
theorem qWg:(Rows.laid_unicode_utf8_acceptRanges:DataW Unit)=Go.Lib.acceptData:=by kernel_rfl
theorem qOM: ("unicode/utf8.first", Rows.laid_unicode_utf8_first) ∈ Rows.changeRulesUptoRow.laid := mC _ List.mem_cons_self
theorem qWf: ("unicode/utf8.acceptRanges", (Rows.laid_unicode_utf8_acceptRanges : DataW Unit)) ∈ Rows.changeRulesUptoRow.laid := List.mem_cons_self
set_option maxRecDepth 100000 in
theorem qUU(i:Os)(x:i.Started)(H:Type)(enc:TypeId×Value->H)(F:Stop.Interp):ReturnsInHanded {} Tryz.checked i 3 .any ((Rows.OpenSpec.upto Rows.changeRulesSpec).preRow enc Tryz.prog Tryz.f3 Rows.changeRulesUptoRow.domain false Rows.changeRulesUptoRow.laid) (((Rows.OpenSpec.upto Rows.changeRulesSpec).at F).post enc Tryz.prog Tryz.f3 false true false false):=by
 obtain⟨r,R⟩:=qXI i enc;refine returnsInHanded_of_row (C:=Tryz.checked) (s:=Rows.OpenSpec.upto Rows.changeRulesSpec) own x (by kernel_rfl) Tryz.func3 (witness_row_at (enc:=enc) (C:=Tryz.checked) false (World.laidAll Tryz.prog i lv) #[empty,.int .i64 0,qFV] (World.laidAll_os _ _ _) (by kernel_rfl) (by kernel_rfl) (by kernel_rfl) (OpenSpec.preRow_of_cond 8 R (by kernel_rfl) (λk u=>by cases u;kernel_rfl) (by kernel_rfl) (qOh i))) ?_;intro W base h ds gs pS c K _ A _ y _ _;have l:∀(j:Nat) t v,Tryz.f3.params[j]? = some t->h[j]? = some v->Value.okWide Tryz.prog W .any base t v:=c;have E:=K;obtain⟨p,q,G,X,rfl,V,U⟩:=K;have I:DataW.TrodAll enc Tryz.prog W 0 (λ_=>true) true Tryz.f3.params.toList h.toList ds p:=G;have b:=I;rw[Tryz.params3]at I;obtain⟨J,N,d0,ds0,p0,q0,B,rfl,rfl,h0,Q⟩:=trodAll_cons I;obtain⟨v1,M,d1,ds1,p1,q1,rfl,rfl,rfl,h1,P⟩:=trodAll_cons Q;obtain⟨v2,L,d2,ds2,p2,q2,rfl,rfl,rfl,h2,O⟩:=trodAll_cons P;obtain⟨rfl,rfl,rfl⟩:=trodAll_nil O;obtain rfl:h = #[J,v1,v2]:=by cases h;simp_all
 obtain⟨rfl,rfl⟩:=trodVars_none X;have z:=A _ rfl;have hB:kT [d0,d1,d2]<=1048576:=lT (eL _) (yB z);rw[Go.MakeChecks.laidMetH_plain _ _ _ (by kernel_rfl)]at y;have Z:TabOK EE EE.prog.globals.size W:=by obtain⟨ps,o,_⟩:=y;exact qTW (by rw[←qON];exact Go.Lib.LaidVars_reads o _ _ qOM) (by rw[←qWg];exact Go.Lib.LaidVars_reads o _ _ qWf)
 have g:Calls Tryz.prog 3 #[J,v1,v2] W λe w'=>e=.returned (.bool true)/\Kept W w':=qQ4 b (λj t v e1 e2=>show Value.okWide Tryz.prog W .any 0 t v from l j t v (by simpa using e1) (by simpa using e2)) hB Z;refine g.mono λe W' ⟨he,u⟩=>?_;subst he;exact⟨_,rfl,qFn (pv:=[]) E (λ_ _ _=>trodAll_cons_mk (shut_bool Tryz.underlying4 _) trodAll_mk0) (λsp w=>qDA laid qZS full qQw b u (λp S=>w p (List.mem_append_left _ S))) (λ_ _=>rfl) rfl u (ok_one (by kernel_rfl) rfl (okWide_bool_mk Tryz.underlying4 _))⟩
end changeRules
end Go.Proofs.YtminhjecpnpaeaaGreatDoor
