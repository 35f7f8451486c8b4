/- ChangeNets: what the call does in any world with small arguments, in the form's words. Conditions: none. -/
import Derived.Test.YtocbbgmhkhallaaGreatDoorBs
import Derived.Test.YtocbbgmhkhallaaGreatDoorBt
import Derived.Test.YtocbbgmhkhallaaGreatDoorOr
import Derived.Test.YtocbbgmhkhallaaGreatDoorTie
import Derived.Test.YtocbbgmhkhallaaGreatDoorCards
import Derived.ProofKit
import Derived.LaidMore
import Derived.Lay
import Derived.SevenTiedAt
import Derived.OpenShut
import Derived.JoinedCond
import Derived.Stop.Joined
import Derived.Deep.DeepHandedRow
set_option linter.unusedVariables false
set_option linter.unusedSimpArgs false
namespace Go.Proofs.YtocbbgmhkhallaaGreatDoor
open Go Go.Am Go.Proofs
mutual
theorem qGu{H:Type}:∀d:DataW H,wR d<=Rows.uptoBulk d
 |.lit l=>by cases l<;>simp[wR,Rows.uptoBulk]
 |.nil=>by simp[wR,Rows.uptoBulk]
 |.ptr d=>by have:=qGu d;simp only[wR,Rows.uptoBulk];omega
 |.slice a b=>by have:=e9 a;have:=e9 b;simp only[wR,Rows.uptoBulk];omega
 |.agg a=>by have:=e9 a;simp only[wR,Rows.uptoBulk];omega
 |.iface _ d=>by have:=qGu d;simp only[wR,Rows.uptoBulk];omega
 |.map _=>by simp only[wR,Rows.uptoBulk];omega
 |.held _=>by simp[wR,Rows.uptoBulk]
theorem e9{H:Type}:∀l:List (DataW H),gF l<=Rows.uptoBulkAll l
 | []=>vP _
 |d::l=>by have:=qGu d;have:=e9 l;simp only[gF,Rows.uptoBulkAll];omega
end
abbrev zFP:Sh:=.st [.int .i64,qQt,nS]
theorem qVZ:qAM Tryz.prog 100 Tryz.f3.params.toList=some [qYJ,zFP,qGz]:=by kernel_rfl
theorem qRW(ds:LR)(h:jL 1048576 [qYJ,zFP,qGz] ds):qA EE 3 ds (dB true):=by simp only[jL]at h;obtain⟨p,r,rfl,w,q,A,rfl,u,o,c,rfl,z,rfl⟩:=h;obtain⟨_,rfl,x0,_,rfl,t,_,_,rfl,⟨s1,rfl,y⟩,x2,_,rfl,l,x3,_,rfl,k,x4,_,rfl,j,_,_,rfl,⟨x5,rfl⟩,x6,_,rfl,i,x7,_,rfl,g,x8,_,rfl,e,rfl⟩:=w;obtain⟨_,rfl,_,_,rfl,⟨st,rfl⟩,xs,_,rfl,x,fs,_,rfl,b,rfl⟩:=u;exact h3 t y l k j i g e x b z zBU
theorem qRf:EE.prog=Tryz.prog:=by unfold EE;rfl
theorem zAD(t:LN)(x:TI)(h:EE.types.get t=some x):x.size=Tryz.prog.cellsOf t:=qIM he h
theorem qRV{H:Type}{enc:LN×LQ->H}{W:LP}{args:LA}{ds:List (DataW H)}{p:List MemPlace}(b:DataW.TrodAll enc Tryz.prog W 0 (λ_=>true) true Tryz.f3.params.toList args ds p)(h:∀(j:Nat) t v,Tryz.f3.params.toList[j]? = some t->args[j]? = some v->Value.okWide Tryz.prog W .any 0 t v)(y:gF ds<=1048576):Calls Tryz.prog 3 ⟨args⟩ W λe w'=>e=.returned (.bool true)/\Kept W w':=by have i:=qVZ;have g:=zAD;have h3:=qRf;have c:=qRW;generalize x:Tryz.f3.params.toList=ts at *;generalize k:Tryz.prog=P at *;exact qJc (E:=EE) h3 g i c b h y
open Go.ChangeShapes Go.WideShapes Go.ChangeAt Go.RowKit
namespace changeNets
theorem own:ownKnob Tryz.prog.godebug=none:=by kernel_rfl
theorem laid:laidOutB Tryz.prog=true:=by kernel_rfl
theorem zDl:mapsRowed Tryz.prog=true:=by kernel_rfl
theorem full:∀t e,t<Tryz.prog.types.size->Tryz.prog.underlying t=some (.slice e)->0<Tryz.prog.cellsOf e:=slices_full_of Tryz.prog (by kernel_rfl)
theorem qRe:∀t∈Tryz.f3.params.toList,t<Tryz.prog.types.size:=by
 have h:(Tryz.f3.params.toList.all λt=>Nat.blt t Tryz.prog.types.size)=true:=by kernel_rfl
 intro t x;exact oA (al.1 h t x)
def empty:LQ:=.agg #[.slice none 0 0,.string ⟨#[]⟩,.slice none 0 0,.slice none 0 0,.slice none 0 0,.int .i64 0,.slice none 0 0,.slice none 0 0,.slice none 0 0]
def qGj:LQ:=.agg #[.int .i64 0,.slice none 0 0,.slice none 0 0]
def qXJ{H:Type}:DataW H:=.agg [.agg [.nil],.agg [.lit (.string []),.nil,.nil],.nil,.agg [.lit (.int .i64 0),.nil,.nil],.nil]
def qSD{H:Type}:DataW H:=.agg [.lit (.int .i64 0),.nil,.nil]
abbrev lv: List (String × DataW Unit) := [("unicode/utf8.acceptRanges", Rows.laid_unicode_utf8_acceptRanges), ("unicode/utf8.first", Rows.laid_unicode_utf8_first)]
theorem qPb(h:Os):laidMet Tryz.prog Rows.changeNetsUptoRow.laid ((World.laidAll Tryz.prog h lv).forCall (λ_ _=>0) ⟨#[],#[empty,qGj,.slice none 0 0],[]⟩).memory:=
 laidMet_laidAll (laid:=lv) _ (by kernel_rfl) (by kernel_rfl)
theorem zAF(x:Os){H:Type}(enc:LN×LQ->H):∃h,DataW.whole enc Tryz.prog ((World.laidAll Tryz.prog x lv).forCall (λ_ _=>0) ⟨#[],#[empty,qGj,.slice none 0 0],[]⟩).memory Tryz.f3.params.toList Rows.changeNetsSpec.vars false #[empty,qGj,.slice none 0 0].toList 8=some ([qXJ,qSD,.nil],[],h):=
 ⟨[],by kernel_rfl⟩
set_option maxRecDepth 100000 in
theorem qWT(g:Os)(x:g.Started)(H:Type)(enc:LN×LQ->H)(F:Stop.Interp):ReturnsInHanded {} Tryz.checked g 3 .any ((Rows.OpenSpec.upto Rows.changeNetsSpec).preRow enc Tryz.prog Tryz.f3 Rows.changeNetsUptoRow.domain false Rows.changeNetsUptoRow.laid) (((Rows.OpenSpec.upto Rows.changeNetsSpec).at F).post enc Tryz.prog Tryz.f3 false true false false):=by
 obtain⟨l,O⟩:=zAF g enc;refine returnsInHanded_of_row (C:=Tryz.checked) (s:=Rows.OpenSpec.upto Rows.changeNetsSpec) own x (by kernel_rfl) Tryz.func3 (witness_row_at (enc:=enc) (C:=Tryz.checked) false (World.laidAll Tryz.prog g lv) #[empty,qGj,.slice none 0 0] (World.laidAll_os _ _ _) (by kernel_rfl) (by kernel_rfl) (by kernel_rfl) (OpenSpec.preRow_of_cond 8 O (by kernel_rfl) (λk o=>by cases o;kernel_rfl) (by kernel_rfl) (qPb g))) ?_;intro W base h ds gs rC b G _ u _ _ _ _;have i:∀(j:Nat) t v,Tryz.f3.params[j]? = some t->h[j]? = some v->Value.okWide Tryz.prog W .any base t v:=b;have z:=G;obtain⟨p,q,A,S,rfl,R,Q⟩:=G;have B:DataW.TrodAll enc Tryz.prog W 0 (λ_=>true) true Tryz.f3.params.toList h.toList ds p:=A;have y:=B;rw[Tryz.params3]at B;obtain⟨E,K,d0,ds0,p0,q0,w,rfl,rfl,h0,N⟩:=trodAll_cons B;obtain⟨v1,J,d1,ds1,p1,q1,rfl,rfl,rfl,h1,M⟩:=trodAll_cons N;obtain⟨v2,I,d2,Z,p2,q2,rfl,rfl,rfl,h2,L⟩:=trodAll_cons M;obtain⟨rfl,rfl,rfl⟩:=trodAll_nil L;obtain rfl:h = #[E,v1,v2]:=by cases h;simp_all
 obtain⟨rfl,rfl⟩:=trodVars_none S;have r:=u _ rfl;have U:gF [d0,d1,d2]<=1048576:=lT (e9 _) (dT r);have c:Calls Tryz.prog 3 #[E,v1,v2] W λe w'=>e=.returned (.bool true)/\Kept W w':=qRV y (λj t v X V=>show Value.okWide Tryz.prog W .any 0 t v from i j t v (by simpa using X) (by simpa using V)) U;refine c.mono λe W' ⟨he,o⟩=>?_;subst he;exact⟨_,rfl,qFG (pv:=[]) z (λ_ _ _=>trodAll_cons_mk (shut_bool Tryz.underlying4 _) trodAll_mk0) (λsp bO=>qDO laid zDl full qRe y o (λp P=>bO p (dz _ P))) (λ_ _=>rfl) rfl o (ok_one (by kernel_rfl) rfl (okWide_bool_mk Tryz.underlying4 _))⟩
end changeNets
end Go.Proofs.YtocbbgmhkhallaaGreatDoor
