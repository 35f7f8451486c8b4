/- The law: the states of two documents are those of the first one, and then those of the second one. Conditions: none. -/
import Derived.Test.YtpbmnkajhedaiaaGreatHo
import Derived.Test.YtpbmnkajhedaiaaGreatHx
import Derived.Test.YtpbmnkajhedaiaaGreatOr
import Derived.Test.YtpbmnkajhedaiaaGreatRows
import Derived.ProofKit
import Derived.OpenShut
import Derived.JoinedCond
set_option linter.all false
namespace Go.Proofs.YtpbmnkajhedaiaaGreat
open Go Go.Am Go.Proofs Go.Am.Tt
theorem qXi(m:Int)(p:Nat){x y:Operand}:TOp.eval EE (.bin .rem 3 x y) [dI m,dI ((p+1:Nat):Int)]=some (dI (m.tmod ((p+1:Nat):Int))):=by kernel_rfl
theorem zAt(m:Int):TOp.eval EE (.conv 5 3) [.leaf (.int .u8 m)]=some (dI (IntKind.i64.wrap m)):=by kernel_rfl
theorem qZY:TOp.eval EE (.lit 73 4) []=some (.sl 73 4 []):=rfl
theorem qVS{el sz:Nat}{w:D}{b:Nat}(y:xU el sz w)(h:b<=w.es.length):∃d,TOp.eval EE (.slc el sz false true) [w,dI ((b:Nat):Int)]=some d/\xU el sz d/\d.es=w.es.take b:=by
 rcases y with rfl|⟨es,rfl,x⟩
 ·refine⟨.nil,?_,.inl rfl,by rw[show(D.nil).es=[]from rfl,List.take_nil]⟩;have c:b=0:=Nat.le_zero.1 h;subst c;rfl
 have h:b<=es.length:=h;refine⟨.sl el sz (es.take b),?_,.inr ⟨_,rfl,Nat.lt_of_le_of_lt (by rw[List.length_take];exact Nat.min_le_right _ _) x⟩,rfl⟩;have e:vQ true es.length [dI ((b:Nat):Int)]=some (b,[]):=rfl;have g:vQ false 0 [dI ((b:Nat):Int)]=some (0,[dI ((b:Nat):Int)]):=rfl;rw[cK];simp only[e,g,Nat.beq_refl,bL h,bL (Nat.zero_le b),Bool.and_self,cond_true,List.drop_zero,Nat.sub_zero]
theorem qVT{el sz:Nat}{w:D}{b:Nat}(y:xU el sz w)(h:b<=w.es.length):∃d,TOp.eval EE (.slc el sz true false) [w,dI ((b:Nat):Int)]=some d/\xU el sz d/\d.es=w.es.drop b:=by
 rcases y with rfl|⟨es,rfl,x⟩
 ·refine⟨.nil,?_,.inl rfl,by rw[show(D.nil).es=[]from rfl,List.drop_nil]⟩;have c:b=0:=Nat.le_zero.1 h;subst c;rfl
 have h:b<=es.length:=h;refine⟨.sl el sz (es.drop b),?_,.inr ⟨_,rfl,Nat.lt_of_le_of_lt (by rw[List.length_drop];exact Nat.sub_le _ _) x⟩,rfl⟩;have e:vQ true 0 [dI ((b:Nat):Int)]=some (b,[]):=rfl;have g:vQ false es.length []=some (es.length,[]):=rfl;rw[cK];simp only[e,g,Nat.beq_refl,bL h,bL (vE es.length),Bool.and_self,cond_true];rw[List.take_of_length_le (by rw[List.length_drop];omega)]
theorem qSk{ns:List Tr.Nt}{i:Int}(h:∀n∈ns,n.tx.size<=1048576):(Tr.gd ns i).tx.size<=1048576:=by
 unfold Tr.gd;cases x:Tr.getN ns i with
 |none=>exact Nat.zero_le _
 |some n=>exact h n (List.mem_of_find?_eq_some x)
theorem qFD{X Y:D}(j:qC 1048576 qYe X)(b:xU 63 7 Y)(g:∀d∈Y.es,d∈X.es):qQJ Y (Y.es.map wW):=by
 refine⟨b,(List.length_map _).symm,λi c h=>?_⟩;rw[List.getElem?_map]at h;cases hd:Y.es[i]? with
 |none=>rw[hd]at h;cases h
 |some d=>rw[hd]at h;cases h;obtain⟨di,nm,ln,dy,sp,T,M,e,y,x,k,l,p,q,o⟩:=qCR (sX j d (g d (List.mem_of_getElem? hd)));exact⟨d,rfl,nm,ln,dy,sp,T,M,by rw[o];exact e,y,x.one,qA k,p,qA l,q⟩
theorem qRf{X:D}(k:qC 1048576 qYe X):∀w∈(X.es.map wW).flatMap (Tr.wP j0 7),w.2.size<=1048576:=λw h=>by
 obtain⟨c,j,h⟩:=List.mem_flatMap.1 h
 obtain⟨d,hd,rfl⟩:=List.mem_map.1 j
 obtain⟨n,hn,rfl⟩:=List.mem_map.1 h
 refine qSk λm i=>?_
 obtain⟨di,nm,ln,dy,sp,T,M,e,g,b,p,l,r,o,q⟩:=qCR (sX k d hd)
 have y:mO m∈M.es:=by rw[o];exact List.mem_map_of_mem i
 obtain⟨_,he,_,_,rfl,_,_,_,rfl,_,_,_,rfl,_,_,_,rfl,_,_,_,rfl,_,_,_,rfl,_,_,_,rfl,⟨s,rfl,x⟩,_⟩:=sX l _ y
 cases he
 exact x
theorem eO:∀(cs:List Tr.Dc),(∀c∈cs,tZ c)->(cs.flatMap (Tr.wP j0 7)).length<=cs.length*7529536
 | [],_=>Nat.zero_le _
 |c::r,h=>by rw[List.flatMap_cons,List.length_append,List.length_cons,Nat.succ_mul];have:=eO r λx y=>h x (mC _ y);have:=qHR (h c List.mem_cons_self);omega
theorem qCr{l:List D}(h:∀x∈l,qJq x)(e:l.length<=300000000):qC BN (.sl 73 4 zBe) (zF 73 4 l):=nN e λx y=>by
 obtain⟨a,b,k,p,rfl,c⟩:=h x y
 exact lH (qW vO (qW vO (qW vO (qW c jY))))
attribute [local irreducible] Go.Am.wp Go.Am.TOp.eval
theorem zCW{G X l:D}{m:Int}(hG:qC 1048576 lY G)(I:qC 1048576 qYe X)(hl:qC 1048576 qMt l)(hm0:0<=m)(hm1:m<=255):Holds EE 5 [G,X,l,.leaf (.int .u8 m)] (dB true):=by
 have F:=qA I;have i_l:=qA hl;have b_X:X.es.length<=1048576:=qO I;have b_l:l.es.length<=1048576:=qO hl;have C:qM Ht.n23 l:=vY (B:=1048576) rfl hl;obtain⟨_,rfl,gs,_,rfl,hg,nm,_,rfl,O,us,_,rfl,M,lt,_,rfl,P,rs,_,rfl,N,_,_,rfl,⟨n,rfl⟩,ws,_,rfl,J,fs,_,rfl,hf,le,_,rfl,hle,rfl⟩:=hG;obtain⟨b12,k12,f12⟩:=qR3 (n:=n) hg O M P N J hf hle;have g:nm.one=true:=by obtain⟨_,h,_⟩:=O;rw[h];rfl
 have u:=qA hg;have j:=qA M;have p:=qA P;have o:=qA N;have i:=qA J;have A:=qA hf;have r:=qA hle;obtain⟨e17,k17⟩:∃e:Int,Holds EE 17 [l] (dI e):=by obtain⟨rs,h1,_,h2⟩:=Ht.sp17 [l] (by simp only[Ht.e17,qU];exact⟨_,_,rfl,C,rfl⟩) (λq hq=>by cases hq);simp only[Ht.e17,qU]at h1;obtain⟨_,_,rfl,⟨e,rfl⟩,rfl⟩:=h1;exact⟨e,h2⟩
 obtain⟨b,k7,f7⟩:=g7 (gs:=[gs,nm,us,lt,rs,dI n,ws,fs,le]) I i_l b_l rfl k12 k17;refine u5 rfl (qE.step' ?_);refine bS (qD rfl) ?_;refine cS k7 ?_;refine bS jU ?_;cases hb:b with
 |false=>refine qL (t:=true) (congrArg (λq=>dB q) rfl) ?_;refine xJ ?_;refine cS h8 ?_;exact qF rfl rfl
 | true=>
  obtain⟨zDM,h2,hgd⟩:=f7 hb;have W:=f12 zDM;have V:∀c∈X.es.map wW,tZ c:=λc hcm=>by obtain⟨d,hd,rfl⟩:=List.mem_map.1 hcm;exact hgd d hd
  have H:=qRf I;have ecv:TOp.eval EE (.conv 5 3) [.leaf (.int .u8 m)]=some (dI m):=by obtain⟨q,hq⟩:∃q:Nat,m=(q:Int):=⟨m.toNat,by omega⟩;rw[zAt,hq,qHO (by unfold zI;omega)]
  obtain⟨k,hk,Q⟩:∃k:Nat,m.tmod ((X.es.length+1:Nat):Int)=(k:Int)/\k<=X.es.length:=by
   refine⟨m.toNat%(X.es.length+1),?_,?_⟩
   ·obtain⟨q,rfl⟩:∃q:Nat,m=(q:Int):=⟨m.toNat,by omega⟩;rfl
   have:=Nat.mod_lt m.toNat (show 0<X.es.length+1 by omega);omega
  have erm:TOp.eval EE (.bin .rem 3 (.tmp 18) (.tmp 21)) [dI m,dI ((X.es.length+1:Nat):Int)]=some (dI ((k:Nat):Int)):=by rw[qXi,hk]
  obtain⟨Y,eY,i_Y,hY⟩:=qVS (el:=63) (sz:=7) F Q;obtain⟨Z,eZ,i_Z,hZ⟩:=qVT (el:=63) (sz:=7) F Q;have sY:∀d∈Y.es,d∈X.es:=λd hd=>by rw[hY]at hd;exact List.mem_of_mem_take hd
  have sZ:∀d∈Z.es,d∈X.es:=λd hd=>by rw[hZ]at hd;exact List.mem_of_mem_drop hd
  have rX:=qFD I F λ_ h=>h;have rY:=qFD I i_Y sY;have rZ:=qFD I i_Z sZ;have eX:X.es.map wW=Y.es.map wW++Z.es.map wW:=by rw[hY,hZ,←List.map_append,List.take_append_drop]
  have lX:(X.es.map wW).length<=2:=by rw[List.length_map];exact h2
  have lYZ:(Y.es.map wW).length+(Z.es.map wW).length<=2:=by rw[←List.length_append,←eX];exact lX
  have cY:∀c∈Y.es.map wW,tZ c:=λc h=>V c (by rw[eX];exact List.mem_append_left _ h);have cZ:∀c∈Z.es.map wW,tZ c:=λc h=>V c (by rw[eX];exact List.mem_append_right _ h);have wX:(X.es.map wW).flatMap (Tr.wP j0 7)=(Y.es.map wW).flatMap (Tr.wP j0 7)++(Z.es.map wW).flatMap (Tr.wP j0 7):=by rw[eX,List.flatMap_append]
  have zY:∀w∈(Y.es.map wW).flatMap (Tr.wP j0 7),w.2.size<=1048576:=λw h=>H w (by rw[wX];exact List.mem_append_left _ h);have zZ:∀w∈(Z.es.map wW).flatMap (Tr.wP j0 7),w.2.size<=1048576:=λw h=>H w (by rw[wX];exact List.mem_append_right _ h);have aX:=zC9 W u.one g j.one p.one o.one rfl i.one A.one r.one C rX V lX H;have aY:=zC9 W u.one g j.one p.one o.one rfl i.one A.one r.one C rY cY (by omega) zY;have aZ:=zC9 W u.one g j.one p.one o.one rfl i.one A.one r.one C rZ cZ (by omega) zZ;have nX:=eO _ V;have nY:=eO _ cY;have nZ:=eO _ cZ;have K:∀w:Tr.Wd,w.2.size<=1048576->qJq (qDt [gs,nm,us,lt,rs,dI n,ws,fs,le] l w):=λw h=>qN2 rfl W C h;rw[wX]at aX nX H;rw[List.map_append]at aX;generalize (Y.es.map wW).flatMap (Tr.wP j0 7)=y at *;generalize (Z.es.map wW).flatMap (Tr.wP j0 7)=z at *;have sy:∀x∈y.map (qDt [gs,nm,us,lt,rs,dI n,ws,fs,le] l),qJq x:=λx L=>by obtain⟨w,J,rfl⟩:=List.mem_map.1 L;exact K w (zY w J)
  have sz:∀x∈z.map (qDt [gs,nm,us,lt,rs,dI n,ws,fs,le] l),qJq x:=λx L=>by obtain⟨w,J,rfl⟩:=List.mem_map.1 L;exact K w (zZ w J)
  have ly:(y.map (qDt [gs,nm,us,lt,rs,dI n,ws,fs,le] l)).length<=15059072:=by rw[List.length_map];omega
  have lz:(z.map (qDt [gs,nm,us,lt,rs,dI n,ws,fs,le] l)).length<=15059072:=by rw[List.length_map];omega
  generalize y.map (qDt [gs,nm,us,lt,rs,dI n,ws,fs,le] l)=U at *;generalize z.map (qDt [gs,nm,us,lt,rs,dI n,ws,fs,le] l)=zl at *;have hyl:=qCr sy (by omega);have hzl:=qCr sz (by omega);have S:=qJi (E:=EE) (bytes:=48) (l:=[]) hyl (by decide) (by rw[xX,List.length_nil];omega);rw[xX]at S;have qVb:=qJi (E:=EE) (bytes:=48) (l:=[]++U) hzl (by decide) (by rw[xX,List.length_append,List.length_nil];omega);rw[xX]at qVb;have R:∀x∈U++zl,qJq x:=λx L=>(List.mem_append.1 L).elim (sy x) (sz x);have k14:=zFQ (A_:=zF 73 4 (U++zl)) (B_:=.sl 73 4 ([]++U++zl)) (qGy (by rw[List.length_append];omega)) (.inr ⟨_,rfl,by rw[List.length_append,List.length_append,List.length_nil];unfold zI;omega⟩) (by rw[xX,List.length_append];omega) (by rw[xX];rfl) (by rw[xX];exact R);refine qL (t:=false) (congrArg (λq=>dB q) rfl) ?_;refine jH ?_;refine bS ecv ?_;refine bS (qI F) ?_;refine bS (d:=dI ((X.es.length+1:Nat):Int)) (qY (qN (by omega))) ?_;refine bS erm ?_;refine bS qZY ?_;refine bS eY ?_;refine cS aY ?_;refine bS S ?_;refine bS eZ ?_;refine cS aZ ?_;refine bS qVb ?_;refine cS aX ?_;refine cS k14 ?_;refine qL (t:=true) rfl ?_;refine xJ ?_;refine cS h8 ?_;exact qF rfl rfl
end Go.Proofs.YtpbmnkajhedaiaaGreat
namespace Go.Proofs.YtpbmnkajhedaiaaGreat
open Go Go.Am Go.Proofs
namespace recheckParts
mutual
theorem qFK{H:Type}:∀d:DataW H,wE d<=Rows.uptoBulk d
 |.lit l=>by cases l<;>simp[wE,Rows.uptoBulk]
 |.nil=>by simp[wE,Rows.uptoBulk]
 |.ptr d=>by have:=qFK d;simp only[wE,Rows.uptoBulk];omega
 |.slice a b=>by have:=eI a;have:=eI b;simp only[wE,Rows.uptoBulk];omega
 |.agg a=>by have:=eI a;simp only[wE,Rows.uptoBulk];omega
 |.iface _ d=>by have:=qFK d;simp only[wE,Rows.uptoBulk];omega
 |.map _=>by simp only[wE,Rows.uptoBulk];omega
 |.held _=>by simp[wE,Rows.uptoBulk]
theorem eI{H:Type}:∀l:List (DataW H),kP l<=Rows.uptoBulkAll l
 | []=>vE _
 |d::l=>by have:=qFK d;have:=eI l;simp only[kP,Rows.uptoBulkAll];omega
end
theorem qVV:qAq Tryz.prog 100 Tryz.f5.params.toList=some [lY,qYe,qMt,.int .u8]:=by kernel_rfl
theorem qR9(ds:List D)(h:jG [lY,qYe,qMt,.int .u8] ds)(e:jP ds<=1048576):Holds EE 5 ds (dB true):=by
 have x:=iW h e;simp only[j4]at x;obtain⟨a,_,rfl,j,b,_,rfl,x,c,_,rfl,i,d,_,rfl,hd,rfl⟩:=x;have hd:∃m,d=.leaf (.int .u8 m):=by simpa only[qC]using hd
 obtain⟨m,rfl⟩:=hd;have g:pQ (.leaf (.int .u8 m))<1000000000000:=by simp only[jP]at e;omega
 obtain⟨y,m1⟩:=qPc g;have y:0<=m:=y;have m1:m<=255:=m1;exact zCW j x i y m1
theorem qRw:EE.prog=Tryz.prog:=rfl
theorem qZB(t:TypeId)(x:TI)(h:EE.types.get t=some x):x.size=Tryz.prog.cellsOf t:=qIc he h
theorem qR8{H:Type}{enc:TypeId×Value->H}{W:World}{args:List Value}{ds:List (DataW H)}{p:List MemPlace}(b:DataW.TrodAll enc Tryz.prog W 0 (λ_=>true) true Tryz.f5.params.toList args ds p)(h:∀(j:Nat) t v,Tryz.f5.params.toList[j]? = some t->args[j]? = some v->Value.okWide Tryz.prog W .any 0 t v)(y:kP ds<=1048576):Calls Tryz.prog 5 ⟨args⟩ W λe w'=>e=.returned (.bool true)/\Kept W w':=by have k:=qVV;have i:=qZB;have g:=qRw;have c:=qR9;generalize x:Tryz.f5.params.toList=ts at *;generalize l:Tryz.prog=P at *;exact qIC (E:=EE) g i k c b h y
open Go.ChangeShapes Go.WideShapes Go.ChangeAt Go.RowKit
theorem own:ownKnob Tryz.prog.godebug=none:=by kernel_rfl
theorem laid:laidOutB Tryz.prog=true:=by kernel_rfl
theorem zCQ:mapsRowed Tryz.prog=true:=by kernel_rfl
theorem full:∀t e,t<Tryz.prog.types.size->Tryz.prog.underlying t=some (.slice e)->0<Tryz.prog.cellsOf e:=slices_full_of Tryz.prog (by kernel_rfl)
theorem zFR:∀t∈Tryz.f5.params.toList,t<Tryz.prog.types.size:=by
 have h:(Tryz.f5.params.toList.all λt=>Nat.blt t Tryz.prog.types.size)=true:=by kernel_rfl
 intro t x;exact oK (List.all_eq_true.1 h t x)
def qXq:Value:=.agg #[.slice none 0 0,.string ⟨#[]⟩,.slice none 0 0,.slice none 0 0,.slice none 0 0,.int .i64 0,.slice none 0 0,.slice none 0 0,.slice none 0 0]
def qSB{H:Type}:DataW H:=.agg [.agg [.nil],.agg [.lit (.string []),.nil,.nil],.nil,.agg [.lit (.int .i64 0),.nil,.nil],.nil]
set_option maxRecDepth 100000 in
theorem qWT(os:Os)(y:os.Started)(H:Type)(enc:TypeId×Value->H)(F:Stop.Interp):ReturnsInHanded {} Tryz.checked os 5 .any ((Rows.OpenSpec.upto Rows.recheckPartsSpec).pre6 enc Tryz.prog Tryz.f5 Rows.recheckPartsUptoRow.domain false) (((Rows.OpenSpec.upto Rows.recheckPartsSpec).at F).post enc Tryz.prog Tryz.f5 false true false false):=by
 refine returnsInHanded_of_cond (C:=Tryz.checked) (s:=Rows.OpenSpec.upto Rows.recheckPartsSpec) (k:=Rows.uptoSmall) rfl own y (by kernel_rfl) Tryz.func5 (OpenSpec.witness (enc:=enc) (C:=Tryz.checked) (s:=Rows.OpenSpec.upto Rows.recheckPartsSpec) (k:=Rows.uptoSmall) rfl false ⟨#[],#[qXq,.slice none 0 0,.slice none 0 0,.int .u8 0],[]⟩ 8 (by kernel_rfl) (by kernel_rfl) (by kernel_rfl) (x:=([qSB,.nil,.nil,.lit (.int .u8 0)],[],[])) (by kernel_rfl) rfl (by kernel_rfl)) ?_;intro W base h ds gs pB c B _ l _;have i:∀(j:Nat) t v,Tryz.f5.params[j]? = some t->h[j]? = some v->Value.okWide Tryz.prog W .any base t v:=c;have r:=B;obtain⟨p,q,u,R,rfl,Q,P⟩:=B;have w:DataW.TrodAll enc Tryz.prog W 0 (λ_=>true) true Tryz.f5.params.toList h.toList ds p:=u;have b:=w;rw[Tryz.params5]at w;obtain⟨z,J,d0,ds0,p0,q0,o,rfl,rfl,h0,N⟩:=trodAll_cons w;obtain⟨v1,I,d1,ds1,p1,q1,rfl,rfl,rfl,h1,M⟩:=trodAll_cons N;obtain⟨v2,G,d2,Z,p2,q2,rfl,rfl,rfl,h2,L⟩:=trodAll_cons M;obtain⟨v3,E,d3,X,p3,q3,rfl,rfl,rfl,h3,K⟩:=trodAll_cons L;obtain⟨rfl,rfl,rfl⟩:=trodAll_nil K;obtain rfl:h = #[z,v1,v2,v3]:=by cases h;simp_all
 obtain⟨rfl,rfl⟩:=trodVars_none R;have S:kP [d0,d1,d2,d3]<=1048576:=lT (eI _) (dT l);have g:Calls Tryz.prog 5 #[z,v1,v2,v3] W λe w'=>e=.returned (.bool true)/\Kept W w':=qR8 b (λj t v V U=>show Value.okWide Tryz.prog W .any 0 t v from i j t v (by simpa using V) (by simpa using U)) S;refine g.mono λe W' ⟨he,A⟩=>?_;subst he;exact⟨_,rfl,qE7 (pv:=[]) r (λ_ _ _=>trodAll_cons_mk (shut_bool Tryz.underlying4 _) trodAll_mk0) (λsp mJ=>qDr laid zCQ full zFR b A (λp O=>mJ p (List.mem_append_left _ O))) (λ_ _=>rfl) rfl A (ok_one (by kernel_rfl) rfl (okWide_bool_mk Tryz.underlying4 _))⟩
end recheckParts
end Go.Proofs.YtpbmnkajhedaiaaGreat
