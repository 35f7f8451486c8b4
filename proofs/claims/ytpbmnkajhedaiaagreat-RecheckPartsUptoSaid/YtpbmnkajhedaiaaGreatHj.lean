/- States of words about which nothing was decided. Conditions: none. -/
import Derived.Test.YtpbmnkajhedaiaaGreatHd
import Derived.Test.YtpbmnkajhedaiaaGreatDi
set_option linter.all false
namespace Go.Proofs.YtpbmnkajhedaiaaGreat
open Go Go.Am Go.Proofs
theorem qDG{E:Env}{x:FuncId->List D->D->Prop}{Q:Res1->Prop}{ρ':List D}{f:FuncId}{m:Go.Am.Mode}{xs:List SV}{r:Tree}{ρ y ds:List D}(h:x (Nat.add cQ f) (.mode m::y) (gZ ds))(c:SV.ds (getD ρ) xs=y)(g:ds.length=m.out.sts.length)(b:ρ++ds=ρ')(e:wp E x Q r ρ'):wp E x Q (.callM f m xs r) ρ:=by simp only[wp];grind
abbrev BN:Nat:=300000000
abbrev qJn:Sh:=.sl 71 1 (.st [qBr])
theorem qJi{E:Env}{B:Nat}{el sz bytes:Nat}{l:List D}{b:D}{e:Sh}(c:qC B (.sl el sz e) b)(h:bytes<=80)(j:l.length+b.es.length<=300000000):TOp.eval E (.app el sz bytes) [.sl el sz l,b]=some (.sl el sz (l++b.es)):=by
 have i:∀(b:Bool) (x y:Option D),b=true->(bif b then x else y)=x:=λb x y c=>by rw[c];rfl
 rw[i9];simp only[qC]at c;rcases c with rfl|⟨es,rfl,k,o⟩
 ·have g:Nat.ble (Nat.mul (Nat.add (Nat.mul 4 l.length) 4000) (Nat.succ bytes)) 100000000000=true:=lL (by have:(D.nil).es.length=0:=rfl;omega) h;refine(i _ _ _ g).trans ?_;show some (D.sl el sz l)=some (D.sl el sz (l++[]));rw[List.append_nil]
 have g:Nat.ble (Nat.mul (Nat.add (Nat.mul 4 (Nat.add l.length es.length)) 4000) (Nat.succ bytes)) 100000000000=true:=lL j h;refine(i _ _ _ (by rw[g];show(true&&Nat.beq sz sz&&(Nat.beq el el&&Nat.beq sz sz))=true;rw[Nat.beq_refl,Nat.beq_refl];rfl)).trans ?_;rw[qZ];split
 ·rename_i p;have:es=[]:=List.length_eq_zero_iff.1 p;rw[this];show _=some (D.sl el sz (l++[]));rw[List.append_nil]
 rfl
theorem qVa{L:D}(h:qC BN qJn L){i:Nat}(b:i<L.es.length):∃p,L.es[i]? = some (.agg [p])/\qC BN qBr p:=by have x:=List.getElem?_eq_getElem b;have he:=zO h x;simp only[qC,j4]at he;obtain⟨ds,e,p,_,rfl,y,rfl⟩:=he;exact⟨p,by rw[x,e],y⟩
theorem rW{E:Env}{cs:List D}{off:Nat}{x:D}(h:cs[off]? = some x)(y:x.one=true):TOp.eval E (.loadp false 1) [.ptr cs off]=some x:=by rw[qHb];unfold mW;grind
theorem qZ5:TOp.eval EE (.isNil false) [.nil]=some (dB true):=rfl
theorem qZ6{el sz:Nat}{es:List D}:TOp.eval EE (.isNil false) [.sl el sz es]=some (dB false):=rfl
theorem zCU:TOp.eval EE (.lit 71 1) []=some (.sl 71 1 []):=rfl
attribute [local irreducible] Go.Am.wp Go.Am.TOp.eval
theorem zGd{F:D}:Holds EE 80 [.nil,F] (dI (-1)):=by
 refine zEl rfl (qE.step' ?_);refine bS (d:=dI (((D.nil).es.length:Nat):Int)) (qI (show xU 0 0 D.nil from .inl rfl)) ?_;refine qS rfl (qE.step' ?_);refine bS qP ?_;refine iC (λc=>?_) λc=>?_
 ·have:=dT c;exact absurd this (by decide)
 exact qF rfl rfl
theorem zGf{F:D}:Holds EE 50 [.nil,F] (dB false):=by refine zEr rfl (qE.step' ?_);refine cS zGd ?_;refine bS kT ?_;exact qF rfl rfl
theorem qZP{a b:Int}:Holds EE 81 [.nil,.agg [dI a,dI b]] (.tup [.agg [.nil],dB false]):=by
 refine zFy rfl (qE.step' ?_);refine bS (qD rfl) ?_;refine bS (d:=dI (((D.nil).es.length:Nat):Int)) (qI (show xU 0 0 D.nil from .inl rfl)) ?_;refine qS rfl (qE.step' ?_);refine bS qP ?_;refine iC (λc=>?_) λc=>?_
 ·have:=dT c;exact absurd this (by decide)
 exact rN rfl rfl
theorem zCH{p:D}{a b:Int}(h:p.one=true):Holds EE 136 [.agg [p],.ptr [.nil] 0,.ptr [dI a,dI b] 0] (dB false):=by refine zB9 rfl (qE.step' ?_);refine bS (qD rfl) ?_;refine bS qBl ?_;refine bS (rW (cs:=[D.nil]) (off:=0) rfl rfl) ?_;refine bS tN ?_;refine cS zGf ?_;exact qF rfl rfl
theorem zCG{L:D}{a b:Int}(hL:qC BN qJn L):Holds EE 170 [L,.clo (.func 136) [] [.ptr [.nil] 0,.ptr [dI a,dI b] 0]] (dI (-1)):=by
 have h:=qA hL;have e:L.es.length<=300000000:=qO hL;refine zB3 rfl (qE.step' ?_);refine bS (qI h) ?_;refine qS rfl (cG (P:=λi=>qE EE (Holds EE) qNm 1 [L,.clo (.func 136) [] [.ptr [.nil] 0,.ptr [dI a,dI b] 0],dI ((L.es.length:Nat):Int),dI ((i:Nat):Int)] (dI (-1))) L.es.length ?_ ?_)
 ·refine qE.step' ?_;refine bS qP ?_;refine iC (λc=>?_) λc=>?_
  ·have:=xN c;omega
  exact qF rfl rfl
 intro i k g;obtain⟨p,x,j⟩:=qVa hL k;have y:=(qA j).one;refine qE.step' ?_;refine bS qP ?_;refine iC (λc=>?_) λc=>?_
 ·skip;refine bS (qV (s:=((i:Nat):Int)) (by omega) x) ?_;refine bS (zU (s:=((i:Nat):Int)) h (by omega) x rfl) ?_;refine cS (zCH y) ?_;refine qL (t:=false) rfl ?_;refine jH ?_;refine bS (d:=dI ((i+1:Nat):Int)) (qY (qN (by omega))) ?_;exact qS rfl g
 have:=wJ c;omega
theorem zCI{L:D}(hL:qC BN qJn L):∃K,qC BN qJn K/\Holds EE (Nat.add cQ 135) (.mode nO::[L]) (gZ [K]):=by
 have b:=qA hL;have x:L.es.length<=300000000:=qO hL;have y:=hL;simp only[qC]at y;rcases y with h|⟨es,h,c,he⟩
 ·refine⟨.nil,.inl rfl,qMH (qE.step' ?_) ⟨[_],rfl,rfl⟩⟩;show wp _ _ _ aO _;refine bS (h▸qZ5) ?_;refine qL (t:=true) rfl ?_;refine xJ ?_;exact qF rfl rfl
 refine⟨.sl 71 1 ([]++L.es),rD (by rw[List.nil_append];exact x) (by rw[List.nil_append,h];exact he),qMH (qE.step' ?_) ⟨[_],rfl,rfl⟩⟩;show wp _ _ _ aO _;refine bS (h▸qZ6) ?_;refine qL (t:=false) rfl ?_;refine jH ?_;refine bS zCU ?_;refine bS (d:=.sl 71 1 ([]++L.es)) (qJi hL (by decide) (by rw[List.length_nil];omega)) ?_;exact qF rfl rfl
theorem zCJ{L:D}{a b:Int}(hL:qC BN qJn L):Holds EE (Nat.add cQ 134) (.mode nP::[L,.clo (.func 136) [] [.ptr [.nil] 0,.ptr [dI a,dI b] 0]]) (gZ [L]):=by
 refine qVi (qE.step' ?_) ⟨[_],rfl,rfl⟩;show wp _ _ _ qBu _;refine cS (zCG hL) ?_;refine bS jO ?_;refine iC (λc=>?_) λc=>?_
 ·exact qF rfl rfl
 grind
end Go.Proofs.YtpbmnkajhedaiaaGreat
namespace Go.Proofs.YtpbmnkajhedaiaaGreat.Ht
open Go Go.Am Go.Proofs Go.Am.Tt
def n0:Sn:=(.st [(.sl 108 2 1048576 (.st [(.str 1048576),(.int .i64)]))])
def n1:Sn:=(.ptr [(.sl 108 2 1048576 (.st [(.str 1048576),(.int .i64)]))])
def n2:Sn:=(.sl 3 1 BG (.int .i64))
def n3:Sn:=(.clo 226 [] [(.ptr [(.sl 108 2 1048576 (.st [(.str 1048576),(.int .i64)]))])])
def n4:Sn:=(.sl 3 1 1048576 (.int .i64))
def n5:Sn:=(.sl 89 6 1048576 (.wh (.st [(.sl 3 1 1048576 (.int .i64)),(.sl 3 1 1048576 (.int .i64)),(.sl 295 2 1048576 (.st [(.int .i64),(.int .i64)])),(.sl 295 2 1048576 (.st [(.int .i64),(.int .i64)])),.bool,.bool]) [(.aT [0,0],.aT [0,1],0),(.aT [0,1],.aT [0,0],0)]))
def n6:Sn:=(.sl 108 2 1048576 (.st [(.str 1048576),(.int .i64)]))
def n7:Sn:=(.sl 110 2 1048576 (.wh (.st [(.str 1048576),(.sl 3 1 1048576 (.int .i64))]) [(.z,.aT [0,1],-1),(.aT [0,1],.z,3)]))
def n8:Sn:=(.sl 172 1 1048576 (.sl 9 1 1048576 (.str 1048576)))
def n9:Sn:=(.sl 112 3 1048576 (.wh (.st [(.int .i64),(.int .i64),(.int .i64)]) [(.z,.aT [0,0],0),(.z,.aT [0,2],0)]))
def n10:Sn:=(.sl 3 1 1048576 (.wh (.int .i64) [(.z,aA 0,0)]))
def gG:Sn:=(.sl 119 8 1048576 (.st [(.int .i64),(.sl 3 1 1048576 (.int .i64)),(.int .i64),(.sl 31 1 1048576 (.sl 3 1 1048576 (.int .i64))),(.int .i64),(.sl 114 2 1048576 (.st [(.str 1048576),(.str 1048576)])),(.sl 179 2 1048576 (.st [(.int .i64),(.int .i64)])),(.sl 50 2 1048576 (.st [(.int .i64),(.int .i64)]))]))
def m9:Sn:=(.mp none .bool)
def n13:Sn:=(.st [(.sl 108 2 1048576 (.st [(.str 1048576),(.int .i64)])),(.str 1048576),(.sl 110 2 1048576 (.wh (.st [(.str 1048576),(.sl 3 1 1048576 (.int .i64))]) [(.z,.aT [0,1],-1),(.aT [0,1],.z,3)])),(.sl 172 1 1048576 (.sl 9 1 1048576 (.str 1048576))),(.sl 89 6 1048576 (.wh (.st [(.sl 3 1 1048576 (.int .i64)),(.sl 3 1 1048576 (.int .i64)),(.sl 295 2 1048576 (.st [(.int .i64),(.int .i64)])),(.sl 295 2 1048576 (.st [(.int .i64),(.int .i64)])),.bool,.bool]) [(.aT [0,0],.aT [0,1],0),(.aT [0,1],.aT [0,0],0)])),(.int .i64),(.sl 112 3 1048576 (.wh (.st [(.int .i64),(.int .i64),(.int .i64)]) [(.z,.aT [0,0],0),(.z,.aT [0,2],0)])),(.sl 3 1 1048576 (.wh (.int .i64) [(.z,aA 0,0)])),(.sl 119 8 1048576 (.st [(.int .i64),(.sl 3 1 1048576 (.int .i64)),(.int .i64),(.sl 31 1 1048576 (.sl 3 1 1048576 (.int .i64))),(.int .i64),(.sl 114 2 1048576 (.st [(.str 1048576),(.str 1048576)])),(.sl 179 2 1048576 (.st [(.int .i64),(.int .i64)])),(.sl 50 2 1048576 (.st [(.int .i64),(.int .i64)]))]))])
def xD:Sn:=(.sl 71 1 200 (.st [(.sl 121 3 1048576 (.st [(.int .i64),(.int .i64),(.int .i64)]))]))
def qJZ:Sn:=(.st [(.int .i64),(.sl 3 1 1048576 (.int .i64)),(.int .i64),(.sl 31 1 1048576 (.sl 3 1 1048576 (.int .i64))),(.int .i64),(.sl 114 2 1048576 (.st [(.str 1048576),(.str 1048576)])),(.sl 179 2 1048576 (.st [(.int .i64),(.int .i64)])),(.sl 50 2 1048576 (.st [(.int .i64),(.int .i64)]))])
def qRU:Sn:=(.sl 31 1 BG (.sl 3 1 1048576 (.int .i64)))
def qUU:Sn:=(.sl 5 1 1048576 (.int .u8))
def qUT:Sn:=(.st [(.int .i64),(.int .i64),(.int .i64)])
def k8:Sn:=(.sl 121 3 1048576 (.st [(.int .i64),(.int .i64),(.int .i64)]))
def n20:Sn:=(.clo 229 [] [])
def qBd:Sn:=(.st [(.sl 121 3 1048576 (.st [(.int .i64),(.int .i64),(.int .i64)]))])
def qUS:Sn:=(.sl 121 3 BG (.st [(.int .i64),(.int .i64),(.int .i64)]))
def n23:Sn:=(.sl 97 4 BG (.st [(.int .i64),(.int .i64),.bool,(.sl 121 3 1048576 (.st [(.int .i64),(.int .i64),(.int .i64)]))]))
def zBq:Sn:=(.st [(.int .i64),(.int .i64)])
def zCF:Sn:=(.st [(.sl 121 3 BG (.st [(.int .i64),(.int .i64),(.int .i64)]))])
def zBp:Sn:=(.st [(.int .i64),(.int .i64),.bool,(.sl 121 3 1048576 (.st [(.int .i64),(.int .i64),(.int .i64)]))])
def zEW:Sn:=(.ptr [(.int .i64),(.int .i64)])
def zGk:Sn:=(.ptr [(.sl 121 3 1048576 (.st [(.int .i64),(.int .i64),(.int .i64)]))])
def zCE:Sn:=(.clo 137 [] [(.ptr [(.int .i64),(.int .i64)]),(.ptr [(.sl 121 3 1048576 (.st [(.int .i64),(.int .i64),(.int .i64)]))])])
def zGj:Sn:=(.ptr [(.sl 97 4 BG (.st [(.int .i64),(.int .i64),.bool,(.sl 121 3 1048576 (.st [(.int .i64),(.int .i64),(.int .i64)]))]))])
def zBo:Sn:=(.clo 136 [] [(.ptr [(.sl 97 4 BG (.st [(.int .i64),(.int .i64),.bool,(.sl 121 3 1048576 (.st [(.int .i64),(.int .i64),(.int .i64)]))]))]),(.ptr [(.int .i64),(.int .i64)])])
def n32:Sn:=(.st [(.int .i64),(.int .i64),(.int .i64),(.sl 121 3 1048576 (.st [(.int .i64),(.int .i64),(.int .i64)]))])
def qYa:Sn:=(.sl 73 4 BG (.st [(.int .i64),(.int .i64),(.int .i64),(.sl 121 3 1048576 (.st [(.int .i64),(.int .i64),(.int .i64)]))]))
def zEV:Sn:=(.clo 33 [] [])
def qWy:Sn:=.any
def zEU:Sn:=(.sl 102 4 BG (.st [(.str 1048576),(.int .i64),(.int .i64),(.int .i64)]))
def zGi:Sn:=(.st [(.int .i64),(.str 1048576),(.int .i64),(.int .i64),(.sl 3 1 BG (.int .i64)),(.sl 102 4 BG (.st [(.str 1048576),(.int .i64),(.int .i64),(.int .i64)])),(.sl 106 7 BG (.st [(.int .i64),(.int .i64),(.int .i64),(.int .i64),(.int .i64),(.int .i64),(.str 1048576)]))])
def zGh:Sn:=(.st [(.int .i64),(.int .i64),(.int .i64),(.int .i64),(.int .i64),(.int .i64),(.str 1048576)])
def zGg:Sn:=(.sl 106 7 BG (.st [(.int .i64),(.int .i64),(.int .i64),(.int .i64),(.int .i64),(.int .i64),(.str 1048576)]))
def qWK:Go.Am.Mode:=⟨⟨[⟨.pure,false⟩,⟨.pure,false⟩,⟨.pure,true⟩,⟨.pure,true⟩,⟨.pure,true⟩,⟨.pure,true⟩,⟨.pure,true⟩,⟨.pure,true⟩,⟨.pure,true⟩,⟨.pure,true⟩,⟨.pure,true⟩,⟨.pure,true⟩,⟨.pure,true⟩,⟨.pure,true⟩,⟨.fresh,true⟩,⟨.pure,false⟩,⟨.fresh,true⟩,⟨.pure,true⟩],[(0,.loc 0 0),(1,.v 0),(2,.v 1)],[some (.cells [.v 2,.v 3,.v 4,.v 5,.v 6,.v 7,.v 8,.v 9,.v 10,.v 11,.v 12,.v 13,.v 14,.fn (.func 201) [] [.loc 1 0,.loc 2 0]]),some (.whole (.v 15) 9),some (.cells [.fn (.func 198) [] [.loc 3 0,.loc 4 0]]),some (.cells [.v 16]),some (.cells [.v 17])],[]⟩,3,⟨[⟨.pure,false⟩,⟨.pure,true⟩,⟨.pure,true⟩,⟨.pure,true⟩,⟨.pure,true⟩,⟨.pure,true⟩,⟨.pure,true⟩,⟨.pure,true⟩,⟨.pure,true⟩,⟨.pure,true⟩,⟨.pure,true⟩,⟨.pure,true⟩,⟨.pure,true⟩,⟨.fresh,true⟩,⟨.pure,false⟩,⟨.fresh,true⟩,⟨.pure,true⟩],[(0,.v 0)],[some (.cells [.v 1,.v 2,.v 3,.v 4,.v 5,.v 6,.v 7,.v 8,.v 9,.v 10,.v 11,.v 12,.v 13,.fn (.func 201) [] [.loc 1 0,.loc 2 0]]),some (.whole (.v 14) 9),some (.cells [.fn (.func 198) [] [.loc 3 0,.loc 4 0]]),some (.cells [.v 15]),some (.cells [.v 16])],[]⟩⟩
def qOY:Go.Am.Mode:=⟨⟨[⟨.pure,false⟩,⟨.pure,true⟩,⟨.pure,true⟩,⟨.pure,true⟩,⟨.pure,true⟩,⟨.pure,true⟩,⟨.pure,true⟩,⟨.pure,true⟩,⟨.pure,true⟩,⟨.pure,true⟩,⟨.pure,true⟩,⟨.pure,true⟩,⟨.pure,true⟩,⟨.fresh,true⟩,⟨.pure,false⟩,⟨.fresh,true⟩,⟨.pure,true⟩],[(0,.loc 0 0),(1,.v 0)],[some (.cells [.v 1,.v 2,.v 3,.v 4,.v 5,.v 6,.v 7,.v 8,.v 9,.v 10,.v 11,.v 12,.v 13,.fn (.func 201) [] [.loc 1 0,.loc 2 0]]),some (.whole (.v 14) 9),some (.cells [.fn (.func 198) [] [.loc 3 0,.loc 4 0]]),some (.cells [.v 15]),some (.cells [.v 16])],[]⟩,2,⟨[⟨.pure,false⟩,⟨.pure,true⟩,⟨.pure,true⟩,⟨.pure,true⟩,⟨.pure,true⟩,⟨.pure,true⟩,⟨.pure,true⟩,⟨.pure,true⟩,⟨.pure,true⟩,⟨.pure,true⟩,⟨.pure,true⟩,⟨.pure,true⟩,⟨.pure,true⟩,⟨.fresh,true⟩,⟨.pure,false⟩,⟨.fresh,true⟩,⟨.pure,true⟩],[(0,.v 0)],[some (.cells [.v 1,.v 2,.v 3,.v 4,.v 5,.v 6,.v 7,.v 8,.v 9,.v 10,.v 11,.v 12,.v 13,.fn (.func 201) [] [.loc 1 0,.loc 2 0]]),some (.whole (.v 14) 9),some (.cells [.fn (.func 198) [] [.loc 3 0,.loc 4 0]]),some (.cells [.v 15]),some (.cells [.v 16])],[]⟩⟩
def qWM:Go.Am.Mode:=⟨⟨[⟨.pure,false⟩,⟨.fresh,true⟩,⟨.pure,true⟩],[(0,.v 0),(1,.loc 0 0),(2,.loc 1 0)],[some (.cells [.v 1]),some (.cells [.v 2])],[]⟩,3,⟨[⟨.pure,false⟩,⟨.fresh,true⟩,⟨.pure,true⟩],[(0,.v 0)],[some (.cells [.v 1]),some (.cells [.v 2])],[]⟩⟩
def oC:Go.Am.Mode:=⟨⟨[⟨.pure,false⟩,⟨.pure,false⟩,⟨.pure,false⟩,⟨.fresh,true⟩,⟨.pure,true⟩],[(0,.v 0),(1,.v 1),(2,.v 2),(3,.fn (.func 198) [] [.loc 0 0,.loc 1 0])],[some (.cells [.v 3]),some (.cells [.v 4])],[]⟩,4,⟨[⟨.pure,false⟩,⟨.fresh,true⟩,⟨.pure,true⟩],[(0,.v 0)],[some (.cells [.v 1]),some (.cells [.v 2])],[]⟩⟩
def qFm:Go.Am.Mode:=⟨⟨[⟨.pure,false⟩,⟨.pure,false⟩,⟨.pure,false⟩,⟨.fresh,true⟩,⟨.pure,true⟩],[(0,.v 0),(1,.v 1),(2,.loc 0 0),(3,.loc 1 0)],[some (.whole (.v 2) 9),some (.cells [.fn (.func 198) [] [.loc 2 0,.loc 3 0]]),some (.cells [.v 3]),some (.cells [.v 4])],[]⟩,4,⟨[⟨.pure,false⟩,⟨.pure,false⟩,⟨.fresh,true⟩,⟨.pure,true⟩],[(0,.v 0)],[some (.whole (.v 1) 9),some (.cells [.fn (.func 198) [] [.loc 2 0,.loc 3 0]]),some (.cells [.v 2]),some (.cells [.v 3])],[]⟩⟩
def uQ:Go.Am.Mode:=⟨⟨[⟨.pure,false⟩,⟨.pure,false⟩,⟨.pure,false⟩,⟨.pure,true⟩,⟨.pure,true⟩,⟨.pure,true⟩,⟨.pure,true⟩,⟨.pure,true⟩,⟨.pure,true⟩,⟨.pure,true⟩,⟨.pure,true⟩,⟨.pure,true⟩,⟨.pure,true⟩,⟨.pure,true⟩,⟨.pure,true⟩,⟨.fresh,true⟩,⟨.pure,false⟩,⟨.fresh,true⟩,⟨.pure,true⟩],[(0,.loc 0 0),(1,.v 0),(2,.v 1),(3,.v 2)],[some (.cells [.v 3,.v 4,.v 5,.v 6,.v 7,.v 8,.v 9,.v 10,.v 11,.v 12,.v 13,.v 14,.v 15,.fn (.func 201) [] [.loc 1 0,.loc 2 0]]),some (.whole (.v 16) 9),some (.cells [.fn (.func 198) [] [.loc 3 0,.loc 4 0]]),some (.cells [.v 17]),some (.cells [.v 18])],[]⟩,4,⟨[⟨.pure,false⟩,⟨.pure,true⟩,⟨.pure,true⟩,⟨.pure,true⟩,⟨.pure,true⟩,⟨.pure,true⟩,⟨.pure,true⟩,⟨.pure,true⟩,⟨.pure,true⟩,⟨.pure,true⟩,⟨.pure,true⟩,⟨.pure,true⟩,⟨.pure,true⟩,⟨.fresh,true⟩,⟨.pure,false⟩,⟨.fresh,true⟩,⟨.pure,true⟩],[(0,.v 0)],[some (.cells [.v 1,.v 2,.v 3,.v 4,.v 5,.v 6,.v 7,.v 8,.v 9,.v 10,.v 11,.v 12,.v 13,.fn (.func 201) [] [.loc 1 0,.loc 2 0]]),some (.whole (.v 14) 9),some (.cells [.fn (.func 198) [] [.loc 3 0,.loc 4 0]]),some (.cells [.v 15]),some (.cells [.v 16])],[]⟩⟩
def qCa:Go.Am.Mode:=⟨⟨[⟨.pure,false⟩,⟨.pure,false⟩,⟨.pure,false⟩,⟨.pure,false⟩,⟨.pure,true⟩,⟨.pure,true⟩,⟨.pure,true⟩,⟨.pure,true⟩,⟨.pure,true⟩,⟨.pure,true⟩,⟨.pure,true⟩,⟨.pure,true⟩,⟨.pure,true⟩,⟨.pure,true⟩,⟨.pure,true⟩,⟨.pure,true⟩,⟨.fresh,true⟩,⟨.pure,false⟩,⟨.fresh,true⟩,⟨.pure,true⟩],[(0,.loc 0 0),(1,.v 0),(2,.v 1),(3,.v 2),(4,.v 3)],[some (.cells [.v 4,.v 5,.v 6,.v 7,.v 8,.v 9,.v 10,.v 11,.v 12,.v 13,.v 14,.v 15,.v 16,.fn (.func 201) [] [.loc 1 0,.loc 2 0]]),some (.whole (.v 17) 9),some (.cells [.fn (.func 198) [] [.loc 3 0,.loc 4 0]]),some (.cells [.v 18]),some (.cells [.v 19])],[]⟩,5,⟨[⟨.pure,false⟩,⟨.pure,true⟩,⟨.pure,true⟩,⟨.pure,true⟩,⟨.pure,true⟩,⟨.pure,true⟩,⟨.pure,true⟩,⟨.pure,true⟩,⟨.pure,true⟩,⟨.pure,true⟩,⟨.pure,true⟩,⟨.pure,true⟩,⟨.pure,true⟩,⟨.fresh,true⟩,⟨.pure,false⟩,⟨.fresh,true⟩,⟨.pure,true⟩],[(0,.v 0)],[some (.cells [.v 1,.v 2,.v 3,.v 4,.v 5,.v 6,.v 7,.v 8,.v 9,.v 10,.v 11,.v 12,.v 13,.fn (.func 201) [] [.loc 1 0,.loc 2 0]]),some (.whole (.v 14) 9),some (.cells [.fn (.func 198) [] [.loc 3 0,.loc 4 0]]),some (.cells [.v 15]),some (.cells [.v 16])],[]⟩⟩
def qWL:Go.Am.Mode:=⟨⟨[⟨.pure,false⟩,⟨.pure,false⟩,⟨.pure,false⟩,⟨.fresh,true⟩,⟨.pure,true⟩],[(0,.v 0),(1,.v 1),(2,.fn (.func 201) [] [.loc 0 0,.loc 1 0])],[some (.whole (.v 2) 9),some (.cells [.fn (.func 198) [] [.loc 2 0,.loc 3 0]]),some (.cells [.v 3]),some (.cells [.v 4])],[]⟩,3,⟨[⟨.pure,false⟩,⟨.fresh,true⟩,⟨.pure,true⟩],[],[some (.whole (.v 0) 9),some (.cells [.fn (.func 198) [] [.loc 2 0,.loc 3 0]]),some (.cells [.v 1]),some (.cells [.v 2])],[]⟩⟩
def nO:Go.Am.Mode:=⟨⟨[⟨.pure,false⟩],[(0,.v 0)],[],[]⟩,1,⟨[⟨.fresh,true⟩],[(0,.v 0)],[],[]⟩⟩
def nP:Go.Am.Mode:=⟨⟨[⟨.fresh,true⟩,⟨.pure,false⟩],[(0,.v 0),(1,.v 1)],[],[]⟩,2,⟨[⟨.pure,false⟩],[(0,.v 0)],[],[]⟩⟩
def qRg:List (Nat×Sn):=[(31,n4),(5,(.int .u8)),(3,(.int .i64)),(71,qBd),(121,qUT)]
def qKE:List (TypeId×TypeId×IntKind×IntKind):=[(3,5,.i64,.u8)]
def qJR:List (Bool×TypeId×Int):=[]
def qJD:List (Nat×(Nat×List Sn)):=[(50,(4,[(.int .i64),(.int .i64)])),(121,(4,[(.int .i64),(.int .i64),(.int .i64)]))]
def qWC:List (Nat×(Option IntKind×Sn)):=[(288,(none,.bool))]
theorem cN:∀x∈qKE,qJs EE x:=oM (λm=>⟨IntKind.u8.wrap m,by kernel_rfl⟩)<|eL
theorem b9:∀x∈qJR,qJo EE x:=eL
theorem bU:∀x∈qJD,qFP EE x:=oM (sA (by kernel_rfl))<|oM (sA (by kernel_rfl))<|eL
def TT:Tb:=qX7 qRg qKE qJR qJD qWC
theorem TT_ok:TbOk EE TT:=qBB cN b9 bU (by kernel_rfl)
def qSD:En:=⟨227,[],⟨[n0,(.int .i64)],[.bool],[],[]⟩,[],[sC 1001]⟩
def zAI:En:=⟨226,[],⟨[(.int .i64),n1],[.bool],[],[]⟩,[],[sC 1001]⟩
def p0:List (Nat×Pat):=[(1,⟨[⟨.pure,false⟩,⟨.pure,false⟩,⟨.pure,true⟩,⟨.pure,true⟩],[(0,.v 0),(1,.v 1),(7,.v 2),(8,.v 3)],[],[]⟩)]
def zAD:En:=⟨242,p0,⟨[n2,n3],[(.int .i64)],[],[(.z,aA 2,1),(aA 2,aA 0,-1)]⟩,[(1,⟨[n2,n3,(.int .i64),(.int .i64)],[(aA 2,aA 0,0),(aA 4,aA 2,0),(.z,aA 5,0)],[sC 999,cC 5,sC 1001]⟩)],[sC 1001,sC 0,sC 0]⟩
def zAJ:En:=⟨225,[],⟨[n2,n3],[.bool],[],[]⟩,[],[sC 1001]⟩
def zAR:En:=⟨197,[],⟨[n0,n2],[(.int .i64)],[],[(.z,aA 2,0)]⟩,[],[sC 1001]⟩
def p1:List (Nat×Pat):=[(1,⟨[⟨.pure,false⟩,⟨.pure,false⟩,⟨.pure,true⟩,⟨.pure,true⟩],[(1,.v 0),(7,.v 1),(8,.v 2),(9,.v 3)],[],[]⟩)]
def zAC:En:=⟨243,p1,⟨[n4,(.int .i64)],[.bool],[],[]⟩,[(1,⟨[(.int .i64),n4,(.int .i64),(.int .i64)],[(aA 4,aA 3,0),(aA 4,aA 0,0),(.z,aA 5,0)],[sC 999,cC 5,sC 1001]⟩)],[sC 1001,sC 0,sC 0]⟩
def p2:List (Nat×Pat):=[(1,⟨[⟨.pure,false⟩,⟨.pure,true⟩,⟨.pure,true⟩],[(5,.v 0),(6,.v 1),(7,.v 2)],[],[]⟩)]
def zAF:En:=⟨230,p2,⟨[n5],[.bool],[],[]⟩,[(1,⟨[n5,(.int .i64),(.int .i64)],[(aA 2,aA 1,0),(.z,aA 3,0)],[sC 999,cC 3,sC 1001]⟩)],[sC 1001,sC 0,sC 0]⟩
def p3:List (Nat×Pat):=[(1,⟨[⟨.pure,false⟩,⟨.pure,false⟩,⟨.pure,true⟩,⟨.pure,true⟩,⟨.pure,true⟩,⟨.pure,true⟩,⟨.pure,true⟩,⟨.pure,true⟩,⟨.pure,true⟩,⟨.pure,true⟩,⟨.pure,true⟩,⟨.pure,true⟩,⟨.pure,true⟩,⟨.pure,true⟩,⟨.pure,true⟩,⟨.pure,true⟩,⟨.pure,true⟩,⟨.fresh,true⟩,⟨.pure,false⟩,⟨.fresh,true⟩,⟨.pure,true⟩],[(1,.v 0),(2,.v 1),(7,.v 2),(15,.v 3),(16,.v 4),(17,.v 5)],[some (.cells [.v 6,.v 7,.v 8,.v 9,.v 10,.v 11,.v 3,.v 12,.v 13,.v 14,.v 15,.v 16,.v 17,.fn (.func 201) [] [.loc 1 0,.loc 2 0]]),some (.whole (.v 18) 9),some (.cells [.fn (.func 198) [] [.loc 3 0,.loc 4 0]]),some (.cells [.v 19]),some (.cells [.v 20])],[]⟩)]
def zAA:EnM:=⟨245,qWK,p3,⟨[(.int .u32),(.int .i64),n6,(.str 1048576),n7,n8,n5,(.int .i64),n9,n10,gG,n2,.bool,(.int .u32),m9,n13,xD,.bool],[(.int .u32),n6,(.str 1048576),n7,n8,n5,(.int .i64),n9,n10,gG,n2,.bool,(.int .u32),m9,n13,xD,.bool],[],[(aA 19,aA 2,0),(aA 2,aA 19,0),(aA 20,aA 3,0),(aA 3,aA 20,0),(aA 21,aA 4,0),(aA 4,aA 21,0),(aA 22,aA 5,0),(aA 5,aA 22,0),(aA 23,aA 6,0),(aA 6,aA 23,0),(aA 25,aA 8,0),(aA 8,aA 25,0),(aA 26,aA 9,0),(aA 9,aA 26,0),(aA 27,aA 10,0),(aA 10,aA 27,0),(aA 28,aA 11,0),(aA 11,aA 28,0),(aA 33,aA 16,0),(aA 16,aA 33,0)]⟩,[(1,⟨[(.int .u32),(.int .i64),(.int .u32),n9,(.int .i64),(.int .i64),n6,(.str 1048576),n7,n8,n5,(.int .i64),n10,gG,n2,.bool,(.int .u32),m9,n13,xD,.bool],[(aA 22,aA 21,0),(aA 21,aA 22,0),(aA 22,aA 8,0),(aA 8,aA 22,0),(.z,aA 23,0),(aA 24,aA 2,0),(aA 2,aA 24,0),(aA 25,aA 3,0),(aA 3,aA 25,0),(aA 26,aA 4,0),(aA 4,aA 26,0),(aA 27,aA 5,0),(aA 5,aA 27,0),(aA 28,aA 6,0),(aA 6,aA 28,0),(aA 30,aA 9,0),(aA 9,aA 30,0),(aA 31,aA 10,0),(aA 10,aA 31,0),(aA 32,aA 11,0),(aA 11,aA 32,0),(aA 37,aA 16,0),(aA 16,aA 37,0)],[sC 999,cC 23,sC 1001]⟩)],[sC 1001,sC 0,sC 0]⟩
def qSE:En:=⟨218,[],⟨[qJZ],[qRU],[],[(aA 1,.aT [0,3],1)]⟩,[],[sC 1001]⟩
def p4:List (Nat×Pat):=[(1,⟨[⟨.fresh,true⟩,⟨.pure,false⟩,⟨.pure,true⟩,⟨.pure,true⟩],[(3,.v 0),(9,.v 1),(10,.v 2),(11,.v 3)],[],[]⟩)]
def zAy:En:=⟨251,p4,⟨[n4],[(.str 1048576)],[(aA 0,.z,24),(.z,aA 0,-1)],[]⟩,[(1,⟨[qUU,n4,(.int .i64),(.int .i64)],[(aA 3,aA 2,0),(.z,aA 3,-1),(aA 4,aA 1,0),(aA 1,aA 4,0)],[sC 999,cC 4,sC 1001]⟩)],[sC 1001,sC 0,sC 0]⟩
def p5:List (Nat×Pat):=[(1,⟨[⟨.pure,false⟩,⟨.pure,false⟩,⟨.pure,true⟩,⟨.pure,true⟩],[(0,.v 0),(1,.v 1),(12,.v 2),(13,.v 3)],[],[]⟩)]
def zAY:En:=⟨132,p5,⟨[n2,n2],[.bool],[],[]⟩,[(1,⟨[n2,n2,(.int .i64),(.int .i64)],[(aA 4,aA 2,0),(aA 4,aA 3,0),(.z,aA 5,0)],[sC 999,cC 5,sC 1001]⟩)],[sC 1001,sC 0,sC 0]⟩
def zAB:EnM:=⟨244,qOY,[],⟨[n4,n6,(.str 1048576),n7,n8,n5,(.int .i64),n9,n10,gG,n2,.bool,(.int .u32),m9,n13,xD,.bool],[.bool,n6,(.str 1048576),n7,n8,n5,(.int .i64),n9,n10,gG,n2,.bool,(.int .u32),m9,n13,xD,.bool],[(aA 10,.z,24),(.z,aA 10,-1),(aA 0,aA 10,0),(aA 10,aA 0,0)],[(aA 18,aA 1,0),(aA 1,aA 18,0),(aA 19,aA 2,0),(aA 2,aA 19,0),(aA 20,aA 3,0),(aA 3,aA 20,0),(aA 21,aA 4,0),(aA 4,aA 21,0),(aA 22,aA 5,0),(aA 5,aA 22,0),(aA 24,aA 7,0),(aA 7,aA 24,0),(aA 25,aA 8,0),(aA 8,aA 25,0),(aA 26,aA 9,0),(aA 9,aA 26,0),(aA 27,aA 10,0),(aA 10,aA 27,0),(aA 32,aA 15,0),(aA 15,aA 32,0)]⟩,[],[sC 1001]⟩
def zBv:En:=⟨78,[],⟨[(.int .i64)],[.bool],[],[]⟩,[],[sC 1001]⟩
def zBw:En:=⟨44,[],⟨[(.int .i64),(.int .i64)],[(.int .i64)],[],[(.z,aA 2,1)]⟩,[],[sC 1001]⟩
def p6:List (Nat×Pat):=[(1,⟨[⟨.pure,false⟩,⟨.pure,true⟩,⟨.pure,true⟩],[(3,.c (.int .i64 0)),(6,.v 0),(7,.v 1),(8,.v 2)],[],[]⟩)]
def zBx:En:=⟨43,p6,⟨[n4],[(.int .i64)],[],[]⟩,[(1,⟨[n4,(.int .i64),(.int .i64)],[(aA 1,aA 0,0),(aA 2,aA 1,0),(.z,aA 3,0)],[sC 999,cC 3,sC 1001]⟩)],[sC 1001,sC 0,sC 0]⟩
def zAG:En:=⟨229,[],⟨[qUT,qUT],[(.int .i64)],[],[]⟩,[],[sC 1001]⟩
def p7:List (Nat×Pat):=[(1,⟨[⟨.pure,false⟩,⟨.pure,false⟩,⟨.pure,false⟩,⟨.pure,true⟩,⟨.pure,true⟩],[(0,.v 0),(1,.v 1),(2,.v 2),(11,.v 0),(12,.v 3),(13,.v 4)],[],[]⟩)]
def zAH:En:=⟨228,p7,⟨[k8,k8,n20],[(.int .i64)],[],[]⟩,[(1,⟨[k8,k8,n20,(.int .i64),(.int .i64)],[(aA 6,aA 3,0),(.z,aA 7,0)],[sC 999,cC 7,sC 1001]⟩)],[sC 1001,sC 0,sC 0]⟩
def zAP:En:=⟨199,[],⟨[qBd,qBd],[.bool],[],[]⟩,[],[sC 1001]⟩
def p8:List (Nat×Pat):=[(1,⟨[⟨.pure,true⟩,⟨.fresh,true⟩,⟨.pure,true⟩,⟨.pure,false⟩],[(1,.loc 0 0),(3,.loc 2 0),(5,.v 0)],[some (.cells [.v 1]),some (.cells [.v 2]),some (.whole (.v 3) 1)],[]⟩)]
def zAQ:EnM:=⟨198,qWM,p8,⟨[qBd,xD,.bool],[.bool,xD,.bool],[],[(aA 1,aA 4,0)]⟩,[(1,⟨[(.int .i64),xD,.bool,qBd],[(.z,aA 3,0),(aA 3,aA 4,0),(aA 1,aA 4,0),(aA 4,.z,199)],[sC 999,(aA 3,.z,0),sC 1001]⟩)],[sC 1001,sC 0,sC 0]⟩
def p9:List (Nat×Pat):=[(1,⟨[⟨.pure,false⟩,⟨.pure,false⟩,⟨.pure,true⟩,⟨.pure,true⟩,⟨.fresh,true⟩,⟨.pure,true⟩,⟨.pure,false⟩],[(1,.v 0),(2,.v 1),(3,.fn (.func 198) [] [.loc 0 0,.loc 1 0]),(4,.loc 2 0),(29,.v 2),(30,.v 3)],[some (.cells [.v 4]),some (.cells [.v 5]),some (.whole (.v 6) 9)],[]⟩)]
def zAM:EnM:=⟨202,oC,p9,⟨[n13,k8,(.int .i64),xD,.bool],[.bool,xD,.bool],[(aA 1,.z,1),(.z,aA 2,-1),(aA 2,aA 1,0)],[(aA 3,aA 6,0)]⟩,[],[sC 1001]⟩
def qP7:EnM:=⟨202,oC,p9,⟨[n13,k8,(.int .i64),xD,.bool],[.bool,xD,.bool],[(aA 1,.z,1),(.z,aA 2,0),(aA 2,aA 1,-1),(aA 2,aA 3,0)],[(aA 3,aA 6,0)]⟩,[(1,⟨[k8,(.int .i64),(.int .i64),(.int .i64),xD,.bool,n13],[(.z,aA 5,-1),(aA 5,aA 6,1),(aA 6,aA 1,-1),(aA 7,.z,300000000),(aA 5,aA 8,1),(aA 3,aA 9,0)],[sC 999,cC 8,sC 1001]⟩)],[sC 1001,sC 0,sC 0]⟩
def zAN:EnM:=⟨201,qFm,[],⟨[k8,n4,n13,xD,.bool],[.bool,n13,xD,.bool],[(aA 0,.z,1),(.z,aA 0,-1)],[(aA 3,aA 7,0)]⟩,[],[sC 1001]⟩
def qPO:En:=⟨251,p4,⟨[n4],[(.str 1048576)],[(aA 0,.z,48),(.z,aA 0,-1)],[]⟩,[(1,⟨[qUU,n4,(.int .i64),(.int .i64)],[(aA 3,aA 2,0),(.z,aA 3,-1),(aA 4,aA 1,0),(aA 1,aA 4,0)],[sC 999,cC 4,sC 1001]⟩)],[sC 1001,sC 0,sC 0]⟩
def qPT:EnM:=⟨244,qOY,[],⟨[n4,n6,(.str 1048576),n7,n8,n5,(.int .i64),n9,n10,gG,n2,.bool,(.int .u32),m9,n13,xD,.bool],[.bool,n6,(.str 1048576),n7,n8,n5,(.int .i64),n9,n10,gG,n2,.bool,(.int .u32),m9,n13,xD,.bool],[(aA 0,.z,48),(.z,aA 10,-1),(aA 10,aA 0,0)],[(aA 18,aA 1,0),(aA 1,aA 18,0),(aA 19,aA 2,0),(aA 2,aA 19,0),(aA 20,aA 3,0),(aA 3,aA 20,0),(aA 21,aA 4,0),(aA 4,aA 21,0),(aA 22,aA 5,0),(aA 5,aA 22,0),(aA 24,aA 7,0),(aA 7,aA 24,0),(aA 25,aA 8,0),(aA 8,aA 25,0),(aA 26,aA 9,0),(aA 9,aA 26,0),(aA 27,aA 10,0),(aA 10,aA 27,0),(aA 32,aA 15,0),(aA 15,aA 32,0)]⟩,[],[sC 1001]⟩
def qP6:EnM:=⟨202,oC,p9,⟨[n13,k8,(.int .i64),xD,.bool],[.bool,xD,.bool],[(aA 1,.z,2),(.z,aA 2,-2),(aA 2,aA 1,0)],[(aA 3,aA 6,0)]⟩,[],[sC 1001]⟩
def qP5:EnM:=⟨202,oC,p9,⟨[n13,k8,(.int .i64),xD,.bool],[.bool,xD,.bool],[(aA 1,.z,2),(.z,aA 2,-1),(aA 2,aA 1,-1)],[(aA 3,aA 6,0)]⟩,[(1,⟨[k8,(.int .i64),(.int .i64),(.int .i64),xD,.bool,n13],[(aA 6,aA 5,-1),(aA 5,aA 6,1),(.z,aA 6,-1),(aA 6,.z,1),(aA 7,.z,300000000),(.z,aA 8,0),(aA 3,aA 9,0)],[sC 999,cC 8,sC 1001]⟩)],[sC 1001,sC 0,sC 0]⟩
def qP4:EnM:=⟨202,oC,p9,⟨[n13,k8,(.int .i64),xD,.bool],[.bool,xD,.bool],[(aA 1,.z,2),(.z,aA 1,-2),(aA 2,.z,0),(.z,aA 2,0),(aA 2,aA 3,0)],[(aA 3,aA 6,0)]⟩,[(1,⟨[k8,(.int .i64),(.int .i64),(.int .i64),xD,.bool,n13],[(aA 5,aA 1,0),(aA 1,aA 5,0),(.z,aA 6,0),(aA 6,.z,0),(aA 7,.z,300000000),(.z,aA 8,0),(aA 3,aA 9,0)],[sC 999,cC 8,sC 1001]⟩)],[sC 1001,sC 0,sC 0]⟩
def qQa:EnM:=⟨201,qFm,[],⟨[k8,n4,n13,xD,.bool],[.bool,n13,xD,.bool],[(aA 0,.z,2),(.z,aA 0,-2)],[(aA 3,aA 7,0)]⟩,[],[sC 1001]⟩
def qP3:EnM:=⟨202,oC,p9,⟨[n13,k8,(.int .i64),xD,.bool],[.bool,xD,.bool],[(aA 1,.z,3),(.z,aA 2,-3),(aA 2,aA 1,0)],[(aA 3,aA 6,0)]⟩,[],[sC 1001]⟩
def qP2:EnM:=⟨202,oC,p9,⟨[n13,k8,(.int .i64),xD,.bool],[.bool,xD,.bool],[(aA 1,.z,3),(.z,aA 2,-2),(aA 2,aA 1,-1)],[(aA 3,aA 6,0)]⟩,[(1,⟨[k8,(.int .i64),(.int .i64),(.int .i64),xD,.bool,n13],[(aA 6,aA 5,-1),(aA 5,aA 6,1),(aA 6,aA 2,0),(aA 2,aA 6,0),(aA 7,.z,300000000),(.z,aA 8,0),(aA 3,aA 9,0)],[sC 999,cC 8,sC 1001]⟩)],[sC 1001,sC 0,sC 0]⟩
def qP1:EnM:=⟨202,oC,p9,⟨[n13,k8,(.int .i64),xD,.bool],[.bool,xD,.bool],[(aA 1,.z,3),(.z,aA 1,-3),(aA 2,.z,1),(.z,aA 2,-1)],[(aA 3,aA 6,0)]⟩,[(1,⟨[k8,(.int .i64),(.int .i64),(.int .i64),xD,.bool,n13],[(aA 5,aA 1,0),(aA 1,aA 5,0),(.z,aA 6,-1),(aA 6,.z,1),(aA 7,.z,300000000),(.z,aA 8,0),(aA 3,aA 9,0)],[sC 999,cC 8,sC 1001]⟩)],[sC 1001,sC 0,sC 0]⟩
def qP0:EnM:=⟨202,oC,p9,⟨[n13,k8,(.int .i64),xD,.bool],[.bool,xD,.bool],[(aA 1,.z,3),(.z,aA 1,-3),(aA 2,.z,0),(.z,aA 2,0),(aA 2,aA 3,0)],[(aA 3,aA 6,0)]⟩,[(1,⟨[k8,(.int .i64),(.int .i64),(.int .i64),xD,.bool,n13],[(aA 5,aA 1,0),(aA 1,aA 5,0),(.z,aA 6,0),(aA 6,.z,0),(aA 7,.z,300000000),(.z,aA 8,0),(aA 3,aA 9,0)],[sC 999,cC 8,sC 1001]⟩)],[sC 1001,sC 0,sC 0]⟩
def qP9:EnM:=⟨201,qFm,[],⟨[k8,n4,n13,xD,.bool],[.bool,n13,xD,.bool],[(aA 0,.z,3),(.z,aA 0,-3)],[(aA 3,aA 7,0)]⟩,[],[sC 1001]⟩
def qPZ:EnM:=⟨202,oC,p9,⟨[n13,k8,(.int .i64),xD,.bool],[.bool,xD,.bool],[(aA 1,.z,4),(.z,aA 2,-4),(aA 2,aA 1,0)],[(aA 3,aA 6,0)]⟩,[],[sC 1001]⟩
def qKA:EnM:=⟨202,oC,p9,⟨[n13,k8,(.int .i64),xD,.bool],[.bool,xD,.bool],[(aA 1,.z,4),(.z,aA 2,-3),(aA 2,aA 1,-1)],[(aA 3,aA 6,0)]⟩,[(1,⟨[k8,(.int .i64),(.int .i64),(.int .i64),xD,.bool,n13],[(aA 6,aA 5,-1),(aA 5,aA 6,1),(aA 6,aA 2,0),(aA 2,aA 6,0),(aA 7,.z,300000000),(.z,aA 8,0),(aA 3,aA 9,0)],[sC 999,cC 8,sC 1001]⟩)],[sC 1001,sC 0,sC 0]⟩
def qKz:EnM:=⟨202,oC,p9,⟨[n13,k8,(.int .i64),xD,.bool],[.bool,xD,.bool],[(aA 1,.z,4),(.z,aA 1,-4),(aA 2,.z,2),(.z,aA 2,-2)],[(aA 3,aA 6,0)]⟩,[(1,⟨[k8,(.int .i64),(.int .i64),(.int .i64),xD,.bool,n13],[(aA 1,aA 5,0),(aA 5,.z,4),(aA 6,aA 2,0),(aA 2,aA 6,0),(aA 7,.z,300000000),(.z,aA 8,0),(aA 3,aA 9,0)],[sC 999,cC 8,sC 1001]⟩)],[sC 1001,sC 0,sC 0]⟩
def qKy:EnM:=⟨202,oC,p9,⟨[n13,k8,(.int .i64),xD,.bool],[.bool,xD,.bool],[(aA 1,.z,4),(.z,aA 1,-4),(aA 2,.z,1),(.z,aA 2,-1)],[(aA 3,aA 6,0)]⟩,[(1,⟨[k8,(.int .i64),(.int .i64),(.int .i64),xD,.bool,n13],[(aA 1,aA 5,0),(aA 5,.z,4),(.z,aA 6,-1),(aA 6,.z,1),(aA 7,.z,300000000),(.z,aA 8,0),(aA 3,aA 9,0)],[sC 999,cC 8,sC 1001]⟩)],[sC 1001,sC 0,sC 0]⟩
def qKx:EnM:=⟨202,oC,p9,⟨[n13,k8,(.int .i64),xD,.bool],[.bool,xD,.bool],[(aA 1,.z,4),(.z,aA 1,-4),(aA 2,.z,0),(.z,aA 2,0),(aA 2,aA 3,0)],[(aA 3,aA 6,0)]⟩,[(1,⟨[k8,(.int .i64),(.int .i64),(.int .i64),xD,.bool,n13],[(aA 1,aA 5,0),(aA 5,.z,4),(.z,aA 6,0),(aA 6,.z,0),(aA 7,.z,300000000),(.z,aA 8,0),(aA 3,aA 9,0)],[sC 999,cC 8,sC 1001]⟩)],[sC 1001,sC 0,sC 0]⟩
def qP8:EnM:=⟨201,qFm,[],⟨[k8,n4,n13,xD,.bool],[.bool,n13,xD,.bool],[(aA 0,.z,4),(.z,aA 0,-4)],[(aA 3,aA 7,0)]⟩,[],[sC 1001]⟩
def qOs:List (Nat×Pat):=[(1,⟨[⟨.pure,false⟩,⟨.pure,false⟩,⟨.pure,false⟩,⟨.pure,true⟩,⟨.pure,true⟩,⟨.pure,true⟩,⟨.pure,true⟩,⟨.pure,true⟩,⟨.pure,true⟩,⟨.pure,true⟩,⟨.pure,true⟩,⟨.pure,true⟩,⟨.pure,true⟩,⟨.pure,true⟩,⟨.pure,true⟩,⟨.pure,true⟩,⟨.pure,true⟩,⟨.pure,true⟩,⟨.fresh,true⟩,⟨.pure,false⟩,⟨.fresh,true⟩,⟨.pure,true⟩],[(0,.loc 0 0),(1,.v 0),(2,.v 1),(3,.v 2),(56,.v 3),(57,.v 4),(58,.v 5)],[some (.cells [.v 6,.v 7,.v 8,.v 9,.v 10,.v 11,.v 12,.v 13,.v 14,.v 15,.v 16,.v 17,.v 18,.fn (.func 201) [] [.loc 1 0,.loc 2 0]]),some (.whole (.v 19) 9),some (.cells [.fn (.func 198) [] [.loc 3 0,.loc 4 0]]),some (.cells [.v 20]),some (.cells [.v 21])],[]⟩)]
def zAE:EnM:=⟨231,uQ,qOs,⟨[k8,(.int .u32),n4,n6,(.str 1048576),n7,n8,n5,(.int .i64),n9,n10,gG,n2,.bool,(.int .u32),m9,n13,xD,.bool],[.bool,n6,(.str 1048576),n7,n8,n5,(.int .i64),n9,n10,gG,n2,.bool,(.int .u32),m9,n13,xD,.bool],[(aA 0,.z,4),(.z,aA 0,-4),(aA 2,.z,48),(.z,aA 12,-1)],[(aA 20,aA 3,0),(aA 3,aA 20,0),(aA 21,aA 4,0),(aA 4,aA 21,0),(aA 22,aA 5,0),(aA 5,aA 22,0),(aA 23,aA 6,0),(aA 6,aA 23,0),(aA 24,aA 7,0),(aA 7,aA 24,0),(aA 26,aA 9,0),(aA 9,aA 26,0),(aA 27,aA 10,0),(aA 10,aA 27,0),(aA 28,aA 11,0),(aA 11,aA 28,0),(aA 29,aA 12,0),(aA 12,aA 29,0),(aA 17,aA 34,0)]⟩,[],[sC 1001]⟩
def qZG:List (Nat×Pat):=[(1,⟨[⟨.pure,false⟩,⟨.pure,false⟩,⟨.pure,false⟩,⟨.pure,false⟩,⟨.pure,true⟩,⟨.pure,true⟩,⟨.pure,true⟩,⟨.pure,true⟩,⟨.pure,true⟩,⟨.pure,true⟩,⟨.pure,true⟩,⟨.pure,true⟩,⟨.pure,true⟩,⟨.pure,true⟩,⟨.pure,true⟩,⟨.pure,true⟩,⟨.pure,true⟩,⟨.pure,true⟩,⟨.fresh,true⟩,⟨.pure,false⟩,⟨.fresh,true⟩,⟨.pure,true⟩,⟨.pure,false⟩],[(0,.loc 0 0),(2,.v 0),(3,.v 1),(4,.v 2),(6,.loc 5 0),(27,.v 3),(28,.v 4),(29,.v 5)],[some (.cells [.v 6,.v 7,.v 8,.v 9,.v 10,.v 11,.v 12,.v 13,.v 14,.v 15,.v 16,.v 17,.v 18,.fn (.func 201) [] [.loc 1 0,.loc 2 0]]),some (.whole (.v 19) 9),some (.cells [.fn (.func 198) [] [.loc 3 0,.loc 4 0]]),some (.cells [.v 20]),some (.cells [.v 21]),some (.whole (.v 22) 8)],[]⟩)]
def zAz:EnM:=⟨246,qCa,qZG,⟨[qJZ,k8,(.int .u32),n4,n6,(.str 1048576),n7,n8,n5,(.int .i64),n9,n10,gG,n2,.bool,(.int .u32),m9,n13,xD,.bool],[.bool,n6,(.str 1048576),n7,n8,n5,(.int .i64),n9,n10,gG,n2,.bool,(.int .u32),m9,n13,xD,.bool],[(aA 1,.z,3),(.z,aA 1,-3),(aA 3,.z,48),(.z,aA 12,-1),(aA 13,.z,24),(.z,aA 13,-1)],[(aA 21,aA 4,0),(aA 4,aA 21,0),(aA 22,aA 5,0),(aA 5,aA 22,0),(aA 23,aA 6,0),(aA 6,aA 23,0),(aA 24,aA 7,0),(aA 7,aA 24,0),(aA 25,aA 8,0),(aA 8,aA 25,0),(aA 27,aA 10,0),(aA 10,aA 27,0),(aA 28,aA 11,0),(aA 11,aA 28,0),(aA 29,aA 12,0),(aA 12,aA 29,0),(aA 30,aA 13,0),(aA 13,aA 30,0),(aA 18,aA 35,0)]⟩,[(1,⟨[k8,(.int .u32),n4,qRU,(.int .i64),(.int .i64),n6,(.str 1048576),n7,n8,n5,(.int .i64),n9,n10,gG,n2,.bool,(.int .u32),m9,n13,xD,.bool,qJZ],[(aA 20,aA 1,0),(aA 1,aA 20,0),(aA 24,aA 23,0),(.z,aA 25,0),(aA 26,aA 4,0),(aA 4,aA 26,0),(aA 27,aA 5,0),(aA 5,aA 27,0),(aA 28,aA 6,0),(aA 6,aA 28,0),(aA 29,aA 7,0),(aA 7,aA 29,0),(aA 30,aA 8,0),(aA 8,aA 30,0),(aA 32,aA 10,0),(aA 10,aA 32,0),(aA 33,aA 11,0),(aA 11,aA 33,0),(aA 34,aA 12,0),(aA 12,aA 34,0),(aA 35,aA 13,0),(aA 13,aA 35,0),(aA 18,aA 40,0)],[sC 999,cC 25,sC 1001]⟩)],[sC 1001,sC 0,sC 0]⟩
def qPY:EnM:=⟨231,uQ,qOs,⟨[k8,(.int .u32),n4,n6,(.str 1048576),n7,n8,n5,(.int .i64),n9,n10,gG,n2,.bool,(.int .u32),m9,n13,xD,.bool],[.bool,n6,(.str 1048576),n7,n8,n5,(.int .i64),n9,n10,gG,n2,.bool,(.int .u32),m9,n13,xD,.bool],[(aA 0,.z,3),(.z,aA 0,-3),(aA 2,.z,48),(.z,aA 11,-1),(aA 12,.z,24),(.z,aA 12,-1)],[(aA 20,aA 3,0),(aA 3,aA 20,0),(aA 21,aA 4,0),(aA 4,aA 21,0),(aA 22,aA 5,0),(aA 5,aA 22,0),(aA 23,aA 6,0),(aA 6,aA 23,0),(aA 24,aA 7,0),(aA 7,aA 24,0),(aA 26,aA 9,0),(aA 9,aA 26,0),(aA 27,aA 10,0),(aA 10,aA 27,0),(aA 28,aA 11,0),(aA 11,aA 28,0),(aA 29,aA 12,0),(aA 12,aA 29,0),(aA 17,aA 34,0)]⟩,[(1,⟨[k8,(.int .u32),n4,gG,(.int .i64),(.int .i64),n6,(.str 1048576),n7,n8,n5,(.int .i64),n9,n10,gG,n2,.bool,(.int .u32),m9,n13,xD,.bool],[(aA 19,aA 0,0),(aA 0,aA 19,0),(aA 21,aA 2,0),(.z,aA 24,0),(aA 25,aA 3,0),(aA 3,aA 25,0),(aA 26,aA 4,0),(aA 4,aA 26,0),(aA 27,aA 5,0),(aA 5,aA 27,0),(aA 28,aA 6,0),(aA 6,aA 28,0),(aA 29,aA 7,0),(aA 7,aA 29,0),(aA 31,aA 9,0),(aA 9,aA 31,0),(aA 32,aA 10,0),(aA 10,aA 32,0),(aA 33,aA 22,0),(aA 23,aA 33,0),(aA 33,aA 11,0),(aA 11,aA 33,0),(aA 34,aA 12,0),(aA 12,aA 34,0),(aA 17,aA 39,0)],[sC 999,cC 24,sC 1001]⟩)],[sC 1001,sC 0,sC 0]⟩
def qPS:EnM:=⟨246,qCa,qZG,⟨[qJZ,k8,(.int .u32),n4,n6,(.str 1048576),n7,n8,n5,(.int .i64),n9,n10,gG,n2,.bool,(.int .u32),m9,n13,xD,.bool],[.bool,n6,(.str 1048576),n7,n8,n5,(.int .i64),n9,n10,gG,n2,.bool,(.int .u32),m9,n13,xD,.bool],[(aA 1,.z,2),(.z,aA 1,-2),(aA 3,.z,48),(.z,aA 12,-1),(aA 13,.z,24),(.z,aA 13,-1)],[(aA 21,aA 4,0),(aA 4,aA 21,0),(aA 22,aA 5,0),(aA 5,aA 22,0),(aA 23,aA 6,0),(aA 6,aA 23,0),(aA 24,aA 7,0),(aA 7,aA 24,0),(aA 25,aA 8,0),(aA 8,aA 25,0),(aA 27,aA 10,0),(aA 10,aA 27,0),(aA 28,aA 11,0),(aA 11,aA 28,0),(aA 29,aA 12,0),(aA 12,aA 29,0),(aA 30,aA 13,0),(aA 13,aA 30,0),(aA 18,aA 35,0)]⟩,[(1,⟨[k8,(.int .u32),n4,qRU,(.int .i64),(.int .i64),n6,(.str 1048576),n7,n8,n5,(.int .i64),n9,n10,gG,n2,.bool,(.int .u32),m9,n13,xD,.bool,qJZ],[(aA 20,aA 1,0),(aA 1,aA 20,0),(aA 24,aA 23,0),(.z,aA 25,0),(aA 26,aA 4,0),(aA 4,aA 26,0),(aA 27,aA 5,0),(aA 5,aA 27,0),(aA 28,aA 6,0),(aA 6,aA 28,0),(aA 29,aA 7,0),(aA 7,aA 29,0),(aA 30,aA 8,0),(aA 8,aA 30,0),(aA 32,aA 10,0),(aA 10,aA 32,0),(aA 33,aA 11,0),(aA 11,aA 33,0),(aA 34,aA 12,0),(aA 12,aA 34,0),(aA 35,aA 13,0),(aA 13,aA 35,0),(aA 18,aA 40,0)],[sC 999,cC 25,sC 1001]⟩)],[sC 1001,sC 0,sC 0]⟩
def qPX:EnM:=⟨231,uQ,qOs,⟨[k8,(.int .u32),n4,n6,(.str 1048576),n7,n8,n5,(.int .i64),n9,n10,gG,n2,.bool,(.int .u32),m9,n13,xD,.bool],[.bool,n6,(.str 1048576),n7,n8,n5,(.int .i64),n9,n10,gG,n2,.bool,(.int .u32),m9,n13,xD,.bool],[(aA 0,.z,2),(.z,aA 0,-2),(aA 2,.z,48),(.z,aA 11,-1),(aA 12,.z,24),(.z,aA 12,-1)],[(aA 20,aA 3,0),(aA 3,aA 20,0),(aA 21,aA 4,0),(aA 4,aA 21,0),(aA 22,aA 5,0),(aA 5,aA 22,0),(aA 23,aA 6,0),(aA 6,aA 23,0),(aA 24,aA 7,0),(aA 7,aA 24,0),(aA 26,aA 9,0),(aA 9,aA 26,0),(aA 27,aA 10,0),(aA 10,aA 27,0),(aA 28,aA 11,0),(aA 11,aA 28,0),(aA 29,aA 12,0),(aA 12,aA 29,0),(aA 17,aA 34,0)]⟩,[(1,⟨[k8,(.int .u32),n4,gG,(.int .i64),(.int .i64),n6,(.str 1048576),n7,n8,n5,(.int .i64),n9,n10,gG,n2,.bool,(.int .u32),m9,n13,xD,.bool],[(aA 19,aA 0,0),(aA 0,aA 19,0),(aA 21,aA 2,0),(.z,aA 24,0),(aA 25,aA 3,0),(aA 3,aA 25,0),(aA 26,aA 4,0),(aA 4,aA 26,0),(aA 27,aA 5,0),(aA 5,aA 27,0),(aA 28,aA 6,0),(aA 6,aA 28,0),(aA 29,aA 7,0),(aA 7,aA 29,0),(aA 31,aA 9,0),(aA 9,aA 31,0),(aA 32,aA 10,0),(aA 10,aA 32,0),(aA 33,aA 22,0),(aA 23,aA 33,0),(aA 33,aA 11,0),(aA 11,aA 33,0),(aA 34,aA 12,0),(aA 12,aA 34,0),(aA 17,aA 39,0)],[sC 999,cC 24,sC 1001]⟩)],[sC 1001,sC 0,sC 0]⟩
def qPR:EnM:=⟨246,qCa,qZG,⟨[qJZ,k8,(.int .u32),n4,n6,(.str 1048576),n7,n8,n5,(.int .i64),n9,n10,gG,n2,.bool,(.int .u32),m9,n13,xD,.bool],[.bool,n6,(.str 1048576),n7,n8,n5,(.int .i64),n9,n10,gG,n2,.bool,(.int .u32),m9,n13,xD,.bool],[(aA 1,.z,1),(.z,aA 1,-1),(aA 13,.z,24),(aA 1,aA 12,0),(aA 1,aA 13,0),(aA 3,aA 13,0)],[(aA 21,aA 4,0),(aA 4,aA 21,0),(aA 22,aA 5,0),(aA 5,aA 22,0),(aA 23,aA 6,0),(aA 6,aA 23,0),(aA 24,aA 7,0),(aA 7,aA 24,0),(aA 25,aA 8,0),(aA 8,aA 25,0),(aA 27,aA 10,0),(aA 10,aA 27,0),(aA 28,aA 11,0),(aA 11,aA 28,0),(aA 29,aA 12,0),(aA 12,aA 29,0),(aA 30,aA 13,0),(aA 13,aA 30,0),(aA 18,aA 35,0)]⟩,[(1,⟨[k8,(.int .u32),n4,qRU,(.int .i64),(.int .i64),n6,(.str 1048576),n7,n8,n5,(.int .i64),n9,n10,gG,n2,.bool,(.int .u32),m9,n13,xD,.bool,qJZ],[(aA 20,aA 1,0),(.z,aA 20,-1),(aA 23,.aT [0,3],1),(aA 24,aA 23,0),(.z,aA 25,0),(aA 26,aA 4,0),(aA 4,aA 26,0),(aA 27,aA 5,0),(aA 5,aA 27,0),(aA 28,aA 6,0),(aA 6,aA 28,0),(aA 29,aA 7,0),(aA 7,aA 29,0),(aA 30,aA 8,0),(aA 8,aA 30,0),(aA 32,aA 10,0),(aA 10,aA 32,0),(aA 33,aA 11,0),(aA 11,aA 33,0),(aA 34,aA 12,0),(aA 12,aA 34,0),(aA 35,aA 13,0),(aA 13,aA 35,0),(aA 18,aA 40,0)],[sC 999,cC 25,sC 1001]⟩)],[sC 1001,sC 0,sC 0]⟩
def qPW:EnM:=⟨231,uQ,qOs,⟨[k8,(.int .u32),n4,n6,(.str 1048576),n7,n8,n5,(.int .i64),n9,n10,gG,n2,.bool,(.int .u32),m9,n13,xD,.bool],[.bool,n6,(.str 1048576),n7,n8,n5,(.int .i64),n9,n10,gG,n2,.bool,(.int .u32),m9,n13,xD,.bool],[(aA 0,.z,1),(.z,aA 0,-1),(aA 12,.z,24),(aA 0,aA 11,0),(aA 0,aA 12,0),(aA 2,aA 12,0)],[(aA 20,aA 3,0),(aA 3,aA 20,0),(aA 21,aA 4,0),(aA 4,aA 21,0),(aA 22,aA 5,0),(aA 5,aA 22,0),(aA 23,aA 6,0),(aA 6,aA 23,0),(aA 24,aA 7,0),(aA 7,aA 24,0),(aA 26,aA 9,0),(aA 9,aA 26,0),(aA 27,aA 10,0),(aA 10,aA 27,0),(aA 28,aA 11,0),(aA 11,aA 28,0),(aA 29,aA 12,0),(aA 12,aA 29,0),(aA 17,aA 34,0)]⟩,[(1,⟨[k8,(.int .u32),n4,gG,(.int .i64),(.int .i64),n6,(.str 1048576),n7,n8,n5,(.int .i64),n9,n10,gG,n2,.bool,(.int .u32),m9,n13,xD,.bool],[(aA 19,aA 0,0),(aA 0,aA 19,0),(.z,aA 24,0),(aA 25,aA 3,0),(aA 3,aA 25,0),(aA 26,aA 4,0),(aA 4,aA 26,0),(aA 27,aA 5,0),(aA 5,aA 27,0),(aA 28,aA 6,0),(aA 6,aA 28,0),(aA 29,aA 7,0),(aA 7,aA 29,0),(aA 31,aA 9,0),(aA 9,aA 31,0),(aA 32,aA 10,0),(aA 10,aA 32,0),(aA 33,aA 22,0),(aA 23,aA 33,0),(aA 33,aA 11,0),(aA 11,aA 33,0),(aA 21,aA 34,0),(aA 34,aA 12,0),(aA 12,aA 34,0),(aA 17,aA 39,0)],[sC 999,cC 24,sC 1001]⟩)],[sC 1001,sC 0,sC 0]⟩
def qPQ:EnM:=⟨246,qCa,qZG,⟨[qJZ,k8,(.int .u32),n4,n6,(.str 1048576),n7,n8,n5,(.int .i64),n9,n10,gG,n2,.bool,(.int .u32),m9,n13,xD,.bool],[.bool,n6,(.str 1048576),n7,n8,n5,(.int .i64),n9,n10,gG,n2,.bool,(.int .u32),m9,n13,xD,.bool],[(aA 1,.z,1),(.z,aA 1,-1),(aA 3,.z,24),(aA 13,.z,24),(aA 1,aA 12,0),(aA 1,aA 13,0)],[(aA 21,aA 4,0),(aA 4,aA 21,0),(aA 22,aA 5,0),(aA 5,aA 22,0),(aA 23,aA 6,0),(aA 6,aA 23,0),(aA 24,aA 7,0),(aA 7,aA 24,0),(aA 25,aA 8,0),(aA 8,aA 25,0),(aA 27,aA 10,0),(aA 10,aA 27,0),(aA 28,aA 11,0),(aA 11,aA 28,0),(aA 29,aA 12,0),(aA 12,aA 29,0),(aA 30,aA 13,0),(aA 13,aA 30,0),(aA 18,aA 35,0)]⟩,[(1,⟨[k8,(.int .u32),n4,qRU,(.int .i64),(.int .i64),n6,(.str 1048576),n7,n8,n5,(.int .i64),n9,n10,gG,n2,.bool,(.int .u32),m9,n13,xD,.bool,qJZ],[(aA 20,aA 1,0),(.z,aA 20,-1),(aA 23,.aT [0,3],1),(aA 24,aA 23,0),(.z,aA 25,0),(aA 26,aA 4,0),(aA 4,aA 26,0),(aA 27,aA 5,0),(aA 5,aA 27,0),(aA 28,aA 6,0),(aA 6,aA 28,0),(aA 29,aA 7,0),(aA 7,aA 29,0),(aA 30,aA 8,0),(aA 8,aA 30,0),(aA 32,aA 10,0),(aA 10,aA 32,0),(aA 33,aA 11,0),(aA 11,aA 33,0),(aA 34,aA 12,0),(aA 12,aA 34,0),(aA 35,aA 13,0),(aA 13,aA 35,0),(aA 18,aA 40,0)],[sC 999,cC 25,sC 1001]⟩)],[sC 1001,sC 0,sC 0]⟩
def qPV:EnM:=⟨231,uQ,qOs,⟨[k8,(.int .u32),n4,n6,(.str 1048576),n7,n8,n5,(.int .i64),n9,n10,gG,n2,.bool,(.int .u32),m9,n13,xD,.bool],[.bool,n6,(.str 1048576),n7,n8,n5,(.int .i64),n9,n10,gG,n2,.bool,(.int .u32),m9,n13,xD,.bool],[(aA 0,.z,1),(.z,aA 0,-1),(aA 2,.z,24),(aA 12,.z,24),(aA 0,aA 11,0),(aA 0,aA 12,0)],[(aA 20,aA 3,0),(aA 3,aA 20,0),(aA 21,aA 4,0),(aA 4,aA 21,0),(aA 22,aA 5,0),(aA 5,aA 22,0),(aA 23,aA 6,0),(aA 6,aA 23,0),(aA 24,aA 7,0),(aA 7,aA 24,0),(aA 26,aA 9,0),(aA 9,aA 26,0),(aA 27,aA 10,0),(aA 10,aA 27,0),(aA 28,aA 11,0),(aA 11,aA 28,0),(aA 29,aA 12,0),(aA 12,aA 29,0),(aA 17,aA 34,0)]⟩,[(1,⟨[k8,(.int .u32),n4,gG,(.int .i64),(.int .i64),n6,(.str 1048576),n7,n8,n5,(.int .i64),n9,n10,gG,n2,.bool,(.int .u32),m9,n13,xD,.bool],[(aA 19,aA 0,0),(.z,aA 19,-1),(aA 21,.z,24),(.z,aA 24,0),(aA 25,aA 3,0),(aA 3,aA 25,0),(aA 26,aA 4,0),(aA 4,aA 26,0),(aA 27,aA 5,0),(aA 5,aA 27,0),(aA 28,aA 6,0),(aA 6,aA 28,0),(aA 29,aA 7,0),(aA 7,aA 29,0),(aA 31,aA 9,0),(aA 9,aA 31,0),(aA 32,aA 10,0),(aA 10,aA 32,0),(aA 33,aA 22,0),(aA 23,aA 33,0),(aA 33,aA 11,0),(aA 11,aA 33,0),(aA 34,aA 12,0),(aA 12,aA 34,0),(aA 17,aA 39,0)],[sC 999,cC 24,sC 1001]⟩)],[sC 1001,sC 0,sC 0]⟩
def qPP:EnM:=⟨246,qCa,qZG,⟨[qJZ,qUS,(.int .u32),n2,n6,(.str 1048576),n7,n8,n5,(.int .i64),n9,n10,gG,n2,.bool,(.int .u32),m9,n13,xD,.bool],[.bool,n6,(.str 1048576),n7,n8,n5,(.int .i64),n9,n10,gG,n2,.bool,(.int .u32),m9,n13,xD,.bool],[(aA 3,.z,0),(aA 13,.z,24),(aA 1,aA 3,0),(aA 3,aA 1,0),(aA 3,aA 4,0),(aA 3,aA 5,0),(aA 3,aA 6,0),(aA 3,aA 7,0),(aA 3,aA 8,0),(aA 3,aA 10,0),(aA 3,aA 11,0),(aA 3,aA 12,-1),(aA 3,aA 13,-1)],[(aA 21,aA 4,0),(aA 4,aA 21,0),(aA 22,aA 5,0),(aA 5,aA 22,0),(aA 23,aA 6,0),(aA 6,aA 23,0),(aA 24,aA 7,0),(aA 7,aA 24,0),(aA 25,aA 8,0),(aA 8,aA 25,0),(aA 27,aA 10,0),(aA 10,aA 27,0),(aA 28,aA 11,0),(aA 11,aA 28,0),(aA 29,aA 12,0),(aA 12,aA 29,0),(aA 30,aA 13,0),(aA 13,aA 30,0),(aA 18,aA 35,0)]⟩,[(1,⟨[qUS,(.int .u32),n2,qRU,(.int .i64),(.int .i64),n6,(.str 1048576),n7,n8,n5,(.int .i64),n9,n10,gG,n2,.bool,(.int .u32),m9,n13,xD,.bool,qJZ],[(aA 20,aA 22,0),(aA 22,aA 25,0),(aA 22,aA 3,0),(aA 24,aA 23,0),(aA 26,aA 4,0),(aA 4,aA 26,0),(aA 27,aA 5,0),(aA 5,aA 27,0),(aA 28,aA 6,0),(aA 6,aA 28,0),(aA 29,aA 7,0),(aA 7,aA 29,0),(aA 30,aA 8,0),(aA 8,aA 30,0),(aA 32,aA 10,0),(aA 10,aA 32,0),(aA 33,aA 11,0),(aA 11,aA 33,0),(aA 34,aA 12,0),(aA 12,aA 34,0),(aA 35,aA 13,0),(aA 13,aA 35,0),(aA 18,aA 40,0)],[sC 999,cC 25,sC 1001]⟩)],[sC 1001,sC 0,sC 0]⟩
def qPU:EnM:=⟨231,uQ,qOs,⟨[qUS,(.int .u32),n2,n6,(.str 1048576),n7,n8,n5,(.int .i64),n9,n10,gG,n2,.bool,(.int .u32),m9,n13,xD,.bool],[.bool,n6,(.str 1048576),n7,n8,n5,(.int .i64),n9,n10,gG,n2,.bool,(.int .u32),m9,n13,xD,.bool],[(aA 12,.z,24),(aA 17,.z,0),(aA 0,aA 17,0),(aA 2,aA 17,0),(aA 17,aA 0,0),(aA 17,aA 2,0),(aA 17,aA 3,0),(aA 17,aA 4,0),(aA 17,aA 5,0),(aA 17,aA 6,0),(aA 17,aA 7,0),(aA 17,aA 9,0),(aA 17,aA 10,0),(aA 17,aA 11,0),(aA 17,aA 12,-1)],[(aA 20,aA 3,0),(aA 3,aA 20,0),(aA 21,aA 4,0),(aA 4,aA 21,0),(aA 22,aA 5,0),(aA 5,aA 22,0),(aA 23,aA 6,0),(aA 6,aA 23,0),(aA 24,aA 7,0),(aA 7,aA 24,0),(aA 26,aA 9,0),(aA 9,aA 26,0),(aA 27,aA 10,0),(aA 10,aA 27,0),(aA 28,aA 11,0),(aA 11,aA 28,0),(aA 29,aA 12,0),(aA 12,aA 29,0),(aA 17,aA 34,0)]⟩,[(1,⟨[qUS,(.int .u32),n2,gG,(.int .i64),(.int .i64),n6,(.str 1048576),n7,n8,n5,(.int .i64),n9,n10,gG,n2,.bool,(.int .u32),m9,n13,xD,.bool],[(aA 21,aA 19,0),(aA 19,aA 21,0),(aA 21,aA 24,0),(aA 21,aA 17,0),(aA 25,aA 3,0),(aA 3,aA 25,0),(aA 26,aA 4,0),(aA 4,aA 26,0),(aA 27,aA 5,0),(aA 5,aA 27,0),(aA 28,aA 6,0),(aA 6,aA 28,0),(aA 29,aA 7,0),(aA 7,aA 29,0),(aA 31,aA 9,0),(aA 9,aA 31,0),(aA 32,aA 10,0),(aA 10,aA 32,0),(aA 33,aA 22,0),(aA 23,aA 33,0),(aA 33,aA 11,0),(aA 11,aA 33,0),(aA 34,aA 12,0),(aA 12,aA 34,0),(aA 2,aA 39,0)],[sC 999,cC 24,sC 1001]⟩)],[sC 1001,sC 0,sC 0]⟩
def zFY:List (Nat×Pat):=[(1,⟨[⟨.pure,true⟩,⟨.pure,true⟩,⟨.pure,true⟩,⟨.pure,false⟩,⟨.fresh,true⟩,⟨.pure,true⟩,⟨.pure,true⟩,⟨.pure,true⟩,⟨.pure,true⟩,⟨.pure,true⟩,⟨.pure,true⟩,⟨.pure,true⟩,⟨.pure,true⟩,⟨.pure,true⟩,⟨.pure,true⟩,⟨.pure,true⟩,⟨.pure,true⟩,⟨.pure,true⟩,⟨.fresh,true⟩],[(6,.loc 5 0),(28,.v 0),(29,.v 1),(30,.v 2)],[some (.whole (.v 3) 9),some (.cells [.fn (.func 198) [] [.loc 2 0,.loc 3 0]]),some (.cells [.v 4]),some (.cells [.v 5]),none,some (.cells [.v 6,.v 7,.v 8,.v 9,.v 10,.v 11,.v 12,.v 13,.v 14,.v 15,.v 16,.v 17,.v 18,.fn (.func 201) [] [.loc 0 0,.loc 1 0]])],[]⟩)]
def zAO:EnM:=⟨200,qWL,zFY,⟨[n13,n2,n13,xD,.bool],[n13,xD,.bool],[(aA 3,.z,0)],[(aA 3,aA 6,0)]⟩,[(1,⟨[n10,(.int .i64),(.int .i64),n13,xD,.bool,n6,(.str 1048576),n7,n8,n5,(.int .i64),n9,n10,gG,n2,.bool,(.int .u32),m9],[(aA 9,aA 7,0),(aA 9,aA 3,0),(aA 3,aA 9,0),(.z,aA 11,0),(.z,aA 12,0),(.z,aA 13,0),(.z,aA 14,0),(.z,aA 15,0),(.z,aA 17,0),(aA 18,aA 5,0),(aA 6,aA 18,0),(.z,aA 18,0),(.z,aA 19,0),(aA 9,aA 20,-1),(aA 20,.z,24)],[sC 999,cC 7,sC 1001]⟩)],[sC 1001,sC 0,sC 0]⟩
def zAT:En:=⟨169,[],⟨[n13,n2],[xD,(.int .i64)],[],[(.z,aA 3,0)]⟩,[],[sC 1001]⟩
def zFX:List (Nat×Pat):=[(1,⟨[⟨.pure,false⟩,⟨.pure,true⟩,⟨.pure,true⟩,⟨.pure,false⟩],[(3,.loc 0 0),(4,.loc 1 0),(8,.v 0),(9,.v 1),(10,.v 2)],[some (.whole (.v 3) 2),some (.cells [.c (.slice none 0 0)])],[]⟩)]
def zFb:En:=⟨81,zFX,⟨[n23,zBq],[qBd,.bool],[],[]⟩,[(1,⟨[n23,(.int .i64),(.int .i64),zBq],[(aA 3,aA 2,0),(.z,aA 4,0)],[sC 999,cC 4,sC 1001]⟩)],[sC 1001,sC 0,sC 0]⟩
def zFa:En:=⟨83,[],⟨[n13,n2,zCF],[.bool],[],[]⟩,[],[sC 1001]⟩
def e133:En:=⟨133,[],⟨[n13,(.str 1048576)],[xD,(.int .i64)],[],[]⟩,[],[sC 1001]⟩
def zAW:EnM:=⟨135,nO,[],⟨[xD],[xD],[],[]⟩,[],[sC 1001]⟩
def zA1:En:=⟨107,p5,⟨[k8,k8],[.bool],[],[]⟩,[(1,⟨[k8,k8,(.int .i64),(.int .i64)],[(aA 4,aA 2,0),(aA 4,aA 3,0),(.z,aA 5,0)],[sC 999,cC 5,sC 1001]⟩)],[sC 1001,sC 0,sC 0]⟩
def zFe:En:=⟨68,[],⟨[qBd,qBd],[.bool],[],[]⟩,[],[sC 1001]⟩
def zAU:En:=⟨137,[],⟨[zBp,zEW,zGk],[.bool],[],[]⟩,[],[sC 1001]⟩
def zFc:En:=⟨80,p0,⟨[n23,zCE],[(.int .i64)],[],[(.z,aA 2,1),(aA 2,aA 0,-1)]⟩,[(1,⟨[n23,zCE,(.int .i64),(.int .i64)],[(aA 2,aA 0,0),(aA 4,aA 2,0),(.z,aA 5,0)],[sC 999,cC 5,sC 1001]⟩)],[sC 1001,sC 0,sC 0]⟩
def zFj:En:=⟨50,[],⟨[n23,zCE],[.bool],[],[]⟩,[],[sC 1001]⟩
def zAV:En:=⟨136,[],⟨[qBd,zGj,zEW],[.bool],[],[]⟩,[],[sC 1001]⟩
def zAS:En:=⟨170,p0,⟨[xD,zBo],[(.int .i64)],[],[(.z,aA 2,1),(aA 2,aA 0,-1)]⟩,[(1,⟨[xD,zBo,(.int .i64),(.int .i64)],[(aA 2,aA 0,0),(aA 4,aA 2,0),(.z,aA 5,0)],[sC 999,cC 5,sC 1001]⟩)],[sC 1001,sC 0,sC 0]⟩
def zFW:List (Nat×Pat):=[(1,⟨[⟨.fresh,true⟩,⟨.pure,false⟩,⟨.pure,true⟩,⟨.pure,true⟩],[(0,.v 0),(1,.v 1),(5,.v 2),(6,.v 3)],[],[]⟩)]
def zAX:EnM:=⟨134,nP,zFW,⟨[xD,zBo],[xD],[],[]⟩,[(1,⟨[xD,zBo,(.int .i64),(.int .i64)],[(aA 2,aA 0,0),(aA 0,aA 2,0),(.z,aA 4,0),(aA 4,aA 5,-1),(aA 5,aA 0,0)],[sC 999,cC 5,sC 1001]⟩)],[sC 1001,sC 0,sC 0]⟩
def zE9:En:=⟨84,[],⟨[n13,zBq,(.str 1048576),n23],[xD,(.int .i64)],[],[]⟩,[],[sC 1001]⟩
def e52:En:=⟨52,[],⟨[n13,zBq,(.str 1048576),n23],[n32],[],[]⟩,[],[sC 1001]⟩
def zFo:En:=⟨33,[],⟨[n32,n32],[.bool],[],[]⟩,[],[sC 1001]⟩
def zFV:List (Nat×Pat):=[(1,⟨[⟨.pure,false⟩,⟨.pure,false⟩,⟨.pure,false⟩,⟨.pure,true⟩,⟨.pure,true⟩],[(1,.v 0),(2,.v 1),(15,.v 2),(16,.v 3),(17,.v 4)],[],[]⟩)]
def zFp:En:=⟨32,zFV,⟨[qYa,qYa,zEV],[.bool],[],[]⟩,[(1,⟨[qYa,zEV,qYa,(.int .i64),(.int .i64)],[(aA 6,aA 3,0),(aA 6,aA 5,0),(.z,aA 7,0)],[sC 999,cC 7,sC 1001]⟩)],[sC 1001,sC 0,sC 0]⟩
def zFr:En:=⟨14,[],⟨[qYa,qYa],[.bool],[],[]⟩,[],[sC 1001]⟩
def zBy:En:=⟨36,[],⟨[(.int .i64)],[.bool],[],[]⟩,[],[sC 1001]⟩
def zA0:En:=⟨108,[],⟨[qUT,qUT],[.bool],[],[]⟩,[],[sC 1001]⟩
def zFU:List (Nat×Pat):=[(1,⟨[⟨.pure,true⟩,⟨.pure,false⟩,⟨.pure,false⟩],[(2,.loc 0 0),(3,.loc 1 0),(5,.v 0)],[some (.whole (.v 1) 1),some (.whole (.v 2) 1)],[]⟩)]
def zFd:En:=⟨69,zFU,⟨[qBd,qBd],[.bool],[],[]⟩,[(1,⟨[(.int .i64),qBd,qBd],[(.z,aA 2,0)],[sC 999,cC 2,sC 1001]⟩)],[sC 1001,sC 0,sC 0]⟩
def zFn:En:=⟨37,[],⟨[zBp,zBp],[.bool],[],[]⟩,[],[sC 1001]⟩
def zFT:List (Nat×Pat):=[(1,⟨[⟨.pure,false⟩,⟨.pure,true⟩,⟨.pure,true⟩],[(0,.v 0),(7,.v 1),(8,.v 2)],[],[]⟩),(2,⟨[⟨.pure,false⟩,⟨.pure,true⟩,⟨.pure,true⟩,⟨.pure,true⟩,⟨.pure,true⟩,⟨.pure,true⟩,⟨.pure,false⟩,⟨.pure,false⟩,⟨.pure,false⟩,⟨.pure,false⟩,⟨.pure,false⟩,⟨.pure,false⟩,⟨.pure,false⟩,⟨.pure,false⟩],[(0,.v 0),(3,.v 1),(4,.loc 0 0),(5,.v 2),(7,.v 3),(8,.v 1),(21,.loc 0 0),(22,.loc 0 1),(23,.v 4),(24,.v 5),(25,.c (.bool false)),(40,.v 6),(41,.v 7),(42,.v 8),(44,.v 9),(45,.v 10),(46,.v 11),(47,.v 12)],[some (.whole (.v 13) 4)],[]⟩)]
def e17:En:=⟨17,zFT,⟨[n23],[(.int .i64)],[],[(.z,aA 1,0)]⟩,[(1,⟨[n23,(.int .i64),(.int .i64)],[(aA 1,aA 0,0),(aA 0,aA 1,0),(aA 2,aA 1,0),(aA 1,aA 2,0),(.z,aA 3,0)],[sC 999,cC 3,sC 1001,sC 0,sC 0]⟩),(2,⟨[n23,(.int .i64),(.int .i64),(.int .i64),(.int .i64),.bool,qWy,qWy,qWy,qWy,qWy,qWy,qWy,zBp],[(aA 3,aA 2,0),(.z,aA 3,0),(aA 4,aA 1,0),(aA 1,aA 4,0),(aA 2,aA 4,-1),(aA 4,aA 0,0),(aA 0,aA 4,0)],[sC 999,cC 2,sC 998,cC 3,sC 1001]⟩)],[sC 1001,sC 0,sC 0,sC 0,sC 0]⟩
def zFl:En:=⟨48,p1,⟨[zEU,(.int .i64)],[(.int .i64)],[],[(.z,aA 2,1),(aA 2,aA 0,-1)]⟩,[(1,⟨[(.int .i64),zEU,(.int .i64),(.int .i64)],[(aA 4,aA 3,0),(aA 4,aA 0,0),(.z,aA 5,0)],[sC 999,cC 5,sC 1001]⟩)],[sC 1001,sC 0,sC 0]⟩
def zFS:List (Nat×Pat):=[(1,⟨[⟨.pure,false⟩,⟨.pure,true⟩,⟨.pure,true⟩,⟨.pure,true⟩],[(1,.v 0),(4,.loc 1 0),(9,.v 1),(10,.v 2),(11,.v 3)],[none,some (.cells [.c (.int .i64 0),.c (.int .i64 0),.c (.int .i64 0),.c (.int .i64 0),.c (.int .i64 0),.c (.int .i64 0),.c (.string ⟨#[]⟩)])],[]⟩)]
def zFk:En:=⟨49,zFS,⟨[zGi,(.int .i64)],[zGh,.bool],[],[]⟩,[(1,⟨[(.int .i64),zGg,(.int .i64),(.int .i64)],[(aA 4,aA 3,0),(.z,aA 5,0)],[sC 999,cC 5,sC 1001]⟩)],[sC 1001,sC 0,sC 0]⟩
def hand:aG:=[(167,⟨[n0,n5,n2],[n2],[],[(aA 3,aA 2,0)]⟩),(131,⟨[n13,zCF],[n2,(.int .i64)],[],[]⟩),(168,⟨[n13,zCF],[n2],[(.aT [1,0],.z,4)],[]⟩),(223,⟨[n0,(.st [(.sl 3 1 BG (.int .i64)),(.sl 3 1 BG (.int .i64)),(.sl 295 2 BG (.st [(.int .i64),(.int .i64)])),(.sl 295 2 BG (.st [(.int .i64),(.int .i64)])),.bool,.bool]),n2,(.int .i64)],[.bool],[(.z,aA 3,0),(aA 3,aA 2,-1)],[]⟩),(82,⟨[(.st [(.str 1048576),(.sl 110 2 1048576 (.wh (.st [(.str 1048576),(.sl 3 1 1048576 (.int .i64))]) [(.z,.aT [0,1],-1),(.aT [0,1],.z,3)])),(.sl 172 1 1048576 (.sl 9 1 1048576 (.str 1048576)))]),(.str 1048576)],[n2,(.int .i64),(.int .i64)],[],[]⟩),(238,⟨[(.int .u32),(.int .i64)],[(.int .u32)],[],[]⟩),(237,⟨[(.st [(.int .i64),(.sl 112 3 1048576 (.wh (.st [(.int .i64),(.int .i64),(.int .i64)]) [(.z,.aT [0,0],0),(.z,.aT [0,2],0)])),(.sl 3 1 1048576 (.wh (.int .i64) [(.z,aA 0,0)]))]),(.int .u32),(.int .i64)],[(.int .u32)],[],[]⟩),(193,⟨[gG,(.int .i64)],[(.sl 114 2 1048576 (.st [(.str 1048576),(.str 1048576)]))],[],[]⟩)]
def items:List It:=[.fn qSD,.fn zAI,.fn zAD,.fn zAJ,.fn zAR,.fn zAC,.fn zAF,.md zAA,.fn qSE,.fn zAy,.fn zAY,.md zAB,.fn zBv,.fn zBw,.fn zBx,.fn zAG,.fn zAH,.fn zAP,.md zAQ,.md zAM,.md qP7,.md zAN,.fn qPO,.md qPT,.md qP6,.md qP5,.md qP4,.md qQa,.md qP3,.md qP2,.md qP1,.md qP0,.md qP9,.md qPZ,.md qKA,.md qKz,.md qKy,.md qKx,.md qP8,.md zAE,.md zAz,.md qPY,.md qPS,.md qPX,.md qPR,.md qPW,.md qPQ,.md qPV,.md qPP,.md qPU,.md zAO,.fn zAT,.fn zFb,.fn zFa,.fn e133,.md zAW,.fn zA1,.fn zFe,.fn zAU,.fn zFc,.fn zFj,.fn zAV,.fn zAS,.md zAX,.fn zE9,.fn e52,.fn zFo,.fn zFp,.fn zFr,.fn zBy,.fn zA0,.fn zFd,.fn zFn,.fn e17,.fn zFl,.fn zFk]
end Go.Proofs.YtpbmnkajhedaiaaGreat.Ht
namespace Go.Proofs.YtpbmnkajhedaiaaGreat
open Go Go.Am Go.Proofs Go.Am.Tt
theorem qKe{el sz n:Nat}{e:Sn}{d x:D}(h:qM (.sl el sz n e) d)(y:x∈d.es):qM e x:=by
 simp only[qM]at h;rcases h with rfl|⟨es,rfl,_,h⟩
 ·cases y
 exact h x y
theorem qGa{d:D}(h:qM Ht.n5 d):∀r∈d.es,qUQ r:=λr i=>by
 have x:qM _ r:=qKe h i
 have o:qC 1048576 zBf r:=zA rfl x
 simp only[qM]at x
 have b:=x.2 _ List.mem_cons_self
 have y:=x.2 _ (mC _ List.mem_cons_self)
 obtain⟨_,rfl,fr,_,rfl,e,to,_,rfl,c,q,_,rfl,j,p,_,rfl,g,u,_,rfl,l,t,_,rfl,k,rfl⟩:=o
 have b:kF fr<=kF to+0:=b
 have y:kF to<=kF fr+0:=y
 rw[qH8 e,qH8 c]at b y
 show to.es.length=fr.es.length
 omega
theorem qF0{d:D}(h:qM Ht.n7 d):∀r∈d.es,qRP r:=λr e=>by
 have x:qM _ r:=qKe h e
 have i:qC 1048576 (.st [.str,mL]) r:=zA rfl x
 simp only[qM]at x
 have b:=x.2 _ List.mem_cons_self
 have y:=x.2 _ (mC _ List.mem_cons_self)
 obtain⟨_,rfl,fr,_,rfl,g,to,_,rfl,c,rfl⟩:=i
 have b:(0:Int)<=kF to + -1:=b
 have y:kF to<=(0:Int)+3:=y
 rw[qH8 c]at b y
 show 1<=to.es.length/\to.es.length<=3
 omega
theorem qJ6{a:D}(h:qM Ht.n13 a):∃gs nm us lt rs n ws fs l,a=.agg [gs,nm,us,lt,rs,n,ws,fs,l]/\qC 1048576 qDE gs/\qC 1048576 .str nm/\qC 1048576 qQQ us/\qC 1048576 qS9 lt/\qC 1048576 qHG rs/\qC 1048576 (.int .i64) n/\qC 1048576 qS8 ws/\qC 1048576 mL fs/\qC 1048576 qAs l/\(∀r∈rs.es,qUQ r)/\∀r∈us.es,qRP r:=by obtain⟨_,rfl,gs,_,rfl,i,nm,_,rfl,b,us,_,rfl,x,lt,_,rfl,c,rs,_,rfl,y,n,_,rfl,hn,ws,_,rfl,e,fs,_,rfl,j,l,_,rfl,g,rfl⟩:=h;exact⟨gs,nm,us,lt,rs,n,ws,fs,l,rfl,zA rfl i,zA rfl b,zA rfl x,zA rfl c,zA rfl y,zA rfl hn,zA rfl e,zA rfl j,zA rfl g,qGa y,qF0 x⟩
theorem qSi:∀p∈Ht.hand,xZ (Holds EE) p.1 p.2:=by
 unfold Ht.hand;refine oM ?_<|oM ?_<|oM ?_<|oM ?_<|oM ?_<|oM ?_<|oM ?_<|oM ?_<|eL
 ·intro ds hd z;simp only[qU]at hd;obtain⟨a,_,rfl,o,b,_,rfl,A,c,_,rfl,R,rfl⟩:=hd;have L:=qGa A;have y:qC 1048576 qHG b:=zA rfl A;have u:qC 300000000 mL c:=zA rfl R;have g:qC 1048576 (.st [qDE]) a:=zA rfl o;obtain⟨_,rfl,gs,_,rfl,I,rfl⟩:=g;obtain⟨v,hv,lv,h⟩:=qYm (mo I) (mo y) u L;refine⟨[v],?_,?_,h⟩
  ·simp only[qU];exact⟨_,_,rfl,oZ rfl hv,rfl⟩
  intro q x;rcases List.mem_cons.1 x with rfl|x
  ·show kF v<=kF c+0;rw[qH8 hv,qH8 u];omega
  cases x
 ·intro ds hd z;simp only[qU]at hd;obtain⟨a,_,rfl,o,b,_,rfl,A,rfl⟩:=hd;have y:qC 300000000 (.st [qBr]) b:=zA rfl A;obtain⟨_,rfl,ps,_,rfl,E,rfl⟩:=y;have H:qC 1048576 lY a:=zA rfl o;obtain⟨gs,nm,us,lt,rs,n,ws,fs,l,rfl,I,G,C,w,J,hn,M,Q,W,L,_⟩:=qJ6 o;obtain⟨v,e,hv,h⟩:=zBJ H I J L E;refine⟨[v,dI e],?_,λq x=>(by cases x),h⟩;simp only[qU];exact⟨_,_,rfl,oZ rfl hv,_,_,rfl,⟨_,rfl⟩,rfl⟩
 ·intro ds hd z;simp only[qU]at hd;obtain⟨a,_,rfl,o,b,_,rfl,A,rfl⟩:=hd;have y:qC 300000000 (.st [qBr]) b:=zA rfl A;have F:=z _ List.mem_cons_self;obtain⟨_,rfl,ps,_,rfl,E,rfl⟩:=y;have H:qC 1048576 lY a:=zA rfl o;obtain⟨gs,nm,us,lt,rs,n,ws,fs,l,rfl,I,G,C,w,J,hn,M,Q,W,L,_⟩:=qJ6 o;have F:kF ps<=0+4:=F;rw[qH8 E]at F;obtain⟨v,hv,h⟩:=qVf rfl H E (by omega);refine⟨[v],?_,λq x=>(by cases x),h⟩;simp only[qU];exact⟨_,_,rfl,oZ rfl hv,rfl⟩
 ·intro ds hd z;simp only[qU]at hd;obtain⟨a,_,rfl,o,b,_,rfl,A,c,_,rfl,R,e,_,rfl,he,rfl⟩:=hd;have p0:=z _ List.mem_cons_self;have p1:=z _ (mC _ List.mem_cons_self);have u:qC 300000000 mL c:=zA rfl R;have y:qC 300000000 zBf b:=zA rfl A;have g:qC 1048576 (.st [qDE]) a:=zA rfl o;obtain⟨_,rfl,gs,_,rfl,I,rfl⟩:=g;obtain⟨_,rfl,fr,_,rfl,K,to,_,rfl,N,lf,_,rfl,P,rg,_,rfl,O,_,_,rfl,⟨Z,rfl⟩,_,_,rfl,⟨X,rfl⟩,rfl⟩:=y;obtain⟨i,rfl⟩:=he;have p0:(0:Int)<=i+0:=p0;have p1:i<=kF c + -1:=p1;rw[qH8 u]at p1;obtain⟨j,rfl⟩:∃j:Nat,i=(j:Int):=⟨i.toNat,by omega⟩;have w:j<c.es.length:=by omega
  have S:=List.getElem?_eq_getElem w;obtain⟨s,hs⟩:=zO u S;obtain⟨n,V,_,_⟩:=qZ4 (s:=s) K;obtain⟨t,U,_⟩:=qYk (bg:=Z) (en:=X) (mo I) K (qA N).one P O u (i:=j) (by rw[S,hs]) V;refine⟨[dB t],?_,λq x=>(by cases x),U⟩;simp only[qU];exact⟨_,_,rfl,⟨_,rfl⟩,rfl⟩
 ·intro ds hd z;simp only[qU]at hd;obtain⟨a,_,rfl,o,b,_,rfl,A,rfl⟩:=hd;obtain⟨_,rfl,nm,_,rfl,G,us,_,rfl,C,lt,_,rfl,w,rfl⟩:=o;obtain⟨tx,rfl,ht⟩:=A;have ht:tx.size<=1048576:=ht;obtain⟨v,p,e,h,hv⟩:=zGB (zA (B:=1048576) rfl G) (zA (B:=1048576) rfl C) (zA (B:=1048576) rfl w) (qF0 C) (tx:=tx) (by omega);refine⟨[v,dI p,dI e],?_,λq x=>(by cases x),h⟩;simp only[qU];exact⟨_,_,rfl,oZ rfl hv,_,_,rfl,⟨_,rfl⟩,_,_,rfl,⟨_,rfl⟩,rfl⟩
 ·intro ds hd z;simp only[qU]at hd;obtain⟨_,_,rfl,⟨m,rfl⟩,_,_,rfl,⟨q,rfl⟩,rfl⟩:=hd;refine⟨[dU (qMF m q)],?_,λq x=>(by cases x),qW8 m q⟩;simp only[qU];exact⟨_,_,rfl,⟨_,rfl⟩,rfl⟩
 ·intro ds hd z;simp only[qU]at hd;obtain⟨a,_,rfl,o,_,_,rfl,⟨m,rfl⟩,_,_,rfl,⟨k,rfl⟩,rfl⟩:=hd;have g:qC 1048576 (.st [.int .i64,qS8,mL]) a:=zA rfl o;obtain⟨_,rfl,n,_,rfl,hn,ws,_,rfl,M,fs,_,rfl,Q,rfl⟩:=g;obtain⟨r,h⟩:=qYj (n:=n) (m:=m) (k:=k) (by obtain⟨_,rfl⟩:=hn;rfl) (mo M) (qA Q).one;refine⟨[dU r],?_,λq x=>(by cases x),h⟩;simp only[qU];exact⟨_,_,rfl,⟨_,rfl⟩,rfl⟩
 intro ds hd z;simp only[qU]at hd;obtain⟨a,_,rfl,o,_,_,rfl,⟨q,rfl⟩,rfl⟩:=hd;have g:qC 1048576 qAs a:=zA rfl o;obtain⟨v,hv,h⟩:=qYl (id:=q) g;refine⟨[v],?_,λq x=>(by cases x),h⟩;simp only[qU];exact⟨_,_,rfl,vY (B:=1048576) rfl hv,rfl⟩
end Go.Proofs.YtpbmnkajhedaiaaGreat
namespace Go.Proofs.YtpbmnkajhedaiaaGreat.Ht
open Go Go.Am Go.Proofs Go.Am.Tt
def qV9:List It:=[.fn qSD,.fn zAI,.fn zAD,.fn zAJ,.fn zAR,.fn zAC,.fn zAF,.md zAA,.fn qSE,.fn zAy]
def qV8:List It:=[.fn zAY,.md zAB,.fn zBv,.fn zBw,.fn zBx,.fn zAG,.fn zAH,.fn zAP,.md zAQ,.md zAM]
def qV7:List It:=[.md qP7,.md zAN,.fn qPO,.md qPT,.md qP6,.md qP5,.md qP4,.md qQa,.md qP3,.md qP2]
def qV6:List It:=[.md qP1,.md qP0,.md qP9,.md qPZ,.md qKA,.md qKz,.md qKy,.md qKx,.md qP8,.md zAE,.md zAz]
def qV5:List It:=[.md qPY,.md qPS]
def qV4:List It:=[.md qPX,.md qPR]
def qV3:List It:=[.md qPW,.md qPQ]
def qV2:List It:=[.md qPV,.md qPP]
def qV1:List It:=[.md qPU,.md zAO,.fn zAT]
def qV0:List It:=[.fn zFb,.fn zFa,.fn e133,.md zAW,.fn zA1,.fn zFe,.fn zAU,.fn zFc,.fn zFj,.fn zAV,.fn zAS,.md zAX,.fn zE9,.fn e52,.fn zFo,.fn zFp,.fn zFr,.fn zBy,.fn zA0,.fn zFd,.fn zFn,.fn e17,.fn zFl,.fn zFk]
def zCi:aG:=hand
def zCh:pU:=[]
def zEL:aG:=gO zCi qV9
def zEC:pU:=lF zCh qV9
def zEK:aG:=gO zEL qV8
def zEB:pU:=lF zEC qV8
def zEJ:aG:=gO zEK qV7
def zEA:pU:=lF zEB qV7
def zEI:aG:=gO zEJ qV6
def zEz:pU:=lF zEA qV6
def zEH:aG:=gO zEI qV5
def zEy:pU:=lF zEz qV5
def zEG:aG:=gO zEH qV4
def zEx:pU:=lF zEy qV4
def zEF:aG:=gO zEG qV3
def zEw:pU:=lF zEx qV3
def zEE:aG:=gO zEF qV2
def zEv:pU:=lF zEw qV2
def zED:aG:=gO zEE qV1
def zEu:pU:=lF zEv qV1
def qZq:aG:=gO zED qV0
def zCg:pU:=lF zEu qV0
end Go.Proofs.YtpbmnkajhedaiaaGreat.Ht
