/- Bounded data of given shapes; steps for functions that always give something. Conditions: none. -/
import Derived.Test.YtminhjecpnpaeaaGreatDoorUn
set_option linter.unusedVariables false
set_option linter.unusedSimpArgs false
namespace Go.Am
open Go
mutual
def qC(B:Nat):Sh->D->Prop
 |.int k,d=>∃n,d=.leaf (.int k n)
 |.bool,d=>∃b,d=.leaf (.bool b)
 |.str,d=>∃s,d=.leaf (.string s)/\s.size<=B
 |.st h,d=>∃cs,d=.agg cs/\j8 B h cs
 |.sl el sz e,d=>d=.nil∨∃es,d=.sl el sz es/\es.length<=B/\∀x∈es,qC B e x
def j8(B:Nat):List Sh->List D->Prop
 | [],l=>l=[]
 |s::ss,l=>∃d ds,l=d::ds/\qC B s d/\j8 B ss ds
end
variable{B:Nat}
theorem qJu{n:Nat}(h:n<=300000000):n<qT:=by unfold qT;omega
theorem qB{el sz:Nat}{e:Sh}{d:D}(h:qC B (.sl el sz e) d)(x:B<=300000000:=by decide):xA el sz d:=by
 simp only[qC]at h;rcases h with rfl|⟨es,rfl,h,_⟩
 ·exact .inl rfl
 exact .inr ⟨es,rfl,qJu (lT h x)⟩
theorem qK{el sz:Nat}{e:Sh}{d:D}(h:qC B (.sl el sz e) d):d.es.length<=B:=by
 simp only[qC]at h;rcases h with rfl|⟨es,rfl,h,_⟩
 ·exact Nat.zero_le _
 exact h
theorem jG{el sz:Nat}{e:Sh}{d x:D}{i:Nat}(h:qC B (.sl el sz e) d)(y:d.es[i]? = some x):qC B e x:=by
 simp only[qC]at h;rcases h with rfl|⟨es,rfl,_,h⟩
 ·simp[D.es]at y
 exact h x (List.mem_of_getElem? y)
theorem jH{k:IntKind}{n:Int}:qC B (.int k) (.leaf (.int k n)):=⟨n,rfl⟩
theorem fK{b:Bool}:qC B .bool (.leaf (.bool b)):=⟨b,rfl⟩
theorem cL{s:ByteArray}(h:s.size<=B):qC B .str (.leaf (.string s)):=⟨s,rfl,h⟩
theorem tQ{x:List Sh}{cs:List D}(h:j8 B x cs):qC B (.st x) (.agg cs):=⟨cs,rfl,h⟩
theorem wE:j8 B [] []:=rfl
theorem qN{s:Sh}{ss:List Sh}{d:D}{ds:List D}(h:qC B s d)(hs:j8 B ss ds):j8 B (s::ss) (d::ds):=⟨d,ds,rfl,h,hs⟩
theorem oP{el sz:Nat}{e:Sh}:qC B (.sl el sz e) .nil:=.inl rfl
theorem lL{el sz:Nat}{e:Sh}{es:List D}(h:es.length<=B)(y:∀x∈es,qC B e x):qC B (.sl el sz e) (.sl el sz es):=.inr ⟨es,rfl,h,y⟩
section
variable{E:Env}{HS:FuncId->List D->D->Prop}
theorem get_at{d:D}{s:Int}(y:0<=s)(h:s<(d.es.length:Int)):∃x,d.es[s.toNat]? = some x:=
 ⟨_,List.getElem?_eq_getElem (by omega)⟩
theorem nR{s:Int}(h:0<=s):dI s=dI ((s.toNat:Nat):Int):=by rw[Int.toNat_of_nonneg h]
theorem j5{d:D}{s:Int}{e:D}(h:0<=s)(he:d.es[s.toNat]? = some e):TOp.eval E .inr [d,dI s]=some (dB true):=by rw[nR h];exact vJ he
theorem qGv{el sz:Nat}{d:D}{s:Int}{cs:List D}(h:xA el sz d)(y:0<=s)(he:d.es[s.toNat]? = some (.agg cs))(x:cs.length=sz):TOp.eval E (.elem sz true sz 0) [d,dI s]=some (.agg cs):=by rw[nR y];exact jP h he x
theorem jJ{el:Nat}{d:D}{s:Int}{e:D}(h:xA el 1 d)(y:0<=s)(he:d.es[s.toNat]? = some e)(x:e.one=true):TOp.eval E (.elem 1 false 1 0) [d,dI s]=some e:=by rw[nR y];exact xP h he x
theorem sN{el sz off:Nat}{d:D}{s:Int}{cs:List D}{e:D}(h:xA el sz d)(c:0<=s)(he:d.es[s.toNat]? = some (.agg cs))(b:cs[off]? = some e)(y:e.one=true)(x:off<sz):TOp.eval E (.elem sz false 1 off) [d,dI s]=some e:=by rw[nR c];exact nX h he b y x
theorem qNj{el sz size off:Nat}{d:D}{s:Int}{cs:List D}(h:xA el sz d)(c:0<=s)(he:d.es[s.toNat]? = some (.agg cs))(b:cs.length=sz)(x:off+size<=sz)(y:¬(off=0/\size=sz)):TOp.eval E (.elem sz true size off) [d,dI s]=some (.agg ((cs.drop off).take size)):=by rw[nR c];exact qNl h he b x y
theorem qSr{m:Int}(x : -9223372036854775808<=m)(h:m<9223372036854775808):IntKind.i64.wrap m=m:=by have e:IntKind.i64.wrap m=(if(true&&decide ((m%18446744073709551616)≥9223372036854775808))=true then m%18446744073709551616-18446744073709551616 else m%18446744073709551616):=rfl;grind
theorem kE{t:TypeId}{x y:Operand}{m n:Int}(h : -9223372036854775808<=m+n/\m+n<9223372036854775808):TOp.eval E (.bin .add t x y) [dI m,dI n]=some (dI (m+n)):=by have b:TOp.eval E (.bin .add t x y) [dI m,dI n]=some (dI (IntKind.i64.wrap (m+n))):=rfl;rw[b,qSr h.1 h.2]
theorem qNi{t:TypeId}{x y:Operand}{m n:Int}(h : -9223372036854775808<=m-n/\m-n<9223372036854775808):TOp.eval E (.bin .sub t x y) [dI m,dI n]=some (dI (m-n)):=by have b:TOp.eval E (.bin .sub t x y) [dI m,dI n]=some (dI (IntKind.i64.wrap (m-n))):=rfl;rw[b,qSr h.1 h.2]
theorem sO{t:TypeId}{x y:Operand}{m n:Int}:TOp.eval E (.bin .add t x y) [dI m,dI n]=some (dI (IntKind.i64.wrap (m+n))):=rfl
theorem qBg{t:TypeId}{x y:Operand}{m n:Int}:TOp.eval E (.bin .sub t x y) [dI m,dI n]=some (dI (IntKind.i64.wrap (m-n))):=rfl
theorem sM{t:TypeId}{x y:Operand}{m n:Int}:TOp.eval E (.bin .mul t x y) [dI m,dI n]=some (dI (IntKind.i64.wrap (m*n))):=rfl
theorem qE9{s:ByteArray}:TOp.eval E (.len true) [.leaf (.string s)]=some (dI (s.size:Int)):=rfl
theorem uT{s:ByteArray}{i:Int}(h:0<=i)(y:i<(s.size:Int)):∃n:Int,0<=n/\n<256/\TOp.eval E .chr [.leaf (.string s),dI i]=some (.leaf (.int .u8 n)):=by
 rw[nR h,qO8];have x:i.toNat<s.data.toList.length:=by simp_all
 refine⟨((s.data.toList[i.toNat]).toNat:Int),by omega,?_,?_⟩
 ·have:=(s.data.toList[i.toNat]).toNat_lt;omega
 show(s.data.toList[i.toNat]?).map (λ(b:UInt8)=>D.leaf (.int .u8 b.toNat))=_;grind
def zAt(E:Env)(HS:FuncId->List D->D->Prop)(h:Nat->Tree)(R:D->Prop)(r:Res1):Prop:=match r with
 |.ret d'=>R d'
 |.jump k ds=>∃d,R d/\qX E HS h k ds d
theorem yS{x:Nat->Tree}{R:D->Prop}{k:Nat}{ρ:List D}(h:wp E HS (zAt E HS x R) (x k) ρ):∃d,R d/\qX E HS x k ρ d:=by
 obtain⟨r,b,y⟩:=rT _ _ h;cases r with
 |ret d'=>exact⟨d',b,qX.step (y _ rfl)⟩
 |jump k' ds=>obtain⟨d,hr,hd⟩:=b;exact⟨d,hr,qX.step (y _ hd)⟩
theorem vX{y:Nat->Tree}{R:D->Prop}{xs:List SV}{ρ ds:List D}(x:SV.ds (getD ρ) xs=ds)(h:R (xN ds)):wp E HS (zAt E HS y R) (.ret xs) ρ:=by simp only[wp,x];exact h
theorem vV{x:Nat->Tree}{R:D->Prop}{k:Nat}{xs:List SV}{ρ ds:List D}(y:SV.ds (getD ρ) xs=ds)(h:∃d,R d/\qX E HS x k ds d):wp E HS (zAt E HS x R) (.jump k xs) ρ:=by simp only[wp,y];exact h
theorem xK{P:Nat->Prop}(N:Nat)(st:∀i,(i<N->P (i+1))->P i):∀i,P i:=by
 have y:∀m i,N<=i+m->P i:=by
  intro m;induction m with
  |zero=>intro i h;exact st i λx=>absurd x (by omega)
  |succ m ih=>intro i h;exact st i λ_=>ih (i+1) (by omega)
 intro i;exact y N i (Nat.le_add_left _ _)
theorem vP{n:Nat}(h:n<=4000000000):n<qT:=by unfold qT;omega
theorem vY{k:IntKind}{t:TypeId}{x y:Operand}{m n:Int}:TOp.eval E (.bin .lss t x y) [.leaf (.int k m),.leaf (.int k n)]=some (dB (decide (m<n))):=by cases k<;>rfl
theorem iO{k:IntKind}{t:TypeId}{x y:Operand}{m n:Int}:TOp.eval E (.bin .leq t x y) [.leaf (.int k m),.leaf (.int k n)]=some (dB (decide (m<=n))):=by cases k<;>rfl
theorem oF{k:IntKind}{t:TypeId}{x y:Operand}{m n:Int}:TOp.eval E (.bin .gtr t x y) [.leaf (.int k m),.leaf (.int k n)]=some (dB (decide (m>n))):=by cases k<;>rfl
theorem rW{k:IntKind}{t:TypeId}{x y:Operand}{m n:Int}:TOp.eval E (.bin .geq t x y) [.leaf (.int k m),.leaf (.int k n)]=some (dB (decide (m≥n))):=by cases k<;>rfl
theorem cA{k:IntKind}{t:TypeId}{x y:Operand}{m n:Int}:TOp.eval E (.bin .eql t x y) [.leaf (.int k m),.leaf (.int k n)]=some (dB (decide (m=n))):=by cases k<;>rfl
theorem nW{k:IntKind}{t:TypeId}{x y:Operand}{m n:Int}:TOp.eval E (.bin .neq t x y) [.leaf (.int k m),.leaf (.int k n)]=some (dB (decide (¬m=n))):=by
 have h:TOp.eval E (.bin .neq t x y) [.leaf (.int k m),.leaf (.int k n)]=some (dB (m != n)):=by cases k<;>rfl
 grind
theorem bV{i:Nat}{ds:List D}{d:D}(h:ds[i]? = some d):TOp.eval E (.ext i) [.tup ds]=some d:=by rw[qO5];exact h
mutual
theorem qCD(y:B<=300000000):∀{s:Sh} {d:D},qC B s d->vF s d
 |.int k,d,h=>by simp only[qC]at h;simp only[vF];exact h
 |.bool,d,h=>by simp only[qC]at h;simp only[vF];exact h
 |.str,d,h=>by simp only[qC]at h;obtain⟨s,hs,_⟩:=h;simp only[vF];exact⟨s,hs⟩
 |.st i,d,h=>by simp only[qC]at h;obtain⟨cs,hd,h⟩:=h;simp only[vF];exact⟨cs,hd,qAl y h⟩
 |.sl el sz e,d,h=>by
  simp only[qC]at h;simp only[vF];rcases h with h|⟨es,hd,c,g⟩
  ·exact .inl h
  exact .inr ⟨es,hd,qJu (lT c y),λx b=>qCD y (g x b)⟩
theorem qAl(x:B<=300000000):∀{ss:List Sh} {ds:List D},j8 B ss ds->jB ss ds
 | [],ds,h=>by simp only[j8]at h;simp only[jB];exact h
 |s::ss,ds,h=>by simp only[j8]at h;obtain⟨d,r,hd,b,y⟩:=h;simp only[jB];exact⟨d,r,hd,qCD x b,qAl x y⟩
end
theorem qFI{s:Sh}{d:D}(h:qC B s d)(x:B<=300000000:=by decide):vF s d:=qCD x h
theorem qHg{ss:List Sh}{ds:List D}(h:j8 B ss ds)(x:B<=300000000:=by decide):jB ss ds:=qAl x h
mutual
theorem nJ{B':Nat}(y:B<=B'):∀{s:Sh} {d:D},qC B s d->qC B' s d
 |.int k,d,h=>by simp only[qC]at h ⊢;exact h
 |.bool,d,h=>by simp only[qC]at h ⊢;exact h
 |.str,d,h=>by simp only[qC]at h ⊢;obtain⟨s,hs,h⟩:=h;exact⟨s,hs,lT h y⟩
 |.st i,d,h=>by simp only[qC]at h ⊢;obtain⟨cs,hd,h⟩:=h;exact⟨cs,hd,qCC y h⟩
 |.sl el sz e,d,h=>by
  simp only[qC]at h ⊢;rcases h with h|⟨es,hd,c,g⟩
  ·exact .inl h
  exact .inr ⟨es,hd,lT c y,λx b=>nJ y (g x b)⟩
theorem qCC{B':Nat}(x:B<=B'):∀{ss:List Sh} {ds:List D},j8 B ss ds->j8 B' ss ds
 | [],ds,h=>by simp only[j8]at h ⊢;exact h
 |s::ss,ds,h=>by simp only[j8]at h ⊢;obtain⟨d,r,hd,b,y⟩:=h;exact⟨d,r,hd,nJ x b,qCC x y⟩
end
theorem fT{n bytes:Nat}(h:n<=300000000)(b:bytes<=80):Nat.ble (Nat.mul (Nat.add (Nat.mul 4 n) 4000) (Nat.succ bytes)) 100000000000=true:=by
 rw[Nat.ble_eq];have y:4*n+4000<=1200004000:=by omega
 have x:bytes+1<=81:=by omega
 exact lT (Nat.mul_le_mul y x) (o9 rfl)
theorem rU{el sz bytes:Nat}{a b:D}{e:Sh}(k:qC B (.sl el sz e) a)(c:qC B (.sl el sz e) b)(h:bytes<=80)(u:a.es.length+b.es.length<=B)(z:B<=300000000:=by decide):
  ∃y,TOp.eval E (.app el sz bytes) [a,b]=some y/\y.es.length=a.es.length+b.es.length/\qC B (.sl el sz e) y:=by
 have o:pX a=some a.es.length:=by
  simp only[qC]at k
  rcases k with rfl|⟨es,rfl,_⟩<;>rfl
 rw[aJ,o]
 simp only[qC]at c
 rcases c with rfl|⟨es,rfl,q,i⟩
 ·refine⟨a,?_,by simp[D.es],k⟩
  have l:Nat.ble (Nat.mul (Nat.add (Nat.mul 4 a.es.length) 4000) (Nat.succ bytes)) 100000000000=true:=fT (by have:(D.nil).es.length=0:=rfl;omega) h
  have C:∀(b:Bool) (x:Option D),b=true->(bif b then x else none)=x:=λb x c=>by rw[c];rfl
  exact C _ _ l
 have l:Nat.ble (Nat.mul (Nat.add (Nat.mul 4 (Nat.add a.es.length es.length)) 4000) (Nat.succ bytes)) 100000000000=true:=fT (lT u z) h
 have w:Nat.beq sz sz=true:=Nat.beq_refl _
 have t:∀(b:Bool) (x y:Option D),b=true->(bif b then x else y)=x:=λb x y c=>by rw[c];rfl
 simp only[qC]at k
 rcases k with rfl|⟨es',rfl,r,j⟩
 ·refine⟨if es.length=0 then .nil else .sl el sz ([]++es),(t _ _ _ (by rw[l,w];rfl)).trans ?_,?_,?_⟩
  ·rw[qY];split<;>rfl
  ·split
   ·rename_i A;show 0=0+es.length;omega
   show([]++es).length=0+es.length;simp
  split
  ·exact oP
  exact lL (by simpa using q) (by simpa using i)
 have p:es'.length+es.length<=B:=u
 refine⟨if es.length=0 then .sl el sz es' else .sl el sz (es'++es),(t _ _ _ (by rw[l,w];show(true&&true&&(Nat.beq el el&&Nat.beq sz sz))=true;rw[Nat.beq_refl,Nat.beq_refl];rfl)).trans ?_,?_,?_⟩
 ·rw[qY];split<;>rfl
 ·split
  ·rename_i A;show es'.length=es'.length+es.length;omega
  show(es'++es).length=es'.length+es.length;simp
 split
 ·exact lL r j
 refine lL (by rw[List.length_append];exact p) λx g=>?_
 rcases List.mem_append.1 g with g|g
 ·exact j x g
 exact i x g
end
end Go.Am
namespace Go.Am
open Go
theorem qDs{P:D->Prop}:∀x∈([]:List D),P x:=λ_ h=>by cases h
theorem qDt{P:D->Prop}{a:D}{l:List D}(h:P a)(y:∀x∈l,P x):∀x∈a::l,P x:=List.forall_mem_cons.2 ⟨h,y⟩
section
variable{E:Env}{B:Nat}
theorem iI{el sz:Nat}{xs:List D}{e:Sh}(g:xs.all (λx=>Nat.beq x.cells.length sz)=true)(b:∀x∈xs,qC B e x)(h:Nat.ble (Nat.mul xs.length (Nat.succ sz)) 1000000=true)(c:Nat.ble xs.length B=true):∃y,TOp.eval E (.lit el sz) xs=some y/\y.es.length=xs.length/\qC B (.sl el sz e) y/\∃es,y=.sl el sz es:=by refine⟨.sl el sz xs,?_,rfl,lL (o9 c) b,_,rfl⟩;rw[qAt,g,h];rfl
theorem yX{n:Int}(h:0<=n):dY (dI n)=some n.toNat:=by have e:dI n=dI ((n.toNat:Nat):Int):=nR h;rw[e];rfl
theorem nQ{b:Bool}{x y:Option D}(h:b=true):(bif b then x else y)=x:=by rw[h];rfl
theorem qDO{el sz:Nat}{l:D}{e:Sh}{j:Int}(k:qC B (.sl el sz e) l)(r:0<=j)(t:j<=(l.es.length:Int)):∃y,TOp.eval E (.slc el sz true false) [l,dI j]=some y/\(y.es.length:Int)=(l.es.length:Int)-j/\qC B (.sl el sz e) y:=by
 have h:=k;simp only[qC]at h;rcases h with rfl|⟨es,rfl,p,q⟩
 ·have o:j=0:=by have:(D.nil).es.length=0:=rfl;omega
  subst o;exact⟨.nil,rfl,rfl,oP⟩
 refine⟨.sl el sz (es.drop j.toNat),?_,?_,lL (by rw[List.length_drop];omega) λx i=>q x (List.mem_of_mem_drop i)⟩
 ·rw[mH];have c:vS true 0 [dI j]=some (j.toNat,[]):=by simp only[vS,cond_true,yX r,Option.map_some]
  have g:vS false es.length ([]:List D)=some (es.length,[]):=rfl;simp only[c,g];have b:j.toNat<=es.length:=by have:(D.sl el sz es).es.length=es.length:=rfl;omega
  refine(nQ ?_).trans ?_
  ·rw[Nat.beq_refl,Nat.beq_refl,bL b,bL (lR _)];rfl
  rw[List.take_of_length_le (by rw[List.length_drop];omega)]
 show((es.drop j.toNat).length:Int)=(es.length:Int)-j;have:(D.sl el sz es).es.length=es.length:=rfl;rw[List.length_drop];omega
theorem qBI{s:ByteArray}{i j:Int}(y:0<=i)(e:i<=j)(c:j<=(s.size:Int))(b:s.size<=B):∃t:ByteArray,t.size<=B/\TOp.eval E (.sub true true) [.leaf (.string s),dI i,dI j]=some (.leaf (.string t)):=by
 refine⟨s.extract i.toNat j.toNat,?_,?_⟩
 ·rw[ByteArray.size_extract];omega
 rw[qOZ];have x:vS true 0 [dI i,dI j]=some (i.toNat,[dI j]):=by simp only[vS,cond_true,yX y,Option.map_some]
 have h:vS true s.size [dI j]=some (j.toNat,[]):=by simp only[vS,cond_true,yX (by omega:0<=j),Option.map_some]
 simp only[x,h];exact nQ (by rw[bL (by omega),bL (by omega)];rfl)
theorem qWG{el sz bytes:Nat}{ag:Bool}{z:List Value}{n:Int}{e:Sh}(g:0<=n)(k:n<=(B:Int))(b:(Nat.beq z.length sz&&z.all (λv=>zF v&&qE v)&&(ag||Nat.beq sz 1))=true)(i:bytes+sz<=2)(he:qC B e (zD ag z))(j:B<=300000000:=by decide):∃y,TOp.eval E (.mk el sz bytes ag z) [dI n]=some y/\(y.es.length:Int)=n/\qC B (.sl el sz e) y:=by
 refine⟨.sl el sz (List.replicate n.toNat (zD ag z)),?_,?_,lL (by rw[List.length_replicate];omega) λx c=>by rw[List.eq_of_mem_replicate c];exact he⟩
 ·rw[qO2,yX g];have h:n.toNat*(bytes+sz+1)<=1000000000:=by have:n.toNat*(bytes+sz+1)<=300000000*3:=Nat.mul_le_mul (by omega) (by omega);omega
  exact nQ (by rw[b];exact bL h)
 show((List.replicate n.toNat (zD ag z)).length:Int)=_;rw[List.length_replicate];omega
theorem qTL{el:Nat}{y x:D}{i:Int}{e:Sh}(t:qC B (.sl el 1 e) y)(z:0<=i)(A:i<(y.es.length:Int))(p:qC B e x)(h:∀d,qC B e d->d.one=true):∃k,TOp.eval E (.set 1 false 1 0) [y,dI i,x]=some k/\k.es.length=y.es.length/\qC B (.sl el 1 e) k:=by
 have b:=t;simp only[qC]at b;rcases b with rfl|⟨es,rfl,u,r⟩
 ·have:(D.nil).es.length=0:=rfl;omega
 have g:i.toNat<es.length:=by have:(D.sl el 1 es).es.length=es.length:=rfl;omega
 have w:es[i.toNat]? = some es[i.toNat]:=List.getElem?_eq_getElem g;have j:=h _ (r _ (List.getElem_mem g));have c:=h _ p;have l:x.cells=[x]:=by cases x<;>first|rfl|(simp[D.one]at c)
 refine⟨.sl el 1 (es.set i.toNat x),?_,by show(es.set i.toNat x).length=_;rw[List.length_set];rfl,lL (by rw[List.length_set];exact u) λd hd=>?_⟩
 ·rw[qCW,yX z];have o:eK false 1 x=some x:=by show(bif x.one&&Nat.beq 1 1 then some x else none)=some x;rw[c];rfl
  simp only[o,w];refine(nQ (by rfl)).trans ?_;rw[l];have:uV es[i.toNat] 0 [x]=x:=by generalize es[i.toNat]=q at j;cases q<;>first|rfl|(simp[D.one]at j)
  rw[this]
 rcases List.mem_or_eq_of_mem_set hd with hd|rfl
 ·exact r d hd
 exact p
theorem qNT:∀d,qC B .bool d->d.one=true:=λd h=>by simp only[qC]at h;obtain⟨b,rfl⟩:=h;rfl
theorem qDe:∀{es:List D},(∀x∈es,qC B (.int .u8) x)->∃l,cQ es=some l/\l.length=es.length
 | [],_=>⟨[],rfl,rfl⟩
 |x::es,h=>by obtain⟨l,g,e⟩:=qDe (es:=es) λy c=>h y (mC _ c);have b:=h x List.mem_cons_self;simp only[qC]at b;obtain⟨n,rfl⟩:=b;exact⟨UInt8.ofNat n.toNat::l,by simp only[cQ,g,Option.map_some],by simp[e]⟩
theorem qP5{el:Nat}{y:D}(b:qC B (.sl el 1 (.int .u8)) y)(c:∃es,y=.sl el 1 es):∃t:ByteArray,t.size<=B/\TOp.eval E .bstr [y]=some (.leaf (.string t)):=by
 obtain⟨es,rfl⟩:=c;have x:=b;simp only[qC]at x;rcases x with h|⟨es',h,e,g⟩
 ·cases h
 cases h;obtain⟨l,j,i⟩:=qDe (B:=B) g;refine⟨⟨⟨l⟩⟩,?_,?_⟩
 ·show(Array.mk l).size<=_;simp[i];exact e
 rw[qO0];simp_all
end
end Go.Am
namespace Go.Am
open Go
def qX9:D->Bool
 |.leaf (.bool false)=>true
 |_=>false
def qMt(d:D):Nat:=(d.es.filter qX9).length
theorem qRY(d:D):qMt d<=d.es.length:=List.length_filter_le _ _
theorem qI8{l:List D}{i:Nat}{x:D}(h:l[i]? = some x)(c:qX9 x=true)(y:D)(b:qX9 y=false):((l.set i y).filter qX9).length+1=(l.filter qX9).length:=by
 induction l generalizing i with
 |nil=>simp at h
 |cons a l ih=>
  cases i with
  |zero=>grind
  |succ i=>grind
section
variable{E:Env}{B:Nat}
theorem qP4{el:Nat}{y:D}{i:Int}(k:qC B (.sl el 1 .bool) y)(l:0<=i)(o:i<(y.es.length:Int))(he:y.es[i.toNat]? = some (dB false)):∃h,TOp.eval E (.set 1 false 1 0) [y,dI i,dB true]=some h/\h.es.length=y.es.length/\qC B (.sl el 1 .bool) h/\qMt h+1=qMt y:=by
 obtain⟨h,e,q,p⟩:=qTL (E:=E) k l o (fK (b:=true)) qNT;refine⟨h,e,q,p,?_⟩;have x:=k;simp only[qC]at x;rcases x with rfl|⟨es,rfl,r,t⟩
 ·simp[D.es]at he
 have c:es[i.toNat]? = some (dB false):=he;rw[qCW,yX l]at e;have g:eK false 1 (dB true)=some (dB true):=rfl;simp only[g,c]at e;have j:some (D.sl el 1 (es.set i.toNat (dB true)))=some h:=e;cases j;exact qI8 c rfl _ rfl
end
theorem vN{E:Env}{HS:FuncId->List D->D->Prop}{y:Nat->Tree}{xs:List SV}{ρ ds:List D}{d:D}(x:SV.ds (getD ρ) xs=ds)(h:xN ds=d):wp E HS (To E HS y d) (.ret xs) ρ:=by simp only[wp,x,To];exact h
end Go.Am
namespace Go.Am
open Go
def zW(el sz:Nat)(l:List D):D:=if l=[]then .nil else .sl el sz l
theorem qCo{el sz:Nat}{l:List D}:(zW el sz l).es=l:=by
 unfold zW;split
 ·rename_i h;rw[h];rfl
 rfl
theorem qN3{B el sz:Nat}{e:Sh}{l:List D}(h:l.length<=B)(y:∀x∈l,qC B e x):qC B (.sl el sz e) (zW el sz l):=by
 unfold zW;split
 ·exact oP
 exact lL h y
section
variable{E:Env}{B:Nat}
theorem aP{el sz bytes:Nat}{l:List D}{b:D}{e:Sh}(j:qC B (.sl el sz e) b)(c:bytes<=80)(z:l.length+b.es.length<=300000000):TOp.eval E (.app el sz bytes) [zW el sz l,b]=some (zW el sz (l++b.es)):=by
 have p:pX (zW el sz l)=some l.length:=by
  unfold zW;split
  ·rename_i h;rw[h];rfl
  rfl
 have o:∀(b:Bool) (x y:Option D),b=true->(bif b then x else y)=x:=λb x y j=>by rw[j];rfl
 rw[aJ,p];simp only[qC]at j;rcases j with rfl|⟨es,rfl,A,C⟩
 ·have k:Nat.ble (Nat.mul (Nat.add (Nat.mul 4 l.length) 4000) (Nat.succ bytes)) 100000000000=true:=fT (by have:(D.nil).es.length=0:=rfl;omega) c;refine(o _ _ _ k).trans ?_;show some (zW el sz l)=some (zW el sz (l++[]));rw[List.append_nil]
 have k:Nat.ble (Nat.mul (Nat.add (Nat.mul 4 (Nat.add l.length es.length)) 4000) (Nat.succ bytes)) 100000000000=true:=fT z c;have u:Nat.beq sz sz=true:=Nat.beq_refl _;have g:(D.sl el sz es).es=es:=rfl;by_cases r:l=[]
 ·subst r;refine(o _ _ _ (by rw[k,u];rfl)).trans ?_;rw[qY,g];split
  ·rename_i i;have:es=[]:=List.length_eq_zero_iff.1 i;rw[this];rfl
  rename_i i;have q:es≠[]:=λh=>i (by rw[h];rfl);show some (D.sl el sz ([]++es))=some (zW el sz ([]++es));rw[List.nil_append];unfold zW;rw[if_neg q]
 have w:zW el sz l=.sl el sz l:=if_neg r;rw[w];refine(o _ _ _ (by rw[k,u];show(true&&true&&(Nat.beq el el&&Nat.beq sz sz))=true;rw[Nat.beq_refl,Nat.beq_refl];rfl)).trans ?_;have t:zW el sz (l++es)=.sl el sz (l++es):=if_neg (by intro h;exact r (List.append_eq_nil_iff.1 h).1);rw[qY,g,t];split
 ·rename_i i;have:es=[]:=List.length_eq_zero_iff.1 i;rw[this,List.append_nil]
 rfl
theorem qBo{el:Nat}{x:D}(h:x.one=true):TOp.eval E (.lit el 1) [x]=some (.sl el 1 [x]):=by
 rw[qAt];have y:Nat.beq x.cells.length 1=true:=by rw[nF h];rfl
 have:([x].all (λe=>Nat.beq e.cells.length 1)&&Nat.ble (Nat.mul [x].length (Nat.succ 1)) 1000000)=true:=by simp_all
 rw[this];rfl
end
end Go.Am
