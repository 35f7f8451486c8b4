/- Bounded data of given shapes; steps for functions that always give something. Conditions: none. -/
import Derived.Test.YtocbbgmhkhallaaGreatDoorUn
set_option linter.unusedVariables false
set_option linter.unusedSimpArgs false
namespace Go.Am
open Go
mutual
def qF(B:Nat):Sh->La
 |.int k,d=>∃n,d=.leaf (.int k n)
 |.bool,d=>∃b,d=.leaf (.bool b)
 |.str,d=>∃s,d=.leaf (.string s)/\s.size<=B
 |.st fs,d=>∃cs,d=.agg cs/\jL B fs cs
 |.sl el sz e,d=>d=.nil∨∃es,d=.sl el sz es/\es.length<=B/\∀x∈es,qF B e x
def jL(B:Nat):List Sh->LR->Prop
 | [],l=>l=[]
 |s::ss,l=>∃d ds,l=d::ds/\qF B s d/\jL B ss ds
end
variable{B:Nat}
theorem qJK{n:Nat}(h:n<=300000000):n<zX:=by unfold zX;omega
variable{e:Sh}{el:Nat}
theorem qC{sz:Nat}{d:D}(h:qF B (.sl el sz e) d)(b:B<=300000000:=by decide):oH el sz d:=by
 simp only[qF]at h;rcases h with rfl|⟨es,rfl,h,_⟩
 ·exact .inl rfl
 exact .inr ⟨es,rfl,qJK (lT h b)⟩
theorem qR{sz:Nat}{d:D}(h:qF B (.sl el sz e) d):d.es.length<=B:=by
 simp only[qF]at h;rcases h with rfl|⟨es,rfl,h,_⟩
 ·exact cq _
 exact h
theorem zG{sz:Nat}{d x:D}{i:Nat}(h:qF B (.sl el sz e) d)(b:d.es[i]? = some x):qF B e x:=by
 simp only[qF]at h;rcases h with rfl|⟨es,rfl,_,h⟩
 ·simp[D.es]at b
 exact h x (be b)
variable{k:IntKind}
theorem jB{n:Int}:qF B (.int k) (.leaf (.int k n)):=⟨n,rfl⟩
theorem fZ{b:Bool}:qF B .bool (.leaf (.bool b)):=⟨b,rfl⟩
theorem rZ{s:LJ}(h:s.size<=B):qF B .str (.leaf (.string s)):=⟨s,rfl,h⟩
variable{cs:LR}
theorem nK{fs:List Sh}(h:jL B fs cs):qF B (.st fs) (.agg cs):=⟨cs,rfl,h⟩
theorem jN:jL B [] []:=rfl
variable{ss:List Sh}
theorem qQ{s:Sh}{d:D}{ds:LR}(h:qF B s d)(hs:jL B ss ds):jL B (s::ss) (d::ds):=⟨d,ds,rfl,h,hs⟩
theorem yR{sz:Nat}:qF B (.sl el sz e) .nil:=.inl rfl
theorem mP{sz:Nat}{es:LR}(h:es.length<=B)(b:∀x∈es,qF B e x):qF B (.sl el sz e) (.sl el sz es):=.inr ⟨es,rfl,h,b⟩
variable{R:La}{Ts:LV}{m s:Int}{t:LN}{x y:LM}{xs:LS}{ρ:LR}
section
variable{E:Env}{HS:LO->LR->La}
theorem mQ{d:D}(b:0<=s)(h:s<(d.es.length:Int)):∃x,d.es[s.toNat]? = some x:=
 ⟨_,ak (by omega)⟩
theorem mF(h:0<=s):dI s=dI ((s.toNat:Nat):Int):=by rw[Int.toNat_of_nonneg h]
theorem vD{d:D}{e:D}(h:0<=s)(he:d.es[s.toNat]? = some e):TOp.eval E .inr [d,dI s]=some (dB true):=by rw[mF h];exact vY he
theorem xO{sz:Nat}{d:D}(h:oH el sz d)(c:0<=s)(he:d.es[s.toNat]? = some (.agg cs))(b:cs.length=sz):TOp.eval E (.elem sz true sz 0) [d,dI s]=some (.agg cs):=by rw[mF c];exact vZ h he b
theorem vX{d:D}{e:D}(h:oH el 1 d)(c:0<=s)(he:d.es[s.toNat]? = some e)(b:e.one=true):TOp.eval E (.elem 1 false 1 0) [d,dI s]=some e:=by rw[mF c];exact yH h he b
theorem oO{sz off:Nat}{d:D}{e:D}(h:oH el sz d)(j:0<=s)(he:d.es[s.toNat]? = some (.agg cs))(g:cs[off]? = some e)(c:e.one=true)(b:off<sz):TOp.eval E (.elem sz false 1 off) [d,dI s]=some e:=by rw[mF j];exact qB6 h he g c b
theorem qN5{sz size off:Nat}{d:D}(h:oH el sz d)(j:0<=s)(he:d.es[s.toNat]? = some (.agg cs))(g:cs.length=sz)(b:off+size<=sz)(c:¬(off=0/\size=sz)):TOp.eval E (.elem sz true size off) [d,dI s]=some (.agg ((cs.drop off).take size)):=by rw[mF j];exact qN7 h he g b c
theorem qTi(b : -9223372036854775808<=m)(h:m<9223372036854775808):IntKind.i64.wrap m=m:=by have e:IntKind.i64.wrap m=(if(true&&decide ((m%18446744073709551616)≥9223372036854775808))=true then m%18446744073709551616-18446744073709551616 else m%18446744073709551616):=rfl;grind
theorem kB{n:Int}(h : -9223372036854775808<=m+n/\m+n<9223372036854775808):TOp.eval E (.bin .add t x y) [dI m,dI n]=some (dI (m+n)):=by have b:TOp.eval E (.bin .add t x y) [dI m,dI n]=some (dI (IntKind.i64.wrap (m+n))):=rfl;rw[b,qTi h.1 h.2]
theorem eD{n:Int}(h : -9223372036854775808<=m-n/\m-n<9223372036854775808):TOp.eval E (.bin .sub t x y) [dI m,dI n]=some (dI (m-n)):=by have b:TOp.eval E (.bin .sub t x y) [dI m,dI n]=some (dI (IntKind.i64.wrap (m-n))):=rfl;rw[b,qTi h.1 h.2]
theorem s9{n:Int}:TOp.eval E (.bin .add t x y) [dI m,dI n]=some (dI (IntKind.i64.wrap (m+n))):=rfl
theorem qBw{n:Int}:TOp.eval E (.bin .sub t x y) [dI m,dI n]=some (dI (IntKind.i64.wrap (m-n))):=rfl
theorem s8{n:Int}:TOp.eval E (.bin .mul t x y) [dI m,dI n]=some (dI (IntKind.i64.wrap (m*n))):=rfl
theorem cM{s:LJ}:TOp.eval E (.len true) [.leaf (.string s)]=some (dI (s.size:Int)):=rfl
theorem qAd{s:LJ}{i:Int}(h:0<=i)(g:i<(s.size:Int)):∃n:Int,0<=n/\n<256/\TOp.eval E .qf [.leaf (.string s),dI i]=some (.leaf (.int .u8 n)):=by
 rw[mF h,qJA];have c:i.toNat<s.data.toList.length:=by simp_all
 refine⟨((s.data.toList[i.toNat]).toNat:Int),by omega,?_,?_⟩
 ·have:=(s.data.toList[i.toNat]).toNat_lt;omega
 show(s.data.toList[i.toNat]?).map (λ(b:UInt8)=>D.leaf (.int .u8 b.toNat))=_;grind
def zEN(E:Env)(HS:LO->LR->La)(Ts:LV)(R:La)(r:Res1):Prop:=match r with
 |.ret d'=>R d'
 |.jump k ds=>∃d,R d/\qP E HS Ts k ds d
theorem jF{k:Nat}(h:wp E HS (zEN E HS Ts R) (Ts k) ρ):∃d,R d/\qP E HS Ts k ρ d:=by
 obtain⟨r,c,b⟩:=pL _ _ h;cases r with
 |ret d'=>exact⟨d',c,qP.step (b _ rfl)⟩
 |jump k' ds=>obtain⟨d,hr,hd⟩:=c;exact⟨d,hr,qP.step (b _ hd)⟩
theorem zJ{ds:LR}(b:SV.ds (getD ρ) xs=ds)(h:R (kC ds)):wp E HS (zEN E HS Ts R) (.ret xs) ρ:=by simp only[wp,b];exact h
theorem zK{k:Nat}{ds:LR}(b:SV.ds (getD ρ) xs=ds)(h:∃d,R d/\qP E HS Ts k ds d):wp E HS (zEN E HS Ts R) (.jump k xs) ρ:=by simp only[wp,b];exact h
theorem vQ{P:Nat->Prop}(N:Nat)(st:∀i,(i<N->P (i+1))->P i):∀i,P i:=by
 have c:∀m i,N<=i+m->P i:=by
  intro m;induction m with
  |zero=>intro i h;exact st i λb=>absurd b (by omega)
  |succ m ih=>intro i h;exact st i λ_=>ih (i+1) (by omega)
 intro i;exact c N i (Nat.le_add_left _ _)
theorem zH{n:Nat}(h:n<=4000000000):n<zX:=by unfold zX;omega
theorem zN{n:Int}:TOp.eval E (.bin .lss t x y) [.leaf (.int k m),.leaf (.int k n)]=some (dB (decide (m<n))):=by cases k<;>rfl
theorem qFs{n:Int}:TOp.eval E (.bin .leq t x y) [.leaf (.int k m),.leaf (.int k n)]=some (dB (decide (m<=n))):=by cases k<;>rfl
theorem jS{n:Int}:TOp.eval E (.bin .gtr t x y) [.leaf (.int k m),.leaf (.int k n)]=some (dB (decide (m>n))):=by cases k<;>rfl
theorem rY{n:Int}:TOp.eval E (.bin .geq t x y) [.leaf (.int k m),.leaf (.int k n)]=some (dB (decide (m≥n))):=by cases k<;>rfl
theorem bC{n:Int}:TOp.eval E (.bin .eql t x y) [.leaf (.int k m),.leaf (.int k n)]=some (dB (decide (m=n))):=by cases k<;>rfl
theorem yQ{n:Int}:TOp.eval E (.bin .neq t x y) [.leaf (.int k m),.leaf (.int k n)]=some (dB (decide (¬m=n))):=by
 have h:TOp.eval E (.bin .neq t x y) [.leaf (.int k m),.leaf (.int k n)]=some (dB (m != n)):=by cases k<;>rfl
 grind
theorem kM{i:Nat}{ds:LR}{d:D}(h:ds[i]? = some d):TOp.eval E (.ext i) [.gd ds]=some d:=by rw[qJz];exact h
mutual
theorem qCM(b:B<=300000000):∀{s:Sh} {d:D},qF B s d->zE s d
 |.int k,d,h=>by simp only[qF]at h;simp only[zE];exact h
 |.bool,d,h=>by simp only[qF]at h;simp only[zE];exact h
 |.str,d,h=>by simp only[qF]at h;obtain⟨s,hs,_⟩:=h;simp only[zE];exact⟨s,hs⟩
 |.st fs,d,h=>by simp only[qF]at h;obtain⟨cs,hd,h⟩:=h;simp only[zE];exact⟨cs,hd,qAv b h⟩
 |.sl el sz e,d,h=>by
  simp only[qF]at h;simp only[zE];rcases h with h|⟨es,hd,g,j⟩
  ·exact .inl h
  exact .inr ⟨es,hd,qJK (lT g b),λx c=>qCM b (j x c)⟩
theorem qAv(b:B<=300000000):∀{ss:List Sh} {ds:LR},jL B ss ds->jG ss ds
 | [],ds,h=>by simp only[jL]at h;simp only[jG];exact h
 |s::ss,ds,h=>by simp only[jL]at h;obtain⟨d,r,hd,g,c⟩:=h;simp only[jG];exact⟨d,r,hd,qCM b g,qAv b c⟩
end
theorem rK{s:Sh}{d:D}(h:qF B s d)(b:B<=300000000:=by decide):zE s d:=qCM b h
theorem tY{ds:LR}(h:jL B ss ds)(b:B<=300000000:=by decide):jG ss ds:=qAv b h
mutual
theorem nV{B':Nat}(b:B<=B'):∀{s:Sh} {d:D},qF B s d->qF B' s d
 |.int k,d,h=>by simp only[qF]at h ⊢;exact h
 |.bool,d,h=>by simp only[qF]at h ⊢;exact h
 |.str,d,h=>by simp only[qF]at h ⊢;obtain⟨s,hs,h⟩:=h;exact⟨s,hs,lT h b⟩
 |.st fs,d,h=>by simp only[qF]at h ⊢;obtain⟨cs,hd,h⟩:=h;exact⟨cs,hd,qCL b h⟩
 |.sl el sz e,d,h=>by
  simp only[qF]at h ⊢;rcases h with h|⟨es,hd,g,j⟩
  ·exact .inl h
  exact .inr ⟨es,hd,lT g b,λx c=>nV b (j x c)⟩
theorem qCL{B':Nat}(b:B<=B'):∀{ss:List Sh} {ds:LR},jL B ss ds->jL B' ss ds
 | [],ds,h=>by simp only[jL]at h ⊢;exact h
 |s::ss,ds,h=>by simp only[jL]at h ⊢;obtain⟨d,r,hd,g,c⟩:=h;exact⟨d,r,hd,nV b g,qCL b c⟩
end
theorem iJ{n bytes:Nat}(h:n<=300000000)(g:bytes<=80):Nat.ble (Nat.mul (Nat.add (Nat.mul 4 n) 4000) (Nat.succ bytes)) 100000000000=true:=by
 rw[Nat.ble_eq];have c:4*n+4000<=1200004000:=by omega
 have b:bytes+1<=81:=by omega
 exact lT (Nat.mul_le_mul c b) (oA rfl)
theorem pM{sz bytes:Nat}{a b:D}(p:qF B (.sl el sz e) a)(c:qF B (.sl el sz e) b)(h:bytes<=80)(C:a.es.length+b.es.length<=B)(G:B<=300000000:=by decide):
  ∃y,TOp.eval E (.app el sz bytes) [a,b]=some y/\y.es.length=a.es.length+b.es.length/\qF B (.sl el sz e) y:=by
 have r:yO a=some a.es.length:=by
  simp only[qF]at p
  rcases p with rfl|⟨es,rfl,_⟩<;>rfl
 rw[bI,r]
 simp only[qF]at c
 rcases c with rfl|⟨es,rfl,w,j⟩
 ·refine⟨a,?_,by simp[D.es],p⟩
  have q:Nat.ble (Nat.mul (Nat.add (Nat.mul 4 a.es.length) 4000) (Nat.succ bytes)) 100000000000=true:=iJ (by have:(D.nil).es.length=0:=rfl;omega) h
  have I:∀(b:Bool) (x:LX),b=true->(bif b then x else none)=x:=λb x c=>by rw[c];rfl
  exact I _ _ q
 have q:Nat.ble (Nat.mul (Nat.add (Nat.mul 4 (Nat.add a.es.length es.length)) 4000) (Nat.succ bytes)) 100000000000=true:=iJ (lT C G) h
 have F:Nat.beq sz sz=true:=bj _
 have A:∀(b:Bool) (x y:LX),b=true->(bif b then x else y)=x:=λb x y c=>by rw[c];rfl
 simp only[qF]at p
 rcases p with rfl|⟨es',rfl,z,o⟩
 ·refine⟨if es.length=0 then .nil else .sl el sz ([]++es),(A _ _ _ (by rw[q,F];rfl)).trans ?_,?_,?_⟩
  ·rw[zI];split<;>rfl
  ·split
   ·rename_i H;show 0=0+es.length;omega
   show([]++es).length=0+es.length;simp
  split
  ·exact yR
  exact mP (by simpa using w) (by simpa using j)
 have u:es'.length+es.length<=B:=C
 refine⟨if es.length=0 then .sl el sz es' else .sl el sz (es'++es),(A _ _ _ (by rw[q,F];show(true&&true&&(Nat.beq el el&&Nat.beq sz sz))=true;rw[bj,bj];rfl)).trans ?_,?_,?_⟩
 ·rw[zI];split<;>rfl
 ·split
  ·rename_i H;show es'.length=es'.length+es.length;omega
  show(es'++es).length=es'.length+es.length;simp
 split
 ·exact mP z o
 refine mP (by rw[bx];exact u) λx g=>?_
 rcases bh.1 g with g|g
 ·exact o x g
 exact j x g
end
end Go.Am
namespace Go.Am
open Go
variable{P:La}
theorem qDC:∀x∈([]:LR),P x:=λ_ h=>by cases h
variable{l:LR}
theorem qDD{a:D}(h:P a)(b:∀x∈l,P x):∀x∈a::l,P x:=List.forall_mem_cons.2 ⟨h,b⟩
variable{e:Sh}{el:Nat}{i:Int}
section
variable{E:Env}{B:Nat}
theorem iZ{sz:Nat}{xs:LR}(g:xs.all (λx=>Nat.beq x.cells.length sz)=true)(b:∀x∈xs,qF B e x)(h:Nat.ble (Nat.mul xs.length (Nat.succ sz)) 1000000=true)(c:Nat.ble xs.length B=true):∃y,TOp.eval E (.lit el sz) xs=some y/\y.es.length=xs.length/\qF B (.sl el sz e) y/\∃es,y=.sl el sz es:=by refine⟨.sl el sz xs,?_,rfl,mP (oA c) b,_,rfl⟩;rw[eZ,g,h];rfl
theorem kJ{n:Int}(h:0<=n):natD (dI n)=some n.toNat:=by have e:dI n=dI ((n.toNat:Nat):Int):=mF h;rw[e];rfl
theorem mE{b:Bool}{x y:LX}(h:b=true):(bif b then x else y)=x:=by rw[h];rfl
theorem qD9{sz:Nat}{l:D}{j:Int}(p:qF B (.sl el sz e) l)(w:0<=j)(z:j<=(l.es.length:Int)):∃y,TOp.eval E (.lu el sz true false) [l,dI j]=some y/\(y.es.length:Int)=(l.es.length:Int)-j/\qF B (.sl el sz e) y:=by
 have h:=p;simp only[qF]at h;rcases h with rfl|⟨es,rfl,r,u⟩
 ·have q:j=0:=by have:(D.nil).es.length=0:=rfl;omega
  subst q;exact⟨.nil,rfl,rfl,yR⟩
 refine⟨.sl el sz (es.drop j.toNat),?_,?_,mP (by rw[dh];omega) λx o=>u x (dx o)⟩
 ·rw[pZ];have c:vT true 0 [dI j]=some (j.toNat,[]):=by simp only[vT,ai,kJ w,aj]
  have g:vT false es.length ([]:LR)=some (es.length,[]):=rfl;simp only[c,g];have b:j.toNat<=es.length:=by have:(D.sl el sz es).es.length=es.length:=rfl;omega
  refine(mE ?_).trans ?_
  ·rw[bj,bj,bL b,bL (vP _)];rfl
  rw[dc (by rw[dh];omega)]
 show((es.drop j.toNat).length:Int)=(es.length:Int)-j;have:(D.sl el sz es).es.length=es.length:=rfl;rw[dh];omega
theorem qBS{s:LJ}{j:Int}(c:0<=i)(p:i<=j)(o:j<=(s.size:Int))(g:s.size<=B):∃t:LJ,t.size<=B/\TOp.eval E (.sub true true) [.leaf (.string s),dI i,dI j]=some (.leaf (.string t)):=by
 refine⟨s.extract i.toNat j.toNat,?_,?_⟩
 ·rw[ByteArray.size_extract];omega
 rw[qC3];have b:vT true 0 [dI i,dI j]=some (i.toNat,[dI j]):=by simp only[vT,ai,kJ c,aj]
 have h:vT true s.size [dI j]=some (j.toNat,[]):=by simp only[vT,ai,kJ (by omega:0<=j),aj]
 simp only[b,h];exact mE (by rw[bL (by omega),bL (by omega)];rfl)
theorem qYT{sz bytes:Nat}{ag:Bool}{z:LA}{n:Int}(g:0<=n)(p:n<=(B:Int))(b:(Nat.beq z.length sz&&z.all (λv=>zP v&&qU v)&&(ag||Nat.beq sz 1))=true)(j:bytes+sz<=2)(he:qF B e (zD ag z))(o:B<=300000000:=by decide):∃y,TOp.eval E (.mk el sz bytes ag z) [dI n]=some y/\(y.es.length:Int)=n/\qF B (.sl el sz e) y:=by
 refine⟨.sl el sz (List.replicate n.toNat (zD ag z)),?_,?_,mP (by rw[gi];omega) λx c=>by rw[gp c];exact he⟩
 ·rw[qK1,kJ g];have h:n.toNat*(bytes+sz+1)<=1000000000:=by have:n.toNat*(bytes+sz+1)<=300000000*3:=Nat.mul_le_mul (by omega) (by omega);omega
  exact mE (by rw[b];exact bL h)
 show((List.replicate n.toNat (zD ag z)).length:Int)=_;rw[gi];omega
theorem qVv{y x:D}(z:qF B (.sl el 1 e) y)(F:0<=i)(G:i<(y.es.length:Int))(u:qF B e x)(h:∀d,qF B e d->d.one=true):∃o,TOp.eval E (.set 1 false 1 0) [y,dI i,x]=some o/\o.es.length=y.es.length/\qF B (.sl el 1 e) o:=by
 have b:=z;simp only[qF]at b;rcases b with rfl|⟨es,rfl,A,w⟩
 ·have:(D.nil).es.length=0:=rfl;omega
 have g:i.toNat<es.length:=by have:(D.sl el 1 es).es.length=es.length:=rfl;omega
 have C:es[i.toNat]? = some es[i.toNat]:=ak g;have j:=h _ (w _ (gh g));have c:=h _ u;have p:x.cells=[x]:=by cases x<;>first|rfl|(simp[D.one]at c)
 refine⟨.sl el 1 (es.set i.toNat x),?_,by show(es.set i.toNat x).length=_;rw[ef];rfl,mP (by rw[ef];exact A) λd hd=>?_⟩
 ·rw[aZ,kJ F];have r:cI false 1 x=some x:=by show(bif x.one&&Nat.beq 1 1 then some x else none)=some x;rw[c];rfl
  simp only[r,C];refine(mE (by rfl)).trans ?_;rw[p];have:aG es[i.toNat] 0 [x]=x:=by generalize es[i.toNat]=q at j;cases q<;>first|rfl|(simp[D.one]at j)
  rw[this]
 rcases ij hd with hd|rfl
 ·exact w d hd
 exact u
theorem qOM:∀d,qF B .bool d->d.one=true:=λd h=>by simp only[qF]at h;obtain⟨b,rfl⟩:=h;rfl
theorem qDn:∀{es:LR},(∀x∈es,qF B (.int .u8) x)->∃l,nD es=some l/\l.length=es.length
 | [],_=>⟨[],rfl,rfl⟩
 |x::es,h=>by obtain⟨l,j,g⟩:=qDn (es:=es) λy c=>h y (mC _ c);have b:=h x aq;simp only[qF]at b;obtain⟨n,rfl⟩:=b;exact⟨UInt8.ofNat n.toNat::l,by simp only[nD,j,aj],by simp[g]⟩
theorem qQR{y:D}(c:qF B (.sl el 1 (.int .u8)) y)(g:∃es,y=.sl el 1 es):∃t:LJ,t.size<=B/\TOp.eval E .ns [y]=some (.leaf (.string t)):=by
 obtain⟨es,rfl⟩:=g;have b:=c;simp only[qF]at b;rcases b with h|⟨es',h,j,o⟩
 ·cases h
 cases h;obtain⟨l,q,p⟩:=qDn (B:=B) o;refine⟨⟨⟨l⟩⟩,?_,?_⟩
 ·show(Array.mk l).size<=_;simp[p];exact j
 rw[qPM];simp_all
end
def zBd:D->Bool
 |.leaf (.bool false)=>true
 |_=>false
def qMI(d:D):Nat:=(d.es.filter zBd).length
theorem qSL(d:D):qMI d<=d.es.length:=List.length_filter_le _ _
theorem qJp{i:Nat}{x:D}(h:l[i]? = some x)(c:zBd x=true)(y:D)(b:zBd y=false):((l.set i y).filter zBd).length+1=(l.filter zBd).length:=by
 induction l generalizing i with
 |nil=>simp at h
 |cons a l ih=>
  cases i with
  |zero=>grind
  |succ i=>grind
section
variable{E:Env}{B:Nat}
theorem qQQ{y:D}(q:qF B (.sl el 1 .bool) y)(r:0<=i)(u:i<(y.es.length:Int))(he:y.es[i.toNat]? = some (dB false)):∃h,TOp.eval E (.set 1 false 1 0) [y,dI i,dB true]=some h/\h.es.length=y.es.length/\qF B (.sl el 1 .bool) h/\qMI h+1=qMI y:=by
 obtain⟨h,j,z,w⟩:=qVv (E:=E) q r u (fZ (b:=true)) qOM;refine⟨h,j,z,w,?_⟩;have c:=q;simp only[qF]at c;rcases c with rfl|⟨es,rfl,A,C⟩
 ·simp[D.es]at he
 have g:es[i.toNat]? = some (dB false):=he;rw[aZ,kJ r]at j;have o:cI false 1 (dB true)=some (dB true):=rfl;simp only[o,g]at j;have p:some (D.sl el 1 (es.set i.toNat (dB true)))=some h:=j;cases p;exact qJp g rfl _ rfl
end
theorem fE{E:Env}{HS:LO->LR->La}{Ts:LV}{xs:LS}{ρ ds:LR}{d:D}(b:SV.ds (getD ρ) xs=ds)(h:kC ds=d):wp E HS (To E HS Ts d) (.ret xs) ρ:=by simp only[wp,b,To];exact h
def jI(el sz:Nat)(l:LR):D:=if l=[]then .nil else .sl el sz l
theorem qCw{sz:Nat}:(jI el sz l).es=l:=by
 unfold jI;split
 ·rename_i h;rw[h];rfl
 rfl
theorem eM{B sz:Nat}(h:l.length<=B)(b:∀x∈l,qF B e x):qF B (.sl el sz e) (jI el sz l):=by
 unfold jI;split
 ·exact yR
 exact mP h b
section
variable{E:Env}{B:Nat}
theorem qJR{sz bytes:Nat}{b:D}(o:qF B (.sl el sz e) b)(c:bytes<=80)(F:l.length+b.es.length<=300000000):TOp.eval E (.app el sz bytes) [jI el sz l,b]=some (jI el sz (l++b.es)):=by
 have r:yO (jI el sz l)=some l.length:=by
  unfold jI;split
  ·rename_i h;rw[h];rfl
  rfl
 have q:∀(b:Bool) (x y:LX),b=true->(bif b then x else y)=x:=λb x y o=>by rw[o];rfl
 rw[bI,r];simp only[qF]at o;rcases o with rfl|⟨es,rfl,G,H⟩
 ·have p:Nat.ble (Nat.mul (Nat.add (Nat.mul 4 l.length) 4000) (Nat.succ bytes)) 100000000000=true:=iJ (by have:(D.nil).es.length=0:=rfl;omega) c;refine(q _ _ _ p).trans ?_;show some (jI el sz l)=some (jI el sz (l++[]));rw[cr]
 have p:Nat.ble (Nat.mul (Nat.add (Nat.mul 4 (Nat.add l.length es.length)) 4000) (Nat.succ bytes)) 100000000000=true:=iJ F c;have A:Nat.beq sz sz=true:=bj _;have g:(D.sl el sz es).es=es:=rfl;by_cases w:l=[]
 ·subst w;refine(q _ _ _ (by rw[p,A];rfl)).trans ?_;rw[zI,g];split
  ·rename_i j;have:es=[]:=cy.1 j;rw[this];rfl
  rename_i j;have u:es≠[]:=λh=>j (by rw[h];rfl);show some (D.sl el sz ([]++es))=some (jI el sz ([]++es));rw[df];unfold jI;rw[bf u]
 have C:jI el sz l=.sl el sz l:=bf w;rw[C];refine(q _ _ _ (by rw[p,A];show(true&&true&&(Nat.beq el el&&Nat.beq sz sz))=true;rw[bj,bj];rfl)).trans ?_;have z:jI el sz (l++es)=.sl el sz (l++es):=bf (by intro h;exact w (List.append_eq_nil_iff.1 h).1);rw[zI,g,z];split
 ·rename_i j;have:es=[]:=cy.1 j;rw[this,cr]
 rfl
theorem tU{x:D}(h:x.one=true):TOp.eval E (.lit el 1) [x]=some (.sl el 1 [x]):=by
 rw[eZ];have b:Nat.beq x.cells.length 1=true:=by rw[nR h];rfl
 have:([x].all (λe=>Nat.beq e.cells.length 1)&&Nat.ble (Nat.mul [x].length (Nat.succ 1)) 1000000)=true:=by simp_all
 rw[this];rfl
end
end Go.Am
