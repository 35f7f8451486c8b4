/- Bounded data of given shapes; steps for functions that always give something. Conditions: none. -/
import Derived.Test.YtminhjecpnpaeaaGreatDoorUn
set_option linter.unusedVariables false
set_option linter.unusedSimpArgs false
namespace Go.Am
open Go
mutual
def qI (B:Nat):Sh->D->Prop
 | .int k,d=>∃ n,d=.leaf (.int k n)
 | .bool,d=>∃ b,d=.leaf (.bool b)
 | .str,d=>∃ s,d=.leaf (.string s)/\s.size<=B
 | .st fs,d=>∃ cs,d=.agg cs/\jJ B fs cs
 | .sl el sz e,d=>d=.nil∨∃ es,d=.sl el sz es/\es.length<=B/\∀ x∈es,qI B e x
def jJ (B:Nat):List Sh->List D->Prop
 | [],l=>l=[]
 | s::ss,l=>∃ d ds,l=d::ds/\qI B s d/\jJ B ss ds
end
variable {B:Nat}
theorem qIb {n:Nat} (h:n<=300000000):n < z8:=by unfold z8; omega
theorem qD {el sz:Nat} {e:Sh} {d:D} (h:qI B (.sl el sz e) d) (hB:B<=300000000:=by decide):xL el sz d:=by
 simp only [qI] at h
 rcases h with rfl | ⟨es,rfl,h,_⟩
 ·exact .inl rfl
 exact .inr ⟨es,rfl,qIb (lT h hB)⟩
theorem qJ {el sz:Nat} {e:Sh} {d:D} (h:qI B (.sl el sz e) d):d.es.length<=B:=by
 simp only [qI] at h
 rcases h with rfl | ⟨es,rfl,h,_⟩
 ·exact Nat.zero_le _
 exact h
theorem zH {el sz:Nat} {e:Sh} {d x:D} {i:Nat} (h:qI B (.sl el sz e) d) (hx:d.es[i]? = some x):qI B e x:=by
 simp only [qI] at h
 rcases h with rfl | ⟨es,rfl,_,h⟩
 ·simp [D.es] at hx
 exact h x (List.mem_of_getElem? hx)
theorem vP {k:IntKind} {n:Int}:qI B (.int k) (.leaf (.int k n)):=⟨n,rfl⟩
theorem qAP {b:Bool}:qI B .bool (.leaf (.bool b)):=⟨b,rfl⟩
theorem mR {s:ByteArray} (h:s.size<=B):qI B .str (.leaf (.string s)):=⟨s,rfl,h⟩
theorem dJ {fs:List Sh} {cs:List D} (h:jJ B fs cs):qI B (.st fs) (.agg cs):=⟨cs,rfl,h⟩
theorem j7:jJ B [] []:=rfl
theorem qF {s:Sh} {ss:List Sh} {d:D} {ds:List D} (h:qI B s d) (hs:jJ B ss ds):jJ B (s::ss) (d::ds):=⟨d,ds,rfl,h,hs⟩
theorem gS {el sz:Nat} {e:Sh}:qI B (.sl el sz e) .nil:=.inl rfl
theorem cB {el sz:Nat} {e:Sh} {es:List D} (h:es.length<=B) (ha:∀ x∈es,qI B e x):qI B (.sl el sz e) (.sl el sz es):=.inr ⟨es,rfl,h,ha⟩
section
variable {E:Env} {HS:FuncId->List D->D->Prop}
theorem get_at {d:D} {s:Int} (h0:0<=s) (h1:s < (d.es.length:Int)):∃ x,d.es[s.toNat]? = some x :=
 ⟨_,List.getElem?_eq_getElem (by omega)⟩
theorem rQ {s:Int} (h:0<=s):dI s=dI ((s.toNat:Nat):Int):=by rw [Int.toNat_of_nonneg h]
theorem vB {d:D} {s:Int} {e:D} (h:0<=s) (he:d.es[s.toNat]? = some e):TOp.eval E .inr [d,dI s]=some (dB true):=by
 rw [rQ h]; exact vM he
theorem gL {el sz:Nat} {d:D} {s:Int} {cs:List D} (h:xL el sz d) (h0:0<=s) (he:d.es[s.toNat]? = some (.agg cs)) (hc:cs.length=sz):TOp.eval E (.elem sz true sz 0) [d,dI s]=some (.agg cs):=by
 rw [rQ h0]; exact jO h he hc
theorem z6 {el:Nat} {d:D} {s:Int} {e:D} (h:xL el 1 d) (h0:0<=s) (he:d.es[s.toNat]? = some e) (ho:e.one=true):TOp.eval E (.elem 1 false 1 0) [d,dI s]=some e:=by
 rw [rQ h0]; exact xP h he ho
theorem cU {el sz off:Nat} {d:D} {s:Int} {cs:List D} {e:D} (h:xL el sz d) (h0:0<=s) (he:d.es[s.toNat]? = some (.agg cs)) (hc:cs[off]? = some e) (ho:e.one=true) (hoff:off < sz):TOp.eval E (.elem sz false 1 off) [d,dI s]=some e:=by
 rw [rQ h0]; exact rU h he hc ho hoff
theorem qMb {el sz size off:Nat} {d:D} {s:Int} {cs:List D} (h:xL el sz d) (h0:0<=s) (he:d.es[s.toNat]? = some (.agg cs)) (hc:cs.length=sz) (ho:off+size<=sz) (hn:¬ (off=0/\size=sz)):TOp.eval E (.elem sz true size off) [d,dI s]=some (.agg ((cs.drop off).take size)):=by
 rw [rQ h0]; exact qMd h he hc ho hn
theorem uP {m:Int} (h0 : -9223372036854775808<=m) (h1:m < 9223372036854775808):IntKind.i64.wrap m=m:=by
 have e:IntKind.i64.wrap m=(if (true && decide ((m % 18446744073709551616)≥9223372036854775808))=true then m % 18446744073709551616 - 18446744073709551616 else m % 18446744073709551616):=rfl
 rw [e]
 simp only [Bool.true_and,decide_eq_true_eq]
 split <;> omega
theorem kG {t:TypeId} {x y:Operand} {m n:Int} (h : -9223372036854775808<=m+n/\m+n < 9223372036854775808):TOp.eval E (.bin .add t x y) [dI m,dI n]=some (dI (m+n)):=by
 have h0:TOp.eval E (.bin .add t x y) [dI m,dI n]=some (dI (IntKind.i64.wrap (m+n))):=rfl
 rw [h0,uP h.1 h.2]
theorem qBd {t:TypeId} {x y:Operand} {m n:Int} (h : -9223372036854775808<=m - n/\m - n < 9223372036854775808):TOp.eval E (.bin .sub t x y) [dI m,dI n]=some (dI (m - n)):=by
 have h0:TOp.eval E (.bin .sub t x y) [dI m,dI n]=some (dI (IntKind.i64.wrap (m - n))):=rfl
 rw [h0,uP h.1 h.2]
theorem iS {t:TypeId} {x y:Operand} {m n:Int}:TOp.eval E (.bin .add t x y) [dI m,dI n]=some (dI (IntKind.i64.wrap (m+n))):=rfl
theorem qAE {t:TypeId} {x y:Operand} {m n:Int}:TOp.eval E (.bin .sub t x y) [dI m,dI n]=some (dI (IntKind.i64.wrap (m - n))):=rfl
theorem dY {t:TypeId} {x y:Operand} {m n:Int}:TOp.eval E (.bin .mul t x y) [dI m,dI n]=some (dI (IntKind.i64.wrap (m * n))):=rfl
theorem wW {s:ByteArray}:TOp.eval E (.len true) [.leaf (.string s)]=some (dI (s.size:Int)):=rfl
theorem s6 {s:ByteArray} {i:Int} (h0:0<=i) (h1:i < (s.size:Int)):∃ n:Int,0<=n/\n < 256/\TOp.eval E .chr [.leaf (.string s),dI i]=some (.leaf (.int .u8 n)):=by
 rw [rQ h0,qH0]
 have hl:i.toNat < s.data.toList.length:=by
  have:s.data.toList.length=s.size:=Array.length_toList
  omega
 refine ⟨((s.data.toList[i.toNat]).toNat:Int),by omega,?_,?_⟩
 ·have:=(s.data.toList[i.toNat]).toNat_lt; omega
 show (s.data.toList[i.toNat]?).map (fun (b:UInt8)=>D.leaf (.int .u8 b.toNat))=_
 rw [List.getElem?_eq_getElem hl]; rfl
def qY6 (E:Env) (HS:FuncId->List D->D->Prop) (Ts:Nat->Tree) (R:D->Prop) (r:Res1):Prop:=match r with
 | .ret d'=>R d'
 | .jump k ds=>∃ d,R d/\qK E HS Ts k ds d
theorem wE {Ts:Nat->Tree} {R:D->Prop} {k:Nat} {ρ:List D} (h:wp E HS (qY6 E HS Ts R) (Ts k) ρ):∃ d,R d/\qK E HS Ts k ρ d:=by
 obtain ⟨r,h1,h2⟩:=pK _ _ h
 cases r with
 | ret d'=>exact ⟨d',h1,qK.step (h2 _ rfl)⟩
 | jump k' ds=>obtain ⟨d,hr,hd⟩:=h1; exact ⟨d,hr,qK.step (h2 _ hd)⟩
theorem vO {Ts:Nat->Tree} {R:D->Prop} {xs:List SV} {ρ ds:List D} (hx:SV.ds (getD ρ) xs=ds) (h:R (kK ds)):wp E HS (qY6 E HS Ts R) (.ret xs) ρ:=by
 simp only [wp,hx]; exact h
theorem vH {Ts:Nat->Tree} {R:D->Prop} {k:Nat} {xs:List SV} {ρ ds:List D} (hx:SV.ds (getD ρ) xs=ds) (h:∃ d,R d/\qK E HS Ts k ds d):wp E HS (qY6 E HS Ts R) (.jump k xs) ρ:=by
 simp only [wp,hx]; exact h
theorem zR {P:Nat->Prop} (N:Nat) (st:∀ i,(i < N->P (i+1))->P i):∀ i,P i:=by
 have go:∀ m i,N<=i+m->P i:=by
  intro m
  induction m with
  | zero=>intro i h; exact st i fun hi=>absurd hi (by omega)
  | succ m ih=>intro i h; exact st i fun _=>ih (i+1) (by omega)
 intro i
 exact go N i (Nat.le_add_left _ _)
theorem qI1 {α:Type} {P:α->Prop} (f:α->Nat) (st:∀ x,(∀ y,f y < f x->P y)->P x):∀ x,P x:=by
 have go:∀ m x,f x<=m->P x:=by
  intro m
  induction m with
  | zero=>intro x h; exact st x fun y hy=>absurd hy (by omega)
  | succ m ih=>intro x h; exact st x fun y hy=>ih y (by omega)
 intro x
 exact go _ x (lR _)
theorem qX {n:Nat} (h:n<=4000000000):n < z8:=by unfold z8; omega
theorem zE {k:IntKind} {t:TypeId} {x y:Operand} {m n:Int}:TOp.eval E (.bin .lss t x y) [.leaf (.int k m),.leaf (.int k n)]=some (dB (decide (m < n))):=by cases k <;> rfl
theorem cT {k:IntKind} {t:TypeId} {x y:Operand} {m n:Int}:TOp.eval E (.bin .leq t x y) [.leaf (.int k m),.leaf (.int k n)]=some (dB (decide (m<=n))):=by cases k <;> rfl
theorem vT {k:IntKind} {t:TypeId} {x y:Operand} {m n:Int}:TOp.eval E (.bin .gtr t x y) [.leaf (.int k m),.leaf (.int k n)]=some (dB (decide (m > n))):=by cases k <;> rfl
theorem wN {k:IntKind} {t:TypeId} {x y:Operand} {m n:Int}:TOp.eval E (.bin .geq t x y) [.leaf (.int k m),.leaf (.int k n)]=some (dB (decide (m≥n))):=by cases k <;> rfl
theorem yR {k:IntKind} {t:TypeId} {x y:Operand} {m n:Int}:TOp.eval E (.bin .eql t x y) [.leaf (.int k m),.leaf (.int k n)]=some (dB (decide (m=n))):=by cases k <;> rfl
theorem wM {k:IntKind} {t:TypeId} {x y:Operand} {m n:Int}:TOp.eval E (.bin .neq t x y) [.leaf (.int k m),.leaf (.int k n)]=some (dB (decide (¬ m=n))):=by
 have h:TOp.eval E (.bin .neq t x y) [.leaf (.int k m),.leaf (.int k n)]=some (dB (m != n)):=by cases k <;> rfl
 rw [h]
 by_cases e:m=n
 ·subst e; simp
 simp [e]
theorem yP {i:Nat} {ds:List D} {d:D} (h:ds[i]? = some d):TOp.eval E (.ext i) [.tup ds]=some d:=by rw [qNL]; exact h
mutual
theorem qBN (hB:B<=300000000):∀ {s:Sh} {d:D},qI B s d->vA s d
 | .int k,d,h=>by simp only [qI] at h; simp only [vA]; exact h
 | .bool,d,h=>by simp only [qI] at h; simp only [vA]; exact h
 | .str,d,h=>by simp only [qI] at h; obtain ⟨s,hs,_⟩:=h; simp only [vA]; exact ⟨s,hs⟩
 | .st fs,d,h=>by simp only [qI] at h; obtain ⟨cs,hd,h⟩:=h; simp only [vA]; exact ⟨cs,hd,tO hB h⟩
 | .sl el sz e,d,h=>by
  simp only [qI] at h; simp only [vA]
  rcases h with h | ⟨es,hd,hl,ha⟩
  ·exact .inl h
  exact .inr ⟨es,hd,qIb (lT hl hB),fun x hx=>qBN hB (ha x hx)⟩
theorem tO (hB:B<=300000000):∀ {ss:List Sh} {ds:List D},jJ B ss ds->vU ss ds
 | [],ds,h=>by simp only [jJ] at h; simp only [vU]; exact h
 | s::ss,ds,h=>by
  simp only [jJ] at h; obtain ⟨d,r,hd,h1,h2⟩:=h
  simp only [vU]; exact ⟨d,r,hd,qBN hB h1,tO hB h2⟩
end
theorem eH {s:Sh} {d:D} (h:qI B s d) (hB:B<=300000000:=by decide):vA s d:=qBN hB h
theorem aT {ss:List Sh} {ds:List D} (h:jJ B ss ds) (hB:B<=300000000:=by decide):vU ss ds:=tO hB h
theorem eO {n bytes:Nat} (h:n<=300000000) (hb:bytes<=80):Nat.ble (Nat.mul (Nat.add (Nat.mul 4 n) 4000) (Nat.succ bytes)) 100000000000=true:=by
 rw [Nat.ble_eq]
 have h1:4 * n+4000<=1200004000:=by omega
 have h2:bytes+1<=81:=by omega
 exact lT (Nat.mul_le_mul h1 h2) (lB rfl)
theorem pL {el sz bytes:Nat} {a b:D} {e:Sh} (ha:qI B (.sl el sz e) a) (hb:qI B (.sl el sz e) b) (hbytes:bytes<=80) (hl:a.es.length+b.es.length<=B) (hB:B<=300000000:=by decide) :
  ∃ y,TOp.eval E (.app el sz bytes) [a,b]=some y/\y.es.length=a.es.length+b.es.length/\qI B (.sl el sz e) y:=by
 have hss:pY a=some a.es.length:=by
  simp only [qI] at ha
  rcases ha with rfl | ⟨es,rfl,_⟩ <;> rfl
 rw [tZ,hss]
 simp only [qI] at hb
 rcases hb with rfl | ⟨es,rfl,hbl,hbe⟩
 ·refine ⟨a,?_,by simp [D.es],ha⟩
  have h1:Nat.ble (Nat.mul (Nat.add (Nat.mul 4 a.es.length) 4000) (Nat.succ bytes)) 100000000000=true:=eO (by have:(D.nil).es.length=0:=rfl; omega) hbytes
  have e0:∀ (b:Bool) (x:Option D),b=true->(bif b then x else none)=x:=fun b x hb=>by rw [hb]; rfl
  exact e0 _ _ h1
 have h1:Nat.ble (Nat.mul (Nat.add (Nat.mul 4 (Nat.add a.es.length es.length)) 4000) (Nat.succ bytes)) 100000000000=true:=eO (lT hl hB) hbytes
 have h2:Nat.beq sz sz=true:=Nat.beq_refl _
 have tt:∀ (b:Bool) (x y:Option D),b=true->(bif b then x else y)=x:=fun b x y hb=>by rw [hb]; rfl
 simp only [qI] at ha
 rcases ha with rfl | ⟨es',rfl,hal,hae⟩
 ·refine ⟨if es.length=0 then .nil else .sl el sz ([]++es),(tt _ _ _ (by rw [h1,h2]; rfl)).trans ?_,?_,?_⟩
  ·rw [zC]; split <;> rfl
  ·split
   ·rename_i h0; show 0=0+es.length; omega
   show ([]++es).length=0+es.length; simp
  split
  ·exact gS
  exact cB (by simpa using hbl) (by simpa using hbe)
 have hl':es'.length+es.length<=B:=hl
 refine ⟨if es.length=0 then .sl el sz es' else .sl el sz (es'++es),(tt _ _ _ (by rw [h1,h2]; show (true && true && (Nat.beq el el && Nat.beq sz sz))=true; rw [Nat.beq_refl,Nat.beq_refl]; rfl)).trans ?_,?_,?_⟩
 ·rw [zC]; split <;> rfl
 ·split
  ·rename_i h0; show es'.length=es'.length+es.length; omega
  show (es'++es).length=es'.length+es.length; simp
 split
 ·exact cB hal hae
 refine cB (by rw [List.length_append]; exact hl') fun x hx=>?_
 rcases List.mem_append.1 hx with hx | hx
 ·exact hae x hx
 exact hbe x hx
end
end Go.Am
namespace Go.Am
open Go
theorem qCA {P:D->Prop}:∀ x∈([]:List D),P x:=fun _ h=>by cases h
theorem qCB {P:D->Prop} {a:D} {l:List D} (h:P a) (hl:∀ x∈l,P x):∀ x∈a::l,P x:=List.forall_mem_cons.2 ⟨h,hl⟩
section
variable {E:Env} {B:Nat}
theorem fH {el sz:Nat} {xs:List D} {e:Sh} (hc:xs.all (fun x=>Nat.beq x.cells.length sz)=true) (hx:∀ x∈xs,qI B e x) (hz:Nat.ble (Nat.mul xs.length (Nat.succ sz)) 1000000=true) (hl:Nat.ble xs.length B=true) :
  ∃ y,TOp.eval E (.lit el sz) xs=some y/\y.es.length=xs.length/\qI B (.sl el sz e) y/\∃ es,y=.sl el sz es:=by
 refine ⟨.sl el sz xs,?_,rfl,cB (lB hl) hx,_,rfl⟩
 rw [tY,hc,hz]; rfl
theorem oW {n:Int} (h:0<=n):qAx (dI n)=some n.toNat:=by
 have e:dI n=dI ((n.toNat:Nat):Int):=rQ h
 rw [e]; rfl
theorem lZ {b:Bool} {x y:Option D} (h:b=true):(bif b then x else y)=x:=by rw [h]; rfl
theorem qC2 {el sz:Nat} {l:D} {e:Sh} {j:Int} (hl:qI B (.sl el sz e) l) (h0:0<=j) (h1:j<=(l.es.length:Int)) :
  ∃ y,TOp.eval E (.slc el sz true false) [l,dI j]=some y/\(y.es.length:Int)=(l.es.length:Int) - j/\qI B (.sl el sz e) y:=by
 have hl':=hl
 simp only [qI] at hl'
 rcases hl' with rfl | ⟨es,rfl,hb2,ha⟩
 ·have hj:j=0:=by have:(D.nil).es.length=0:=rfl; omega
  subst hj
  exact ⟨.nil,rfl,rfl,gS⟩
 refine ⟨.sl el sz (es.drop j.toNat),?_,?_,cB (by rw [List.length_drop]; omega) fun x hx=>ha x (List.mem_of_mem_drop hx)⟩
 ·rw [tX]
  have hb0:jN true 0 [dI j]=some (j.toNat,[]):=by simp only [jN,cond_true,oW h0,Option.map_some]
  have hb':jN false es.length ([]:List D)=some (es.length,[]):=rfl
  simp only [hb0,hb']
  have hle:j.toNat<=es.length:=by have:(D.sl el sz es).es.length=es.length:=rfl; omega
  refine (lZ ?_).trans ?_
  ·rw [Nat.beq_refl,Nat.beq_refl,bL hle,bL (lR _)]; rfl
  rw [List.take_of_length_le (by rw [List.length_drop]; omega)]
 show ((es.drop j.toNat).length:Int)=(es.length:Int) - j
 have:(D.sl el sz es).es.length=es.length:=rfl
 rw [List.length_drop]; omega
theorem qA0 {s:ByteArray} {i j:Int} (h0:0<=i) (h1:i<=j) (h2:j<=(s.size:Int)) (hs:s.size<=B) :
  ∃ t:ByteArray,t.size<=B/\TOp.eval E (.sub true true) [.leaf (.string s),dI i,dI j]=some (.leaf (.string t)):=by
 refine ⟨s.extract i.toNat j.toNat,?_,?_⟩
 ·rw [ByteArray.size_extract]; omega
 rw [qHW]
 have hb0:jN true 0 [dI i,dI j]=some (i.toNat,[dI j]):=by simp only [jN,cond_true,oW h0,Option.map_some]
 have hb1:jN true s.size [dI j]=some (j.toNat,[]):=by simp only [jN,cond_true,oW (by omega:0<=j),Option.map_some]
 simp only [hb0,hb1]
 exact lZ (by rw [bL (by omega),bL (by omega)]; rfl)
theorem qVg {el sz bytes:Nat} {ag:Bool} {z:List Value} {n:Int} {e:Sh} (h0:0<=n) (h1:n<=(B:Int)) (hz:(Nat.beq z.length sz && z.all (fun v=>zP v && qQ v) && (ag || Nat.beq sz 1))=true) (hb:bytes+sz<=2)
  (he:qI B e (zD ag z)) (hB:B<=300000000:=by decide):∃ y,TOp.eval E (.mk el sz bytes ag z) [dI n]=some y/\(y.es.length:Int)=n/\qI B (.sl el sz e) y:=by
 refine ⟨.sl el sz (List.replicate n.toNat (zD ag z)),?_,?_,cB (by rw [List.length_replicate]; omega) fun x hx=>by rw [List.eq_of_mem_replicate hx]; exact he⟩
 ·rw [qNI,oW h0]
  have hle:n.toNat * (bytes+sz+1)<=1000000000:=by
   have:n.toNat * (bytes+sz+1)<=300000000 * 3:=Nat.mul_le_mul (by omega) (by omega)
   omega
  exact lZ (by rw [hz]; exact bL hle)
 show ((List.replicate n.toNat (zD ag z)).length:Int)=_
 rw [List.length_replicate]; omega
theorem qS0 {el:Nat} {y x:D} {i:Int} {e:Sh} (hy:qI B (.sl el 1 e) y) (h0:0<=i) (h1:i < (y.es.length:Int)) (hx:qI B e x) (hone:∀ d,qI B e d->d.one=true) :
  ∃ y',TOp.eval E (.set 1 false 1 0) [y,dI i,x]=some y'/\y'.es.length=y.es.length/\qI B (.sl el 1 e) y':=by
 have hy':=hy
 simp only [qI] at hy'
 rcases hy' with rfl | ⟨es,rfl,hl,ha⟩
 ·have:(D.nil).es.length=0:=rfl
  omega
 have hlt:i.toNat < es.length:=by have:(D.sl el 1 es).es.length=es.length:=rfl; omega
 have hg:es[i.toNat]? = some es[i.toNat]:=List.getElem?_eq_getElem hlt
 have he0:=hone _ (ha _ (List.getElem_mem hlt))
 have hx0:=hone _ hx
 have hxc:x.cells=[x]:=by cases x <;> first | rfl | (simp [D.one] at hx0)
 refine ⟨.sl el 1 (es.set i.toNat x),?_,by show (es.set i.toNat x).length=_; rw [List.length_set]; rfl,cB (by rw [List.length_set]; exact hl) fun d hd=>?_⟩
 ·rw [qED,oW h0]
  have hck:eT false 1 x=some x:=by
   show (bif x.one && Nat.beq 1 1 then some x else none)=some x
   rw [hx0]; rfl
  simp only [hck,hg]
  refine (lZ (by rfl)).trans ?_
  rw [hxc]
  have:qCN es[i.toNat] 0 [x]=x:=by
   generalize es[i.toNat]=q at he0
   cases q <;> first | rfl | (simp [D.one] at he0)
  rw [this]
 rcases List.mem_or_eq_of_mem_set hd with hd | rfl
 ·exact ha d hd
 exact hx
theorem qMM:∀ d,qI B .bool d->d.one=true:=fun d h=>by simp only [qI] at h; obtain ⟨b,rfl⟩:=h; rfl
theorem qCk:∀ {es:List D},(∀ x∈es,qI B (.int .u8) x)->∃ l,pT es=some l/\l.length=es.length
 | [],_=>⟨[],rfl,rfl⟩
 | x::es,h=>by
  obtain ⟨l,h1,h2⟩:=qCk (es:=es) fun y hy=>h y (mC _ hy)
  have hx:=h x List.mem_cons_self
  simp only [qI] at hx
  obtain ⟨n,rfl⟩:=hx
  exact ⟨UInt8.ofNat n.toNat::l,by simp only [pT,h1,Option.map_some],by simp [h2]⟩
theorem qOE {el:Nat} {y:D} (hy:qI B (.sl el 1 (.int .u8)) y) (hn:∃ es,y=.sl el 1 es):∃ t:ByteArray,t.size<=B/\TOp.eval E .bstr [y]=some (.leaf (.string t)):=by
 obtain ⟨es,rfl⟩:=hn
 have hy':=hy
 simp only [qI] at hy'
 rcases hy' with h | ⟨es',h,hl,ha⟩
 ·cases h
 cases h
 obtain ⟨l,h1,h2⟩:=qCk (B:=B) ha
 refine ⟨⟨⟨l⟩⟩,?_,?_⟩
 ·show (Array.mk l).size<=_
  simp [h2]; exact hl
 rw [qHX]
 simp only [h1,Option.map_some]
 rfl
end
end Go.Am
namespace Go.Am
open Go
def qU5:D->Bool
 | .leaf (.bool false)=>true
 | _=>false
def qK4 (d:D):Nat:=(d.es.filter qU5).length
theorem qQA (d:D):qK4 d<=d.es.length:=List.length_filter_le _ _
theorem qHN {l:List D} {i:Nat} {x:D} (h:l[i]? = some x) (hx:qU5 x=true) (y:D) (hy:qU5 y=false):((l.set i y).filter qU5).length+1=(l.filter qU5).length:=by
 induction l generalizing i with
 | nil=>simp at h
 | cons a l ih =>
  cases i with
  | zero =>
   simp only [List.getElem?_cons_zero,oI] at h
   subst h
   simp [hx,hy]
  | succ i =>
   simp only [List.getElem?_cons_succ] at h
   have:=ih h
   cases ha:qU5 a <;> simp [ha] <;> omega
section
variable {E:Env} {B:Nat}
theorem qOD {el:Nat} {y:D} {i:Int} (hy:qI B (.sl el 1 .bool) y) (h0:0<=i) (h1:i < (y.es.length:Int)) (he:y.es[i.toNat]? = some (dB false)) :
  ∃ y',TOp.eval E (.set 1 false 1 0) [y,dI i,dB true]=some y'/\y'.es.length=y.es.length/\qI B (.sl el 1 .bool) y'/\qK4 y'+1=qK4 y:=by
 obtain ⟨y',e1,e2,e3⟩:=qS0 (E:=E) hy h0 h1 (qAP (b:=true)) qMM
 refine ⟨y',e1,e2,e3,?_⟩
 have hy':=hy
 simp only [qI] at hy'
 rcases hy' with rfl | ⟨es,rfl,hl,ha⟩
 ·simp [D.es] at he
 have he':es[i.toNat]? = some (dB false):=he
 rw [qED,oW h0] at e1
 have hck:eT false 1 (dB true)=some (dB true):=rfl
 simp only [hck,he'] at e1
 have e1':some (D.sl el 1 (es.set i.toNat (dB true)))=some y':=e1
 cases e1'
 exact qHN he' rfl _ rfl
end
theorem vY {E:Env} {HS:FuncId->List D->D->Prop} {Ts:Nat->Tree} {xs:List SV} {ρ ds:List D} {d:D} (hx:SV.ds (getD ρ) xs=ds) (h:kK ds=d):wp E HS (To E HS Ts d) (.ret xs) ρ:=by
 simp only [wp,hx,To]; exact h
end Go.Am
namespace Go.Am
open Go
def yM (el sz:Nat) (l:List D):D:=if l=[] then .nil else .sl el sz l
theorem qMX {el sz:Nat} {l:List D}:(yM el sz l).es=l:=by
 unfold yM; split
 ·rename_i h; rw [h]; rfl
 rfl
section
variable {E:Env} {B:Nat}
theorem qOb {el sz bytes:Nat} {l:List D} {b:D} {e:Sh} (hb:qI B (.sl el sz e) b) (hbytes:bytes<=80) (hl:l.length+b.es.length<=300000000) :
  TOp.eval E (.app el sz bytes) [yM el sz l,b]=some (yM el sz (l++b.es)):=by
 have hss:pY (yM el sz l)=some l.length:=by
  unfold yM; split
  ·rename_i h; rw [h]; rfl
  rfl
 have tt:∀ (b:Bool) (x y:Option D),b=true->(bif b then x else y)=x:=fun b x y hb=>by rw [hb]; rfl
 rw [tZ,hss]
 simp only [qI] at hb
 rcases hb with rfl | ⟨es,rfl,hbl,hbe⟩
 ·have h1:Nat.ble (Nat.mul (Nat.add (Nat.mul 4 l.length) 4000) (Nat.succ bytes)) 100000000000=true:=eO (by have:(D.nil).es.length=0:=rfl; omega) hbytes
  refine (tt _ _ _ h1).trans ?_
  show some (yM el sz l)=some (yM el sz (l++[]))
  rw [List.append_nil]
 have h1:Nat.ble (Nat.mul (Nat.add (Nat.mul 4 (Nat.add l.length es.length)) 4000) (Nat.succ bytes)) 100000000000=true:=eO hl hbytes
 have h2:Nat.beq sz sz=true:=Nat.beq_refl _
 have hes:(D.sl el sz es).es=es:=rfl
 by_cases hn:l=[]
 ·subst hn
  refine (tt _ _ _ (by rw [h1,h2]; rfl)).trans ?_
  rw [zC,hes]
  split
  ·rename_i h0
   have:es=[]:=List.length_eq_zero_iff.1 h0
   rw [this]; rfl
  rename_i h0
  have hne:es≠[]:=fun h=>h0 (by rw [h]; rfl)
  show some (D.sl el sz ([]++es))=some (yM el sz ([]++es))
  rw [List.nil_append]
  unfold yM
  rw [if_neg hne]
 have hm:yM el sz l=.sl el sz l:=if_neg hn
 rw [hm]
 refine (tt _ _ _ (by rw [h1,h2]; show (true && true && (Nat.beq el el && Nat.beq sz sz))=true; rw [Nat.beq_refl,Nat.beq_refl]; rfl)).trans ?_
 have hm2:yM el sz (l++es)=.sl el sz (l++es):=if_neg (by intro h; exact hn (List.append_eq_nil_iff.1 h).1)
 rw [zC,hes,hm2]
 split
 ·rename_i h0
  have:es=[]:=List.length_eq_zero_iff.1 h0
  rw [this,List.append_nil]
 rfl
theorem qAL {el:Nat} {x:D} (h:x.one=true):TOp.eval E (.lit el 1) [x]=some (.sl el 1 [x]):=by
 rw [tY]
 have h1:Nat.beq x.cells.length 1=true:=by rw [rF h]; rfl
 have:([x].all (fun e=>Nat.beq e.cells.length 1) && Nat.ble (Nat.mul [x].length (Nat.succ 1)) 1000000)=true:=by
  simp only [List.all_cons,List.all_nil,h1,Bool.and_true,Bool.true_and]; rfl
 rw [this]; rfl
end
end Go.Am
