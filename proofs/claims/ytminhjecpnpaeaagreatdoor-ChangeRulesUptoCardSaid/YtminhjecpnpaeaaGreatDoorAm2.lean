/- What the abstract operations do, the model's do too: comparisons, addresses, slices. Conditions: none. -/
import Derived.Test.YtminhjecpnpaeaaGreatDoorAm1
set_option linter.unusedVariables false
set_option linter.unusedSimpArgs false
namespace Go.Am
open Go
section
variable{E:Env}{σ:zU}{H:AH}{w:World}{fr:Fr}{a:Act}
theorem VR.int_inv{k:IntKind}{n:Int}{v':Value}(h:VR σ (.int k n) v'):v'=.int k n:=by cases h;rfl
theorem VR.bool_inv{b:Bool}{v':Value}(h:VR σ (.bool b) v'):v'=.bool b:=by cases h;rfl
theorem VR.string_inv{s:ByteArray}{v':Value}(h:VR σ (.string s) v'):v'=.string s:=by cases h;rfl
theorem mE{v v':Value}(h:zF v=true)(hv:VR σ v v'):v'=v:=qRq 6 v v' h hv
theorem qGT(he:EOk E){t:TypeId}{x y e c:Value}(h:qAT E t x y=true)(j:VR σ x e)(i:VR σ y c)(d:Nat):(Op.equalIn (d+1) t e c).run E.prog w=.ok false w:=by
 unfold qAT at h;split at h;all_goals first|(cases h;done)|skip
 all_goals(rename_i g;have hu:=λw=>zN he g w;clear g)
 all_goals
  cases j<;>cases i<;>first
  |(rename_i b;simp[zX]at b;done)
  |(rename_i b _;simp[zX]at b;done)
  |simp[Op.equalIn,hu]
theorem qEa(he:EOk E){t:TypeId}{x y e c:Value}(h:qAT E t x y=true)(l:VR σ x e)(k:VR σ y c)(p o:Operand)(g:BinOp)(b:Bool)(i:g=.eql/\b=false∨g=.neq/\b=true):(do eqGuard g t p o e c;binOp g t e c:Sem Value).run E.prog w=.ok (.bool b) w:=by
 have q:∀w,(Op.equal t e c).run E.prog w=.ok false w:=λw=>qGT he h l k 9999;unfold qAT at h;split at h;all_goals first|(cases h;done)|skip
 all_goals
  rcases i with⟨rfl,rfl⟩|⟨rfl,rfl⟩<;>cases l<;>cases k<;>first
  |(rename_i j;simp[zX]at j;done)
  |(rename_i j _;simp[zX]at j;done)
  |simp[eqGuard,binOp,q]
theorem qD5(he:EOk E){t:TypeId}{x y o l:Value}(h:qD6 E t x y=true)(F:VR σ x o)(C:VR σ y l)(B A:Operand)(j:BinOp)(b:Bool)(q:j=.eql/\b=true∨j=.neq/\b=false):(do eqGuard j t B A o l;binOp j t o l:Sem Value).run E.prog w=.ok (.bool b) w:=by
 unfold qD6 at h;split at h;case h_2=>cases h
 rename_i u sz K z ag O k N M G;simp only[aE,Nat.beq_eq]at h;obtain⟨⟨c,rfl⟩,rfl⟩:=h;obtain⟨e,c⟩:=Option.isSome_iff_exists.1 c;cases F with
 |leaf i=>simp[zX]at i
 | ptr I=>
  cases C with
  |leaf i=>simp[zX]at i
  |ptr g=>
   rw[I]at g;cases g;have hu:=λw=>zN he G w;have p:=λw=>zQ he c w;rename_i L;have r:∀(d:Nat) w,(Op.equalIn (d+1) t (.pointer (some ⟨L.blk,L.off+k,none⟩)) (.pointer (some ⟨L.blk,L.off+k,none⟩))).run E.prog w=.ok true w:=by intro d w;by_cases i:e.size=0<;>simp[Op.equalIn,hu,p,i,sameAddr]
   have J:∀w,(Op.equal t (.pointer (some ⟨L.blk,L.off+k,none⟩)) (.pointer (some ⟨L.blk,L.off+k,none⟩))).run E.prog w=.ok true w:=λw=>r 9999 w;rcases q with⟨rfl,rfl⟩|⟨rfl,rfl⟩<;>simp[eqGuard,binOp,J]
theorem qR9(he:EOk E){op:BinOp}{t:TypeId}{o l:Operand}{x y k j v:Value}(h:oW E op t o l x y=some v)(c:VR σ x k)(b:VR σ y j):∃v',(do eqGuard op t o l k j;binOp op t k j:Sem Value).run E.prog w=.ok v' w/\VR σ v v':=by
 unfold oW at h;split at h;case h_10=>
  cases e:zF x&&zF y with
  |true=>rw[e,cond_true]at h;obtain⟨r,q⟩:=flat?_spec h;rw[aE]at e;rw[mE e.1 c,mE e.2 b];exact⟨v,yJ _ _ _ _ r,j7 _ _ q⟩
  | false=>
   rw[e,cond_false]at h;cases g:qD6 E t x y with
   |true=>
    rw[g,cond_true]at h;split at h
    ·cases h;exact⟨_,qD5 he g c b _ _ _ _ (.inl ⟨rfl,rfl⟩),.leaf rfl⟩
    ·cases h;exact⟨_,qD5 he g c b _ _ _ _ (.inr ⟨rfl,rfl⟩),.leaf rfl⟩
    cases h
   |false=>
   rw[g,cond_false]at h;cases i:qAT E t x y with
   |false=>rw[i,cond_false]at h;cases h
   |true=>
    rw[i,cond_true]at h;split at h
    ·cases h;exact⟨_,qEa he i c b _ _ _ _ (.inl ⟨rfl,rfl⟩),.leaf rfl⟩
    ·cases h;exact⟨_,qEa he i c b _ _ _ _ (.inr ⟨rfl,rfl⟩),.leaf rfl⟩
    cases h
 all_goals
  split at h;case isFalse=>cases h
  rename_i p;cases h;rw[c.int_inv,b.int_inv];subst p;refine⟨_,?_,.leaf rfl⟩;simp[eqGuard,binOp,Op.intArith,Op.intCmp]
theorem nat?_spec{v:Value}{n:Nat}(h:nat? v=some n):∃k,v=.int k (Int.ofNat n):=by
 unfold nat? at h;split at h
 ·cases h;exact⟨_,rfl⟩
 cases h
theorem qL3(he:EOk E){t:TypeId}{x F G p:Value}{i:Nat}{v:Value}(h:qAk E t x i=some v)(K:nat? G=some i)(I:VR σ x F)(u:VR σ G p):∃v',(Instr.indexAt t F p).run E.prog w=.ok v' w/\VR σ v v':=by
 obtain⟨k,rfl⟩:=nat?_spec K;rw[u.int_inv];unfold qAk at h;split at h
 ·rename_i J len g sz C z ag b o q;cases y:E.types.get g with
  |none=>simp[y]at h
  | some e=>
   simp only[y,Option.bind_some,vQ]at h;split at h;case isFalse=>cases h
   rename_i r;cases h;cases I with
   |leaf B=>simp[zX]at B
   |ptr j=>
    rename_i L;have A:(0:Int)<=Int.ofNat i/\Int.ofNat i<(len:Int):=by simp;omega
    refine⟨_,?_,VR.ptr j⟩;simp only[Instr.indexAt,asIntOf,Sem.run_bind,Sem.run_pure,Result.andThen_ok,zN he q,Instr.sureAddr,if_pos A,zQ he y,mM];simp[Nat.add_assoc]
 ·rename_i J g sz C z ag b o len cap q;cases y:E.types.get g with
  |none=>simp[y]at h
  | some e=>
   simp only[y,Option.bind_some,vQ]at h;split at h;case isFalse=>cases h
   rename_i r;cases h;have A:(0:Int)<=Int.ofNat i/\Int.ofNat i<(len:Int):=by simp;omega
   have l:∀(L:Loc) (c:Nat),σ b=some L->
     ∃v',(Instr.indexAt t (.slice (some ⟨L.blk,L.off+o,none⟩) len c) (.int k (Int.ofNat i))).run E.prog w=.ok v' w/\VR σ (.pointer (some ⟨b,o+i*e.size,none⟩)) v':=by
    intro L c j
    refine⟨_,?_,VR.ptr j⟩
    simp only[Instr.indexAt,asIntOf,Sem.run_bind,Sem.run_pure,Result.andThen_ok,zN he q,if_pos A,zQ he y,mM]
    simp[Nat.add_assoc]
   cases I with
   |leaf B=>simp[zX]at B
   |sliceE j _ _=>exact l _ _ j
   |sliceX j _ _ _=>exact l _ _ j
   |sliceZ _=>omega
 cases h
theorem qL9(he:EOk E){t:TypeId}{x i v:Value}{f:Nat}(h:aG E t x f=some v)(j:VR σ x i):∃v',(Instr.fieldAt t i f).run E.prog w=.ok v' w/\VR σ v v':=by
 unfold aG at h;split at h;case h_2=>cases h
 rename_i u A sz r z ag b o k;split at h;case h_2=>cases h
 rename_i q g;cases y:E.types.get q.type with
 |none=>simp[y]at h
 |some e=>
  simp only[y,Option.bind_some,qY]at h;split at h;case isTrue=>cases h
  rename_i c;cases h;cases j with
  |leaf p=>simp[zX]at p
  |ptr l=>rename_i L;refine⟨_,?_,VR.ptr l⟩;simp only[Instr.fieldAt,Sem.run_bind,zN he k,Result.andThen_ok,g,Instr.sureAddr,Sem.run_pure,fieldPlace,zQ he y,if_neg c,mM];simp[Nat.add_assoc]
theorem qGJ(he:EOk E){t:TypeId}{cs cs':List Value}{off:Nat}{v:Value}(h:hZ E t cs off=some v)(c:VRs σ cs cs')(i:cs.all qE=true):∃v',(part t ⟨cs'⟩ off).run E.prog w=.ok v' w/\VR σ v v':=by
 unfold hZ at h;cases y:E.types.get t with
 |none=>simp[y]at h
 | some b=>
  simp only[y,Option.bind_some]at h;simp only[part,Sem.run_bind,qB0 he y,Result.andThen_ok];cases x:b.agg with
  |true=>
   rw[x,cond_true]at h;simp only[Option.map_eq_some_iff]at h;obtain⟨l,e,rfl⟩:=h;obtain⟨rfl,j⟩:=take?_spec _ _ _ e;refine⟨.agg ⟨(cs'.drop off).take b.size⟩,?_,.agg ((c.drop off).take _) (qH5 _ (qH6 _ i))⟩;simp only[if_true,Sem.run_bind,zQ he y,Result.andThen_ok,Sem.run_pure]
   congr 2
   apply Array.ext';simp[Array.toList_extract,List.extract_eq_take_drop]
  |false=>rw[x,cond_false]at h;obtain⟨v',g,h3⟩:=c.get _ _ h;exact⟨v',by simp[g],h3⟩
theorem qJa(he:EOk E){t:TypeId}{cs:Array Value}{x v:Value}{f:Nat}{y:TI}{b:Array Field}{fd:Field}(e:E.types.get t=some y)(hd:y.desc=.struct b)(g:b[f]? = some fd)(h:hZ E fd.type cs.toList fd.offset=some v)(c:VR σ (.agg cs) x):∃v',(Instr.field t x f).run E.prog w=.ok v' w/\VR σ v v':=by
 cases c with
 |leaf l=>simp[zX]at l
 |agg i k=>obtain⟨v',j,h3⟩:=qGJ (w:=w) he h i k;refine⟨v',?_,h3⟩;have hu:=zN he e w;rw[hd]at hu;simp only[Instr.field,Sem.run_bind,hu,Result.andThen_ok,g,asAgg,Sem.run_pure,j]
theorem qI1(he:EOk E){t:TypeId}{cs:Array Value}{g v l y:Value}{i:Nat}{j e:TI}{len x:Nat}(p:E.types.get t=some j)(hd:j.desc=.array len x)(c:E.types.get x=some e)(r:nat? l=some i)(q:i+1<=len)(h:hZ E x cs.toList (Nat.mul i e.size)=some v)(o:VR σ (.agg cs) g)(b:VR σ l y):∃v',(Instr.index t g y).run E.prog w=.ok v' w/\VR σ v v':=by
 obtain⟨k,rfl⟩:=nat?_spec r;rw[b.int_inv];cases o with
 |leaf C=>simp[zX]at C
 |agg u B=>
  obtain⟨v',A,h3⟩:=qGJ (w:=w) he h u B;refine⟨v',?_,h3⟩;have hu:=zN he p w;rw[hd]at hu;have z:(0:Int)<=Int.ofNat i/\Int.ofNat i<(len:Int):=by simp;omega
  simp only[Instr.index,asIntOf,Sem.run_bind,hu,Result.andThen_ok,Sem.run_pure,if_pos z,zQ he c];exact A
theorem qI2(he:EOk E){t:TypeId}{s:ByteArray}{e j x:Value}{i:Nat}{g:TI}{b:UInt8}(p:E.types.get t=some g)(hd:g.desc=.string)(q:nat? j=some i)(h:s.data.toList[i]? = some b)(o:VR σ (.string s) e)(c:VR σ j x):(Instr.index t e x).run E.prog w=.ok (.int .u8 b.toNat) w:=by
 obtain⟨k,rfl⟩:=nat?_spec q;rw[c.int_inv,o.string_inv];have hu:=zN he p w;rw[hd]at hu;have u:(0:Int)<=Int.ofNat i:=by simp
 have y:=(gI h);obtain⟨l,z⟩:=y;have r:s[i]? = some b:=by
  have:i<s.size:=by rw[Array.length_toList]at l;exact l
  rw[getElem?_pos s i this]
  congr 1
 have hm:(if(0:Int)<=Int.ofNat i then s[(Int.ofNat i).toNat]? else none)=some b:=by rw[if_pos u];exact r
 simp only[Instr.index,asIntOf,Sem.run_bind,hu,Result.andThen_ok,Sem.run_pure,hm]
end
end Go.Am
namespace Go.Am
open Go
section
variable{E:Env}{σ:zU}{H:AH}{w:World}
theorem qMU(he:EOk E)(y:HR E σ H w){s d:TypeId}{a:Addr}{v v':Value}{H':AH}(h:qDP E H s d a=some (.val v,H'))(x:VR σ (.pointer (some a)) v'):
  H'=H/\∃u,(Go.convert s d v').run E.prog w=.ok u w/\VR σ v u:=by unfold qDP at h;cases h
end
end Go.Am
namespace Go.Am
open Go
section
variable{E:Env}{σ:zU}{H:AH}{w:World}
end
end Go.Am
namespace Go.Am
open Go
section
variable{E:Env}{σ:zU}{H:AH}{w:World}
theorem uR(he:EOk E)(c:HR E σ H w){ats:List TypeId}{ty:TypeId}{p l x y v:Value}{H':AH}(b:ats≠[])(h:wF E H ats p l=some (.val v,H'))(e:VR σ p x)(g:VR σ l y):
  ∃w' u,(Builtin.unsafeString_ ⟨ats⟩ ty #[x,y]).run E.prog w=.ok u w'/\Step E σ H w σ H' w'/\VR σ v u:=by unfold wF at h;cases h
end
end Go.Am
namespace Go.Am
open Go
theorem qEn(x B:Nat)(y:2*x+192<=B):∀(r c:Nat),c<=B->Builtin.growBy x r c<=B
 |0,c,h=>h
 |r+1,c,h=>by
  simp only[Builtin.growBy];split
  ·exact h
  exact qEn x B y r _ (by omega)
theorem qII(x c:Nat)(h:c<x):Builtin.nextslicecap x c<=2*x+512:=by
 unfold Builtin.nextslicecap;split
 ·omega
 split
 ·omega
 exact qEn x _ (by omega) 4 c (by omega)
section
variable{E:Env}{σ:zU}{H:AH}{w:World}{fr:Fr}{a:Act}
theorem qAA{v v':Value}{n y:Nat}(h:nat? v=some n)(hv:VR σ v v')(c:n<=y)(x:BoundsCode):(Instr.sliceBound v' y x).run E.prog w=.ok n w:=by
 obtain⟨k,rfl⟩:=nat?_spec h;rw[hv.int_inv];have b:(0:Int)<=Int.ofNat n/\Int.ofNat n<=(y:Int):=by simp;omega
 simp only[Instr.sliceBound,asIntOf,Sem.run_bind,Sem.run_pure,Result.andThen_ok,if_pos b];rfl
inductive OR (σ:zU):Option Value->Option Value->Prop
 |none:OR σ none none
 |some {v v':Value} (h:VR σ v v'):OR σ (some v) (some v')
theorem mL{lo y j b mx x:Option Value}{len cap l h m:Nat}(e:Bool)(i:OR σ lo y)(k:OR σ j b)(g:OR σ mx x)(el:kV lo 0=some l)(o:kV j len=some h)(em:kV mx cap=some m)(u:l<=h)(t:h<=m)(h3:m<=cap)(c:mx=none∨j≠none):(Instr.sliceBounds e len cap y b x).run E.prog w=.ok (l,h,m) w:=by
 rcases i with _|r<;>rcases k with _|q<;>rcases g with _|p<;>simp only[kV,oI]at el o em;all_goals first|(rcases c with c|c<;>first|(cases c;done)|(exact absurd rfl c))|skip
 all_goals try subst el
 all_goals try subst o
 all_goals try subst em
 all_goals simp only[Instr.sliceBounds,Sem.run_bind,Sem.run_pure,Result.andThen_ok]
 all_goals try simp only[qAA (E:=E) (w:=w) em p h3,Result.andThen_ok]
 all_goals try simp only[qAA (E:=E) (w:=w) o q t,Result.andThen_ok]
 all_goals try simp only[qAA (E:=E) (w:=w) el r u,Result.andThen_ok]
theorem qFF(b o l m s:Nat):(if m=l then(⟨b,o,none⟩:Addr)else(⟨b,o,none⟩:Addr).add (l*s))=⟨b,if m=l then o else o+l*s,none⟩:=by split<;>simp[mM]
theorem qLs(he:EOk E)(hr:HR E σ H w){t:TypeId}{x x' v:Value}{lo G W M mx F:Option Value}(h:oE E H t x lo W mx=some v)(hx:VR σ x x')(K:OR σ lo G)(N:OR σ W M)(J:OR σ mx F):∃v',(Instr.sliceAt t x' G M F).run E.prog w=.ok v' w/\VR σ v v':=by
 unfold oE at h;split at h
 ·rename_i ti n elem sz by_ z ag b o ht;split at h;case h_2=>cases h
  rename_i l g m e el eh em u;simp only[gG,vQ]at h;split at h;case isFalse=>cases h
  rename_i R;split at h;case isFalse=>cases h
  rename_i C;split at h;case isFalse=>cases h
  rename_i h3;split at h;case isFalse=>cases h
  rename_i U;cases r:(mx.isNone||W.isSome)with
  |false=>rw[r,cond_false]at h;cases h
  | true=>
   rw[r,cond_true]at h;cases h;cases hx with
   |leaf V=>simp[zX]at V
   | ptr hs=>
    rename_i L;have B:=mL (E:=E) (w:=w) false K N J el eh em R C h3 (by
     rw[Bool.or_eq_true]at r;rcases r with r|r
     ·exact .inl (by simpa using r)
     exact .inr (by intro e;rw[e]at r;simp at r))
    refine⟨_,?_,VR.sliceE hs (by show g-l<=m-l;omega) (by show m-l<qT;unfold qT;omega)⟩;simp only[Instr.sliceAt,Sem.run_bind,zN he ht,Result.andThen_ok,Instr.sureAddr,Sem.run_pure,B,zQ he u,qFF,qY];split<;>simp[Nat.add_assoc]
 ·rename_i ti elem sz by_ z ag base len cap ht;split at h;case h_2=>cases h
  rename_i l g e el eh u;have hu:=λw=>zN he ht w;split at h
  ·
   -- the nil slice
   simp only[gG,qY]at h;split at h;case isFalse=>cases h
   rename_i R;split at h;case isFalse=>cases h
   rename_i C;split at h;case isFalse=>cases h
   rename_i h3;split at h;case isFalse=>cases h
   rename_i U;split at h;case h_2=>cases h
   rename_i mm em;simp only[qY]at h;split at h;case isFalse=>cases h
   rename_i hm0;cases O:(mx.isNone||W.isSome)with
   |false=>rw[O,cond_false]at h;cases h
   | true=>
    rw[O,cond_true]at h;cases h;subst R C h3 U hm0;simp only[Bool.or_eq_true]at O;have U:mx=none∨W≠none:=by
     rcases O with h|h
     ·exact .inl (by simpa using h)
     exact .inr (by intro e;rw[e]at h;cases h)
    cases hx with
    |leaf V=>refine⟨_,?_,.leaf rfl⟩;have B:=mL (E:=E) (w:=w) (len:=0) (cap:=0) (m:=0) true K N J el eh em (lR _) (lR _) (lR _) U;simp only[Instr.sliceAt,Sem.run_bind,hu,Result.andThen_ok,Instr.slice,B,zQ he u,Sem.run_pure,if_true];try rfl
  ·rename_i b o;split at h
   ·
    -- with a maximum
    rename_i mv;split at h;case h_2=>cases h
    rename_i m em;simp only[gG,vQ]at h;split at h;case isFalse=>cases h
    rename_i R;split at h;case isFalse=>cases h
    rename_i C;split at h;case isFalse=>cases h
    rename_i h3;cases r:W.isSome with
    |false=>rw[r,cond_false]at h;cases h
    | true=>
     rw[r,cond_true]at h;cases h;have hne:W≠none:=by intro e;rw[e]at r;simp at r
     have run:∀(A:Addr) (c:Nat),len<=c->(Instr.sliceAt t (.slice (some A) len c) G M F).run E.prog w =
       .ok (.slice (some (if m=l then A else A.add (l*e.size))) (g-l) (m-l)) w:=by
      intro A c P
      have B:=mL (E:=E) (w:=w) (len:=len) (cap:=c) (m:=m) true K N J el eh (by simpa[kV]using em) R C (by omega) (.inr hne)
      simp only[Instr.sliceAt,Sem.run_bind,hu,Result.andThen_ok,Instr.slice,B,zQ he u,Sem.run_pure]
      try(split<;>simp)
     have fin:∀(L:Loc) (c:Nat),σ b=some L->len<=c->c<qT->∃v',(Instr.sliceAt t (.slice (some ⟨L.blk,L.off+o,none⟩) len c) G M F).run E.prog w=.ok v' w/\
       VR σ (.slice (some ⟨b,bif Nat.beq m l then o else Nat.add o (Nat.mul l e.size),none⟩) (Nat.sub g l) (Nat.sub m l)) v':=by
      intro L c hs Q p
      refine⟨_,run _ _ Q,?_⟩
      rw[qFF,qY]
      have:=VR.sliceE (σ:=σ) (i:=if m=l then o else o+l*e.size) (l:=g-l) (c:=m-l) hs (by omega) (by omega)
      have e2:L.off+(if m=l then o else o+l*e.size)=if m=l then L.off+o else L.off+o+l*e.size:=by split<;>omega
      rw[e2]at this
      exact this
     cases hx with
     |leaf V=>simp[zX]at V
     |sliceE hs Q p=>exact fin _ _ hs Q p
     |sliceX hs Q p _=>exact fin _ _ hs Q p
     |sliceZ y=>
      refine⟨_,run _ _ (lR _),?_⟩;have z1:m=0:=by omega
      have z2:g=0:=by omega
      have z3:l=0:=by omega
      subst z1 z2 z3;exact .sliceZ (.inl rfl)
   simp only[vQ]at h;split at h;case isFalse=>cases h
   rename_i R
   have run:∀(A:Addr) (c:Nat),g<=c->(Instr.sliceAt t (.slice (some A) len c) G M F).run E.prog w =
     .ok (.slice (some (if c=l then A else A.add (l*e.size))) (g-l) (c-l)) w:=by
    intro A c P
    have B:=mL (E:=E) (w:=w) (len:=len) (cap:=c) (m:=c) true K N J el eh rfl R P (lR _) (.inl rfl)
    simp only[Instr.sliceAt,Sem.run_bind,hu,Result.andThen_ok,Instr.slice,B,zQ he u,Sem.run_pure]
    try(split<;>simp)
   split at h
   ·rename_i q;split at h;case h_2=>cases h
    rename_i cs zS rt own B;rw[gG,qY]at h;split at h;case isFalse=>cases h
    rename_i hel';cases j:(Nat.ble g len||(Nat.ble 1 e.size&&Nat.ble (Nat.add o (Nat.mul g e.size)) cs.length))with
    |false=>rw[j]at h;cases h
    |true=>
    rw[j]at h;cases h;rw[Bool.or_eq_true,aE]at j;have S:g<=len∨(1<=e.size/\o+g*e.size<=cs.length):=j.imp o9 λh=>⟨o9 h.1,o9 h.2⟩;cases hx with
    |leaf V=>simp[zX]at V
    |sliceE hs Q p=>omega
    | sliceX hs Q p k=>
     rename_i c L;obtain⟨_,_,_,_,_,_,hcl0,hsz,_⟩:=hr.cellsAt B hs;have I:L.sz=e.size:=hsz e (by rw[hel'];exact u);have P:g<=c:=by
      rcases S with C|⟨C,h3⟩
      ·omega
      rw[I]at k;have U:g*e.size<=c*e.size:=by omega
      exact Nat.le_of_mul_le_mul_right U C
     refine⟨_,run _ _ P,?_⟩;rw[qFF];by_cases X:c=l
     ·rw[if_pos X];have z:g-l=0:=by omega
      have z2:c-l=0:=by omega
      show VR σ (.slice _ (g-l) qT) _;rw[z,z2];refine .sliceZ (.inr ⟨rfl,L,hs,?_⟩);rw[I,X]at k;exact Nat.le_of_eq k.symm
     rw[if_neg X];have:=VR.sliceX (σ:=σ) (i:=o+l*e.size) (l:=g-l) (c:=c-l) hs (by omega) (by omega) (by rw[I]at k ⊢;rw[Nat.sub_mul];have:l*e.size<=c*e.size:=Nat.mul_le_mul_right _ (by omega);omega);rw[←Nat.add_assoc]at this;exact this
    | sliceZ y=>
     have z2:g=0:=by
      rcases S with C|⟨C,h3⟩
      ·omega
      rcases y with y|⟨_,L,Z,hL2⟩
      ·exfalso;rw[y]at q;exact absurd q (by decide)
      obtain⟨_,_,_,_,_,_,hcl0,_⟩:=hr.cellsAt B Z;have U:g*e.size=0:=by omega
      rcases Nat.mul_eq_zero.1 U with h5|h5
      ·exact h5
      omega
     have z3:l=0:=by omega
     subst z2 z3;refine⟨_,run _ _ (lR _),?_⟩;rw[if_pos rfl];refine .sliceZ ?_;rcases y with y|⟨_,L,Z,hL2⟩
     ·exfalso;rw[y]at q;exact absurd q (by decide)
     exact .inr ⟨rfl,L,Z,by simpa using hL2⟩
   rename_i q;split at h;case isFalse=>cases h
   rename_i hhc;cases h;cases hx with
   |leaf V=>simp[zX]at V
   |sliceE hs Q p=>
    rename_i L;refine⟨_,run _ _ hhc,?_⟩;rw[qFF,qY];have:=VR.sliceE (σ:=σ) (i:=if cap=l then o else o+l*e.size) (l:=g-l) (c:=cap-l) hs (by omega) (by omega);have e2:L.off+(if cap=l then o else o+l*e.size)=if cap=l then L.off+o else L.off+o+l*e.size:=by split<;>omega
    rw[e2]at this;exact this
   |sliceX hs Q p k=>omega
   |sliceZ y=>
    have z2:g=0:=by rcases y with y|⟨y,_⟩<;>omega
    have z3:l=0:=by omega
    subst z2 z3;rcases y with y|⟨y,_⟩
    ·subst y;refine⟨_,run _ _ (lR _),?_⟩;rw[if_pos rfl];exact .sliceZ (.inl rfl)
    omega
  cases h
 ·rename_i ti sz by_ z ag s ht;split at h;case h_2=>cases h
  rename_i l g el eh;simp only[gG,vQ]at h;split at h;case isFalse=>cases h
  rename_i R;split at h;case isFalse=>cases h
  rename_i C;cases hm:mx.isNone with
  |false=>rw[hm,cond_false]at h;cases h
  |true=>
   rw[hm,cond_true]at h;cases h;have hmn:mx=none:=by simpa using hm
   subst hmn;cases J;rw[hx.string_inv];have hu:=zN he ht w;have B:=mL (E:=E) (w:=w) (len:=s.size) (cap:=s.size) (m:=s.size) false K N .none el eh rfl R C (lR _) (.inl rfl);refine⟨_,?_,.leaf rfl⟩;simp only[Instr.sliceAt,Sem.run_bind,hu,Result.andThen_ok,Instr.slice];simp[B]
 cases h
end
end Go.Am
namespace Go.Am
open Go
section
variable{E:Env}{σ:zU}{H:AH}{w:World}{fr:Fr}{a:Act}
theorem qDg:∀(l:List UInt8),VRs σ (l.map λb=>.int .u8 b.toNat) (l.map λb=>.int .u8 b.toNat)
 | []=>.nil
 |_::l=>.cons (.leaf rfl) (qDg l)
theorem qMv(l:List UInt8):(l.map λb=>Value.int .u8 b.toNat).all qE=true:=by rw[List.all_eq_true];intro v hv;simp at hv;obtain⟨b,_,rfl⟩:=hv;rfl
theorem nK(q:HR E σ H w){size n:Nat}{x k:Value}{cs:List Value}(h:oR H size n x=some cs)(i:VR σ x k):∃cs',(Builtin.firstCells size n k).run E.prog w=.ok ⟨cs'⟩ w/\VRs σ cs cs'/\cs.length=n*size/\cs.all qE=true:=by
 unfold oR at h;split at h
 ·rename_i b o len cap;simp only[qY,vQ]at h;split at h
  ·rename_i y;cases h;subst y;refine⟨[],?_,.nil,by simp,rfl⟩;cases i<;>first|(rename_i y;simp[zX]at y;done)|(simp only[Builtin.firstCells,Nat.zero_mul,loadCells,loadCellsFrom];rfl)
  split at h;case isFalse=>cases h
  rename_i r t
  have e:∀(L:Loc) (c:Nat),σ b=some L->∃cs',(Builtin.firstCells size n (.slice (some ⟨L.blk,L.off+o,none⟩) len c)).run E.prog w=.ok ⟨cs'⟩ w/\VRs σ cs cs'/\
    cs.length=n*size/\cs.all qE=true:=by
   intro L c g
   obtain⟨p,j,l,h3,u⟩:=qAf q h g
   exact⟨p,j,l,h3,u⟩
  cases i with
  |leaf y=>simp[zX]at y
  |sliceE g _ _=>exact e _ _ g
  |sliceX g _ _ _=>exact e _ _ g
  |sliceZ z=>omega
 ·rename_i len cap;simp only[qY]at h;split at h;case isFalse=>cases h
  rename_i y;cases h;subst y;cases i with
  |leaf y=>exact⟨[],rfl,.nil,by simp,rfl⟩
 ·rename_i s;simp only[gG,qY,vQ]at h;split at h;case isFalse=>cases h
  rename_i j;split at h;case isFalse=>cases h
  rename_i l;cases h;rw[i.string_inv];refine⟨_,?_,qDg _,?_,qMv _⟩
  ·simp only[Builtin.firstCells,Sem.run_pure]
   congr 1
   apply Array.ext';simp[ByteArray.extract,ByteArray.copySlice]
  have:s.size=s.data.toList.length:=by rw[Array.length_toList];rfl
  simp only[List.length_map,List.length_take,j,Nat.mul_one];omega
 cases h
theorem qKq{x y:Value}{n:Nat}(h:qG1 x=some n)(b:VR σ x y):(Builtin.lenOf y).run E.prog w=.ok n w:=by
 unfold qG1 at h;split at h
 ·cases h;cases b<;>first|rfl|skip
 ·cases h;rw[b.string_inv];rfl
 cases h
def lU:TypeDesc->Bool
 |.int _=>true
 |_=>false
theorem tF(he:EOk E)(C:HR E σ H w){elem xt:TypeId}{c e:TI}{x i:Value}{n:Nat}{new:List Value}(B:E.types.get xt=some c)(g:E.types.get elem=some e)(h:pK H c e x=some (n,new))(p:VR σ x i)(J:n*e.bytes<=2^48)(G:n<2^62):∃y,VRs σ new y/\new.length=n*e.size/\new.all qE=true/\((lU c.desc=false/\(Builtin.lenOf i).run E.prog w=.ok n w/\(Builtin.firstCells e.size n i).run E.prog w=.ok ⟨y⟩ w)∨(lU c.desc=true/\∃k,i=.int k (Int.ofNat n)/\(if n*e.size=0 then(#[]:Array Value)else⟨y⟩)=⟨y⟩/\∀w,∃b,(zeroValue elem).run E.prog w=.ok b w/\Builtin.zeroCells b.cells n=⟨y⟩)):=by
 unfold pK at h;split at h
 ·rename_i k hd;split at h;case h_2=>cases h
  rename_i k' m z t;cases h;obtain⟨b,l,j,h3,A,u⟩:=kZ he g t w;have q:(xG z n).length=n*e.size:=by rw[kH,u]
  have o:∀b:Value,b.cells.toList=z->Builtin.zeroCells b.cells n=⟨xG z n⟩:=by intro b h3;unfold Builtin.zeroCells;apply Array.ext';rw[aX b.cells n b.cells.size rfl,h3]
  refine⟨xG z n,e7 (pG j h3) n,q,sW A n,.inr ⟨by rw[hd];rfl,k',p.int_inv,?_,λw=>?_⟩⟩
  ·split
   ·rename_i I;rw[I]at q;rw[List.length_eq_zero_iff.1 q]
   ·rfl
  ·obtain⟨b,l,j,h3,A,u⟩:=kZ he g t w;exact⟨b,l,o b h3⟩
 ·rename_i hd;split at h;case h_2=>cases h
  rename_i m F;simp only[Option.map_eq_some_iff]at h;obtain⟨cs,l,j⟩:=h;cases j;obtain⟨cs',g1,g2,g3,g4⟩:=nK C l p;refine⟨cs',g2,g3,g4,.inl ⟨?_,qKq F p,g1⟩⟩;cases r:c.desc<;>first|rfl|exact absurd r (hd _)
theorem sA{n:Nat}(h:n<2^62):IntKind.i64.wrap (n:Int)=(n:Int):=by
 have x:(n:Int)%2^64=(n:Int):=by omega
 simp only[IntKind.wrap,IntKind.bits,IntKind.signed,x];rw[if_neg];simp;omega
theorem qHa{d:TypeDesc}(h:lU d=true):∃k,d=.int k:=by cases d<;>first|exact⟨_,rfl⟩|(simp[lU]at h)
def storeAt?(A:Option Addr)(o:Nat)(h:List Value):Sem Unit:=match A with
 |some a=>storeCells (a.add o) h
 |none=>pure ()
set_option maxHeartbeats 1000000 in
theorem qMB(he:EOk E){t xt y ty:TypeId}{ats:List TypeId}{o k e:TI}{n len c:Nat}{l:Value}{x:List Value}{A:Option Addr}(q:E.types.get t=some o)(hd:o.desc=.slice y)(g:E.types.get xt=some k)(j:E.types.get y=some e)(p:lU k.desc=false)(u:(Builtin.lenOf l).run E.prog w=.ok n w)(r:(Builtin.firstCells e.size n l).run E.prog w=.ok ⟨x⟩ w)(hle:len+n<=c){w':World}(h:(storeAt? A (len*e.size) x).run E.prog w=.ok () w'):(Builtin.append_ ⟨t::xt::ats⟩ ty #[.slice A len c,l]).run E.prog w=.ok (.slice A (len+n) c) w':=by
 have hu:=λw=>zN he q w;rw[hd]at hu;have b:=λw=>zN he g w;have i:=λw=>zQ he j w;clear q g j he hd;generalize k.desc=d at b p;cases d<;>first|(simp[lU]at p;done)|skip
 all_goals
  cases A with
  |none=>simp only[storeAt?,Sem.run_pure,Result.ok.injEq,true_and]at h;subst h;simp[Builtin.append_,hu,b,i,u,r,hle]
  |some A=>simp only[storeAt?]at h;simp[Builtin.append_,hu,b,i,u,r,hle,h]
set_option maxHeartbeats 1000000 in
theorem qMA(he:EOk E){t xt x ty:TypeId}{ats:List TypeId}{J I e:TI}{n len c:Nat}{k:IntKind}{h:List Value}{A:Option Addr}(K:E.types.get t=some J)(hd:J.desc=.slice x)(q:E.types.get xt=some I)(p:E.types.get x=some e)(N:lU I.desc=true)(M:(if n*e.size=0 then(#[]:Array Value)else⟨h⟩)=⟨h⟩)(h3:∀w,∃z,(zeroValue x).run E.prog w=.ok z w/\Builtin.zeroCells z.cells n=⟨h⟩)(O:n*e.bytes<=2^48)(G:n<2^62)(hle:len+n<=c){w':World}(y:(storeAt? A (len*e.size) h).run E.prog w=.ok () w'):(Builtin.append_ ⟨t::xt::ats⟩ ty #[.slice A len c,.int k (n:Int)]).run E.prog w=.ok (.slice A (len+n) c) w':=by
 have hu:=λw=>zN he K w;rw[hd]at hu;have g:=λw=>zN he q w;have l:=λw=>zQ he p w;have B:IntKind.i64.wrap (n:Int)=(n:Int):=sA G;obtain⟨i,L,_,_,F,_⟩:=he.types x e p;have j:=λw=>run_typeInfo (P:=E.prog) w L;have o:¬(281474976710656:Int)<(n:Int)*(i.bytes:Int):=by grind
 obtain⟨k',C⟩:=qHa N;rw[C]at g;obtain⟨z,g1,g2⟩:=h3 w;clear K q p he hd L F h3;have b:¬(n:Int)<0:=by omega
 by_cases u:n*e.size=0
 ·rw [if_pos u]at M;have r:h=[]:=by have:=congrArg Array.toList M;simpa using this.symm
  subst r
  cases A<;>
    (simp only[storeAt?,Sem.run_pure,Result.ok.injEq,true_and,storeCells]at y
     subst y
     simp[Builtin.append_,hu,g,l,hle,asInt,asIntOf,B,j,o,u,b,storeCells])
 ·cases A with
  |none=>simp only[storeAt?,Sem.run_pure,Result.ok.injEq,true_and]at y;subst y;simp[Builtin.append_,hu,g,l,hle,asInt,asIntOf,B,j,o,u,b,g1]
  |some A=>simp only[storeAt?]at y;simp[Builtin.append_,hu,g,l,hle,asInt,asIntOf,B,j,o,u,b,g1,g2,y]
end
end Go.Am
