/- What the abstract operations do, the model's do too: comparisons, addresses, slices. Conditions: none. -/
import Derived.Test.YtocbbgmhkhallaaGreatDoorAm1
set_option linter.unusedVariables false
set_option linter.unusedSimpArgs false
namespace Go.Am
open Go
abbrev bk:=@List.length_map
abbrev dt:=@Bool.or_eq_true
abbrev eu:=@Nat.mul_le_mul_right
abbrev fq:=@Array.ext'
abbrev gr:=@Nat.add_assoc
abbrev iq:=@Nat.zero_mul
abbrev jo:=@Go.Result.ok.injEq
abbrev js:=@Option.isSome_iff_exists
variable{cs:LD}{i len:Nat}{k:IntKind}{s:LJ}{t:LN}{ti:TI}{v v' x x':LQ}
section
variable{E:Env}{σ:vO}{H:AH}{w:LP}{fr:Fr}{a:Act}
theorem VR.kz{n:Int}(h:VR σ (.int k n) v'):v'=.int k n:=by cases h;rfl
theorem VR.nt{b:Bool}(h:VR σ (.bool b) v'):v'=.bool b:=by cases h;rfl
theorem VR.kA(h:VR σ (.string s) v'):v'=.string s:=by cases h;rfl
theorem mS(h:zP v=true)(hv:VR σ v v'):v'=v:=qSe 6 v v' h hv
theorem qHe(he:EOk E){y c:LQ}(h:qA0 E t x y=true)(j:VR σ x x')(g:VR σ y c)(d:Nat):(Op.equalIn (d+1) t x' c).run E.prog w=.ok false w:=by
 unfold qA0 at h;split at h;all_goals first|(cases h;done)|skip
 all_goals(rename_i e;have hu:=λw=>vE he e w;clear e)
 all_goals
  cases j<;>cases g<;>first
  |(rename_i b;simp[v8]at b;done)
  |(rename_i b _;simp[v8]at b;done)
  |simp[Op.equalIn,hu]
theorem qEw(he:EOk E){y c:LQ}(h:qA0 E t x y=true)(o:VR σ x x')(l:VR σ y c)(q p:LM)(e:BinOp)(b:Bool)(g:e=.eql/\b=false∨e=.neq/\b=true):(do eqGuard e t q p x' c;binOp e t x' c:Sem LQ).run E.prog w=.ok (.bool b) w:=by
 have r:∀w,(Op.equal t x' c).run E.prog w=.ok false w:=λw=>qHe he h o l 9999;unfold qA0 at h;split at h;all_goals first|(cases h;done)|skip
 all_goals
  rcases g with⟨rfl,rfl⟩|⟨rfl,rfl⟩<;>cases o<;>cases l<;>first
  |(rename_i j;simp[v8]at j;done)
  |(rename_i j _;simp[v8]at j;done)
  |simp[eqGuard,binOp,r]
theorem qEr(he:EOk E){y p:LQ}(h:qEs E t x y=true)(I:VR σ x x')(G:VR σ y p)(F C:LM)(l:BinOp)(b:Bool)(r:l=.eql/\b=true∨l=.neq/\b=false):(do eqGuard l t F C x' p;binOp l t x' p:Sem LQ).run E.prog w=.ok (.bool b) w:=by
 unfold qEs at h;split at h;case h_2=>cases h
 rename_i B sz N z ag Q o P O J;simp only[aE,Nat.beq_eq]at h;obtain⟨⟨c,rfl⟩,rfl⟩:=h;obtain⟨e,c⟩:=js.1 c;cases I with
 |leaf j=>simp[v8]at j
 | ptr K=>
  cases G with
  |leaf j=>simp[v8]at j
  |ptr g=>
   rw[K]at g;cases g;have hu:=λw=>vE he J w;have q:=λw=>vH he c w;rename_i L;have u:∀(d:Nat) w,(Op.equalIn (d+1) t (.pointer (some ⟨L.hS,L.off+o,none⟩)) (.pointer (some ⟨L.hS,L.off+o,none⟩))).run E.prog w=.ok true w:=by intro d w;by_cases j:e.size=0<;>simp[Op.equalIn,hu,q,j,sameAddr]
   have M:∀w,(Op.equal t (.pointer (some ⟨L.hS,L.off+o,none⟩)) (.pointer (some ⟨L.hS,L.off+o,none⟩))).run E.prog w=.ok true w:=λw=>u 9999 w;rcases r with⟨rfl,rfl⟩|⟨rfl,rfl⟩<;>simp[eqGuard,binOp,M]
theorem qSY(he:EOk E){op:BinOp}{p o:LM}{y l:LQ}(h:pA E op t p o x y=some v)(c:VR σ x x')(b:VR σ y l):∃v',(do eqGuard op t p o x' l;binOp op t x' l:Sem LQ).run E.prog w=.ok v' w/\VR σ v v':=by
 unfold pA at h;split at h;case h_10=>
  cases e:zP x&&zP y with
  |true=>rw[e,ai]at h;obtain⟨u,r⟩:=flat?_spec h;rw[aE]at e;rw[mS e.1 c,mS e.2 b];exact⟨v,yW _ _ _ _ u,xJ _ _ r⟩
  | false=>
   rw[e,bc]at h;cases g:qEs E t x y with
   |true=>
    rw[g,ai]at h;split at h
    ·cases h;exact⟨_,qEr he g c b _ _ _ _ (.inl ⟨rfl,rfl⟩),.leaf rfl⟩
    ·cases h;exact⟨_,qEr he g c b _ _ _ _ (.inr ⟨rfl,rfl⟩),.leaf rfl⟩
    cases h
   |false=>
   rw[g,bc]at h;cases j:qA0 E t x y with
   |false=>rw[j,bc]at h;cases h
   |true=>
    rw[j,ai]at h;split at h
    ·cases h;exact⟨_,qEw he j c b _ _ _ _ (.inl ⟨rfl,rfl⟩),.leaf rfl⟩
    ·cases h;exact⟨_,qEw he j c b _ _ _ _ (.inr ⟨rfl,rfl⟩),.leaf rfl⟩
    cases h
 all_goals
  split at h;case isFalse=>cases h
  rename_i q;cases h;rw[c.kz,b.kz];subst q;refine⟨_,?_,.leaf rfl⟩;simp[eqGuard,binOp,Op.intArith,Op.intCmp]
theorem nat?_spec{n:Nat}(h:nat? v=some n):∃k,v=.int k (Int.ofNat n):=by
 unfold nat? at h;split at h
 ·cases h;exact⟨_,rfl⟩
 cases h
theorem qMh(he:EOk E){G p:LQ}(h:qAu E t x i=some v)(J:nat? G=some i)(I:VR σ x x')(u:VR σ G p):∃v',(Instr.indexAt t x' p).run E.prog w=.ok v' w/\VR σ v v':=by
 obtain⟨k,rfl⟩:=nat?_spec J;rw[u.kz];unfold qAu at h;split at h
 ·rename_i ti len g sz F z ag b o q;cases y:E.types.get g with
  |none=>simp[y]at h
  | some e=>
   simp only[y,bn,jD]at h;split at h;case isFalse=>cases h
   rename_i r;cases h;cases I with
   |leaf C=>simp[v8]at C
   |ptr j=>
    rename_i L;have B:(0:Int)<=Int.ofNat i/\Int.ofNat i<(len:Int):=by simp;omega
    refine⟨_,?_,VR.ptr j⟩;simp only[Instr.indexAt,asIntOf,au,ax,ah,vE he q,Instr.sureAddr,bo B,vH he y,m7];simp[gr]
 ·rename_i ti g sz F z ag b o len cap q;cases y:E.types.get g with
  |none=>simp[y]at h
  | some e=>
   simp only[y,bn,jD]at h;split at h;case isFalse=>cases h
   rename_i r;cases h;have B:(0:Int)<=Int.ofNat i/\Int.ofNat i<(len:Int):=by simp;omega
   have l:∀(L:Loc) (c:Nat),σ b=some L->
     ∃v',(Instr.indexAt t (.slice (some ⟨L.hS,L.off+o,none⟩) len c) (.int k (Int.ofNat i))).run E.prog w=.ok v' w/\VR σ (.pointer (some ⟨b,o+i*e.size,none⟩)) v':=by
    intro L c j
    refine⟨_,?_,VR.ptr j⟩
    simp only[Instr.indexAt,asIntOf,au,ax,ah,vE he q,bo B,vH he y,m7]
    simp[gr]
   cases I with
   |leaf C=>simp[v8]at C
   |ka j _ _=>exact l _ _ j
   |jd j _ _ _=>exact l _ _ j
   |ki _=>omega
 cases h
theorem qMo(he:EOk E){f:Nat}(h:aY E t x f=some v)(j:VR σ x x'):∃v',(Instr.fieldAt t x' f).run E.prog w=.ok v' w/\VR σ v v':=by
 unfold aY at h;split at h;case h_2=>cases h
 rename_i ti fs sz u z ag b o l;split at h;case h_2=>cases h
 rename_i r g;cases y:E.types.get r.type with
 |none=>simp[y]at h
 |some e=>
  simp only[y,bn,zI]at h;split at h;case isTrue=>cases h
  rename_i c;cases h;cases j with
  |leaf q=>simp[v8]at q
  |ptr p=>rename_i L;refine⟨_,?_,VR.ptr p⟩;simp only[Instr.fieldAt,au,vE he l,ah,g,Instr.sureAddr,ax,fieldPlace,vH he y,bf c,m7];simp[gr]
theorem qG5(he:EOk E){cs cs':LA}{off:Nat}(h:iT E t cs off=some v)(c:VRs σ cs cs')(j:cs.all qU=true):∃v',(part t ⟨cs'⟩ off).run E.prog w=.ok v' w/\VR σ v v':=by
 unfold iT at h;cases b:E.types.get t with
 |none=>simp[b]at h
 | some ti=>
  simp only[b,bn]at h;simp only[part,au,qCc he b,ah];cases y:ti.agg with
  |true=>
   rw[y,ai]at h;simp only[aa]at h;obtain⟨l,e,rfl⟩:=h;obtain⟨rfl,o⟩:=take?_spec _ _ _ e;refine⟨.agg ⟨(cs'.drop off).take ti.size⟩,?_,.agg ((c.drop off).take _) (qIl _ (qIm _ j))⟩;simp only[dn,au,vH he b,ah,ax]
   congr 2
   apply fq;simp[Array.toList_extract,List.extract_eq_take_drop]
  |false=>rw[y,bc]at h;obtain⟨v',g,h3⟩:=c.get _ _ h;exact⟨v',by simp[g],h3⟩
theorem qJr(he:EOk E){f:Nat}{fs:Array Field}{fd:Field}(b:E.types.get t=some ti)(hd:ti.desc=.struct fs)(c:fs[f]? = some fd)(h:iT E fd.type cs.toList fd.offset=some v)(y:VR σ (.agg cs) x'):∃v',(Instr.field t x' f).run E.prog w=.ok v' w/\VR σ v v':=by
 cases y with
 |leaf l=>simp[v8]at l
 |agg e j=>obtain⟨v',g,h3⟩:=qG5 (w:=w) he h e j;refine⟨v',?_,h3⟩;have hu:=vE he b w;rw[hd]at hu;simp only[Instr.field,au,hu,ah,c,asAgg,ax,g]
theorem qJg(he:EOk E){g y:LQ}{e:TI}{elem:Nat}(l:E.types.get t=some ti)(hd:ti.desc=.array len elem)(c:E.types.get elem=some e)(p:nat? g=some i)(o:i+1<=len)(h:iT E elem cs.toList (Nat.mul i e.size)=some v)(j:VR σ (.agg cs) x')(b:VR σ g y):∃v',(Instr.index t x' y).run E.prog w=.ok v' w/\VR σ v v':=by
 obtain⟨k,rfl⟩:=nat?_spec p;rw[b.kz];cases j with
 |leaf B=>simp[v8]at B
 |agg q z=>
  obtain⟨v',u,h3⟩:=qG5 (w:=w) he h q z;refine⟨v',?_,h3⟩;have hu:=vE he l w;rw[hd]at hu;have r:(0:Int)<=Int.ofNat i/\Int.ofNat i<(len:Int):=by simp;omega
  simp only[Instr.index,asIntOf,au,hu,ah,ax,bo r,vH he c];exact u
theorem qJh(he:EOk E){g y:LQ}{b:UInt8}(o:E.types.get t=some ti)(hd:ti.desc=.string)(p:nat? g=some i)(h:s.data.toList[i]? = some b)(l:VR σ (.string s) x')(e:VR σ g y):(Instr.index t x' y).run E.prog w=.ok (.int .u8 b.toNat) w:=by
 obtain⟨k,rfl⟩:=nat?_spec p;rw[e.kz,l.kA];have hu:=vE he o w;rw[hd]at hu;have r:(0:Int)<=Int.ofNat i:=by simp
 have c:=(gI h);obtain⟨j,u⟩:=c;have q:s[i]? = some b:=by
  have:i<s.size:=by rw[gu]at j;exact j
  rw[getElem?_pos s i this]
  congr 1
 have hm:(if(0:Int)<=Int.ofNat i then s[(Int.ofNat i).toNat]? else none)=some b:=by rw[bo r];exact q
 simp only[Instr.index,asIntOf,au,hu,ah,ax,hm]
end
section
variable{E:Env}{σ:vO}{H:AH}{w:LP}
theorem qNf(he:EOk E)(b:HR E σ H w){s d:LN}{a:Addr}{H':AH}(h:qEa E H s d a=some (.val v,H'))(y:VR σ (.pointer (some a)) v'):
  H'=H/\∃u,(Go.convert s d v').run E.prog w=.ok u w/\VR σ v u:=by unfold qEa at h;cases h
end
section
variable{E:Env}{σ:vO}{H:AH}{w:LP}
end
variable{ats:List LN}
section
variable{E:Env}{σ:vO}{H:AH}{w:LP}
theorem uZ(he:EOk E)(e:HR E σ H w){ty:LN}{p l y b:LQ}{H':AH}(c:ats≠[])(h:wW E H ats p l=some (.val v,H'))(g:VR σ p y)(j:VR σ l b):
  ∃w' u,(Builtin.unsafeString_ ⟨ats⟩ ty #[y,b]).run E.prog w=.ok u w'/\Step E σ H w σ H' w'/\VR σ v u:=by unfold wW at h;cases h
end
theorem qEJ(y B:Nat)(b:2*y+192<=B):∀(r c:Nat),c<=B->Builtin.growBy y r c<=B
 |0,c,h=>h
 |r+1,c,h=>by
  simp only[Builtin.growBy];split
  ·exact h
  exact qEJ y B b r _ (by omega)
theorem qI3(y c:Nat)(h:c<y):Builtin.nextslicecap y c<=2*y+512:=by
 unfold Builtin.nextslicecap;split
 ·omega
 split
 ·omega
 exact qEJ y _ (by omega) 4 c (by omega)
section
variable{E:Env}{σ:vO}{H:AH}{w:LP}{fr:Fr}{a:Act}
theorem qAK{n y:Nat}(h:nat? v=some n)(hv:VR σ v v')(e:n<=y)(b:BoundsCode):(Instr.sliceBound v' y b).run E.prog w=.ok n w:=by
 obtain⟨k,rfl⟩:=nat?_spec h;rw[hv.kz];have c:(0:Int)<=Int.ofNat n/\Int.ofNat n<=(y:Int):=by simp;omega
 simp only[Instr.sliceBound,asIntOf,au,ax,ah,bo c];rfl
inductive OR (σ:vO):LG->LG->Prop
 |none:OR σ none none
 |some {v v':LQ} (h:VR σ v v'):OR σ (some v) (some v')
theorem mZ{lo b p c mx y:LG}{cap l h m:Nat}(g:Bool)(o:OR σ lo b)(q:OR σ p c)(j:OR σ mx y)(el:gH lo 0=some l)(r:gH p len=some h)(em:gH mx cap=some m)(F:l<=h)(C:h<=m)(h3:m<=cap)(e:mx=none∨p≠none):(Instr.sliceBounds g len cap b c y).run E.prog w=.ok (l,h,m) w:=by
 rcases o with _|B<;>rcases q with _|z<;>rcases j with _|u<;>simp only[gH,oI]at el r em;all_goals first|(rcases e with e|e<;>first|(cases e;done)|(exact absurd rfl e))|skip
 all_goals try subst el
 all_goals try subst r
 all_goals try subst em
 all_goals simp only[Instr.sliceBounds,au,ax,ah]
 all_goals try simp only[qAK (E:=E) (w:=w) em u h3,ah]
 all_goals try simp only[qAK (E:=E) (w:=w) r z C,ah]
 all_goals try simp only[qAK (E:=E) (w:=w) el B F,ah]
theorem qF0(b o l m s:Nat):(if m=l then(⟨b,o,none⟩:Addr)else(⟨b,o,none⟩:Addr).add (l*s))=⟨b,if m=l then o else o+l*s,none⟩:=by split<;>simp[m7]
theorem qLF(he:EOk E)(hr:HR E σ H w){lo I Z N mx G:LG}(h:oN E H t x lo Z mx=some v)(hx:VR σ x x')(M:OR σ lo I)(O:OR σ Z N)(K:OR σ mx G):∃v',(Instr.sliceAt t x' I N G).run E.prog w=.ok v' w/\VR σ v v':=by
 unfold oN at h;split at h
 ·rename_i ti n elem sz by_ z ag b o ht;split at h;case h_2=>cases h
  rename_i l g m e el eh em B;simp only[gS,jD]at h;split at h;case isFalse=>cases h
  rename_i S;split at h;case isFalse=>cases h
  rename_i F;split at h;case isFalse=>cases h
  rename_i h3;split at h;case isFalse=>cases h
  rename_i V;cases u:(mx.isNone||Z.isSome)with
  |false=>rw[u,bc]at h;cases h
  | true=>
   rw[u,ai]at h;cases h;cases hx with
   |leaf W=>simp[v8]at W
   | ptr hs=>
    rename_i L;have C:=mZ (E:=E) (w:=w) false M O K el eh em S F h3 (by
     rw[dt]at u;rcases u with u|u
     ·exact .inl (by simpa using u)
     exact .inr (by intro e;rw[e]at u;simp at u))
    refine⟨_,?_,VR.ka hs (by show g-l<=m-l;omega) (by show m-l<zX;unfold zX;omega)⟩;simp only[Instr.sliceAt,au,vE he ht,ah,Instr.sureAddr,ax,C,vH he B,qF0,zI];split<;>simp[gr]
 ·rename_i ti elem sz by_ z ag base len cap ht;split at h;case h_2=>cases h
  rename_i l g e el eh B;have hu:=λw=>vE he ht w;split at h
  ·
   -- the nil slice
   simp only[gS,zI]at h;split at h;case isFalse=>cases h
   rename_i S;split at h;case isFalse=>cases h
   rename_i F;split at h;case isFalse=>cases h
   rename_i h3;split at h;case isFalse=>cases h
   rename_i V;split at h;case h_2=>cases h
   rename_i mm em;simp only[zI]at h;split at h;case isFalse=>cases h
   rename_i hm0;cases P:(mx.isNone||Z.isSome)with
   |false=>rw[P,bc]at h;cases h
   | true=>
    rw[P,ai]at h;cases h;subst S F h3 V hm0;simp only[dt]at P;have V:mx=none∨Z≠none:=by
     rcases P with h|h
     ·exact .inl (by simpa using h)
     exact .inr (by intro e;rw[e]at h;cases h)
    cases hx with
    |leaf W=>refine⟨_,?_,.leaf rfl⟩;have C:=mZ (E:=E) (w:=w) (len:=0) (cap:=0) (m:=0) true M O K el eh em (vP _) (vP _) (vP _) V;simp only[Instr.sliceAt,au,hu,ah,Instr.slice,C,vH he B,ax,dn];try rfl
  ·rename_i b o;split at h
   ·
    -- with a maximum
    rename_i mv;split at h;case h_2=>cases h
    rename_i m em;simp only[gS,jD]at h;split at h;case isFalse=>cases h
    rename_i S;split at h;case isFalse=>cases h
    rename_i F;split at h;case isFalse=>cases h
    rename_i h3;cases u:Z.isSome with
    |false=>rw[u,bc]at h;cases h
    | true=>
     rw[u,ai]at h;cases h;have hne:Z≠none:=by intro e;rw[e]at u;simp at u
     have run:∀(A:Addr) (c:Nat),len<=c->(Instr.sliceAt t (.slice (some A) len c) I N G).run E.prog w =
       .ok (.slice (some (if m=l then A else A.add (l*e.size))) (g-l) (m-l)) w:=by
      intro A c Q
      have C:=mZ (E:=E) (w:=w) (len:=len) (cap:=c) (m:=m) true M O K el eh (by simpa[gH]using em) S F (by omega) (.inr hne)
      simp only[Instr.sliceAt,au,hu,ah,Instr.slice,C,vH he B,ax]
      try(split<;>simp)
     have fin:∀(L:Loc) (c:Nat),σ b=some L->len<=c->c<zX->∃v',(Instr.sliceAt t (.slice (some ⟨L.hS,L.off+o,none⟩) len c) I N G).run E.prog w=.ok v' w/\
       VR σ (.slice (some ⟨b,bif Nat.beq m l then o else Nat.add o (Nat.mul l e.size),none⟩) (Nat.sub g l) (Nat.sub m l)) v':=by
      intro L c hs R q
      refine⟨_,run _ _ R,?_⟩
      rw[qF0,zI]
      have:=VR.ka (σ:=σ) (i:=if m=l then o else o+l*e.size) (l:=g-l) (c:=m-l) hs (by omega) (by omega)
      have e2:L.off+(if m=l then o else o+l*e.size)=if m=l then L.off+o else L.off+o+l*e.size:=by split<;>omega
      rw[e2]at this
      exact this
     cases hx with
     |leaf W=>simp[v8]at W
     |ka hs R q=>exact fin _ _ hs R q
     |jd hs R q _=>exact fin _ _ hs R q
     |ki y=>
      refine⟨_,run _ _ (vP _),?_⟩;have z1:m=0:=by omega
      have X:g=0:=by omega
      have z3:l=0:=by omega
      subst z1 X z3;exact .ki (.inl rfl)
   simp only[jD]at h;split at h;case isFalse=>cases h
   rename_i S
   have run:∀(A:Addr) (c:Nat),g<=c->(Instr.sliceAt t (.slice (some A) len c) I N G).run E.prog w =
     .ok (.slice (some (if c=l then A else A.add (l*e.size))) (g-l) (c-l)) w:=by
    intro A c Q
    have C:=mZ (E:=E) (w:=w) (len:=len) (cap:=c) (m:=c) true M O K el eh rfl S Q (vP _) (.inl rfl)
    simp only[Instr.sliceAt,au,hu,ah,Instr.slice,C,vH he B,ax]
    try(split<;>simp)
   split at h
   ·rename_i r;split at h;case h_2=>cases h
    rename_i cs vC rt own C;rw[gS,zI]at h;split at h;case isFalse=>cases h
    rename_i hel';cases j:(Nat.ble g len||(Nat.ble 1 e.size&&Nat.ble (Nat.add o (Nat.mul g e.size)) cs.length))with
    |false=>rw[j]at h;cases h
    |true=>
    rw[j]at h;cases h;rw[dt,aE]at j;have U:g<=len∨(1<=e.size/\o+g*e.size<=cs.length):=j.imp oA λh=>⟨oA h.1,oA h.2⟩;cases hx with
    |leaf W=>simp[v8]at W
    |ka hs R q=>omega
    | jd hs R q p=>
     rename_i c L;obtain⟨_,_,_,_,_,_,hcl0,hsz,_⟩:=hr.mc C hs;have J:L.sz=e.size:=hsz e (by rw[hel'];exact B);have Q:g<=c:=by
      rcases U with F|⟨F,h3⟩
      ·omega
      rw[J]at p;have V:g*e.size<=c*e.size:=by omega
      exact Nat.le_of_mul_le_mul_right V F
     refine⟨_,run _ _ Q,?_⟩;rw[qF0];by_cases hcl:c=l
     ·rw[bo hcl];have z:g-l=0:=by omega
      have X:c-l=0:=by omega
      show VR σ (.slice _ (g-l) zX) _;rw[z,X];refine .ki (.inr ⟨rfl,L,hs,?_⟩);rw[J,hcl]at p;exact jm p.symm
     rw[bf hcl];have:=VR.jd (σ:=σ) (i:=o+l*e.size) (l:=g-l) (c:=c-l) hs (by omega) (by omega) (by rw[J]at p ⊢;rw[Nat.sub_mul];have:l*e.size<=c*e.size:=eu _ (by omega);omega);rw[←gr]at this;exact this
    | ki y=>
     have X:g=0:=by
      rcases U with F|⟨F,h3⟩
      ·omega
      rcases y with y|⟨_,L,hL1,hL2⟩
      ·exfalso;rw[y]at r;exact absurd r (by decide)
      obtain⟨_,_,_,_,_,_,hcl0,_⟩:=hr.mc C hL1;have V:g*e.size=0:=by omega
      rcases Nat.mul_eq_zero.1 V with h5|h5
      ·exact h5
      omega
     have z3:l=0:=by omega
     subst X z3;refine⟨_,run _ _ (vP _),?_⟩;rw[bo rfl];refine .ki ?_;rcases y with y|⟨_,L,hL1,hL2⟩
     ·exfalso;rw[y]at r;exact absurd r (by decide)
     exact .inr ⟨rfl,L,hL1,by simpa using hL2⟩
   rename_i r;split at h;case isFalse=>cases h
   rename_i hhc;cases h;cases hx with
   |leaf W=>simp[v8]at W
   |ka hs R q=>
    rename_i L;refine⟨_,run _ _ hhc,?_⟩;rw[qF0,zI];have:=VR.ka (σ:=σ) (i:=if cap=l then o else o+l*e.size) (l:=g-l) (c:=cap-l) hs (by omega) (by omega);have e2:L.off+(if cap=l then o else o+l*e.size)=if cap=l then L.off+o else L.off+o+l*e.size:=by split<;>omega
    rw[e2]at this;exact this
   |jd hs R q p=>omega
   |ki y=>
    have X:g=0:=by rcases y with y|⟨y,_⟩<;>omega
    have z3:l=0:=by omega
    subst X z3;rcases y with y|⟨y,_⟩
    ·subst y;refine⟨_,run _ _ (vP _),?_⟩;rw[bo rfl];exact .ki (.inl rfl)
    omega
  cases h
 ·rename_i ti sz by_ z ag s ht;split at h;case h_2=>cases h
  rename_i l g el eh;simp only[gS,jD]at h;split at h;case isFalse=>cases h
  rename_i S;split at h;case isFalse=>cases h
  rename_i F;cases hm:mx.isNone with
  |false=>rw[hm,bc]at h;cases h
  |true=>
   rw[hm,ai]at h;cases h;have hmn:mx=none:=by simpa using hm
   subst hmn;cases K;rw[hx.kA];have hu:=vE he ht w;have C:=mZ (E:=E) (w:=w) (len:=s.size) (cap:=s.size) (m:=s.size) false M O .none el eh rfl S F (vP _) (.inl rfl);refine⟨_,?_,.leaf rfl⟩;simp only[Instr.sliceAt,au,hu,ah,Instr.slice];simp[C]
 cases h
end
variable{A:Option Addr}{new':LA}{w':LP}
section
variable{E:Env}{σ:vO}{H:AH}{w:LP}{fr:Fr}{a:Act}
theorem qDp:∀(l:List UInt8),VRs σ (l.map λb=>.int .u8 b.toNat) (l.map λb=>.int .u8 b.toNat)
 | []=>.nil
 |_::l=>.cons (.leaf rfl) (qDp l)
theorem qML(l:List UInt8):(l.map λb=>Value.int .u8 b.toNat).all qU=true:=by rw[al];intro v hv;simp at hv;obtain⟨b,_,rfl⟩:=hv;rfl
theorem nX(r:HR E σ H w){size n:Nat}{cs:LA}(h:oX H size n x=some cs)(j:VR σ x x'):∃cs',(Builtin.firstCells size n x').run E.prog w=.ok ⟨cs'⟩ w/\VRs σ cs cs'/\cs.length=n*size/\cs.all qU=true:=by
 unfold oX at h;split at h
 ·rename_i b o len cap;simp only[zI,jD]at h;split at h
  ·rename_i y;cases h;subst y;refine⟨[],?_,.nil,by simp,rfl⟩;cases j<;>first|(rename_i y;simp[v8]at y;done)|(simp only[Builtin.firstCells,iq,loadCells,loadCellsFrom];rfl)
  split at h;case isFalse=>cases h
  rename_i u z
  have e:∀(L:Loc) (c:Nat),σ b=some L->∃cs',(Builtin.firstCells size n (.slice (some ⟨L.hS,L.off+o,none⟩) len c)).run E.prog w=.ok ⟨cs'⟩ w/\VRs σ cs cs'/\
    cs.length=n*size/\cs.all qU=true:=by
   intro L c g
   obtain⟨q,l,p,h3,B⟩:=qAo r h g
   exact⟨q,l,p,h3,B⟩
  cases j with
  |leaf y=>simp[v8]at y
  |ka g _ _=>exact e _ _ g
  |jd g _ _ _=>exact e _ _ g
  |ki C=>omega
 ·rename_i len cap;simp only[zI]at h;split at h;case isFalse=>cases h
  rename_i y;cases h;subst y;cases j with
  |leaf y=>exact⟨[],rfl,.nil,by simp,rfl⟩
 ·rename_i s;simp only[gS,zI,jD]at h;split at h;case isFalse=>cases h
  rename_i l;split at h;case isFalse=>cases h
  rename_i p;cases h;rw[j.kA];refine⟨_,?_,qDp _,?_,qML _⟩
  ·simp only[Builtin.firstCells,ax]
   congr 1
   apply fq;simp[ByteArray.extract,ByteArray.copySlice]
  have:s.size=s.data.toList.length:=by rw[gu];rfl
  simp only[bk,cg,l,Nat.mul_one];omega
 cases h
theorem qKG{n:Nat}(h:qHm x=some n)(y:VR σ x x'):(Builtin.lenOf x').run E.prog w=.ok n w:=by
 unfold qHm at h;split at h
 ·cases h;cases y<;>first|rfl|skip
 ·cases h;rw[y.kA];rfl
 cases h
def bF:TypeDesc->Bool
 |.int _=>true
 |_=>false
theorem tQ(he:EOk E)(C:HR E σ H w){elem xt:LN}{b e:TI}{n:Nat}{new:LA}(B:E.types.get xt=some b)(c:E.types.get elem=some e)(h:pR H b e x=some (n,new))(o:VR σ x x')(N:n*e.bytes<=2^48)(G:n<2^62):∃new',VRs σ new new'/\new.length=n*e.size/\new.all qU=true/\((bF b.desc=false/\(Builtin.lenOf x').run E.prog w=.ok n w/\(Builtin.firstCells e.size n x').run E.prog w=.ok ⟨new'⟩ w)∨(bF b.desc=true/\∃k,x'=.int k (Int.ofNat n)/\(if n*e.size=0 then(#[]:LD)else⟨new'⟩)=⟨new'⟩/\∀w,∃y,(zeroValue elem).run E.prog w=.ok y w/\Builtin.zeroCells y.cells n=⟨new'⟩)):=by
 unfold pR at h;split at h
 ·rename_i k hd;split at h;case h_2=>cases h
  rename_i k' m z r;cases h;obtain⟨y,j,g,h3,u,h5⟩:=gL he c r w;have p:(xX z n).length=n*e.size:=by rw[kQ,h5]
  have l:∀y:LQ,y.cells.toList=z->Builtin.zeroCells y.cells n=⟨xX z n⟩:=by intro y h3;unfold Builtin.zeroCells;apply fq;rw[sP y.cells n y.cells.size rfl,h3]
  refine⟨xX z n,fN (pK g h3) n,p,tF u n,.inr ⟨by rw[hd];rfl,k',o.kz,?_,λw=>?_⟩⟩
  ·split
   ·rename_i I;rw[I]at p;rw[cy.1 p]
   ·rfl
  ·obtain⟨y,j,g,h3,u,h5⟩:=gL he c r w;exact⟨y,j,l y h3⟩
 ·rename_i hd;split at h;case h_2=>cases h
  rename_i m F;simp only[aa]at h;obtain⟨cs,j,g⟩:=h;cases g;obtain⟨cs',M,L,K,J⟩:=nX C j o;refine⟨cs',L,K,J,.inl ⟨?_,qKG F o,M⟩⟩;cases q:b.desc<;>first|rfl|exact absurd q (hd _)
theorem sS{n:Nat}(h:n<2^62):IntKind.i64.wrap (n:Int)=(n:Int):=by
 have y:(n:Int)%2^64=(n:Int):=by omega
 simp only[IntKind.wrap,IntKind.bits,IntKind.signed,y];rw[bf];simp;omega
theorem qHt{d:TypeDesc}(h:bF d=true):∃k,d=.int k:=by cases d<;>first|exact⟨_,rfl⟩|(simp[bF]at h)
def storeAt?(A:Option Addr)(o:Nat)(new':LA):Sem Unit:=match A with
 |some a=>storeCells (a.add o) new'
 |none=>pure ()
set_option maxHeartbeats 1000000 in
theorem qMR(he:EOk E){xt y ty:LN}{o e:TI}{n c:Nat}(q:E.types.get t=some ti)(hd:ti.desc=.slice y)(g:E.types.get xt=some o)(l:E.types.get y=some e)(p:bF o.desc=false)(u:(Builtin.lenOf x').run E.prog w=.ok n w)(r:(Builtin.firstCells e.size n x').run E.prog w=.ok ⟨new'⟩ w)(hle:len+n<=c)(h:(storeAt? A (len*e.size) new').run E.prog w=.ok () w'):(Builtin.append_ ⟨t::xt::ats⟩ ty #[.slice A len c,x']).run E.prog w=.ok (.slice A (len+n) c) w':=by
 have hu:=λw=>vE he q w;rw[hd]at hu;have b:=λw=>vE he g w;have j:=λw=>vH he l w;clear q g l he hd;generalize o.desc=d at b p;cases d<;>first|(simp[bF]at p;done)|skip
 all_goals
  cases A with
  |none=>simp only[storeAt?,ax,jo,true_and]at h;subst h;simp[Builtin.append_,hu,b,j,u,r,hle]
  |some A=>simp only[storeAt?]at h;simp[Builtin.append_,hu,b,j,u,r,hle,h]
set_option maxHeartbeats 1000000 in
theorem qMQ(he:EOk E){xt h ty:LN}{I e:TI}{n c:Nat}(J:E.types.get t=some ti)(hd:ti.desc=.slice h)(q:E.types.get xt=some I)(p:E.types.get h=some e)(N:bF I.desc=true)(L:(if n*e.size=0 then(#[]:LD)else⟨new'⟩)=⟨new'⟩)(h3:∀w,∃z,(zeroValue h).run E.prog w=.ok z w/\Builtin.zeroCells z.cells n=⟨new'⟩)(Q:n*e.bytes<=2^48)(G:n<2^62)(hle:len+n<=c)(y:(storeAt? A (len*e.size) new').run E.prog w=.ok () w'):(Builtin.append_ ⟨t::xt::ats⟩ ty #[.slice A len c,.int k (n:Int)]).run E.prog w=.ok (.slice A (len+n) c) w':=by
 have hu:=λw=>vE he J w;rw[hd]at hu;have g:=λw=>vE he q w;have l:=λw=>vH he p w;have B:IntKind.i64.wrap (n:Int)=(n:Int):=sS G;obtain⟨i,K,_,_,F,_⟩:=he.types h e p;have j:=λw=>gv (P:=E.prog) w K;have o:¬(281474976710656:Int)<(n:Int)*(i.bytes:Int):=by grind
 obtain⟨k',C⟩:=qHt N;rw[C]at g;obtain⟨z,M,O⟩:=h3 w;clear J q p he hd K F h3;have b:¬(n:Int)<0:=by omega
 by_cases u:n*e.size=0
 ·rw [bo u]at L;have r:new'=[]:=by have:=congrArg Array.toList L;simpa using this.symm
  subst r
  cases A<;>
    (simp only[storeAt?,ax,jo,true_and,storeCells]at y
     subst y
     simp[Builtin.append_,hu,g,l,hle,asInt,asIntOf,B,j,o,u,b,storeCells])
 ·cases A with
  |none=>simp only[storeAt?,ax,jo,true_and]at y;subst y;simp[Builtin.append_,hu,g,l,hle,asInt,asIntOf,B,j,o,u,b,M]
  |some A=>simp only[storeAt?]at y;simp[Builtin.append_,hu,g,l,hle,asInt,asIntOf,B,j,o,u,b,M,O,y]
end
end Go.Am
