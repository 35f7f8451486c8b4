/- What the abstract operations do, the model's do too: comparisons, addresses, slices. Conditions: none. -/
import Derived.Test.YtminhjecpnpaeaaGreatDoorAm1
set_option linter.unusedVariables false
set_option linter.unusedSimpArgs false
namespace Go.Am
open Go
section
variable {E:Env} {σ:zZ} {H:AH} {w:World} {fr:Fr} {a:Act}
theorem VR.int_inv {k:IntKind} {n:Int} {v':Value} (h:VR σ (.int k n) v'):v'=.int k n:=by cases h; rfl
theorem VR.bool_inv {b:Bool} {v':Value} (h:VR σ (.bool b) v'):v'=.bool b:=by cases h; rfl
theorem VR.string_inv {s:ByteArray} {v':Value} (h:VR σ (.string s) v'):v'=.string s:=by cases h; rfl
theorem nB {v v':Value} (h:zP v=true) (hv:VR σ v v'):v'=v:=qP4 6 v v' h hv
theorem qFH (he:EOk E) {t:TypeId} {x y x' y':Value} (h:qAb E t x y=true) (hx:VR σ x x') (hy:VR σ y y') (d:Nat) :
  (Op.equalIn (d+1) t x' y').run E.prog w=.ok false w:=by
 unfold qAb at h
 split at h
 all_goals first | (cases h; done) | skip
 all_goals (rename_i ht; have hu:=fun w=>zQ he ht w; clear ht)
 all_goals
  cases hx <;> cases hy <;>
  first
  | (rename_i h0; simp [vK] at h0; done)
  | (rename_i h0 _; simp [vK] at h0; done)
  | simp [Op.equalIn,hu]
theorem qDm (he:EOk E) {t:TypeId} {x y x' y':Value} (h:qAb E t x y=true) (hx:VR σ x x') (hy:VR σ y y') (xo yo:Operand) (op:BinOp) (b:Bool)
  (hop:op=.eql/\b=false∨op=.neq/\b=true) :
  (do eqGuard op t xo yo x' y'; binOp op t x' y':Sem Value).run E.prog w=.ok (.bool b) w:=by
 have hk:∀ w,(Op.equal t x' y').run E.prog w=.ok false w:=fun w=>qFH he h hx hy 9999
 unfold qAb at h
 split at h
 all_goals first | (cases h; done) | skip
 all_goals
  rcases hop with ⟨rfl,rfl⟩ | ⟨rfl,rfl⟩ <;> cases hx <;> cases hy <;>
  first
  | (rename_i h0; simp [vK] at h0; done)
  | (rename_i h0 _; simp [vK] at h0; done)
  | simp [eqGuard,binOp,hk]
theorem qDh (he:EOk E) {t:TypeId} {x y x' y':Value} (h:qDi E t x y=true) (hx:VR σ x x') (hy:VR σ y y') (xo yo:Operand) (op:BinOp) (b:Bool)
  (hop:op=.eql/\b=true∨op=.neq/\b=false) :
  (do eqGuard op t xo yo x' y'; binOp op t x' y':Sem Value).run E.prog w=.ok (.bool b) w:=by
 unfold qDi at h
 split at h
 case h_2=>cases h
 rename_i elem sz by_ z ag b1 o1 b2 o2 ht
 simp only [aE,Nat.beq_eq] at h
 obtain ⟨⟨hel,rfl⟩,rfl⟩:=h
 obtain ⟨e,hel⟩:=Option.isSome_iff_exists.1 hel
 cases hx with
 | leaf h0=>simp [vK] at h0
 | ptr hs =>
  cases hy with
  | leaf h0=>simp [vK] at h0
  | ptr hs2 =>
   rw [hs] at hs2
   cases hs2
   have hu:=fun w=>zQ he ht w
   have hsz:=fun w=>zU he hel w
   rename_i L
   have hk0:∀ (d:Nat) w,(Op.equalIn (d+1) t (.pointer (some ⟨L.blk,L.off+o1,none⟩)) (.pointer (some ⟨L.blk,L.off+o1,none⟩))).run E.prog w=.ok true w:=by
    intro d w
    by_cases h0:e.size=0 <;> simp [Op.equalIn,hu,hsz,h0,sameAddr]
   have hk:∀ w,(Op.equal t (.pointer (some ⟨L.blk,L.off+o1,none⟩)) (.pointer (some ⟨L.blk,L.off+o1,none⟩))).run E.prog w=.ok true w:=fun w=>hk0 9999 w
   rcases hop with ⟨rfl,rfl⟩ | ⟨rfl,rfl⟩ <;> simp [eqGuard,binOp,hk]
theorem qQN (he:EOk E) {op:BinOp} {t:TypeId} {xo yo:Operand} {x y x' y' v:Value} (h:rG E op t xo yo x y=some v) (hx:VR σ x x') (hy:VR σ y y') :
  ∃ v',(do eqGuard op t xo yo x' y'; binOp op t x' y':Sem Value).run E.prog w=.ok v' w/\VR σ v v':=by
 unfold rG at h
 split at h
 case h_10 =>
  cases hc:zP x && zP y with
  | true =>
   rw [hc,cond_true] at h
   obtain ⟨h1,h2⟩:=flat?_spec h
   rw [aE] at hc
   rw [nB hc.1 hx,nB hc.2 hy]
   exact ⟨v,yD _ _ _ _ h1,j6 _ _ h2⟩
  | false =>
   rw [hc,cond_false] at h
   cases hp:qDi E t x y with
   | true =>
    rw [hp,cond_true] at h
    split at h
    ·cases h; exact ⟨_,qDh he hp hx hy _ _ _ _ (.inl ⟨rfl,rfl⟩),.leaf rfl⟩
    ·cases h; exact ⟨_,qDh he hp hx hy _ _ _ _ (.inr ⟨rfl,rfl⟩),.leaf rfl⟩
    cases h
   | false =>
   rw [hp,cond_false] at h
   cases hn:qAb E t x y with
   | false=>rw [hn,cond_false] at h; cases h
   | true =>
    rw [hn,cond_true] at h
    split at h
    ·cases h; exact ⟨_,qDm he hn hx hy _ _ _ _ (.inl ⟨rfl,rfl⟩),.leaf rfl⟩
    ·cases h; exact ⟨_,qDm he hn hx hy _ _ _ _ (.inr ⟨rfl,rfl⟩),.leaf rfl⟩
    cases h
 all_goals
  split at h
  case isFalse=>cases h
  rename_i hk
  cases h
  rw [hx.int_inv,hy.int_inv]
  subst hk
  refine ⟨_,?_,.leaf rfl⟩
  simp [eqGuard,binOp,Op.intArith,Op.intCmp]
theorem nat?_spec {v:Value} {n:Nat} (h:nat? v=some n):∃ k,v=.int k (Int.ofNat n):=by
 unfold nat? at h
 split at h
 ·cases h; exact ⟨_,rfl⟩
 cases h
theorem qKE (he:EOk E) {t:TypeId} {x x' iv iv':Value} {i:Nat} {v:Value} (h:tM E t x i=some v) (hi:nat? iv=some i) (hx:VR σ x x') (hiv:VR σ iv iv') :
  ∃ v',(Instr.indexAt t x' iv').run E.prog w=.ok v' w/\VR σ v v':=by
 obtain ⟨k,rfl⟩:=nat?_spec hi
 rw [hiv.int_inv]
 unfold tM at h
 split at h
 ·rename_i ti len elem sz by_ z ag b o ht
  cases hel:E.types.get elem with
  | none=>simp [hel] at h
  | some e =>
   simp only [hel,Option.bind_some,vN] at h
   split at h
   case isFalse=>cases h
   rename_i hlt
   cases h
   cases hx with
   | leaf h0=>simp [vK] at h0
   | ptr hs =>
    rename_i L
    have h1:(0:Int)<=Int.ofNat i/\Int.ofNat i < (len:Int):=by simp; omega
    refine ⟨_,?_,VR.ptr hs⟩
    simp only [Instr.indexAt,asIntOf,Sem.run_bind,Sem.run_pure,Result.andThen_ok,zQ he ht,Instr.sureAddr,if_pos h1,zU he hel,nL]
    simp [Nat.add_assoc]
 ·rename_i ti elem sz by_ z ag b o len cap ht
  cases hel:E.types.get elem with
  | none=>simp [hel] at h
  | some e =>
   simp only [hel,Option.bind_some,vN] at h
   split at h
   case isFalse=>cases h
   rename_i hlt
   cases h
   have h1:(0:Int)<=Int.ofNat i/\Int.ofNat i < (len:Int):=by simp; omega
   have key:∀ (L:Loc) (c:Nat),σ b=some L ->
     ∃ v',(Instr.indexAt t (.slice (some ⟨L.blk,L.off+o,none⟩) len c) (.int k (Int.ofNat i))).run E.prog w=.ok v' w/\VR σ (.pointer (some ⟨b,o+i * e.size,none⟩)) v':=by
    intro L c hs
    refine ⟨_,?_,VR.ptr hs⟩
    simp only [Instr.indexAt,asIntOf,Sem.run_bind,Sem.run_pure,Result.andThen_ok,zQ he ht,if_pos h1,zU he hel,nL]
    simp [Nat.add_assoc]
   cases hx with
   | leaf h0=>simp [vK] at h0
   | sliceE hs _ _=>exact key _ _ hs
   | sliceX hs _ _ _=>exact key _ _ hs
   | sliceZ _=>omega
 cases h
theorem qKM (he:EOk E) {t:TypeId} {x x' v:Value} {f:Nat} (h:iA E t x f=some v) (hx:VR σ x x') :
  ∃ v',(Instr.fieldAt t x' f).run E.prog w=.ok v' w/\VR σ v v':=by
 unfold iA at h
 split at h
 case h_2=>cases h
 rename_i ti fs sz by_ z ag b o ht
 split at h
 case h_2=>cases h
 rename_i fd hfd
 cases hel:E.types.get fd.type with
 | none=>simp [hel] at h
 | some e =>
  simp only [hel,Option.bind_some,zC] at h
  split at h
  case isTrue=>cases h
  rename_i hsz
  cases h
  cases hx with
  | leaf h0=>simp [vK] at h0
  | ptr hs =>
   rename_i L
   refine ⟨_,?_,VR.ptr hs⟩
   simp only [Instr.fieldAt,Sem.run_bind,zQ he ht,Result.andThen_ok,hfd,Instr.sureAddr,Sem.run_pure,fieldPlace,zU he hel,if_neg hsz,nL]
   simp [Nat.add_assoc]
theorem qFw (he:EOk E) {t:TypeId} {cs cs':List Value} {off:Nat} {v:Value} (h:eZ E t cs off=some v) (hc:VRs σ cs cs') (h1:cs.all qQ=true) :
  ∃ v',(part t ⟨cs'⟩ off).run E.prog w=.ok v' w/\VR σ v v':=by
 unfold eZ at h
 cases ht:E.types.get t with
 | none=>simp [ht] at h
 | some ti =>
  simp only [ht,Option.bind_some] at h
  simp only [part,Sem.run_bind,qBj he ht,Result.andThen_ok]
  cases hagg:ti.agg with
  | true =>
   rw [hagg,cond_true] at h
   simp only [Option.map_eq_some_iff] at h
   obtain ⟨l,hl,rfl⟩:=h
   obtain ⟨rfl,hn⟩:=take?_spec _ _ _ hl
   refine ⟨.agg ⟨(cs'.drop off).take ti.size⟩,?_,.agg ((hc.drop off).take _) (qGQ _ (qGR _ h1))⟩
   simp only [if_true,Sem.run_bind,zU he ht,Result.andThen_ok,Sem.run_pure]
   congr 2
   apply Array.ext'
   simp [Array.toList_extract,List.extract_eq_take_drop]
  | false =>
   rw [hagg,cond_false] at h
   obtain ⟨v',h2,h3⟩:=hc.get _ _ h
   exact ⟨v',by simp [h2],h3⟩
theorem qHP (he:EOk E) {t:TypeId} {cs:Array Value} {x' v:Value} {f:Nat} {ti:TI} {fs:Array Field} {fd:Field} (ht:E.types.get t=some ti) (hd:ti.desc=.struct fs)
  (hf:fs[f]? = some fd) (h:eZ E fd.type cs.toList fd.offset=some v) (hx:VR σ (.agg cs) x') :
  ∃ v',(Instr.field t x' f).run E.prog w=.ok v' w/\VR σ v v':=by
 cases hx with
 | leaf h0=>simp [vK] at h0
 | agg hc h1 =>
  obtain ⟨v',h2,h3⟩:=qFw (w:=w) he h hc h1
  refine ⟨v',?_,h3⟩
  have hu:=zQ he ht w
  rw [hd] at hu
  simp only [Instr.field,Sem.run_bind,hu,Result.andThen_ok,hf,asAgg,Sem.run_pure,h2]
theorem qHH (he:EOk E) {t:TypeId} {cs:Array Value} {x' v iv iv':Value} {i:Nat} {ti e:TI} {len elem:Nat} (ht:E.types.get t=some ti) (hd:ti.desc=.array len elem)
  (hel:E.types.get elem=some e) (hi:nat? iv=some i) (hlt:i+1<=len)
  (h:eZ E elem cs.toList (Nat.mul i e.size)=some v) (hx:VR σ (.agg cs) x') (hiv:VR σ iv iv') :
  ∃ v',(Instr.index t x' iv').run E.prog w=.ok v' w/\VR σ v v':=by
 obtain ⟨k,rfl⟩:=nat?_spec hi
 rw [hiv.int_inv]
 cases hx with
 | leaf h0=>simp [vK] at h0
 | agg hc h1 =>
  obtain ⟨v',h2,h3⟩:=qFw (w:=w) he h hc h1
  refine ⟨v',?_,h3⟩
  have hu:=zQ he ht w
  rw [hd] at hu
  have hb:(0:Int)<=Int.ofNat i/\Int.ofNat i < (len:Int):=by simp; omega
  simp only [Instr.index,asIntOf,Sem.run_bind,hu,Result.andThen_ok,Sem.run_pure,if_pos hb,zU he hel]
  exact h2
theorem qHI (he:EOk E) {t:TypeId} {s:ByteArray} {x' iv iv':Value} {i:Nat} {ti:TI} {b:UInt8} (ht:E.types.get t=some ti) (hd:ti.desc=.string)
  (hi:nat? iv=some i) (h:s.data.toList[i]? = some b) (hx:VR σ (.string s) x') (hiv:VR σ iv iv') :
  (Instr.index t x' iv').run E.prog w=.ok (.int .u8 b.toNat) w:=by
 obtain ⟨k,rfl⟩:=nat?_spec hi
 rw [hiv.int_inv,hx.string_inv]
 have hu:=zQ he ht w
 rw [hd] at hu
 have hb:(0:Int)<=Int.ofNat i:=by simp
 have hlt:=(gI h)
 obtain ⟨h1,h2⟩:=hlt
 have hg:s[i]? = some b:=by
  have:i < s.size:=by rw [Array.length_toList] at h1; exact h1
  rw [getElem?_pos s i this]
  congr 1
 have hm:(if (0:Int)<=Int.ofNat i then s[(Int.ofNat i).toNat]? else none)=some b:=by rw [if_pos hb]; exact hg
 simp only [Instr.index,asIntOf,Sem.run_bind,hu,Result.andThen_ok,Sem.run_pure,hm]
end
end Go.Am
namespace Go.Am
open Go
section
variable {E:Env} {σ:zZ} {H:AH} {w:World}
theorem qLv (he:EOk E) (hr:HR E σ H w) {s d:TypeId} {a:Addr} {v v':Value} {H':AH} (h:uQ E H s d a=some (.val v,H')) (hx:VR σ (.pointer (some a)) v') :
  H'=H/\∃ u,(Go.convert s d v').run E.prog w=.ok u w/\VR σ v u:=by unfold uQ at h; cases h
end
end Go.Am
namespace Go.Am
open Go
section
variable {E:Env} {σ:zZ} {H:AH} {w:World}
end
end Go.Am
namespace Go.Am
open Go
section
variable {E:Env} {σ:zZ} {H:AH} {w:World}
theorem sZ (he:EOk E) (hr:HR E σ H w) {ats:List TypeId} {ty:TypeId} {p l p' l' v:Value} {H':AH} (hat:ats≠[]) (h:wC E H ats p l=some (.val v,H')) (hp:VR σ p p') (hl:VR σ l l') :
  ∃ w' u,(Builtin.unsafeString_ ⟨ats⟩ ty #[p',l']).run E.prog w=.ok u w'/\Step E σ H w σ H' w'/\VR σ v u:=by unfold wC at h; cases h
end
end Go.Am
namespace Go.Am
open Go
theorem qDv (newLen B:Nat) (hB:2 * newLen+192<=B):∀ (r c:Nat),c<=B->Builtin.growBy newLen r c<=B
 | 0,c,h=>h
 | r+1,c,h=>by
  simp only [Builtin.growBy]
  split
  ·exact h
  exact qDv newLen B hB r _ (by omega)
theorem qHu (need c:Nat) (h:c < need):Builtin.nextslicecap need c<=2 * need+512:=by
 unfold Builtin.nextslicecap
 split
 ·omega
 split
 ·omega
 exact qDv need _ (by omega) 4 c (by omega)
section
variable {E:Env} {σ:zZ} {H:AH} {w:World} {fr:Fr} {a:Act}
theorem uH {v v':Value} {n y:Nat} (h:nat? v=some n) (hv:VR σ v v') (hn:n<=y) (code:BoundsCode) :
  (Instr.sliceBound v' y code).run E.prog w=.ok n w:=by
 obtain ⟨k,rfl⟩:=nat?_spec h
 rw [hv.int_inv]
 have hb:(0:Int)<=Int.ofNat n/\Int.ofNat n<=(y:Int):=by simp; omega
 simp only [Instr.sliceBound,asIntOf,Sem.run_bind,Sem.run_pure,Result.andThen_ok,if_pos hb]
 rfl
inductive OR (σ:zZ):Option Value->Option Value->Prop
 | none:OR σ none none
 | some {v v':Value} (h:VR σ v v'):OR σ (some v) (some v')
theorem nJ {lo lo' hi hi' mx mx':Option Value} {len cap l h m:Nat} (isS:Bool) (hlo:OR σ lo lo') (hhi:OR σ hi hi') (hmx:OR σ mx mx')
  (el:kU lo 0=some l) (eh:kU hi len=some h) (em:kU mx cap=some m) (h1:l<=h) (h2:h<=m) (h3:m<=cap) (h4:mx=none∨hi≠none) :
  (Instr.sliceBounds isS len cap lo' hi' mx').run E.prog w=.ok (l,h,m) w:=by
 rcases hlo with _ | r1 <;> rcases hhi with _ | r2 <;> rcases hmx with _ | r3 <;> simp only [kU,oI] at el eh em
 all_goals first | (rcases h4 with h4 | h4 <;> first | (cases h4; done) | (exact absurd rfl h4)) | skip
 all_goals try subst el
 all_goals try subst eh
 all_goals try subst em
 all_goals simp only [Instr.sliceBounds,Sem.run_bind,Sem.run_pure,Result.andThen_ok]
 all_goals try simp only [uH (E:=E) (w:=w) em r3 h3,Result.andThen_ok]
 all_goals try simp only [uH (E:=E) (w:=w) eh r2 h2,Result.andThen_ok]
 all_goals try simp only [uH (E:=E) (w:=w) el r1 h1,Result.andThen_ok]
theorem qEu (b o l m s:Nat):(if m=l then (⟨b,o,none⟩:Addr) else (⟨b,o,none⟩:Addr).add (l * s))=⟨b,if m=l then o else o+l * s,none⟩:=by
 split <;> simp [nL]
theorem qJ3 (he:EOk E) (hr:HR E σ H w) {t:TypeId} {x x' v:Value} {lo lo' hi hi' mx mx':Option Value} (h:oE E H t x lo hi mx=some v) (hx:VR σ x x')
  (hlo:OR σ lo lo') (hhi:OR σ hi hi') (hmx:OR σ mx mx') :
  ∃ v',(Instr.sliceAt t x' lo' hi' mx').run E.prog w=.ok v' w/\VR σ v v':=by
 unfold oE at h
 split at h
 ·rename_i ti n elem sz by_ z ag b o ht
  split at h
  case h_2=>cases h
  rename_i l hh m e el eh em hel
  simp only [kQ,vN] at h
  split at h
  case isFalse=>cases h
  rename_i h1
  split at h
  case isFalse=>cases h
  rename_i h2
  split at h
  case isFalse=>cases h
  rename_i h3
  split at h
  case isFalse=>cases h
  rename_i h4
  cases hc:(mx.isNone || hi.isSome) with
  | false=>rw [hc,cond_false] at h; cases h
  | true =>
   rw [hc,cond_true] at h
   cases h
   cases hx with
   | leaf h0=>simp [vK] at h0
   | ptr hs =>
    rename_i L
    have hb:=nJ (E:=E) (w:=w) false hlo hhi hmx el eh em h1 h2 h3 (by
     rw [Bool.or_eq_true] at hc
     rcases hc with hc | hc
     ·exact .inl (by simpa using hc)
     exact .inr (by intro e; rw [e] at hc; simp at hc))
    refine ⟨_,?_,VR.sliceE hs (by show hh - l<=m - l; omega) (by show m - l < z8; unfold z8; omega)⟩
    simp only [Instr.sliceAt,Sem.run_bind,zQ he ht,Result.andThen_ok,Instr.sureAddr,Sem.run_pure,hb,zU he hel,qEu,zC]
    split <;> simp [Nat.add_assoc]
 ·rename_i ti elem sz by_ z ag base len cap ht
  split at h
  case h_2=>cases h
  rename_i l hh e el eh hel
  have hu:=fun w=>zQ he ht w
  split at h
  ·
   -- the nil slice
   simp only [kQ,zC] at h
   split at h
   case isFalse=>cases h
   rename_i h1
   split at h
   case isFalse=>cases h
   rename_i h2
   split at h
   case isFalse=>cases h
   rename_i h3
   split at h
   case isFalse=>cases h
   rename_i h4
   split at h
   case h_2=>cases h
   rename_i mm em
   simp only [zC] at h
   split at h
   case isFalse=>cases h
   rename_i hm0
   cases hm2:(mx.isNone || hi.isSome) with
   | false=>rw [hm2,cond_false] at h; cases h
   | true =>
    rw [hm2,cond_true] at h
    cases h
    subst h1 h2 h3 h4 hm0
    simp only [Bool.or_eq_true] at hm2
    have h4:mx=none∨hi≠none:=by
     rcases hm2 with h | h
     ·exact .inl (by simpa using h)
     exact .inr (by intro e; rw [e] at h; cases h)
    cases hx with
    | leaf h0 =>
     refine ⟨_,?_,.leaf rfl⟩
     have hb:=nJ (E:=E) (w:=w) (len:=0) (cap:=0) (m:=0) true hlo hhi hmx el eh em (lR _) (lR _) (lR _) h4
     simp only [Instr.sliceAt,Sem.run_bind,hu,Result.andThen_ok,Instr.slice,hb,zU he hel,Sem.run_pure,if_true]
     try rfl
  ·rename_i b o
   split at h
   ·
    -- with a maximum
    rename_i mv
    split at h
    case h_2=>cases h
    rename_i m em
    simp only [kQ,vN] at h
    split at h
    case isFalse=>cases h
    rename_i h1
    split at h
    case isFalse=>cases h
    rename_i h2
    split at h
    case isFalse=>cases h
    rename_i h3
    cases hc:hi.isSome with
    | false=>rw [hc,cond_false] at h; cases h
    | true =>
     rw [hc,cond_true] at h
     cases h
     have hne:hi≠none:=by intro e; rw [e] at hc; simp at hc
     have run:∀ (A:Addr) (c:Nat),len<=c->(Instr.sliceAt t (.slice (some A) len c) lo' hi' mx').run E.prog w =
       .ok (.slice (some (if m=l then A else A.add (l * e.size))) (hh - l) (m - l)) w:=by
      intro A c hlc
      have hb:=nJ (E:=E) (w:=w) (len:=len) (cap:=c) (m:=m) true hlo hhi hmx el eh (by simpa [kU] using em) h1 h2 (by omega) (.inr hne)
      simp only [Instr.sliceAt,Sem.run_bind,hu,Result.andThen_ok,Instr.slice,hb,zU he hel,Sem.run_pure]
      try (split <;> simp)
     have fin:∀ (L:Loc) (c:Nat),σ b=some L->len<=c->c < z8->∃ v',(Instr.sliceAt t (.slice (some ⟨L.blk,L.off+o,none⟩) len c) lo' hi' mx').run E.prog w=.ok v' w /\
       VR σ (.slice (some ⟨b,bif Nat.beq m l then o else Nat.add o (Nat.mul l e.size),none⟩) (Nat.sub hh l) (Nat.sub m l)) v':=by
      intro L c hs hl hcx
      refine ⟨_,run _ _ hl,?_⟩
      rw [qEu,zC]
      have:=VR.sliceE (σ:=σ) (i:=if m=l then o else o+l * e.size) (l:=hh - l) (c:=m - l) hs (by omega) (by omega)
      have e2:L.off+(if m=l then o else o+l * e.size)=if m=l then L.off+o else L.off+o+l * e.size:=by split <;> omega
      rw [e2] at this
      exact this
     cases hx with
     | leaf h0=>simp [vK] at h0
     | sliceE hs hl hcx=>exact fin _ _ hs hl hcx
     | sliceX hs hl hcx _=>exact fin _ _ hs hl hcx
     | sliceZ hcc =>
      refine ⟨_,run _ _ (lR _),?_⟩
      have z1:m=0:=by omega
      have z2:hh=0:=by omega
      have z3:l=0:=by omega
      subst z1 z2 z3
      exact .sliceZ (.inl rfl)
   simp only [vN] at h
   split at h
   case isFalse=>cases h
   rename_i h1
   have run:∀ (A:Addr) (c:Nat),hh<=c->(Instr.sliceAt t (.slice (some A) len c) lo' hi' mx').run E.prog w =
     .ok (.slice (some (if c=l then A else A.add (l * e.size))) (hh - l) (c - l)) w:=by
    intro A c hlc
    have hb:=nJ (E:=E) (w:=w) (len:=len) (cap:=c) (m:=c) true hlo hhi hmx el eh rfl h1 hlc (lR _) (.inl rfl)
    simp only [Instr.sliceAt,Sem.run_bind,hu,Result.andThen_ok,Instr.slice,hb,zU he hel,Sem.run_pure]
    try (split <;> simp)
   split at h
   ·rename_i hcap
    split at h
    case h_2=>cases h
    rename_i cs jA rt own hb
    rw [kQ,zC] at h
    split at h
    case isFalse=>cases h
    rename_i hel'
    cases hcond:(Nat.ble hh len || (Nat.ble 1 e.size && Nat.ble (Nat.add o (Nat.mul hh e.size)) cs.length)) with
    | false=>rw [hcond] at h; cases h
    | true =>
    rw [hcond] at h
    cases h
    rw [Bool.or_eq_true,aE] at hcond
    have hlen:hh<=len∨(1<=e.size/\o+hh * e.size<=cs.length):=hcond.imp lB fun h=>⟨lB h.1,lB h.2⟩
    cases hx with
    | leaf h0=>simp [vK] at h0
    | sliceE hs hl hcx=>omega
    | sliceX hs hl hcx hext =>
     rename_i c L
     obtain ⟨_,_,_,_,_,_,hcl0,hsz,_⟩:=hr.cellsAt hb hs
     have hsz':L.sz=e.size:=hsz e (by rw [hel']; exact hel)
     have hlc:hh<=c:=by
      rcases hlen with h2 | ⟨h2,h3⟩
      ·omega
      rw [hsz'] at hext
      have h4:hh * e.size<=c * e.size:=by omega
      exact Nat.le_of_mul_le_mul_right h4 h2
     refine ⟨_,run _ _ hlc,?_⟩
     rw [qEu]
     by_cases hcl:c=l
     ·rw [if_pos hcl]
      have z:hh - l=0:=by omega
      have z2:c - l=0:=by omega
      show VR σ (.slice _ (hh - l) z8) _
      rw [z,z2]
      refine .sliceZ (.inr ⟨rfl,L,hs,?_⟩)
      rw [hsz',hcl] at hext
      exact Nat.le_of_eq hext.symm
     rw [if_neg hcl]
     have:=VR.sliceX (σ:=σ) (i:=o+l * e.size) (l:=hh - l) (c:=c - l) hs (by omega) (by omega) (by
      rw [hsz'] at hext ⊢
      rw [Nat.sub_mul]
      have:l * e.size<=c * e.size:=Nat.mul_le_mul_right _ (by omega)
      omega)
     rw [← Nat.add_assoc] at this
     exact this
    | sliceZ hcc =>
     have z2:hh=0:=by
      rcases hlen with h2 | ⟨h2,h3⟩
      ·omega
      rcases hcc with hcc | ⟨_,L,hL1,hL2⟩
      ·exfalso; rw [hcc] at hcap; exact absurd hcap (by decide)
      obtain ⟨_,_,_,_,_,_,hcl0,_⟩:=hr.cellsAt hb hL1
      have h4:hh * e.size=0:=by omega
      rcases Nat.mul_eq_zero.1 h4 with h5 | h5
      ·exact h5
      omega
     have z3:l=0:=by omega
     subst z2 z3
     refine ⟨_,run _ _ (lR _),?_⟩
     rw [if_pos rfl]
     refine .sliceZ ?_
     rcases hcc with hcc | ⟨_,L,hL1,hL2⟩
     ·exfalso; rw [hcc] at hcap; exact absurd hcap (by decide)
     exact .inr ⟨rfl,L,hL1,by simpa using hL2⟩
   rename_i hcap
   split at h
   case isFalse=>cases h
   rename_i hhc
   cases h
   cases hx with
   | leaf h0=>simp [vK] at h0
   | sliceE hs hl hcx =>
    rename_i L
    refine ⟨_,run _ _ hhc,?_⟩
    rw [qEu,zC]
    have:=VR.sliceE (σ:=σ) (i:=if cap=l then o else o+l * e.size) (l:=hh - l) (c:=cap - l) hs (by omega) (by omega)
    have e2:L.off+(if cap=l then o else o+l * e.size)=if cap=l then L.off+o else L.off+o+l * e.size:=by split <;> omega
    rw [e2] at this
    exact this
   | sliceX hs hl hcx hext=>omega
   | sliceZ hcc =>
    have z2:hh=0:=by rcases hcc with hcc | ⟨hcc,_⟩ <;> omega
    have z3:l=0:=by omega
    subst z2 z3
    rcases hcc with hcc | ⟨hcc,_⟩
    ·subst hcc
     refine ⟨_,run _ _ (lR _),?_⟩
     rw [if_pos rfl]
     exact .sliceZ (.inl rfl)
    omega
  cases h
 ·rename_i ti sz by_ z ag s ht
  split at h
  case h_2=>cases h
  rename_i l hh el eh
  simp only [kQ,vN] at h
  split at h
  case isFalse=>cases h
  rename_i h1
  split at h
  case isFalse=>cases h
  rename_i h2
  cases hm:mx.isNone with
  | false=>rw [hm,cond_false] at h; cases h
  | true =>
   rw [hm,cond_true] at h
   cases h
   have hmn:mx=none:=by simpa using hm
   subst hmn
   cases hmx
   rw [hx.string_inv]
   have hu:=zQ he ht w
   have hb:=nJ (E:=E) (w:=w) (len:=s.size) (cap:=s.size) (m:=s.size) false hlo hhi .none el eh rfl h1 h2 (lR _) (.inl rfl)
   refine ⟨_,?_,.leaf rfl⟩
   simp only [Instr.sliceAt,Sem.run_bind,hu,Result.andThen_ok,Instr.slice]
   simp [hb]
 cases h
end
end Go.Am
namespace Go.Am
open Go
section
variable {E:Env} {σ:zZ} {H:AH} {w:World} {fr:Fr} {a:Act}
theorem qCl:∀ (l:List UInt8),VRs σ (l.map fun b=>.int .u8 b.toNat) (l.map fun b=>.int .u8 b.toNat)
 | []=>.nil
 | _::l=>.cons (.leaf rfl) (qCl l)
theorem qK7 (l:List UInt8):(l.map fun b=>Value.int .u8 b.toNat).all qQ=true:=by
 rw [List.all_eq_true]; intro v hv; simp at hv; obtain ⟨b,_,rfl⟩:=hv; rfl
theorem rI (hr:HR E σ H w) {size n:Nat} {x x':Value} {cs:List Value} (h:pQ H size n x=some cs) (hx:VR σ x x') :
  ∃ cs',(Builtin.firstCells size n x').run E.prog w=.ok ⟨cs'⟩ w/\VRs σ cs cs'/\cs.length=n * size/\cs.all qQ=true:=by
 unfold pQ at h
 split at h
 ·rename_i b o len cap
  simp only [zC,vN] at h
  split at h
  ·rename_i h0
   cases h
   subst h0
   refine ⟨[],?_,.nil,by simp,rfl⟩
   cases hx <;> first | (rename_i h0; simp [vK] at h0; done) | (simp only [Builtin.firstCells,Nat.zero_mul,loadCells,loadCellsFrom]; rfl)
  split at h
  case isFalse=>cases h
  rename_i hn0 hle
  have key:∀ (L:Loc) (c:Nat),σ b=some L->∃ cs',(Builtin.firstCells size n (.slice (some ⟨L.blk,L.off+o,none⟩) len c)).run E.prog w=.ok ⟨cs'⟩ w/\VRs σ cs cs' /\
    cs.length=n * size/\cs.all qQ=true:=by
   intro L c hs
   obtain ⟨r',h1,h2,h3,h4⟩:=tG hr h hs
   exact ⟨r',h1,h2,h3,h4⟩
  cases hx with
  | leaf h0=>simp [vK] at h0
  | sliceE hs _ _=>exact key _ _ hs
  | sliceX hs _ _ _=>exact key _ _ hs
  | sliceZ hc=>omega
 ·rename_i len cap
  simp only [zC] at h
  split at h
  case isFalse=>cases h
  rename_i h0
  cases h
  subst h0
  cases hx with
  | leaf h0=>exact ⟨[],rfl,.nil,by simp,rfl⟩
 ·rename_i s
  simp only [kQ,zC,vN] at h
  split at h
  case isFalse=>cases h
  rename_i h1
  split at h
  case isFalse=>cases h
  rename_i h2
  cases h
  rw [hx.string_inv]
  refine ⟨_,?_,qCl _,?_,qK7 _⟩
  ·simp only [Builtin.firstCells,Sem.run_pure]
   congr 1
   apply Array.ext'
   simp [ByteArray.extract,ByteArray.copySlice]
  have:s.size=s.data.toList.length:=by rw [Array.length_toList]; rfl
  simp only [List.length_map,List.length_take,h1,Nat.mul_one]; omega
 cases h
theorem qI3 {x x':Value} {n:Nat} (h:qKC x=some n) (hx:VR σ x x'):(Builtin.lenOf x').run E.prog w=.ok n w:=by
 unfold qKC at h
 split at h
 ·cases h
  cases hx <;> first | rfl | skip
 ·cases h; rw [hx.string_inv]; rfl
 cases h
def mQ:TypeDesc->Bool
 | .int _=>true
 | _=>false
theorem aH (he : EOk E) (hr : HR E σ H w) {elem xt : TypeId} {xi e : TI} {x x' : Value} {n : Nat} {new : List Value} (hxt : E.types.get xt = some xi) (hel : E.types.get elem = some e)
    (h : oH H xi e x = some (n, new)) (hx : VR σ x x') (hb : n * e.bytes <= 2 ^ 48) (hb' : n < 2 ^ 62) :
    ∃ new', VRs σ new new' /\ new.length = n * e.size /\ new.all qQ = true /\
      ((mQ xi.desc = false /\ (Builtin.lenOf x').run E.prog w = .ok n w /\ (Builtin.firstCells e.size n x').run E.prog w = .ok ⟨new'⟩ w) ∨
       (mQ xi.desc = true /\ ∃ k, x' = .int k (Int.ofNat n) /\ (if n * e.size = 0 then (#[] : Array Value) else ⟨new'⟩) = ⟨new'⟩ /\
          ∀ w, ∃ zv, (zeroValue elem).run E.prog w = .ok zv w /\ Builtin.zeroCells zv.cells n = ⟨new'⟩)) := by
  unfold oH at h
  split at h
  · rename_i k hd
    split at h
    case h_2 => cases h
    rename_i k' m z hz
    cases h
    obtain ⟨zv, h1, h2, h3, h4, h5⟩ := kJ he hel hz w
    have hl : (yC z n).length = n * e.size := by rw [yU, h5]
    have hzc : ∀ zv : Value, zv.cells.toList = z -> Builtin.zeroCells zv.cells n = ⟨yC z n⟩ := by
      intro zv h3
      unfold Builtin.zeroCells
      apply Array.ext'
      rw [iI zv.cells n zv.cells.size rfl, h3]
    refine ⟨yC z n, d7 (oD h2 h3) n, hl, iY h4 n, .inr ⟨by rw [hd]; rfl, k', hx.int_inv, ?_, fun w => ?_⟩⟩
    · split
      · rename_i h0
        rw [h0] at hl
        rw [List.length_eq_zero_iff.1 hl]
      · rfl
    · obtain ⟨zv, h1, h2, h3, h4, h5⟩ := kJ he hel hz w
      exact ⟨zv, h1, hzc zv h3⟩
  · rename_i hd
    split at h
    case h_2 => cases h
    rename_i m hm
    simp only [Option.map_eq_some_iff] at h
    obtain ⟨cs, h1, h2⟩ := h
    cases h2
    obtain ⟨cs', g1, g2, g3, g4⟩ := rI hr h1 hx
    refine ⟨cs', g2, g3, g4, .inl ⟨?_, qI3 hm hx, g1⟩⟩
    cases hdd : xi.desc <;> first | rfl | exact absurd hdd (hd _)
theorem iK {n:Nat} (h:n < 2 ^ 62):IntKind.i64.wrap (n:Int)=(n:Int):=by
 have h1:(n:Int) % 2 ^ 64=(n:Int):=by omega
 simp only [IntKind.wrap,IntKind.bits,IntKind.signed,h1]
 rw [if_neg]
 simp; omega
theorem qFV {d:TypeDesc} (h:mQ d=true):∃ k,d=.int k:=by
 cases d <;> first | exact ⟨_,rfl⟩ | (simp [mQ] at h)
def storeAt? (A:Option Addr) (o:Nat) (new':List Value):Sem Unit:=match A with
 | some a=>storeCells (a.add o) new'
 | none=>pure ()
set_option maxHeartbeats 1000000 in
theorem qLd (he:EOk E) {t xt elem ty:TypeId} {ats:List TypeId} {ti xi e:TI} {n len c:Nat} {x':Value} {new':List Value} {A:Option Addr}
  (ht:E.types.get t=some ti) (hd:ti.desc=.slice elem) (hxt:E.types.get xt=some xi) (hel:E.types.get elem=some e)
  (hz:mQ xi.desc=false) (h1:(Builtin.lenOf x').run E.prog w=.ok n w) (h2:(Builtin.firstCells e.size n x').run E.prog w=.ok ⟨new'⟩ w) (hle:len+n<=c) {w':World}
  (hst:(storeAt? A (len * e.size) new').run E.prog w=.ok () w') :
  (Builtin.append_ ⟨t::xt::ats⟩ ty #[.slice A len c,x']).run E.prog w=.ok (.slice A (len+n) c) w':=by
 have hu:=fun w=>zQ he ht w
 rw [hd] at hu
 have hux:=fun w=>zQ he hxt w
 have hsz:=fun w=>zU he hel w
 clear ht hxt hel he hd
 generalize xi.desc=d at hux hz
 cases d <;> first | (simp [mQ] at hz; done) | skip
 all_goals
  cases A with
  | none =>
   simp only [storeAt?,Sem.run_pure,Result.ok.injEq,true_and] at hst
   subst hst
   simp [Builtin.append_,hu,hux,hsz,h1,h2,hle]
  | some A =>
   simp only [storeAt?] at hst
   simp [Builtin.append_,hu,hux,hsz,h1,h2,hle,hst]
set_option maxHeartbeats 1000000 in
theorem qLc (he : EOk E) {t xt elem ty : TypeId} {ats : List TypeId} {ti xi e : TI} {n len c : Nat} {k : IntKind} {new' : List Value} {A : Option Addr}
    (ht : E.types.get t = some ti) (hd : ti.desc = .slice elem) (hxt : E.types.get xt = some xi) (hel : E.types.get elem = some e)
    (hz : mQ xi.desc = true) (h2 : (if n * e.size = 0 then (#[] : Array Value) else ⟨new'⟩) = ⟨new'⟩)
    (h3 : ∀ w, ∃ zv, (zeroValue elem).run E.prog w = .ok zv w /\ Builtin.zeroCells zv.cells n = ⟨new'⟩)
    (hb : n * e.bytes <= 2 ^ 48) (hb' : n < 2 ^ 62) (hle : len + n <= c) {w' : World}
    (hst : (storeAt? A (len * e.size) new').run E.prog w = .ok () w') :
    (Builtin.append_ ⟨t :: xt :: ats⟩ ty #[.slice A len c, .int k (n : Int)]).run E.prog w = .ok (.slice A (len + n) c) w' := by
  have hu := fun w => zQ he ht w
  rw [hd] at hu
  have hux := fun w => zQ he hxt w
  have hsz := fun w => zU he hel w
  have hw : IntKind.i64.wrap (n : Int) = (n : Int) := iK hb'
  obtain ⟨i, hi, _, _, hby, _⟩ := he.types elem e hel
  have hti := fun w => run_typeInfo (P := E.prog) w hi
  have hsm : ¬ (281474976710656 : Int) < (n : Int) * (i.bytes : Int) := by
    rw [← hby]
    have : (n : Int) * (e.bytes : Int) = ((n * e.bytes : Nat) : Int) := by simp
    rw [this]; omega
  obtain ⟨k', hk'⟩ := qFV hz
  rw [hk'] at hux
  obtain ⟨zv, g1, g2⟩ := h3 w
  clear ht hxt hel he hd hi hby h3
  have hneg : ¬ (n : Int) < 0 := by omega
  by_cases h0 : n * e.size = 0
  · rw [if_pos h0] at h2
    have hnil : new' = [] := by have := congrArg Array.toList h2; simpa using this.symm
    subst hnil
    cases A <;>
      (simp only [storeAt?, Sem.run_pure, Result.ok.injEq, true_and, storeCells] at hst
       subst hst
       simp [Builtin.append_, hu, hux, hsz, hle, asInt, asIntOf, hw, hti, hsm, h0, hneg, storeCells])
  · cases A with
    | none =>
      simp only [storeAt?, Sem.run_pure, Result.ok.injEq, true_and] at hst
      subst hst
      simp [Builtin.append_, hu, hux, hsz, hle, asInt, asIntOf, hw, hti, hsm, h0, hneg, g1]
    | some A =>
      simp only [storeAt?] at hst
      simp [Builtin.append_, hu, hux, hsz, hle, asInt, asIntOf, hw, hti, hsm, h0, hneg, g1, g2, hst]
end
end Go.Am
