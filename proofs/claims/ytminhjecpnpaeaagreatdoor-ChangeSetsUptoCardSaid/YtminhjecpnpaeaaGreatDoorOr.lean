/- What came in, opened, with its bulk: the data are not larger than what was read. Conditions: none. -/
import Derived.Test.YtminhjecpnpaeaaGreatDoorOp
import Derived.Test.YtminhjecpnpaeaaGreatDoorUv
set_option linter.unusedVariables false
set_option linter.unusedSimpArgs false
namespace Go.Am
open Go
mutual
def mL:D->Nat
 | .leaf (.string s)=>s.size+1
 | .leaf (.int k n)=>bif decide (k.min<=n) && decide (n<=k.max) then 1 else 1000000000000
 | .leaf _=>1
 | .nil=>1
 | .sl _ _ es=>jV es+1
 | .agg cs=>Nat.max 1 (jV cs)
 | .tup cs=>jV cs+1
 | _=>1
def jV:List D->Nat
 | []=>0
 | d::r=>mL d+jV r
end
mutual
def xU {H:Type}:DataW H->Nat
 | .lit (.string bytes)=>bytes.length+1
 | .lit _=>1
 | .nil=>1
 | .ptr d=>xU d+1
 | .slice elems spare=>kF elems+kF spare+1
 | .agg parts=>kF parts+1
 | .iface _ d=>xU d+1
 | .map _=>1
 | .held _=>1
def kF {H:Type}:List (DataW H)->Nat
 | []=>0
 | d::r=>xU d+kF r
end
theorem qCd:∀ a b:List D,jV (a++b)=jV a+jV b
 | [],b=>by simp [jV]
 | x::a,b=>by simp only [List.cons_append,jV,qCd a b]; omega
theorem qK1 (d:D):1<=mL d:=by
 unfold mL; split <;> first | omega | exact Nat.le_max_left _ _ | (rename_i k n; cases (decide (k.min<=n) && decide (n<=k.max)) <;> decide)
theorem qC1 {H:Type} (d:DataW H):1<=xU d:=by
 unfold xU; split <;> omega
theorem qNU (st:Bool) (ds:List D):mL (qPy st ds)<=Nat.max 1 (jV ds):=by
 cases st with
 | true=>exact lR _
 | false=>cases ds with
  | nil=>exact Nat.le_max_left _ _
  | cons d ds=>exact lT (Nat.le_add_right _ _) (Nat.le_max_right _ _)
theorem qCb:∀ {l:List D} {x:D},x∈l->mL x<=jV l
 | y::l,x,h=>by
  simp only [jV]
  rcases List.mem_cons.1 h with rfl | h
  ·omega
  have:=qCb h; omega
theorem qCc:∀ l:List D,l.length<=jV l
 | []=>by simp [jV]
 | x::l=>by
  have:=qK1 x
  have:=qCc l
  simp only [jV,List.length_cons]; omega
mutual
theorem qDu {B:Nat}:∀ {s:Sh} {d:D},vA s d->mL d<=B->qI B s d
 | .int k,d,h,_=>by simp only [vA] at h; simp only [qI]; exact h
 | .bool,d,h,_=>by simp only [vA] at h; simp only [qI]; exact h
 | .str,d,h,hb=>by
  simp only [vA] at h; obtain ⟨s,rfl⟩:=h
  simp only [mL] at hb
  simp only [qI]; exact ⟨s,rfl,by omega⟩
 | .st fs,d,h,hb=>by
  simp only [vA] at h; obtain ⟨cs,rfl,h⟩:=h
  simp only [mL] at hb
  simp only [qI]; exact ⟨cs,rfl,f6 h (lT (Nat.le_max_right _ _) hb)⟩
 | .sl el sz e,d,h,hb=>by
  simp only [vA] at h
  simp only [qI]
  rcases h with rfl | ⟨es,rfl,_,ha⟩
  ·exact .inl rfl
  simp only [mL] at hb
  have:=qCc es
  exact .inr ⟨es,rfl,by omega,fun x hx=>qDu (ha x hx) (by have:=qCb hx; omega)⟩
theorem f6 {B:Nat}:∀ {ss:List Sh} {ds:List D},vU ss ds->jV ds<=B->jJ B ss ds
 | [],ds,h,_=>by simp only [vU] at h; simp only [jJ]; exact h
 | s::ss,ds,h,hb=>by
  simp only [vU] at h; obtain ⟨d,r,rfl,h1,h2⟩:=h
  simp only [jV] at hb
  simp only [jJ]
  exact ⟨d,r,rfl,qDu h1 (by omega),f6 h2 (by omega)⟩
end
section
variable {E:Env} {H:Type} {enc:TypeId × Value->H} {P:Program} {W:World} {m:Nat}
def wL (E:Env) (m:Nat) (W:World) (L0:List Bk) (ss:List Sh) (cs:List Value) (B:Nat):Prop :=
 ∃ (L1:List Bk) (vs:List Value) (ds:List D),qCG E m W (L0++L1)/\VRs (rV E m (L0++L1)) vs cs/\DRs (dH E m (L0++L1)).blocks.get ds vs/\vU ss ds/\vs.all qQ=true/\jV ds<=B
theorem wL.app {L0:List Bk} {ss ts:List Sh} {cs es:List Value} {B C:Nat} (h1:wL E m W L0 ss cs B) (h2:∀ L,qCG E m W L->wL E m W L ts es C):wL E m W L0 (ss++ts) (cs++es) (B+C):=by
 obtain ⟨L1,vs,ds,a1,a2,a3,a4,a5,a6⟩:=h1
 obtain ⟨L2,us,xs,b1,b2,b3,b4,b5,b6⟩:=h2 _ a1
 refine ⟨L1++L2,vs++us,ds++xs,?_,?_,?_,fZ a4 b4,?_,by rw [qCd]; omega⟩
 ·rw [← List.append_assoc]; exact b1
 ·rw [← List.append_assoc]; exact qAC (a2.mono lE) b2
 ·rw [← List.append_assoc]; exact (a3.mono dG).append b3
 rw [List.all_append,a5,b5]; rfl
theorem wL.le {L0:List Bk} {ss:List Sh} {cs:List Value} {B C:Nat} (h:wL E m W L0 ss cs B) (hb:B<=C):wL E m W L0 ss cs C:=by
 obtain ⟨L1,vs,ds,a1,a2,a3,a4,a5,a6⟩:=h
 exact ⟨L1,vs,ds,a1,a2,a3,a4,a5,lT a6 hb⟩
theorem aG {rec:TypeId->Option (List Sh)} {cs:List Value} (ih:∀ (f:Field) (s:List Sh),rec f.type=some s->P.cellsOf f.type=s.length->∀ (x:DataW H × List MemPlace) (k:Nat),DataW.trod enc P W 0 (fun _=>true) true k f.type ((cs.drop f.offset).take (P.cellsOf f.type))=some x ->
   ∀ L,qCG E m W L->wL E m W L s ((cs.drop f.offset).take (P.cellsOf f.type)) (xU x.1)) :
  ∀ (fs:List Field) (xs:List (DataW H × List MemPlace)) (acc ss:List Sh) (B:Nat),qMe P rec fs acc=some ss->xs.length=fs.length->(∀ (i:Nat) f,fs[i]? = some f->∃ x,xs[i]? = some x/\∃ k,DataW.trod enc P W 0 (fun _=>true) true k f.type ((cs.drop f.offset).take (P.cellsOf f.type))=some x) ->
   (∀ L,qCG E m W L->wL E m W L acc (cs.take acc.length) B)->ss.length<=cs.length->∀ L,qCG E m W L->wL E m W L ss (cs.take ss.length) (B+kF (xs.map (·.1)))
 | [],[],acc,ss,B,h,_,_,ha,_=>by
  simp only [qMe,oI] at h; subst h
  simpa [kF] using ha
 | [],_::_,_,_,_,_,h,_,_,_=>by simp at h
 | _::_,[],_,_,_,_,h,_,_,_=>by simp at h
 | f::fs,x::xs,acc,ss,B,h,hlx,hf,ha,hl=>by
  simp only [qMe] at h
  cases hc:Nat.beq f.offset acc.length with
  | false=>rw [hc] at h; cases h
  | true =>
   rw [hc] at h
   simp only [cond_true] at h
   have hoff:=jF hc
   split at h
   case h_2=>cases h
   rename_i s hs
   cases hz:Nat.beq (P.cellsOf f.type) s.length with
   | false=>rw [hz] at h; cases h
   | true =>
    rw [hz] at h
    simp only [cond_true] at h
    have hsz:=jF hz
    intro L0 hL0
    obtain ⟨x',hx',k,hk⟩:=hf 0 f rfl
    cases hx'
    have key:=aG ih fs xs (acc++s) ss (B+xU x.1) h (by simpa using hlx) (fun i g hg=>hf (i+1) g (by simpa using hg)) (fun L hL=>?_) hl L0 hL0
    ·refine key.le ?_
     simp only [List.map_cons,kF]; omega
    have h2:=ih f s hs hsz x k hk
    rw [hsz,hoff] at h2
    have h1:=(ha L hL).app h2
    have:cs.take acc.length++(cs.drop acc.length).take s.length=cs.take (acc++s).length:=by
     rw [List.length_append,List.take_add]
    rw [this] at h1
    exact h1
theorem qAa {e:TypeId} {ss:List Sh} (ih:∀ k cs x,DataW.trod enc P W 0 (fun _=>true) true k e cs=some x->∀ L,qCG E m W L->wL E m W L ss cs (xU x.1)) :
  ∀ (l:List (List Value)) (xs:List (DataW H)),xs.length=l.length->(∀ (i:Nat) cs,l[i]? = some cs->∃ k x,DataW.trod enc P W 0 (fun _=>true) true k e cs=some x/\xs[i]? = some x.1)->∀ L,qCG E m W L ->
   ∃ (L1:List Bk) (vs:List Value) (dss:List (List D)),qCG E m W (L++L1)/\VRs (rV E m (L++L1)) vs l.flatten/\DRs (dH E m (L++L1)).blocks.get dss.flatten vs/\dss.length=l.length/\(∀ ds∈dss,vU ss ds)/\vs.all qQ=true/\∀ st,jV (dss.map (qPy st))<=kF xs
 | [],[],_,_,L,hL=>⟨[],[],[],by rw [List.append_nil]; exact hL,.nil,.nil,rfl,fun _ h=>(by cases h),rfl,fun _=>lR _⟩
 | [],_::_,h,_,_,_=>by simp at h
 | _::_,[],h,_,_,_=>by simp at h
 | cs::l,y::ys,hly,h,L,hL=>by
  obtain ⟨k,x,hx,hy⟩:=h 0 cs rfl
  cases hy
  obtain ⟨L1,vs,ds,a1,a2,a3,a4,a5,a6⟩:=ih k cs x hx L hL
  obtain ⟨L2,us,dss,b1,b2,b3,b4,b5,b6,b7⟩:=qAa ih l ys (by simpa using hly) (fun i c hc=>h (i+1) c (by simpa using hc)) _ a1
  refine ⟨L1++L2,vs++us,ds::dss,?_,?_,?_,by simp [b4],?_,by rw [List.all_append,a5,b6]; rfl,?_⟩
  ·rw [← List.append_assoc]; exact b1
  ·rw [← List.append_assoc,List.flatten_cons]; exact qAC (a2.mono lE) b2
  ·rw [← List.append_assoc,List.flatten_cons]; exact (a3.mono dG).append b3
  ·intro d hd
   rcases List.mem_cons.1 hd with rfl | hd
   ·exact a4
   exact b5 d hd
  intro st
  have h1:=qNU st ds
  have h2:Nat.max 1 (jV ds)<=xU x.1:=Nat.max_le.2 ⟨qC1 _,a6⟩
  have h3:=b7 st
  simp only [List.map_cons,jV,kF]; omega
theorem qHp (hsz:∀ t ti,E.types.get t=some ti->ti.size=P.cellsOf t) (hm:m=E.prog.globals.size) {t e:TypeId} {ss:List Sh} {s:Sh} {n:Nat} (ht:P.underlying t=some (.slice e)) (hn:gM P n e=some ss) (hs:qGt P e ss=some s)
  (hc:P.cellsOf e=ss.length) (hz:0 < ss.length)
  (ih:∀ k cs x,DataW.trod enc P W 0 (fun _=>true) true k e cs=some x->∀ L,qCG E m W L->wL E m W L ss cs (xU x.1))
  {k:Nat} {cs:List Value} {x:DataW H × List MemPlace} (h:DataW.trod enc P W 0 (fun _=>true) true k t cs=some x) {L:List Bk} (hL:qCG E m W L):wL E m W L [.sl e ss.length s] cs (xU x.1):=by
 rcases Deep.open_slice ht h with ⟨rfl,rfl⟩ | ⟨a,len,cap,mm,nn,Dx,Pl,rfl,_,hlc,hcap,hmm,rfl,hx⟩
 ·exact ⟨[],[.slice none 0 0],[.nil],by rw [List.append_nil]; exact hL,.cons (.leaf rfl) .nil,.cons .nil .nil,⟨.nil,[],rfl,.inl rfl,rfl⟩,rfl,lR _⟩
 simp only [if_true] at hmm
 subst hmm
 rw [hc] at hx
 obtain ⟨f,hf⟩:=Deep.choose_lt (α:=List Value) (p:=fun i c=>W.cells? 0 (a.add (i * ss.length)) ss.length=some c/\DataW.trod enc P W 0 (fun _=>true) true nn e c=some (Dx i,Pl i)) hx
 have hfl:∀ i,i < mm->(f i).length=ss.length:=fun i hi=>(World.cells?_some (hf i hi).1).2.1
 obtain ⟨L1,vs,dss,a1,a2,a3,a4,a5,a6,a7⟩:=qAa ih ((List.range len).map f) ((List.range len).map Dx) (by simp) (fun i c hc=>by
  rw [List.getElem?_map] at hc
  have hi:i < len:=by
   rcases Nat.lt_or_ge i len with h | h
   ·exact h
   rw [List.getElem?_eq_none (by simpa using h)] at hc; cases hc
  rw [List.getElem?_range hi] at hc
  cases hc
  exact ⟨nn,_,(hf i (by omega)).2,by rw [List.getElem?_map,List.getElem?_range hi]; rfl⟩) L hL
 rw [List.length_map,List.length_range] at a4
 obtain ⟨st,hst⟩:=qQu hn hs
 have hvl:vs.length=len * ss.length:=by
  have h1:=VRs.length a2
  rw [← h1,qAk _ (sz:=ss.length) (fun c hc=>by
   obtain ⟨i,hi,rfl⟩:=List.mem_map.1 hc
   exact hfl i (by have:=List.mem_range.1 hi; omega)),List.length_map,List.length_range]
 have hcells:(dss.map (qPy st)).flatMap D.cells=dss.flatten:=qGD _ (fun d hd=>(hst d (a5 d hd)).2)
 have hlenX:len < z8:=by
  have:maxLen < z8:=by unfold maxLen z8; decide
  omega
 have hcapX:mm < z8:=by
  have:maxLen < z8:=by unfold maxLen z8; decide
  omega
 have hsh:vA (.sl e ss.length s) (.sl e ss.length (dss.map (qPy st))):=by
  refine .inr ⟨_,rfl,by rw [List.length_map,a4]; exact hlenX,fun y hy=>?_⟩
  obtain ⟨d,hd,rfl⟩:=List.mem_map.1 hy
  exact (hst d (a5 d hd)).1
 have fin:∀ (o:Option Loc),(∀ l,o=some l->∃ ob,W.heap[l.blk]? = some ob/\oT E (rV E m (L++L1)) l false (.cells vs e) ob) ->
   (VR (rV E m (L++L1++[⟨o,vs,e⟩])) (.slice (some ⟨m+(L++L1).length,0,none⟩) len mm) (.slice (some a) len mm))->wL E m W L [.sl e ss.length s] [.slice (some a) len mm] (xU (DataW.slice ((List.range len).map Dx) ((List.range (mm - len)).map fun j=>Dx (len+j)))):=by
  intro o ho hv
  refine ⟨L1++[⟨o,vs,e⟩],[.slice (some ⟨m+(L++L1).length,0,none⟩) len mm],[.sl e ss.length (dss.map (qPy st))],?_,?_,?_,⟨_,[],rfl,hsh,rfl⟩,rfl,by have:=a7 st; simp only [jV,mL,xU]; omega⟩
  ·rw [← List.append_assoc]; exact a1.snoc ho
  ·rw [← List.append_assoc]; exact .cons hv .nil
  rw [← List.append_assoc]
  have hb:(dH E m (L++L1++[⟨o,vs,e⟩])).blocks.get (m+(L++L1).length)=some ⟨.cells vs e,0,false⟩:=by
   rw [aS,if_pos (by omega),Nat.add_sub_cancel_left]
   simp [Bk.a]
  refine .cons (.sl hb ?_ ?_ (by rw [List.length_map,a4]) ?_ hlc hlenX a6) .nil
  ·rw [List.drop_zero]; exact take?_all vs _ hvl.symm
  ·rw [hcells]; exact a3.mono dG
  intro y hy
  obtain ⟨d,hd,rfl⟩:=List.mem_map.1 hy
  rw [(hst d (a5 d hd)).2]
  exact qBM (a5 d hd)
 by_cases hc0:mm=0
 ·have hl0:len=0:=by omega
  subst hl0 hc0
  exact fin none (fun l hl=>by cases hl) (.sliceZ (.inl rfl))
 have hcell:∀ i j,i < mm->j < ss.length->W.cell? ((a.add (i * ss.length)).add j)=(f i)[j]? := fun i j hi hj=>(World.cells?_some (hf i hi).1).2.2 j hj
 have hsome:∀ i j,i < mm->j < ss.length->∃ v,(f i)[j]? = some v:=fun i j hi hj=>⟨_,List.getElem?_eq_getElem (by rw [hfl i hi]; exact hj)⟩
 have h00:=hcell 0 0 (by omega) hz
 have hadd0:((a.add (0 * ss.length)).add 0)=a:=by simp [Addr.add]
 rw [hadd0] at h00
 obtain ⟨blk,off,spot⟩:=a
 obtain ⟨v0,hv0⟩:=hsome 0 0 (by omega) hz
 rw [hv0] at h00
 have hspot:spot=none/\∃ ccs cel fz,W.heap[blk]? = some (.cells ccs cel fz):=by
  unfold World.cell? at h00
  split at h00
  ·rename_i ccs cel fz hb
   refine ⟨?_,ccs,cel,fz,hb⟩
   cases spot with
   | none=>rfl
   | some s=>simp at h00
  simp at h00
 obtain ⟨rfl,ccs,cel,fz,hb⟩:=hspot
 have haddr:∀ i j,((⟨blk,off,none⟩:Addr).add (i * ss.length)).add j=⟨blk,off+(i * ss.length+j),none⟩:=by
  intro i j
  unfold Addr.add
  by_cases h1:i * ss.length=0 <;> by_cases h2:j=0 <;> simp [h1,h2,Nat.add_assoc]
 have hget:∀ i j,i < mm->j < ss.length->ccs[off+(i * ss.length+j)]? = (f i)[j]? := by
  intro i j hi hj
  rw [← hcell i j hi hj,haddr]
  simp [World.cell?,hb]
 have hsize:off+mm * ss.length<=ccs.size:=by
  have h1:=hget (mm - 1) (ss.length - 1) (by omega) (by omega)
  obtain ⟨v,hv⟩:=hsome (mm - 1) (ss.length - 1) (by omega) (by omega)
  rw [hv] at h1
  have h2:=(Array.getElem?_eq_some_iff.1 h1).1
  have h3:mm * ss.length=(mm - 1) * ss.length+ss.length:=by
   obtain ⟨q,rfl⟩:∃ q,mm=q+1:=⟨mm - 1,by omega⟩
   rw [Nat.add_sub_cancel,Nat.succ_mul]
  omega
 refine fin (some ⟨blk,off,mm * ss.length,ss.length⟩) (fun l hl=>?_) ?_
 ·cases hl
  refine ⟨_,hb,?_⟩
  simp only [oT]
  refine ⟨fun e=>absurd e (by decide),hsize,by rw [hvl]; exact Nat.mul_le_mul_right _ hlc,fun ti hti=>by rw [hsz _ _ hti,hc],fun i v hi=>?_⟩
  have hone:qQ v=true:=List.all_eq_true.1 a6 v (List.mem_of_getElem? hi)
  obtain ⟨v',h1,h2⟩:=qS1 a2 hi
  refine ⟨hone,v',?_,h2⟩
  have hil:i < len * ss.length:=by rw [← hvl]; exact (gI hi).1
  rw [qGb f (fun j hj=>hfl j (by omega)) hz i hil] at h1
  have hdl:i / ss.length < len:=Nat.div_lt_of_lt_mul (by rw [Nat.mul_comm]; exact hil)
  have:=hget (i / ss.length) (i % ss.length) (by omega) (Nat.mod_lt _ hz)
  rw [Nat.div_add_mod' i ss.length,h1] at this
  exact this
 have hσ:rV E m (L++L1++[⟨some ⟨blk,off,mm * ss.length,ss.length⟩,vs,e⟩]) (m+(L++L1).length)=some ⟨blk,off,mm * ss.length,ss.length⟩:=by
  unfold rV
  rw [if_neg (by omega),Nat.add_sub_cancel_left]
  simp
 have:=VR.sliceE (b:=m+(L++L1).length) (i:=0) (l:=len) (c:=mm) hσ hlc hcapX
 exact this
theorem qFC (hsz:∀ t ti,E.types.get t=some ti->ti.size=P.cellsOf t) (hm:m=E.prog.globals.size):∀ (n:Nat) (t:TypeId) (ss:List Sh),gM P n t=some ss ->
  ∀ (k:Nat) (cs:List Value) (x:DataW H × List MemPlace),DataW.trod enc P W 0 (fun _=>true) true k t cs=some x->∀ L,qCG E m W L->wL E m W L ss cs (xU x.1):=by
 intro n
 induction n with
 | zero=>intro t ss h; cases h
 | succ n ih =>
  intro t ss h k cs x hx L hL
  simp only [gM] at h
  split at h
  ·rename_i hu
   cases h
   obtain ⟨b,rfl,rfl⟩:=DataW.trod_bool hu hx
   exact ⟨[],[.bool b],[.leaf (.bool b)],by rw [List.append_nil]; exact hL,.cons (.leaf rfl) .nil,.cons (.leaf rfl) .nil,⟨_,[],rfl,⟨b,rfl⟩,rfl⟩,rfl,by simp [jV,mL,xU]⟩
  ·rename_i kk hu
   cases h
   obtain ⟨b,rfl,rfl,hw⟩:=DataW.trod_int hu hx
   have hw:(decide (kk.min<=b) && decide (b<=kk.max))=true:=hw
   exact ⟨[],[.int kk b],[.leaf (.int kk b)],by rw [List.append_nil]; exact hL,.cons (.leaf rfl) .nil,.cons (.leaf rfl) .nil,⟨_,[],rfl,⟨b,rfl⟩,rfl⟩,rfl,by simp only [jV,mL,xU,hw,cond_true]; exact lR _⟩
  ·rename_i hu
   cases h
   obtain ⟨b,rfl,rfl,_⟩:=DataW.trod_string hu hx
   exact ⟨[],[.string b],[.leaf (.string b)],by rw [List.append_nil]; exact hL,.cons (.leaf rfl) .nil,.cons (.leaf rfl) .nil,⟨_,[],rfl,⟨b,rfl⟩,rfl⟩,rfl,by simp [jV,mL,xU]⟩
  ·rename_i e hu
   split at h
   ·rename_i ss' hss
    split at h
    ·rename_i s hs
     cases hcc:(Nat.beq (P.cellsOf e) ss'.length && Nat.blt 0 ss'.length) with
     | false=>rw [hcc] at h; cases h
     | true =>
      rw [hcc] at h
      simp only [cond_true,oI] at h
      subst h
      simp only [aE] at hcc
      exact qHp hsz hm hu hss hs (jF hcc.1) (lB hcc.2) (ih e ss' hss) hx hL
    cases h
   cases h
  ·rename_i fs hu
   split at h
   ·rename_i ss' hss
    cases hcc:Nat.beq (P.cellsOf t) ss'.length with
    | false=>rw [hcc] at h; cases h
    | true =>
     rw [hcc] at h
     simp only [cond_true,oI] at h
     subst h
     have hcl:=jF hcc
     obtain ⟨xs,n',rfl,rfl,hl,hxl,hf⟩:=DataW.trod_struct hu hx
     have:=aG (E:=E) (enc:=enc) (P:=P) (W:=W) (m:=m) (cs:=cs) (rec:=gM P n) (fun f s hs _ x k hx L hL=>ih f.type s hs k _ x hx L hL) fs.toList xs [] ss' 0 hss (by rw [hxl]; simp) (fun i f hi=>by
      have h1:=hf i f (by simpa using hi)
      have hlt:i < xs.length:=by
       have:=(gI hi).1
       rw [hxl]; simpa using this
      rw [List.getElem?_eq_getElem hlt] at h1
      exact ⟨_,List.getElem?_eq_getElem hlt,_,h1⟩) (fun L hL=>⟨[],[],[],by rw [List.append_nil]; exact hL,.nil,.nil,rfl,rfl,lR _⟩) (by omega) L hL
     rw [List.take_of_length_le (by omega)] at this
     exact this.le (by simp only [xU]; omega)
   cases h
  cases h
def qCE (E:Env) (m:Nat) (W:World) (L0:List Bk) (s:Sh) (v':Value) (B:Nat):Prop :=
 ∃ (L1:List Bk) (v:Value) (d:D),qCG E m W (L0++L1)/\VR (rV E m (L0++L1)) v v'/\DR (dH E m (L0++L1)).blocks.get d v/\vA s d/\mL d<=B
theorem qFA {L0:List Bk} {s:Sh} {v':Value} {B:Nat} (h:wL E m W L0 [s] [v'] B):qCE E m W L0 s v' B:=by
 obtain ⟨L1,vs,ds,a1,a2,a3,a4,a5,a6⟩:=h
 simp only [vU] at a4
 obtain ⟨d,l,rfl,a4,rfl⟩:=a4
 cases a3 with
 | cons h hs =>
  cases hs
  cases a2 with
  | cons h2 hs2=>exact ⟨L1,_,d,a1,h2,h,a4,by simpa [jV] using a6⟩
theorem qKl (hsz:∀ t ti,E.types.get t=some ti->ti.size=P.cellsOf t) (hm:m=E.prog.globals.size) {n:Nat} {t:TypeId} {ss:List Sh} {s:Sh} (hn:gM P n t=some ss) (hs:qGt P t ss=some s)
  {v:Value} {d:DataW H} {p:List MemPlace} (hv:Value.okWide P W .any 0 t v) (h:DataW.Trod enc P W 0 (fun _=>true) true t v d p) {L:List Bk} (hL:qCG E m W L):qCE E m W L s v (xU d):=by
 obtain ⟨k,hk⟩:=h
 have ho:=qFC hsz hm n t ss hn k _ _ hk L hL
 have flat:(∀ cs,v≠.agg cs)->ss=[s]->qCE E m W L s v (xU d):=by
  intro h1 h2
  rw [h2] at ho
  have hc:v.cells.toList=[v]:=by
   cases v <;> first | rfl | exact absurd rfl (h1 _)
  rw [hc] at ho
  exact qFA ho
 have one:(∀ fs,P.underlying t≠some (.struct fs))->(∀ k e,P.underlying t≠some (.array k e))->ss=[s]:=by
  intro h1 h2
  unfold qGt at hs
  split at hs
  ·rename_i fs hu; exact absurd hu (h1 fs)
  ·rename_i k e hu; exact absurd hu (h2 k e)
  split at hs
  ·cases hs; rfl
  cases hs
 cases n with
 | zero=>cases hn
 | succ n =>
  have hn0:=hn
  simp only [gM] at hn
  split at hn
  ·rename_i hu
   refine flat (fun cs e=>?_) (one (fun _ e=>by rw [hu] at e; cases e) (fun _ _ e=>by rw [hu] at e; cases e))
   subst e
   simp only [Value.okWide,hu,Cell.okWide] at hv
   simp [Cell.ok] at hv
  ·rename_i kk hu
   refine flat (fun cs e=>?_) (one (fun _ e=>by rw [hu] at e; cases e) (fun _ _ e=>by rw [hu] at e; cases e))
   subst e
   simp only [Value.okWide,hu,Cell.okWide] at hv
   simp [Cell.ok] at hv
  ·rename_i hu
   refine flat (fun cs e=>?_) (one (fun _ e=>by rw [hu] at e; cases e) (fun _ _ e=>by rw [hu] at e; cases e))
   obtain ⟨s,hv⟩:=Go.WideShapes.okWide_string hu hv
   rw [hv] at e; cases e
  ·rename_i e hu
   refine flat (fun cs e=>?_) (one (fun _ e=>by rw [hu] at e; cases e) (fun _ _ e=>by rw [hu] at e; cases e))
   obtain ⟨a,l,c,hv⟩:=Go.WideShapes.okWide_slice hu hv
   rw [hv] at e; cases e
  ·rename_i fs hu
   have hs':s=.st ss:=by
    unfold qGt at hs
    rw [hu] at hs
    simp only [oI] at hs
    exact hs.symm
   subst hs'
   simp only [Value.okWide,hu] at hv
   obtain ⟨cs,rfl,_⟩:=hv
   obtain ⟨L1,vs,ds,a1,a2,a3,a4,a5,a6⟩:=ho
   refine ⟨L1,.agg ⟨vs⟩,.agg ds,a1,?_,.agg a3 a5,⟨ds,rfl,a4⟩,Nat.max_le.2 ⟨qC1 _,a6⟩⟩
   obtain ⟨cs⟩:=cs
   exact .agg a2 a5
  cases hn
theorem qBt (hsz:∀ t ti,E.types.get t=some ti->ti.size=P.cellsOf t) (hm:m=E.prog.globals.size) {n:Nat}:∀ (ts:List TypeId) (ss:List Sh) (vs:List Value) (ds:List (DataW H)) (p:List MemPlace) (L:List Bk),
  uJ P n ts=some ss->DataW.TrodAll enc P W 0 (fun _=>true) true ts vs ds p->(∀ (j:Nat) t v,ts[j]? = some t->vs[j]? = some v->Value.okWide P W .any 0 t v)->qCG E m W L ->
  ∃ (L1:List Bk) (us:List Value) (xs:List D),qCG E m W (L++L1)/\VRs (rV E m (L++L1)) us vs/\DRs (dH E m (L++L1)).blocks.get xs us/\vU ss xs/\jV xs<=kF ds
 | [],ss,[],[],_,L,h,_,_,hL=>by
  simp only [uJ,oI] at h; subst h
  exact ⟨[],[],[],by rw [List.append_nil]; exact hL,.nil,.nil,rfl,lR _⟩
 | t::ts,ss,v::vs,d::ds,_,L,h,⟨p,q,ht,hr,_⟩,hok,hL=>by
  simp only [uJ] at h
  split at h
  ·rename_i s1 h1
   split at h
   ·rename_i s r h2 h3
    simp only [oI] at h; subst h
    obtain ⟨L1,u,x,a1,a2,a3,a4,a5⟩:=qKl hsz hm h1 h2 (hok 0 t v rfl rfl) ht hL
    obtain ⟨L2,us,xs,b1,b2,b3,b4,b5⟩:=qBt hsz hm ts r vs ds q (L++L1) h3 hr (fun j t v h h'=>hok (j+1) t v (by simpa using h) (by simpa using h')) a1
    refine ⟨L1++L2,u::us,x::xs,?_,?_,?_,⟨x,xs,rfl,a4,b4⟩,by simp only [jV,kF]; omega⟩
    ·rw [← List.append_assoc]; exact b1
    ·rw [← List.append_assoc]; exact .cons (a2.mono lE) b2
    rw [← List.append_assoc]; exact .cons (a3.mono dG) b3
   cases h
  cases h
 | [],_,_::_,_,_,_,_,h,_,_=>h.elim
 | [],_,[],_::_,_,_,_,h,_,_=>h.elim
 | _::_,_,[],_,_,_,_,h,_,_=>h.elim
 | _::_,_,_::_,[],_,_,_,h,_,_=>h.elim
theorem qHD {W:World} {n B:Nat} {f:FuncId} {ts:List TypeId} {ss:List Sh} (hE:E.prog=P) (hsz:∀ t ti,E.types.get t=some ti->ti.size=P.cellsOf t) (hss:uJ P n ts=some ss)
  (hlaw:∀ ds,jJ B ss ds->qB E f ds (dB true)) {args:List Value} {ds:List (DataW H)} {p:List MemPlace} (hA:DataW.TrodAll enc P W 0 (fun _=>true) true ts args ds p)
  (hok:∀ (j:Nat) t v,ts[j]? = some t->args[j]? = some v->Value.okWide P W .any 0 t v) (hB:kF ds<=B) (hT:TabOK E E.prog.globals.size W:=by exact qJX rfl):Calls P f ⟨args⟩ W fun e w'=>e=.returned (.bool true)/\Kept W w':=by
 obtain ⟨L1,us,xs,a1,a2,a3,a4,a5⟩:=qBt (E:=E) (m:=E.prog.globals.size) hsz rfl ts ss args ds p [] hss hA hok (fun i k l h=>by cases h)
 rw [← hE]
 exact qFX rfl hT (hlaw xs (f6 a4 (lT a5 hB))) a1 a3 a2
end
end Go.Am
