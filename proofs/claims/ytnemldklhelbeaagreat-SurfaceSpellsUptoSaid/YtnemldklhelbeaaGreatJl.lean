/- The law of SurfaceShort over data of bounded length. Conditions: none. -/
import Derived.Test.YtnemldklhelbeaaGreatJi
import Derived.Test.YtnemldklhelbeaaGreatJk
set_option linter.unusedVariables false
set_option linter.unusedSimpArgs false
namespace Go.Proofs.YtnemldklhelbeaaGreat
open Go Go.Am Go.Proofs
attribute [local irreducible] Go.Am.wp Go.Am.TOp.eval
abbrev ShL:Sh:=.st [ShG,.str,ShU,ShT,ShRs,.int .i64,ShW,ShI,ShLe]
theorem g13 {ps:D} (hp:HasB 300000000 ShP ps):Holds EE 13 [.agg [ps]] (dB (decide (ps.es.length≤20))):=by
 have i_ps:=isSl_ofB hp
 refine u13 rfl (Goes.step' ?_)
 show wp _ _ _ u13T0 _
 refine bS (d:=.agg [ps]) (sh_chkW rfl) ?_
 refine bS (d:=ps) (sh_fld1 (off:=0) rfl i_ps.one) ?_
 refine bS (d:=dI ((ps.es.length:Nat):Int)) (sh_len i_ps) ?_
 refine bS (d:=dB (decide (((ps.es.length:Nat):Int)≤20))) sk_leq ?_
 refine wp_retTo rfl (congrArg (fun b=>dB b) ?_)
 rw [decide_eq_decide]; omega
end Go.Proofs.YtnemldklhelbeaaGreat
namespace Go.Proofs.YtnemldklhelbeaaGreat
open Go Go.Am Go.Proofs
attribute [local irreducible] Go.Am.wp Go.Am.TOp.eval
def okU:D→Prop
 | .agg [_,s]=>1≤s.es.length∧s.es.length≤3
 | _=>False
abbrev NzI (d:D):Prop:=∃ n:Int,d=dI n∧n≠0
theorem g60 {gs nm us lt x:D} {i:Nat} (hg:HasB 300000000 ShG gs) (hn:HasB 300000000 .str nm) (hu:HasB 300000000 ShU us) (hl:HasB 300000000 ShT lt) (he:us.es[i]? = some x) :
  ∃ n:Int,Holds EE 60 [.agg [gs],.agg [nm,us,lt],dI ((i:Nat):Int)] (dI n)∧(n=0→okU x):=by
 have hi:=(List.getElem?_eq_some_iff.1 he).1
 have i_gs:=isSl_ofB hg
 have i_us:=isSl_ofB hu
 have b_us:=len_leB hu
 have i_lt:=isSl_ofB hl
 obtain ⟨_,rfl,_,_,rfl,⟨s0,rfl,hs0⟩,sg,_,rfl,hsg,rfl⟩:=elem_ofB hu he
 have i_sg:=isSl_ofB hsg
 by_cases hs:1≤sg.es.length∧sg.es.length≤3
 ·
  obtain ⟨_,⟨n,rfl⟩,h⟩:=t60 (a:=.agg [gs]) (b:=.agg [nm,us,lt]) (c:=dI ((i:Nat):Int)) (hb_st (hbs_cons hg hbs_nil)) (hb_st (hbs_cons hn (hbs_cons hu (hbs_cons hl hbs_nil)))) hb_int (by intro n hn; cases hn; omega) (by intro cs x n hcs hx hn; cases hcs; cases hx; cases hn; omega)
  exact ⟨n,h,fun _=>hs⟩
 ·
  obtain ⟨nms,rfl,hns⟩:=hn
  suffices h:∃ d,NzI d∧Goes EE (Holds EE) u60Ts 0 [.agg [gs],.agg [.leaf (.string nms),us,lt],dI ((i:Nat):Int)] d by
   obtain ⟨_,⟨n,rfl,hn0⟩,hgo⟩:=h
   exact ⟨n,u60 rfl hgo,fun h0=>absurd h0 hn0⟩
  obtain ⟨_,⟨r0,rfl⟩,k61⟩:=t61 (a:=.leaf (.string s0)) (hb_str hs0)
  refine goes_R (R:=NzI) ?_
  show wp _ _ _ u60T0 _
  refine bS (d:=.agg [gs]) (sh_chkW rfl) ?_
  refine bS (d:=.agg [.leaf (.string nms),us,lt]) (sh_chkW rfl) ?_
  refine bS (d:=us) (sh_fld1 (off:=1) rfl i_us.one) ?_
  refine bS (d:=dB (true)) (si_inr (s:=((i:Nat):Int)) (by omega) he) ?_
  refine bS (d:=.agg [.leaf (.string s0),sg]) (si_elemW (s:=((i:Nat):Int)) i_us (by omega) he rfl) ?_
  refine bS (d:=.agg [.leaf (.string s0),sg]) (sh_chkW rfl) ?_
  refine bS (d:=.leaf (.string s0)) (sh_fld1 (off:=0) rfl rfl) ?_
  refine cS (d:=dB (r0)) k61 ?_
  refine bS (d:=dB (!(r0))) sh_not ?_
  refine wp_iteC rfl (fun c=>?_) (fun c=>?_)
  ·
   exact wr_ret rfl ⟨3,rfl,by decide⟩
  refine wr_jump rfl (loop_up (P:=fun j=>j≤i→∃ d,NzI d∧Goes EE (Holds EE) u60Ts 1 [dI ((i:Nat):Int),dI ((j:Nat):Int),.agg [gs],.agg [.leaf (.string nms),us,lt],.agg [.leaf (.string s0),sg]] d) i (fun j ih=>?_) 0 (by omega))
  intro hj
  refine goes_R (R:=NzI) ?_
  show wp _ _ _ u60T1 _
  refine bS (d:=dB (decide (((j:Nat):Int) < ((i:Nat):Int)))) sk_lss ?_
  refine wp_iteC rfl (fun d=>?_) (fun d=>?_)
  ·
   have hji:=of_lt d
   obtain ⟨y,e_y⟩:=lt_at (l:=us) (i:=j) (by omega)
   obtain ⟨_,rfl,_,_,rfl,⟨s1,rfl,hs1⟩,sh,_,rfl,hsh,rfl⟩:=elem_ofB hu e_y
   refine bS (d:=us) (sh_fld1 (off:=1) rfl i_us.one) ?_
   refine bS (d:=dB (true)) (si_inr (s:=((j:Nat):Int)) (by omega) e_y) ?_
   refine bS (d:=.leaf (.string s1)) (si_elemP (s:=((j:Nat):Int)) (off:=0) i_us (by omega) e_y rfl rfl (by decide)) ?_
   refine bS (d:=.leaf (.string s0)) (sh_fld1 (off:=0) rfl rfl) ?_
   refine bS (d:=dB (s1 == s0)) sh_strE ?_
   refine wp_iteC rfl (fun f=>?_) (fun f=>?_)
   ·
    exact wr_ret rfl ⟨8,rfl,by decide⟩
   ·
    skip
    refine bS (d:=dI ((j+1:Nat):Int)) (sh_add (cap_bd' (by omega))) ?_
    exact wr_jump rfl (ih hji (by omega))
  ·
   skip
   refine bS (d:=sg) (sh_fld1 (off:=1) rfl i_sg.one) ?_
   refine bS (d:=dI ((sg.es.length:Nat):Int)) (sh_len i_sg) ?_
   refine bS (d:=dB (decide (((sg.es.length:Nat):Int) < 1))) sk_lss ?_
   refine wp_iteC rfl (fun f=>?_) (fun f=>?_)
   ·
    exact wr_ret rfl ⟨19,rfl,by decide⟩
   ·
    have h1:=of_decide_eq_false f
    refine bS (d:=sg) (sh_fld1 (off:=1) rfl i_sg.one) ?_
    refine bS (d:=dI ((sg.es.length:Nat):Int)) (sh_len i_sg) ?_
    refine bS (d:=dB (decide (((sg.es.length:Nat):Int) > 3))) sk_gtr ?_
    refine wp_iteC rfl (fun g=>?_) (fun g=>?_)
    ·
     exact wr_ret rfl ⟨19,rfl,by decide⟩
    ·
     have h2:=of_decide_eq_false g
     omega
theorem g32 {gs nm us lt:D} (hg:HasB 1048576 ShG gs) (hnm:HasB 1048576 .str nm) (hus:HasB 1048576 ShU us) (hlt:HasB 1048576 ShT lt):∃ q:Int,Holds EE 32 [.agg [gs],.agg [nm,us,lt]] (dI q)∧(q=0→∀ x∈us.es,okU x):=by
 by_cases hall:∀ x∈us.es,okU x
 ·
  obtain ⟨q,h⟩:=k32 hg hnm hus hlt
  exact ⟨q,h,fun _=>hall⟩
 have i_us:=isSl_ofB hus
 have b_us:=len_leB hus
 have i_gs:=isSl_ofB hg
 have i_lt:=isSl_ofB hlt
 have hbad:∃ (k:Nat) (x:D),us.es[k]? = some x∧¬ okU x:=by
  false_or_by_contra
  rename_i hno
  refine hall fun x hx=>?_
  obtain ⟨k,hk⟩:=List.getElem?_of_mem hx
  false_or_by_contra
  rename_i hx0
  exact hno ⟨k,x,hk,hx0⟩
 obtain ⟨k,xk,e_k,hk0⟩:=hbad
 have hk:=(List.getElem?_eq_some_iff.1 e_k).1
 have mo:∀ {s:Sh} {d:D},HasB 1048576 s d→HasB 300000000 s d:=fun h=>hasB_mono (by decide) h
 obtain ⟨_,⟨b59,rfl⟩,k59⟩:=t59 (mo hnm)
 have k60:∀ {j:Nat} {x:D},us.es[j]? = some x→∃ n:Int,Holds EE 60 [.agg [gs],.agg [nm,us,lt],dI ((j:Nat):Int)] (dI n)∧(n=0→okU x):=fun e=>g60 (mo hg) (mo hnm) (mo hus) (mo hlt) e
 obtain ⟨nms,rfl,hns⟩:=hnm
 suffices h:∃ d,NzI d∧Goes EE (Holds EE) u32Ts 0 [.agg [gs],.agg [.leaf (.string nms),us,lt]] d by
  obtain ⟨_,⟨n,rfl,hn0⟩,hgo⟩:=h
  exact ⟨n,u32 rfl hgo,fun h0=>absurd h0 hn0⟩
 refine goes_R (R:=NzI) ?_
 show wp _ _ _ u32T0 _
 refine bS (d:=.agg [gs]) (sh_chkW rfl) ?_
 refine bS (d:=.agg [.leaf (.string nms),us,lt]) (sh_chkW rfl) ?_
 refine bS (d:=.leaf (.string nms)) (sh_fld1 (off:=0) rfl rfl) ?_
 refine cS (d:=dB (b59)) k59 ?_
 refine bS (d:=dB (!(b59))) sh_not ?_
 refine wp_iteC rfl (fun c=>?_) (fun c=>?_)
 ·
  exact wr_ret rfl ⟨7,rfl,by decide⟩
 refine bS (d:=us) (sh_fld1 (off:=1) rfl i_us.one) ?_
 refine bS (d:=dI ((us.es.length:Nat):Int)) (sh_len i_us) ?_
 refine bS (d:=dB (decide (((us.es.length:Nat):Int) > 100))) sk_gtr ?_
 refine wp_iteC rfl (fun d=>?_) (fun d=>?_)
 ·
  exact wr_ret rfl ⟨11,rfl,by decide⟩
 refine wr_jump rfl (loop_up (P:=fun j=>j≤k→∃ d,NzI d∧Goes EE (Holds EE) u32Ts 1 [dI ((j:Nat):Int),.agg [gs],.agg [.leaf (.string nms),us,lt]] d) k (fun j ih=>?_) 0 (by omega))
 intro hj
 obtain ⟨y,e_y⟩:=lt_at (l:=us) (i:=j) (by omega)
 obtain ⟨q,hq,hq0⟩:=k60 e_y
 refine goes_R (R:=NzI) ?_
 show wp _ _ _ u32T1 _
 refine bS (d:=us) (sh_fld1 (off:=1) rfl i_us.one) ?_
 refine bS (d:=dI ((us.es.length:Nat):Int)) (sh_len i_us) ?_
 refine bS (d:=dB (decide (((j:Nat):Int) < ((us.es.length:Nat):Int)))) sk_lss ?_
 refine wp_iteC rfl (fun f=>?_) (fun f=>?_)
 ·
  skip
  refine cS (d:=dI (q)) hq ?_
  refine bS (d:=dB (decide (¬ q=0))) sk_neq ?_
  refine wp_iteC rfl (fun g=>?_) (fun g=>?_)
  ·
   exact wr_ret rfl ⟨q,rfl,of_decide_eq_true g⟩
  ·
   have hz:q=0:=Decidable.not_not.1 (of_decide_eq_false g)
   have hjk:j≠k:=by
    rintro rfl
    rw [e_k] at e_y
    cases e_y
    exact hk0 (hq0 hz)
   refine bS (d:=dI ((j+1:Nat):Int)) (sh_add (cap_bd' (by omega))) ?_
   exact wr_jump rfl (ih (by omega) (by omega))
 ·
  have:=of_nlt f; omega
end Go.Proofs.YtnemldklhelbeaaGreat
namespace Go.Proofs.YtnemldklhelbeaaGreat
open Go Go.Am Go.Proofs
attribute [local irreducible] Go.Am.wp Go.Am.TOp.eval
open Classical in
noncomputable def eqI (a b:D):Bool:=decide (a.es=b.es)
open Classical in
theorem eqI_t {a b:D} (h:a.es=b.es):eqI a b=true:=by unfold eqI; exact decide_eq_true h
open Classical in
theorem eqI_f {a b:D} (h:¬ a.es=b.es):eqI a b=false:=by unfold eqI; exact decide_eq_false h
theorem g20 {a b:D} (ha:HasB 300000000 ShI a) (hb:HasB 300000000 ShI b):Holds EE 20 [a,b] (dB (eqI a b)):=by
 have i_a:=isSl_ofB ha
 have b_a:=len_leB ha
 have i_b:=isSl_ofB hb
 refine y20 rfl (Goes.step' ?_)
 show wp _ _ _ y20T0 _
 refine bS (d:=dI ((a.es.length:Nat):Int)) (sh_len i_a) ?_
 refine bS (d:=dI ((b.es.length:Nat):Int)) (sh_len i_b) ?_
 refine bS (d:=dB (decide (¬ ((a.es.length:Nat):Int)=((b.es.length:Nat):Int)))) sk_neq ?_
 refine wp_iteC rfl (fun c=>?_) (fun c=>?_)
 ·
  have hne:¬ ((a.es.length:Nat):Int)=((b.es.length:Nat):Int):=of_decide_eq_true c
  refine wp_retTo rfl (congrArg (fun t=>dB t) ?_)
  exact (eqI_f (fun h=>hne (by rw [h]))).symm
 refine bS (d:=dI ((a.es.length:Nat):Int)) (sh_len i_a) ?_
 have hl:a.es.length=b.es.length:=by have:=Decidable.not_not.1 (of_decide_eq_false c); omega
 refine wp_jumpTo rfl (loop_up (P:=fun i=>i≤a.es.length→(∀ j,j < i→a.es[j]? = b.es[j]?)→Goes EE (Holds EE) y20Ts 1 [a,b,dI ((a.es.length:Nat):Int),dI ((i:Nat):Int)] (dB (eqI a b))) a.es.length (fun i ih=>?_) 0 (by omega) (fun j h=>by omega))
 intro hi hs
 refine Goes.step' ?_
 show wp _ _ _ y20T1 _
 refine bS (d:=dB (decide (((i:Nat):Int) < ((a.es.length:Nat):Int)))) sk_lss ?_
 refine wp_iteC rfl (fun d=>?_) (fun d=>?_)
 ·
  have hia:=of_lt d
  obtain ⟨x,e_x⟩:=lt_at hia
  obtain ⟨y,e_y⟩:=lt_at (l:=b) (i:=i) (by omega)
  obtain ⟨p,rfl⟩:=elem_ofB ha e_x
  obtain ⟨q,rfl⟩:=elem_ofB hb e_y
  refine bS (d:=dB (true)) (si_inr (s:=((i:Nat):Int)) (by omega) e_x) ?_
  refine bS (d:=dI (p)) (si_elem1 (s:=((i:Nat):Int)) i_a (by omega) e_x rfl) ?_
  refine bS (d:=dB (true)) (si_inr (s:=((i:Nat):Int)) (by omega) e_y) ?_
  refine bS (d:=dI (q)) (si_elem1 (s:=((i:Nat):Int)) i_b (by omega) e_y rfl) ?_
  refine bS (d:=dB (decide (¬ p=q))) sk_neq ?_
  refine wp_iteC rfl (fun f=>?_) (fun f=>?_)
  ·
   have hne:¬ p=q:=of_decide_eq_true f
   refine wp_retTo rfl (congrArg (fun t=>dB t) ?_)
   exact (eqI_f (fun h=>hne (by rw [h] at e_x; rw [e_x] at e_y; cases e_y; rfl))).symm
  ·
   have hpq:p=q:=Decidable.not_not.1 (of_decide_eq_false f)
   refine bS (d:=dI ((i+1:Nat):Int)) (sh_add (cap_bd' (by omega))) ?_
   refine wp_jumpTo rfl (ih hia (by omega) (fun j hj=>?_))
   rcases Nat.lt_or_eq_of_le (Nat.le_of_lt_succ hj) with h | rfl
   ·
    exact hs j h
   ·
    rw [e_x,e_y,hpq]
 ·
  have hia:=of_nlt d
  refine wp_retTo rfl (congrArg (fun t=>dB t) ?_)
  refine (eqI_t ?_).symm
  apply List.ext_getElem?
  intro j
  rcases Nat.lt_or_ge j i with h | h
  ·
   exact hs j h
  ·
   rw [List.getElem?_eq_none (by omega),List.getElem?_eq_none (by omega)]
theorem g54 {a b:D} (ha:HasB 300000000 ShI a) (hb:HasB 300000000 ShI b):Holds EE 54 [a,b] (dB (eqI a b)):=by
 have i_a:=isSl_ofB ha
 have b_a:=len_leB ha
 have i_b:=isSl_ofB hb
 refine u54 rfl (Goes.step' ?_)
 show wp _ _ _ u54T0 _
 refine bS (d:=dI ((a.es.length:Nat):Int)) (sh_len i_a) ?_
 refine bS (d:=dI ((b.es.length:Nat):Int)) (sh_len i_b) ?_
 refine bS (d:=dB (decide (¬ ((a.es.length:Nat):Int)=((b.es.length:Nat):Int)))) sk_neq ?_
 refine wp_iteC rfl (fun c=>?_) (fun c=>?_)
 ·
  have hne:¬ ((a.es.length:Nat):Int)=((b.es.length:Nat):Int):=of_decide_eq_true c
  refine wp_retTo rfl (congrArg (fun t=>dB t) ?_)
  exact (eqI_f (fun h=>hne (by rw [h]))).symm
 refine bS (d:=dI ((a.es.length:Nat):Int)) (sh_len i_a) ?_
 have hl:a.es.length=b.es.length:=by have:=Decidable.not_not.1 (of_decide_eq_false c); omega
 refine wp_jumpTo rfl (loop_up (P:=fun i=>i≤a.es.length→(∀ j,j < i→a.es[j]? = b.es[j]?)→Goes EE (Holds EE) u54Ts 1 [a,b,dI ((a.es.length:Nat):Int),dI ((i:Nat):Int)] (dB (eqI a b))) a.es.length (fun i ih=>?_) 0 (by omega) (fun j h=>by omega))
 intro hi hs
 refine Goes.step' ?_
 show wp _ _ _ u54T1 _
 refine bS (d:=dB (decide (((i:Nat):Int) < ((a.es.length:Nat):Int)))) sk_lss ?_
 refine wp_iteC rfl (fun d=>?_) (fun d=>?_)
 ·
  have hia:=of_lt d
  obtain ⟨x,e_x⟩:=lt_at hia
  obtain ⟨y,e_y⟩:=lt_at (l:=b) (i:=i) (by omega)
  obtain ⟨p,rfl⟩:=elem_ofB ha e_x
  obtain ⟨q,rfl⟩:=elem_ofB hb e_y
  refine bS (d:=dB (true)) (si_inr (s:=((i:Nat):Int)) (by omega) e_x) ?_
  refine bS (d:=dI (p)) (si_elem1 (s:=((i:Nat):Int)) i_a (by omega) e_x rfl) ?_
  refine bS (d:=dB (true)) (si_inr (s:=((i:Nat):Int)) (by omega) e_y) ?_
  refine bS (d:=dI (q)) (si_elem1 (s:=((i:Nat):Int)) i_b (by omega) e_y rfl) ?_
  refine bS (d:=dB (decide (¬ p=q))) sk_neq ?_
  refine wp_iteC rfl (fun f=>?_) (fun f=>?_)
  ·
   have hne:¬ p=q:=of_decide_eq_true f
   refine wp_retTo rfl (congrArg (fun t=>dB t) ?_)
   exact (eqI_f (fun h=>hne (by rw [h] at e_x; rw [e_x] at e_y; cases e_y; rfl))).symm
  ·
   have hpq:p=q:=Decidable.not_not.1 (of_decide_eq_false f)
   refine bS (d:=dI ((i+1:Nat):Int)) (sh_add (cap_bd' (by omega))) ?_
   refine wp_jumpTo rfl (ih hia (by omega) (fun j hj=>?_))
   rcases Nat.lt_or_eq_of_le (Nat.le_of_lt_succ hj) with h | rfl
   ·
    exact hs j h
   ·
    rw [e_x,e_y,hpq]
 ·
  have hia:=of_nlt d
  refine wp_retTo rfl (congrArg (fun t=>dB t) ?_)
  refine (eqI_t ?_).symm
  apply List.ext_getElem?
  intro j
  rcases Nat.lt_or_ge j i with h | h
  ·
   exact hs j h
  ·
   rw [List.getElem?_eq_none (by omega),List.getElem?_eq_none (by omega)]
theorem slc_pre {el sz:Nat} {e:Sh} {w:D} {b:Nat} (hw:HasB 300000000 (.sl el sz e) w) (h2:b≤w.es.length):TOp.eval EE (.slc el sz false true) [w,dI ((b:Nat):Int)]=some (slcV w 0 b):=by
 simp only [HasB] at hw
 rcases hw with rfl | ⟨es,rfl,_,_⟩
 ·
  have hb:b=0:=by simpa [D.es] using h2
  subst hb
  rw [ev_slc]; rfl
 ·
  have h2:b≤es.length:=h2
  rw [ev_slc]
  have e1:boundD false 0 [dI ((b:Nat):Int)]=some (0,[dI ((b:Nat):Int)]):=rfl
  have e2:boundD true es.length [dI ((b:Nat):Int)]=some (b,[]):=rfl
  simp only [e1,e2,Nat.beq_refl,Nat.ble_eq_true_of_le (Nat.zero_le b),Nat.ble_eq_true_of_le h2,Bool.and_self,cond_true,slcV]
theorem slc_suf {el sz:Nat} {e:Sh} {w:D} {a:Nat} (hw:HasB 300000000 (.sl el sz e) w) (h2:a≤w.es.length):TOp.eval EE (.slc el sz true false) [w,dI ((a:Nat):Int)]=some (slcV w a w.es.length):=by
 simp only [HasB] at hw
 rcases hw with rfl | ⟨es,rfl,_,_⟩
 ·
  have hb:a=0:=by simpa [D.es] using h2
  subst hb
  rw [ev_slc]; rfl
 ·
  have h2:a≤es.length:=h2
  rw [ev_slc]
  have e1:boundD true 0 [dI ((a:Nat):Int)]=some (a,[]):=rfl
  have e2:boundD false es.length []=some (es.length,[]):=rfl
  have e3:(D.sl el sz es).es=es:=rfl
  simp only [e1,e2,e3,Nat.beq_refl,Nat.ble_eq_true_of_le h2,Nat.ble_eq_true_of_le (Nat.le_refl es.length),Bool.and_self,cond_true,slcV]
theorem g50 {nm us lt w:D} (hn:HasB 300000000 .str nm) (hu:HasB 300000000 ShU us) (hl:HasB 300000000 ShT lt) (hw:HasB 300000000 ShI w) :
  ∃ n:Int,Holds EE 50 [.agg [nm,us,lt],w] (dI n) ∧ -1≤n∧n < (us.es.length:Int):=by
 have i_us:=isSl_ofB hu
 have b_us:=len_leB hu
 have i_lt:=isSl_ofB hl
 have i_w:=isSl_ofB hw
 have b_w:=len_leB hw
 obtain ⟨nms,rfl,hns⟩:=hn
 let R:D→Prop:=fun d=>∃ n:Int,d=dI n ∧ -1≤n∧n < (us.es.length:Int)
 suffices h:∃ d,R d∧Goes EE (Holds EE) u50Ts 0 [.agg [.leaf (.string nms),us,lt],w] d by
  obtain ⟨_,⟨n,rfl,h1,h2⟩,hgo⟩:=h
  exact ⟨n,u50 rfl hgo,h1,h2⟩
 refine goes_R (R:=R) ?_
 show wp _ _ _ u50T0 _
 refine bS (d:=.agg [.leaf (.string nms),us,lt]) (sh_chkW rfl) ?_
 refine bS (d:=us) (sh_fld1 (off:=1) rfl i_us.one) ?_
 refine bS (d:=dI ((us.es.length:Nat):Int)) (sh_len i_us) ?_
 refine wr_jump rfl (loop_up (P:=fun i=>i≤us.es.length→∀ n:Int,-1≤n→n < (us.es.length:Int)→∃ d,R d∧Goes EE (Holds EE) u50Ts 1 [w,dI n,us,dI ((us.es.length:Nat):Int),dI ((i:Nat):Int),.agg [.leaf (.string nms),us,lt]] d) us.es.length (fun i ih=>?_) 0 (by omega) (-1) (by omega) (by omega))
 intro hi n h1 h2
 refine goes_R (R:=R) ?_
 show wp _ _ _ u50T1 _
 refine bS (d:=dB (decide (((i:Nat):Int) < ((us.es.length:Nat):Int)))) sk_lss ?_
 refine wp_iteC rfl (fun d=>?_) (fun d=>?_)
 ·
  have hia:=of_lt d
  obtain ⟨x,e_x⟩:=lt_at hia
  obtain ⟨_,rfl,_,_,rfl,⟨s1,rfl,hs1⟩,sg,_,rfl,hsg,rfl⟩:=elem_ofB hu e_x
  have i_sg:=isSl_ofB hsg
  refine bS (d:=dB (true)) (si_inr (s:=((i:Nat):Int)) (by omega) e_x) ?_
  refine bS (d:=.agg [.leaf (.string s1),sg]) (si_elemW (s:=((i:Nat):Int)) i_us (by omega) e_x rfl) ?_
  refine bS (d:=.agg [.leaf (.string s1),sg]) (sh_chkW rfl) ?_
  refine bS (d:=sg) (sh_fld1 (off:=1) rfl i_sg.one) ?_
  refine bS (d:=dI ((sg.es.length:Nat):Int)) (sh_len i_sg) ?_
  refine bS (d:=dI ((w.es.length:Nat):Int)) (sh_len i_w) ?_
  refine bS (d:=dB (decide (((sg.es.length:Nat):Int) > ((w.es.length:Nat):Int)))) sk_gtr ?_
  refine wp_iteC rfl (fun f=>?_) (fun f=>?_)
  ·
   skip
   refine bS (d:=dI ((i+1:Nat):Int)) (sh_add (cap_bd' (by omega))) ?_
   exact wr_jump rfl (ih hia (by omega) n h1 h2)
  ·
   have hle:sg.es.length≤w.es.length:=by have:=of_decide_eq_false f; omega
   have hv:=slc_hb (a:=0) (b:=sg.es.length) hw
   have i_v:=isSl_ofB hv
   have k54:=g54 hsg hv
   refine bS (d:=sg) (sh_fld1 (off:=1) rfl i_sg.one) ?_
   refine bS (d:=sg) (sh_fld1 (off:=1) rfl i_sg.one) ?_
   refine bS (d:=dI ((sg.es.length:Nat):Int)) (sh_len i_sg) ?_
   refine bS (d:=slcV w 0 sg.es.length) (slc_pre hw hle) ?_
   refine cS (d:=dB (eqI sg (slcV w 0 sg.es.length))) k54 ?_
   refine bS (d:=dB (!(eqI sg (slcV w 0 sg.es.length)))) sh_not ?_
   refine wp_iteC rfl (fun g=>?_) (fun g=>?_)
   ·
    skip
    refine bS (d:=dI ((i+1:Nat):Int)) (sh_add (cap_bd' (by omega))) ?_
    exact wr_jump rfl (ih hia (by omega) n h1 h2)
   ·
    skip
    refine bS (d:=dB (decide (n < 0))) sk_lss ?_
    refine wp_iteC rfl (fun k=>?_) (fun k=>?_)
    ·
     skip
     refine bS (d:=dI ((i+1:Nat):Int)) (sh_add (cap_bd' (by omega))) ?_
     exact wr_jump rfl (ih hia (by omega) ((i:Nat):Int) (by omega) (by omega))
    ·
     have hn0:0≤n:=by have:=of_decide_eq_false k; omega
     obtain ⟨y,e_y⟩:=lt_at (l:=us) (i:=n.toNat) (by omega)
     obtain ⟨_,rfl,_,_,rfl,⟨s2,rfl,hs2⟩,sh,_,rfl,hsh,rfl⟩:=elem_ofB hu e_y
     have i_sh:=isSl_ofB hsh
     refine bS (d:=sg) (sh_fld1 (off:=1) rfl i_sg.one) ?_
     refine bS (d:=dI ((sg.es.length:Nat):Int)) (sh_len i_sg) ?_
     refine bS (d:=us) (sh_fld1 (off:=1) rfl i_us.one) ?_
     refine bS (d:=dB (true)) (si_inr (s:=n) (by omega) e_y) ?_
     refine bS (d:=sh) (si_elemP (s:=n) (off:=1) i_us (by omega) e_y rfl i_sh.one (by decide)) ?_
     refine bS (d:=dI ((sh.es.length:Nat):Int)) (sh_len i_sh) ?_
     refine bS (d:=dB (decide (((sg.es.length:Nat):Int) > ((sh.es.length:Nat):Int)))) sk_gtr ?_
     refine wp_iteC rfl (fun l=>?_) (fun l=>?_)
     ·
      skip
      refine bS (d:=dI ((i+1:Nat):Int)) (sh_add (cap_bd' (by omega))) ?_
      exact wr_jump rfl (ih hia (by omega) ((i:Nat):Int) (by omega) (by omega))
     ·
      skip
      refine bS (d:=dI ((i+1:Nat):Int)) (sh_add (cap_bd' (by omega))) ?_
      exact wr_jump rfl (ih hia (by omega) n h1 h2)
 ·
  exact wr_ret rfl ⟨n,rfl,h1,h2⟩
abbrev byD (b:UInt8):D:=.leaf (.int .u8 b.toNat)
def bufD:List UInt8→D
 | []=>.nil
 | l=>.sl 5 1 (l.map byD)
theorem buf_es (l:List UInt8):(bufD l).es=l.map byD:=by cases l <;> rfl
theorem buf_ok5 (l:List UInt8):bufOk 5 (bufD l)=true:=by cases l <;> rfl
theorem bytes_of:∀ l:List UInt8,bytesD (l.map byD)=some l
 | []=>rfl
 | b::l=>by
  show bytesD (byD b::l.map byD)=_
  simp only [bytesD,bytes_of l,Option.map_some]
  have:UInt8.ofNat (Int.toNat (b.toNat:Int))=b:=by simp
  first | rw [this] | simp
theorem apps_ev {l:List UInt8} {s:ByteArray} (h:l.length+s.size≤1000000000):TOp.eval EE (.apps 5 1) [bufD l,.leaf (.string s)]=some (bufD (l++s.data.toList)):=by
 have hs:s.data.toList.length=s.size:=by rw [Array.length_toList]; rfl
 rw [ev_apps,buf_es,List.length_map,buf_ok5]
 have hle:Nat.ble (Nat.mul (Nat.add (Nat.mul 4 (Nat.add l.length s.data.toList.length)) 4000) (Nat.succ 1)) 100000000000=true:=by
  apply Nat.ble_eq_true_of_le
  show (4 * (l.length+s.data.toList.length)+4000) * (1+1)≤_
  omega
 simp only [hle,Bool.and_self,cond_true]
 cases hd:s.data.toList with
 | nil=>simp
 | cons b r =>
  have:bufD (l++b::r)=.sl 5 1 ((l++b::r).map byD):=by cases l <;> rfl
  rw [this,List.map_append]
  rfl
theorem bld_ev {l:List UInt8} (h:l.length≤1000000000):TOp.eval EE (.bld 5) [bufD l]=some (.leaf (.string ⟨⟨l⟩⟩)):=by
 rw [ev_bld]
 cases l with
 | nil=>rfl
 | cons b r =>
  have h1:Nat.ble 1 ((b::r).map byD).length=true:=by rw [List.length_map]; exact Nat.ble_eq_true_of_le (by simp)
  have h2:Nat.ble ((b::r).map byD).length 1000000000=true:=by rw [List.length_map]; exact Nat.ble_eq_true_of_le h
  show (bif Nat.beq 5 5 && Nat.beq 1 1 && Nat.ble 1 ((b::r).map byD).length && Nat.ble ((b::r).map byD).length 1000000000 then (bytesD ((b::r).map byD)).map _ else none)=_
  rw [h1,h2,bytes_of]
  rfl
end Go.Proofs.YtnemldklhelbeaaGreat
namespace Go.Proofs.YtnemldklhelbeaaGreat
open Go Go.Am Go.Proofs
attribute [local irreducible] Go.Am.wp Go.Am.TOp.eval
abbrev RSp (d:D):Prop:=∃ (s:ByteArray) (p e:Int),d=.tup [.leaf (.string s),dI p,dI e]∧s.size≤25165824
theorem g25 {nm us lt w:D} (hn:HasB 1048576 .str nm) (hu:HasB 1048576 ShU us) (hl:HasB 1048576 ShT lt) (hw:HasB 300000000 ShI w) (hok:∀ x∈us.es,okU x) :
  ∃ (s:ByteArray) (p e:Int),Holds EE 25 [.agg [nm,us,lt],w] (.tup [.leaf (.string s),dI p,dI e])∧s.size≤25165824:=by
 have mo:∀ {s:Sh} {d:D},HasB 1048576 s d→HasB 300000000 s d:=fun h=>hasB_mono (by decide) h
 have k50:∀ {v:D},HasB 300000000 ShI v→∃ n:Int,Holds EE 50 [.agg [nm,us,lt],v] (dI n) ∧ -1≤n∧n < (us.es.length:Int):=fun hv=>g50 (mo hn) (mo hu) (mo hl) hv
 have i_us:=isSl_ofB hu
 have b_us:=len_leB hu
 have i_lt:=isSl_ofB hl
 have i_w:=isSl_ofB hw
 have b_w:=len_leB hw
 obtain ⟨nms,rfl,hns⟩:=hn
 suffices h:∃ d,RSp d∧Goes EE (Holds EE) u25Ts 0 [.agg [.leaf (.string nms),us,lt],w] d by
  obtain ⟨_,⟨s,p,e,rfl,h1⟩,hgo⟩:=h
  exact ⟨s,p,e,u25 rfl hgo,h1⟩
 have main:∀ m,m≤24→∀ (i:Nat) (l:List UInt8),w.es.length≤i+m→i≤(24 - m) * 1048576→l.length≤(24 - m) * 1048576→∃ d,RSp d∧Goes EE (Holds EE) u25Ts 1 [w,dI ((i:Nat):Int),.agg [.leaf (.string nms),us,lt],bufD l] d:=by
  intro m
  induction m with
  | zero =>
   intro _ i l h1 h2 h3
   refine goes_R (R:=RSp) ?_
   show wp _ _ _ u25T1 _
   refine bS (d:=dI ((w.es.length:Nat):Int)) (sh_len i_w) ?_
   refine bS (d:=dB (decide (((i:Nat):Int) < ((w.es.length:Nat):Int)))) sk_lss ?_
   refine wp_iteC rfl (fun d=>?_) (fun d=>?_)
   ·
    have:=of_lt d
    omega
   ·
    skip
    refine bS (d:=.leaf (.string ⟨⟨l⟩⟩)) (bld_ev (by omega)) ?_
    exact wr_ret rfl ⟨_,_,_,rfl,by show l.length≤_; omega⟩
  | succ m ih =>
   intro hm i l h1 h2 h3
   refine goes_R (R:=RSp) ?_
   show wp _ _ _ u25T1 _
   refine bS (d:=dI ((w.es.length:Nat):Int)) (sh_len i_w) ?_
   refine bS (d:=dB (decide (((i:Nat):Int) < ((w.es.length:Nat):Int)))) sk_lss ?_
   refine wp_iteC rfl (fun d=>?_) (fun d=>?_)
   ·
    have hiw:=of_lt d
    have hv:=slc_hb (a:=i) (b:=w.es.length) hw
    have i_v:=isSl_ofB hv
    obtain ⟨n,kn,n1,n2⟩:=k50 hv
    refine bS (d:=slcV w i w.es.length) (slc_suf hw (by omega)) ?_
    refine cS (d:=dI (n)) kn ?_
    refine bS (d:=dB (decide (n < 0))) sk_lss ?_
    refine wp_iteC rfl (fun f=>?_) (fun f=>?_)
    ·
     exact wr_ret rfl ⟨_,_,_,rfl,by decide⟩
    ·
     have hn0:0≤n:=by have:=of_decide_eq_false f; omega
     obtain ⟨y,e_y⟩:=lt_at (l:=us) (i:=n.toNat) (by omega)
     have hy:=hok y (List.mem_of_getElem? e_y)
     obtain ⟨_,rfl,_,_,rfl,⟨s1,rfl,hs1⟩,sh,_,rfl,hsh,rfl⟩:=elem_ofB hu e_y
     have i_sh:=isSl_ofB hsh
     have b_sh:=len_leB hsh
     have hy:1≤sh.es.length∧sh.es.length≤3:=hy
     have hsz:s1.data.toList.length=s1.size:=by rw [Array.length_toList]; rfl
     refine bS (d:=us) (sh_fld1 (off:=1) rfl i_us.one) ?_
     refine bS (d:=dB (true)) (si_inr (s:=n) (by omega) e_y) ?_
     refine bS (d:=.leaf (.string s1)) (si_elemP (s:=n) (off:=0) i_us (by omega) e_y rfl rfl (by decide)) ?_
     refine bS (d:=dI ((s1.size:Int))) ss_len ?_
     refine bS (d:=bufD (l++s1.data.toList)) (apps_ev (by omega)) ?_
     refine bS (d:=us) (sh_fld1 (off:=1) rfl i_us.one) ?_
     refine bS (d:=dB (true)) (si_inr (s:=n) (by omega) e_y) ?_
     refine bS (d:=sh) (si_elemP (s:=n) (off:=1) i_us (by omega) e_y rfl i_sh.one (by decide)) ?_
     refine bS (d:=dI ((sh.es.length:Nat):Int)) (sh_len i_sh) ?_
     refine bS (d:=dI (((i:Nat):Int)+((sh.es.length:Nat):Int))) (si_add (by omega)) ?_
     exact wr_jump rfl (ih (by omega) (i+sh.es.length) (l++s1.data.toList) (by omega) (by omega) (by rw [List.length_append]; omega))
   ·
    skip
    refine bS (d:=.leaf (.string ⟨⟨l⟩⟩)) (bld_ev (by omega)) ?_
    exact wr_ret rfl ⟨_,_,_,rfl,by show l.length≤_; omega⟩
 refine goes_R (R:=RSp) ?_
 show wp _ _ _ u25T0 _
 refine bS (d:=.agg [.leaf (.string nms),us,lt]) (sh_chkW rfl) ?_
 refine bS (d:=dI ((w.es.length:Nat):Int)) (sh_len i_w) ?_
 refine bS (d:=dB (decide (((w.es.length:Nat):Int)=0))) sk_eql ?_
 refine wp_iteC rfl (fun c=>?_) (fun c=>?_)
 ·
  exact wr_ret rfl ⟨_,_,_,rfl,by decide⟩
 refine bS (d:=dI ((w.es.length:Nat):Int)) (sh_len i_w) ?_
 refine bS (d:=dB (decide (((w.es.length:Nat):Int) > 24))) sk_gtr ?_
 refine wp_iteC rfl (fun d=>?_) (fun d=>?_)
 ·
  exact wr_ret rfl ⟨_,_,_,rfl,by decide⟩
 ·
  have hw24:w.es.length≤24:=by have:=of_decide_eq_false d; omega
  exact wr_jump rfl (main w.es.length hw24 0 [] (by omega) (by omega) (by simp))
end Go.Proofs.YtnemldklhelbeaaGreat
namespace Go.Proofs.YtnemldklhelbeaaGreat
open Go Go.Am Go.Proofs
attribute [local irreducible] Go.Am.wp Go.Am.TOp.eval
theorem mx_ev (m n:Int):∃ q:Int,TOp.eval EE (.mm true) [dI m,dI n]=some (dI q)∧(q=m∨q=n):=by
 refine ⟨if m < n then n else m,?_,by split <;> simp⟩
 rw [ev_mm]; rfl
theorem mn_ev (m n:Int):∃ q:Int,TOp.eval EE (.mm false) [dI m,dI n]=some (dI q)∧q≤m∧q≤n∧(q=m∨q=n):=by
 refine ⟨if n < m then n else m,?_,by split <;> omega,by split <;> omega,by split <;> simp⟩
 rw [ev_mm]; rfl
theorem sub_ev {s:ByteArray} {a b:Nat} (h1:a≤b) (h2:b≤s.size):TOp.eval EE (.sub true true) [.leaf (.string s),dI ((a:Nat):Int),dI ((b:Nat):Int)]=some (.leaf (.string (s.extract a b))):=by
 rw [ev_sub]
 have e1:boundD true 0 [dI ((a:Nat):Int),dI ((b:Nat):Int)]=some (a,[dI ((b:Nat):Int)]):=rfl
 have e2:boundD true s.size [dI ((b:Nat):Int)]=some (b,[]):=rfl
 simp only [e1,e2,Nat.ble_eq_true_of_le h1,Nat.ble_eq_true_of_le h2,Bool.and_self,cond_true]
theorem sb1 {t:TypeId} {x y:Operand} {p:Nat} (h:p < 1000000000):TOp.eval EE (.bin .sub t x y) [dI ((p+1:Nat):Int),dI 1]=some (dI ((p:Nat):Int)):=by
 have:((p+1:Nat):Int) - 1=((p:Nat):Int):=by omega
 rw [← this]
 exact si_sub (by omega)
abbrev IxL (N:Nat) (ls:List D):Prop:=∀ y∈ls,∃ j:Nat,y=dI ((j:Nat):Int)∧j < N
abbrev RUn (N M:Nat) (d:D):Prop:=∃ (ls:List D) (k:Int),d=.tup [mkOut 3 1 ls,dI k]∧ls.length≤M∧IxL N ls
theorem g53 {nm us lt:D} {tx:ByteArray} (hn:HasB 300000000 .str nm) (hu:HasB 300000000 ShU us) (hl:HasB 300000000 ShT lt) (ht:tx.size≤25165824) :
  ∃ (ls:List D) (k:Int),Holds EE 53 [.agg [nm,us,lt],.leaf (.string tx)] (.tup [mkOut 3 1 ls,dI k])∧ls.length≤25165824∧IxL us.es.length ls:=by
 have i_us:=isSl_ofB hu
 have b_us:=len_leB hu
 have i_lt:=isSl_ofB hl
 obtain ⟨nms,rfl,hns⟩:=hn
 suffices h:∃ d,RUn us.es.length 25165824 d∧Goes EE (Holds EE) u53Ts 0 [.agg [.leaf (.string nms),us,lt],.leaf (.string tx)] d by
  obtain ⟨_,⟨ls,k,rfl,h1,h2⟩,hgo⟩:=h
  exact ⟨ls,k,u53 rfl hgo,h1,h2⟩
 have m2:∀ (n:Int),0≤n→n≤300000000→∀ m at_ (ls:List D),at_≤tx.size→tx.size≤at_+m→ls.length≤at_→IxL us.es.length ls →
   ∃ d,RUn us.es.length 25165824 d∧Goes EE (Holds EE) u53Ts 2 [.leaf (.string tx),dI n,mkOut 3 1 ls,dI ((at_:Nat):Int),.agg [.leaf (.string nms),us,lt]] d:=by
  intro n n0 n1 m
  induction m with
  | zero =>
   intro a ls h1 h2 h3 h4
   have hb:HasB 300000000 ShI (mkOut 3 1 ls):=mkOut_hb (by omega) (fun y hy=>by obtain ⟨j,rfl,_⟩:=h4 y hy; exact ⟨_,rfl⟩)
   have i_o:=isSl_ofB hb
   refine goes_R (R:=RUn us.es.length 25165824) ?_
   show wp _ _ _ u53T2 _
   refine bS (d:=dI ((tx.size:Int))) ss_len ?_
   refine bS (d:=dB (decide (((a:Nat):Int) < (tx.size:Int)))) sk_lss ?_
   refine wp_iteC rfl (fun c=>?_) (fun c=>?_)
   ·
    have:=of_decide_eq_true c
    omega
   ·
    exact wr_ret rfl ⟨ls,_,rfl,by omega,h4⟩
  | succ m ih2 =>
   intro a ls h1 h2 h3 h4
   have hb:HasB 300000000 ShI (mkOut 3 1 ls):=mkOut_hb (by omega) (fun y hy=>by obtain ⟨j,rfl,_⟩:=h4 y hy; exact ⟨_,rfl⟩)
   have i_o:=isSl_ofB hb
   have m3:∀ p:Nat,p+a≤tx.size→∃ d,RUn us.es.length 25165824 d∧Goes EE (Holds EE) u53Ts 3 [.leaf (.string tx),dI n,mkOut 3 1 ls,dI ((a:Nat):Int),dI ((p:Nat):Int),.agg [.leaf (.string nms),us,lt]] d:=by
    intro p
    induction p with
    | zero =>
     intro _
     refine goes_R (R:=RUn us.es.length 25165824) ?_
     show wp _ _ _ u53T3 _
     refine bS (d:=dB (decide (((0:Nat):Int) > 0))) sk_gtr ?_
     refine wp_iteC rfl (fun c=>?_) (fun c=>?_)
     ·
      have:=of_decide_eq_true c
      omega
     ·
      exact wr_ret rfl ⟨ls,_,rfl,by omega,h4⟩
    | succ p ih3 =>
     intro hp
     refine goes_R (R:=RUn us.es.length 25165824) ?_
     show wp _ _ _ u53T3 _
     refine bS (d:=dB (decide (((p+1:Nat):Int) > 0))) sk_gtr ?_
     refine wp_iteC rfl (fun c=>?_) (fun c=>?_)
     ·
      skip
      refine bS (d:=us) (sh_fld1 (off:=1) rfl i_us.one) ?_
      refine bS (d:=dI ((us.es.length:Nat):Int)) (sh_len i_us) ?_
      refine wr_jump rfl (loop_up (P:=fun i=>i≤us.es.length→∃ d,RUn us.es.length 25165824 d∧Goes EE (Holds EE) u53Ts 4 [.leaf (.string tx),dI n,mkOut 3 1 ls,dI ((a:Nat):Int),dI ((p+1:Nat):Int),us,dI ((us.es.length:Nat):Int),dI ((i:Nat):Int),.agg [.leaf (.string nms),us,lt]] d) us.es.length (fun i ih4=>?_) 0 (by omega))
      intro hi
      refine goes_R (R:=RUn us.es.length 25165824) ?_
      show wp _ _ _ u53T4 _
      refine bS (d:=dB (decide (((i:Nat):Int) < ((us.es.length:Nat):Int)))) sk_lss ?_
      refine wp_iteC rfl (fun d=>?_) (fun d=>?_)
      ·
       have hia:=of_lt d
       obtain ⟨x,e_x⟩:=lt_at hia
       obtain ⟨_,rfl,_,_,rfl,⟨s1,rfl,hs1⟩,sh,_,rfl,hsh,rfl⟩:=elem_ofB hu e_x
       have i_sh:=isSl_ofB hsh
       refine bS (d:=dB (true)) (si_inr (s:=((i:Nat):Int)) (by omega) e_x) ?_
       refine bS (d:=.agg [.leaf (.string s1),sh]) (si_elemW (s:=((i:Nat):Int)) i_us (by omega) e_x rfl) ?_
       refine bS (d:=.agg [.leaf (.string s1),sh]) (sh_chkW rfl) ?_
       refine bS (d:=.leaf (.string s1)) (sh_fld1 (off:=0) rfl rfl) ?_
       refine bS (d:=dI (((a:Nat):Int)+((p+1:Nat):Int))) (si_add (by omega)) ?_
       refine bS (d:=.leaf (.string (tx.extract a (a+(p+1))))) (sub_ev (a:=a) (b:=a+(p+1)) (by omega) (by omega)) ?_
       refine bS (d:=dB (s1 == tx.extract a (a+(p+1)))) sh_strE ?_
       refine wp_iteC rfl (fun f=>?_) (fun f=>?_)
       ·
        skip
        refine bS (d:=dI ((i:Nat):Int)) (sh_chk1 rfl) ?_
        refine bS (d:=.sl 3 1 [dI ((i:Nat):Int)]) (lit_one rfl) ?_
        refine bS (d:=mkOut 3 1 (ls++[dI ((i:Nat):Int)])) (app_push (by omega)) ?_
        refine bS (d:=dI (((a:Nat):Int)+((p+1:Nat):Int))) (si_add (by omega)) ?_
        refine wr_jump rfl (ih2 (a+(p+1)) (ls++[dI ((i:Nat):Int)]) (by omega) (by omega) (by rw [List.length_append]; show _+1≤_; omega) (fun y hy=>?_))
        rcases List.mem_append.1 hy with hy | hy
        ·
         exact h4 y hy
        ·
         rw [List.mem_singleton] at hy
         exact ⟨i,hy,hia⟩
       ·
        skip
        refine bS (d:=dI ((i+1:Nat):Int)) (sh_add (cap_bd' (by omega))) ?_
        exact wr_jump rfl (ih4 hia (by omega))
      ·
       skip
       refine bS (d:=dI ((p:Nat):Int)) (sb1 (by omega)) ?_
       exact wr_jump rfl (ih3 (by omega))
     ·
      have:=of_decide_eq_false c
      omega
   refine goes_R (R:=RUn us.es.length 25165824) ?_
   show wp _ _ _ u53T2 _
   refine bS (d:=dI ((tx.size:Int))) ss_len ?_
   refine bS (d:=dB (decide (((a:Nat):Int) < (tx.size:Int)))) sk_lss ?_
   refine wp_iteC rfl (fun c=>?_) (fun c=>?_)
   ·
    have hlt:((a:Nat):Int) < (tx.size:Int):=of_decide_eq_true c
    obtain ⟨q,hq,q1,q2,q3⟩:=mn_ev n ((tx.size:Int) - ((a:Nat):Int))
    obtain ⟨p,rfl⟩:∃ p:Nat,q=((p:Nat):Int):=⟨q.toNat,by omega⟩
    refine bS (d:=dI ((tx.size:Int))) ss_len ?_
    refine bS (d:=dI ((tx.size:Int) - ((a:Nat):Int))) (si_sub (by omega)) ?_
    refine bS (d:=dI ((p:Nat):Int)) hq ?_
    exact wr_jump rfl (m3 p (by omega))
   ·
    exact wr_ret rfl ⟨ls,_,rfl,by omega,h4⟩
 refine goes_R (R:=RUn us.es.length 25165824) ?_
 show wp _ _ _ u53T0 _
 refine bS (d:=.agg [.leaf (.string nms),us,lt]) (sh_chkW rfl) ?_
 refine bS (d:=us) (sh_fld1 (off:=1) rfl i_us.one) ?_
 refine bS (d:=dI ((us.es.length:Nat):Int)) (sh_len i_us) ?_
 refine wr_jump rfl (loop_up (P:=fun i=>i≤us.es.length→∀ n:Int,0≤n→n≤300000000→∃ d,RUn us.es.length 25165824 d∧Goes EE (Holds EE) u53Ts 1 [.leaf (.string tx),dI n,us,dI ((us.es.length:Nat):Int),dI ((i:Nat):Int),.agg [.leaf (.string nms),us,lt]] d) us.es.length (fun i ih=>?_) 0 (by omega) 0 (by omega) (by omega))
 intro hi n h1 h2
 refine goes_R (R:=RUn us.es.length 25165824) ?_
 show wp _ _ _ u53T1 _
 refine bS (d:=dB (decide (((i:Nat):Int) < ((us.es.length:Nat):Int)))) sk_lss ?_
 refine wp_iteC rfl (fun d=>?_) (fun d=>?_)
 ·
  have hia:=of_lt d
  obtain ⟨x,e_x⟩:=lt_at hia
  obtain ⟨_,rfl,_,_,rfl,⟨s1,rfl,hs1⟩,sg,_,rfl,hsg,rfl⟩:=elem_ofB hu e_x
  have i_sg:=isSl_ofB hsg
  obtain ⟨q,hq,q1⟩:=mx_ev n (s1.size:Int)
  refine bS (d:=dB (true)) (si_inr (s:=((i:Nat):Int)) (by omega) e_x) ?_
  refine bS (d:=.agg [.leaf (.string s1),sg]) (si_elemW (s:=((i:Nat):Int)) i_us (by omega) e_x rfl) ?_
  refine bS (d:=.agg [.leaf (.string s1),sg]) (sh_chkW rfl) ?_
  refine bS (d:=.leaf (.string s1)) (sh_fld1 (off:=0) rfl rfl) ?_
  refine bS (d:=dI ((s1.size:Int))) ss_len ?_
  refine bS (d:=dI (q)) hq ?_
  refine bS (d:=dI ((i+1:Nat):Int)) (sh_add (cap_bd' (by omega))) ?_
  exact wr_jump rfl (ih hia (by omega) q (by omega) (by omega))
 ·
  exact wr_jump rfl (m2 n h1 h2 tx.size 0 [] (by omega) (by omega) (by simp) (fun y hy=>by cases hy))
end Go.Proofs.YtnemldklhelbeaaGreat
