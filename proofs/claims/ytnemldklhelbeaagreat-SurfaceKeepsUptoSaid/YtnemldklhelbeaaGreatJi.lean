/- What Light says of the rules; the law of SurfaceShort over data of bounded length. Conditions: none. -/
import Derived.Test.YtnemldklhelbeaaGreatJg
import Derived.Test.YtnemldklhelbeaaGreatJe
import Derived.Test.YtnemldklhelbeaaGreatJw
set_option linter.unusedVariables false
set_option linter.unusedSimpArgs false
namespace Go.Proofs.YtnemldklhelbeaaGreat
open Go Go.Am Go.Proofs Go.Am.Tt
attribute [local irreducible] Go.Am.wp Go.Am.TOp.eval
theorem tot1 {f:FuncId} {S:Tt.Spec} (h:SpOk (Holds EE) f S) (hr:S.rs=[.int .i64]) (hp:S.pre=[]) (hb:Sn.leasts 1048576 S.ss=true) {ds:List D} (hd:HasBs 1048576 (Sn.shs S.ss) ds):∃ n:Int,Holds EE f ds (dI n):=by
 obtain ⟨rs,h1,_,h2⟩:=h ds (hasBs_least hb hd) (by rw [hp]; intro q hq; cases hq)
 rw [hr] at h1
 simp only [HasNs,HasN] at h1
 obtain ⟨d,_,rfl,⟨n,rfl⟩,rfl⟩:=h1
 exact ⟨n,h2⟩
theorem totB {f:FuncId} {S:Tt.Spec} (h:SpOk (Holds EE) f S) (hr:S.rs=[.bool]) (hp:S.pre=[]) (hb:Sn.leasts 1048576 S.ss=true) {ds:List D} (hd:HasBs 1048576 (Sn.shs S.ss) ds):∃ b:Bool,Holds EE f ds (dB b):=by
 obtain ⟨rs,h1,_,h2⟩:=h ds (hasBs_least hb hd) (by rw [hp]; intro q hq; cases hq)
 rw [hr] at h1
 simp only [HasNs,HasN] at h1
 obtain ⟨d,_,rfl,⟨n,rfl⟩,rfl⟩:=h1
 exact ⟨n,h2⟩
abbrev hbs1 {s:Sh} {d:D} (h:HasB 1048576 s d):HasBs 1048576 [s] [d]:=hbs_cons h hbs_nil
abbrev hbs2 {s t:Sh} {d e:D} (h:HasB 1048576 s d) (k:HasB 1048576 t e):HasBs 1048576 [s,t] [d,e]:=hbs_cons h (hbs_cons k hbs_nil)
abbrev ShLe:Sh:=.sl 59 8 ShE
abbrev ShRs:Sh:=.sl 77 6 ShR
theorem g63 {gs fr to lf rg:D} {bg en:Bool} (hg:HasB 1048576 ShG gs) (hfr:HasB 1048576 ShI fr) (hto:HasB 1048576 ShI to) (hlf:HasB 1048576 ShK lf) (hrg:HasB 1048576 ShK rg) :
  ∃ n:Int,Holds EE 63 [.agg [gs],.agg [fr,to,lf,rg,dB bg,dB en]] (dI n)∧(n=0→to.es.length=fr.es.length):=by
 by_cases hl:to.es.length=fr.es.length
 ·
  obtain ⟨n,h⟩:=tot1 (sp_of tabC' (f:=63) (S:=e63.S) (by kernel_rfl)) rfl rfl (by decide) (ds:=[.agg [gs],.agg [fr,to,lf,rg,dB bg,dB en]])
   (hbs2 (hb_st (hbs_cons hg hbs_nil)) (hb_st (hbs_cons hfr (hbs_cons hto (hbs_cons hlf (hbs_cons hrg (hbs_cons hb_bool (hbs_cons hb_bool hbs_nil))))))))
  exact ⟨n,h,fun _=>hl⟩
 ·
  refine ⟨1,?_,fun h=>by cases h⟩
  have i_fr:=isSl_ofB hfr
  have i_to:=isSl_ofB hto
  refine u63 rfl (Goes.step' ?_)
  show wp _ _ _ u63T0 _
  refine bS (d:=.agg [gs]) (sh_chkW rfl) ?_
  refine bS (d:=.agg [fr,to,lf,rg,dB (bg),dB (en)]) (sh_chkW rfl) ?_
  refine bS (d:=fr) (sh_fld1 (off:=0) rfl i_fr.one) ?_
  refine bS (d:=dI ((fr.es.length:Nat):Int)) (sh_len i_fr) ?_
  refine bS (d:=dB (decide (((fr.es.length:Nat):Int)=0))) sk_eql ?_
  refine wp_iteC rfl (fun c=>?_) (fun c=>?_)
  ·
   exact wp_retTo rfl rfl
  refine bS (d:=to) (sh_fld1 (off:=1) rfl i_to.one) ?_
  refine bS (d:=dI ((to.es.length:Nat):Int)) (sh_len i_to) ?_
  refine bS (d:=fr) (sh_fld1 (off:=0) rfl i_fr.one) ?_
  refine bS (d:=dI ((fr.es.length:Nat):Int)) (sh_len i_fr) ?_
  refine bS (d:=dB (decide (¬ ((to.es.length:Nat):Int)=((fr.es.length:Nat):Int)))) sk_neq ?_
  refine wp_iteC rfl (fun d=>?_) (fun d=>?_)
  ·
   exact wp_retTo rfl rfl
  ·
   have:=of_decide_eq_false d
   omega
theorem g33 {gs nm us lt rs n ws fs l:D} (hg:HasB 1048576 ShG gs) (hr:HasB 1048576 ShRs rs) :
  ∃ e:Int,Holds EE 33 [.agg [gs,nm,us,lt,rs,n,ws,fs,l]] (dI e)∧(e=0→∀ r∈rs.es,okR r):=by
 have i_rs:=isSl_ofB hr
 have b_rs:=len_leB hr
 have hloop:∃ e:Int,Goes EE (Holds EE) u33Ts 1 [dI ((0:Nat):Int),.agg [gs,nm,us,lt,rs,n,ws,fs,l]] (dI e)∧(e=0→∀ r∈rs.es.drop 0,okR r):=by
  refine loop_dn (P:=fun i=>∃ e:Int,Goes EE (Holds EE) u33Ts 1 [dI ((i:Nat):Int),.agg [gs,nm,us,lt,rs,n,ws,fs,l]] (dI e)∧(e=0→∀ r∈rs.es.drop i,okR r)) rs.es.length ?_ ?_
  ·
   refine ⟨0,Goes.step' ?_,fun _ r hr=>by rw [List.drop_length] at hr; cases hr⟩
   show wp _ _ _ u33T1 _
   refine bS (d:=rs) (sh_fld1 (off:=4) rfl i_rs.one) ?_
   refine bS (d:=dI ((rs.es.length:Nat):Int)) (sh_len i_rs) ?_
   refine bS (d:=dB (decide (((rs.es.length:Nat):Int) < ((rs.es.length:Nat):Int)))) sk_lss ?_
   refine wp_iteC rfl (fun c=>?_) (fun c=>?_)
   ·
    have:=of_lt c; omega
   ·
    exact wp_retTo rfl rfl
  ·
   intro i hi ⟨e,ih,hih⟩
   obtain ⟨x,e_x⟩:=lt_at hi
   obtain ⟨_,rfl,fr,_,rfl,hfr,to,_,rfl,hto,lf,_,rfl,hlf,rg,_,rfl,hrg,_,_,rfl,⟨bg,rfl⟩,_,_,rfl,⟨en,rfl⟩,rfl⟩:=elem_ofB hr e_x
   obtain ⟨q,hq,hq0⟩:=g63 (bg:=bg) (en:=en) hg hfr hto hlf hrg
   by_cases hz:q=0
   ·
    refine ⟨e,Goes.step' ?_,fun he r hr=>?_⟩
    ·
     show wp _ _ _ u33T1 _
     refine bS (d:=rs) (sh_fld1 (off:=4) rfl i_rs.one) ?_
     refine bS (d:=dI ((rs.es.length:Nat):Int)) (sh_len i_rs) ?_
     refine bS (d:=dB (decide (((i:Nat):Int) < ((rs.es.length:Nat):Int)))) sk_lss ?_
     refine wp_iteC rfl (fun c=>?_) (fun c=>?_)
     ·
      skip
      refine bS (d:=.agg [gs]) (sh_fldA (off:=0) (size:=1) rfl) ?_
      refine bS (d:=rs) (sh_fld1 (off:=4) rfl i_rs.one) ?_
      refine bS (d:=dB (true)) (si_inr (s:=((i:Nat):Int)) (by omega) e_x) ?_
      refine bS (d:=.agg [fr,to,lf,rg,dB (bg),dB (en)]) (si_elemW (s:=((i:Nat):Int)) i_rs (by omega) e_x rfl) ?_
      refine cS (d:=dI (q)) hq ?_
      refine bS (d:=dB (decide (¬ q=0))) sk_neq ?_
      refine wp_iteC rfl (fun d=>?_) (fun d=>?_)
      ·
       exact absurd hz (of_decide_eq_true d)
      ·
       skip
       refine bS (d:=dI ((i+1:Nat):Int)) (sh_add (cap_bd' (by omega))) ?_
       exact wp_jumpTo rfl ih
     ·
      have:=of_nlt c; omega
    ·
     rw [drop_at e_x] at hr
     rcases List.mem_cons.1 hr with rfl | hr
     ·
      exact hq0 hz
     ·
      exact hih he r hr
   ·
    refine ⟨q,Goes.step' ?_,fun he=>absurd he hz⟩
    show wp _ _ _ u33T1 _
    refine bS (d:=rs) (sh_fld1 (off:=4) rfl i_rs.one) ?_
    refine bS (d:=dI ((rs.es.length:Nat):Int)) (sh_len i_rs) ?_
    refine bS (d:=dB (decide (((i:Nat):Int) < ((rs.es.length:Nat):Int)))) sk_lss ?_
    refine wp_iteC rfl (fun c=>?_) (fun c=>?_)
    ·
     skip
     refine bS (d:=.agg [gs]) (sh_fldA (off:=0) (size:=1) rfl) ?_
     refine bS (d:=rs) (sh_fld1 (off:=4) rfl i_rs.one) ?_
     refine bS (d:=dB (true)) (si_inr (s:=((i:Nat):Int)) (by omega) e_x) ?_
     refine bS (d:=.agg [fr,to,lf,rg,dB (bg),dB (en)]) (si_elemW (s:=((i:Nat):Int)) i_rs (by omega) e_x rfl) ?_
     refine cS (d:=dI (q)) hq ?_
     refine bS (d:=dB (decide (¬ q=0))) sk_neq ?_
     refine wp_iteC rfl (fun d=>?_) (fun d=>?_)
     ·
      exact wp_retTo rfl rfl
     ·
      exact absurd (Decidable.not_not.1 (of_decide_eq_false d)) hz
    ·
     have:=of_nlt c; omega
 obtain ⟨e,hgo,he⟩:=hloop
 by_cases h12:rs.es.length > 12
 ·
  refine ⟨11,u33 rfl (Goes.step' ?_),fun h=>by cases h⟩
  show wp _ _ _ u33T0 _
  refine bS (d:=.agg [gs,nm,us,lt,rs,n,ws,fs,l]) (sh_chkW rfl) ?_
  refine bS (d:=rs) (sh_fld1 (off:=4) rfl i_rs.one) ?_
  refine bS (d:=dI ((rs.es.length:Nat):Int)) (sh_len i_rs) ?_
  refine bS (d:=dB (decide (((rs.es.length:Nat):Int) > 12))) sk_gtr ?_
  refine wp_iteC rfl (fun c=>?_) (fun c=>?_)
  ·
   exact wp_retTo rfl rfl
  ·
   have:=of_decide_eq_false c; omega
 ·
  refine ⟨e,u33 rfl (Goes.step' ?_),fun h=>by simpa using he h⟩
  show wp _ _ _ u33T0 _
  refine bS (d:=.agg [gs,nm,us,lt,rs,n,ws,fs,l]) (sh_chkW rfl) ?_
  refine bS (d:=rs) (sh_fld1 (off:=4) rfl i_rs.one) ?_
  refine bS (d:=dI ((rs.es.length:Nat):Int)) (sh_len i_rs) ?_
  refine bS (d:=dB (decide (((rs.es.length:Nat):Int) > 12))) sk_gtr ?_
  refine wp_iteC rfl (fun c=>?_) (fun c=>?_)
  ·
   have:=of_decide_eq_true c; omega
  ·
   exact wp_jumpTo rfl hgo
abbrev ShU:Sh:=.sl 73 2 (.st [.str,ShI])
abbrev ShT:Sh:=.sl 74 1 (.sl 9 1 .str)
theorem nz {q:Int} (d:decide (¬ q=0)=true):q≠0:=of_decide_eq_true d
theorem zz {q:Int} (d:decide (¬ q=0)=false):q=0:=Decidable.not_not.1 (of_decide_eq_false d)
def chkV (q1 q2 q3 q4 q5 q6 q7:Int):Int:=if q1≠0 then q1 else if q2≠0 then q2 else if q3≠0 then q3 else if q4≠0 then q4 else if q5≠0 then q5 else if q6≠0 then q6 else q7
theorem chk_zero {q1 q2 q3 q4 q5 q6 q7:Int} (h:chkV q1 q2 q3 q4 q5 q6 q7=0):q1=0∧q2=0∧q3=0∧q4=0∧q5=0∧q6=0∧q7=0:=by
 unfold chkV at h
 repeat' split at h
 all_goals omega
theorem g11 {gs nm us lt rs n ws fs l:D} {q1 q2 q3 q4 q5 q6 q7:Int} (hl:l.one=true) (k1:Holds EE 31 [.agg [gs]] (dI q1)) (k2:Holds EE 32 [.agg [gs],.agg [nm,us,lt]] (dI q2)) (k3:Holds EE 33 [.agg [gs,nm,us,lt,rs,n,ws,fs,l]] (dI q3))
  (k4:Holds EE 34 [.agg [n,ws,fs]] (dI q4)) (k5:Holds EE 35 [.agg [gs],l] (dI q5)) (k6:Holds EE 36 [l] (dI q6)) (k7:Holds EE 37 [l] (dI q7)) :
  Holds EE 11 [.agg [gs,nm,us,lt,rs,n,ws,fs,l]] (dI (chkV q1 q2 q3 q4 q5 q6 q7)):=by
 unfold chkV
 refine u11 rfl (Goes.step' ?_)
 show wp _ _ _ u11T0 _
 refine bS (d:=.agg [gs,nm,us,lt,rs,n,ws,fs,l]) (sh_chkW rfl) ?_
 refine bS (d:=.agg [gs]) (sh_fldA (off:=0) (size:=1) rfl) ?_
 refine cS (d:=dI (q1)) k1 ?_
 refine bS (d:=dB (decide (¬ q1=0))) sk_neq ?_
 refine wp_iteC rfl (fun c1=>?_) (fun c1=>?_)
 ·
  rw [if_pos (nz c1)]; exact wp_retTo rfl rfl
 rw [if_neg (fun h=>h (zz c1))]
 refine bS (d:=.agg [gs]) (sh_fldA (off:=0) (size:=1) rfl) ?_
 refine bS (d:=.agg [nm,us,lt]) (sh_fldA (off:=1) (size:=3) rfl) ?_
 refine cS (d:=dI (q2)) k2 ?_
 refine bS (d:=dB (decide (¬ q2=0))) sk_neq ?_
 refine wp_iteC rfl (fun c2=>?_) (fun c2=>?_)
 ·
  rw [if_pos (nz c2)]; exact wp_retTo rfl rfl
 rw [if_neg (fun h=>h (zz c2))]
 refine cS (d:=dI (q3)) k3 ?_
 refine bS (d:=dB (decide (¬ q3=0))) sk_neq ?_
 refine wp_iteC rfl (fun c3=>?_) (fun c3=>?_)
 ·
  rw [if_pos (nz c3)]; exact wp_retTo rfl rfl
 rw [if_neg (fun h=>h (zz c3))]
 refine bS (d:=.agg [n,ws,fs]) (sh_fldA (off:=5) (size:=3) rfl) ?_
 refine cS (d:=dI (q4)) k4 ?_
 refine bS (d:=dB (decide (¬ q4=0))) sk_neq ?_
 refine wp_iteC rfl (fun c4=>?_) (fun c4=>?_)
 ·
  rw [if_pos (nz c4)]; exact wp_retTo rfl rfl
 rw [if_neg (fun h=>h (zz c4))]
 refine bS (d:=.agg [gs]) (sh_fldA (off:=0) (size:=1) rfl) ?_
 refine bS (d:=l) (sh_fld1 (off:=8) rfl hl) ?_
 refine cS (d:=dI (q5)) k5 ?_
 refine bS (d:=dB (decide (¬ q5=0))) sk_neq ?_
 refine wp_iteC rfl (fun c5=>?_) (fun c5=>?_)
 ·
  rw [if_pos (nz c5)]; exact wp_retTo rfl rfl
 rw [if_neg (fun h=>h (zz c5))]
 refine bS (d:=l) (sh_fld1 (off:=8) rfl hl) ?_
 refine cS (d:=dI (q6)) k6 ?_
 refine bS (d:=dB (decide (¬ q6=0))) sk_neq ?_
 refine wp_iteC rfl (fun c6=>?_) (fun c6=>?_)
 ·
  rw [if_pos (nz c6)]; exact wp_retTo rfl rfl
 rw [if_neg (fun h=>h (zz c6))]
 refine bS (d:=l) (sh_fld1 (off:=8) rfl hl) ?_
 refine cS (d:=dI (q7)) k7 ?_
 exact wp_retTo rfl rfl
theorem k31 {gs:D} (hg:HasB 1048576 ShG gs):∃ q:Int,Holds EE 31 [.agg [gs]] (dI q):=tot1 (sp_of tabC' (f:=31) (S:=e31.S) (by kernel_rfl)) rfl rfl (by decide) (hbs1 (hb_st (hbs_cons hg hbs_nil)))
theorem k32 {gs nm us lt:D} (hg:HasB 1048576 ShG gs) (hnm:HasB 1048576 .str nm) (hus:HasB 1048576 ShU us) (hlt:HasB 1048576 ShT lt):∃ q:Int,Holds EE 32 [.agg [gs],.agg [nm,us,lt]] (dI q) :=
 tot1 (sp_of tabC' (f:=32) (S:=s32) (by kernel_rfl)) rfl rfl (by decide) (hbs2 (hb_st (hbs_cons hg hbs_nil)) (hb_st (hbs_cons hnm (hbs_cons hus (hbs_cons hlt hbs_nil)))))
theorem k34 {n ws fs:D} (hn:HasB 1048576 (.int .i64) n) (hw:HasB 1048576 ShW ws) (hf:HasB 1048576 ShI fs):∃ q:Int,Holds EE 34 [.agg [n,ws,fs]] (dI q) :=
 tot1 (sp_of tabC' (f:=34) (S:=e34.S) (by kernel_rfl)) rfl rfl (by decide) (hbs1 (hb_st (hbs_cons hn (hbs_cons hw (hbs_cons hf hbs_nil)))))
theorem k35 {gs l:D} (hg:HasB 1048576 ShG gs) (hl:HasB 1048576 ShLe l):∃ q:Int,Holds EE 35 [.agg [gs],l] (dI q) :=
 tot1 (sp_of tabC' (f:=35) (S:=e35.S) (by kernel_rfl)) rfl rfl (by decide) (hbs2 (hb_st (hbs_cons hg hbs_nil)) hl)
theorem k36 {l:D} (hl:HasB 1048576 ShLe l):∃ q:Int,Holds EE 36 [l] (dI q):=tot1 (sp_of tabC' (f:=36) (S:=e36.S) (by kernel_rfl)) rfl rfl (by decide) (hbs1 hl)
theorem k37 {l:D} (hl:HasB 1048576 ShLe l):∃ q:Int,Holds EE 37 [l] (dI q):=by
 obtain ⟨rs,h1,_,h2⟩:=(sp_of tabC' (f:=37) (S:=e37.S) (by kernel_rfl)) [l] (hasBs_least (B:=1048576) (by decide) (hbs1 hl)) (by
  intro q hq
  rcases List.mem_cons.1 hq with rfl | hq
  ·
   have e1:=sl_val (hasB_mono (B':=300000000) (by decide) hl)
   have b_l:=len_leB hl
   show valD l≤(0:Int)+299999999
   omega
  ·
   cases hq)
 have h1:HasNs [.int .i64] rs:=h1
 simp only [HasNs,HasN] at h1
 obtain ⟨d,_,rfl,⟨n,rfl⟩,rfl⟩:=h1
 exact ⟨n,h2⟩
theorem k38 {l:D} (hl:HasB 1048576 ShLe l):∃ b:Bool,Holds EE 38 [l] (dB b):=totB (sp_of tabC' (f:=38) (S:=e38.S) (by kernel_rfl)) rfl rfl (by decide) (hbs1 hl)
theorem g12 {gs nm us lt rs ws fs l:D} {n e:Int} (hg:HasB 1048576 ShG gs) (hnm:nm.one=true) (hus:HasB 1048576 ShU us) (hr:HasB 1048576 ShRs rs) (hw:HasB 1048576 ShW ws) (hf:HasB 1048576 ShI fs) (hl:HasB 1048576 ShLe l)
  (k:Holds EE 11 [.agg [gs,nm,us,lt,rs,dI n,ws,fs,l]] (dI e)) :
  ∃ b:Bool,Holds EE 12 [.agg [gs,nm,us,lt,rs,dI n,ws,fs,l]] (dB b)∧(b=true→e=0∧n≤3∧us.es.length≤10):=by
 have i_gs:=isSl_ofB hg
 have i_us:=isSl_ofB hus
 have i_rs:=isSl_ofB hr
 have i_ws:=isSl_ofB hw
 have i_fs:=isSl_ofB hf
 have i_l:=isSl_ofB hl
 have b_rs:=len_leB hr
 obtain ⟨b38,q38⟩:=k38 hl
 have hloop:∃ b:Bool,Goes EE (Holds EE) u12Ts 1 [dI ((0:Nat):Int),.agg [gs,nm,us,lt,rs,dI n,ws,fs,l]] (dB b)∧(b=true→e=0):=by
  refine loop_dn (P:=fun i=>∃ b:Bool,Goes EE (Holds EE) u12Ts 1 [dI ((i:Nat):Int),.agg [gs,nm,us,lt,rs,dI n,ws,fs,l]] (dB b)∧(b=true→e=0)) rs.es.length ?_ ?_
  ·
   refine ⟨decide (e=0),Goes.step' ?_,fun h=>of_decide_eq_true h⟩
   show wp _ _ _ u12T1 _
   refine bS (d:=rs) (sh_fld1 (off:=4) rfl i_rs.one) ?_
   refine bS (d:=dI ((rs.es.length:Nat):Int)) (sh_len i_rs) ?_
   refine bS (d:=dB (decide (((rs.es.length:Nat):Int) < ((rs.es.length:Nat):Int)))) sk_lss ?_
   refine wp_iteC rfl (fun c=>?_) (fun c=>?_)
   ·
    have:=of_lt c; omega
   ·
    skip
    refine cS (d:=dI (e)) k ?_
    refine bS (d:=dB (decide (e=0))) sk_eql ?_
    exact wp_retTo rfl rfl
  ·
   intro i hi ⟨b,ih,hb⟩
   obtain ⟨x,e_x⟩:=lt_at hi
   obtain ⟨_,rfl,fr,_,rfl,hfr,to,_,rfl,hto,lf,_,rfl,hlf,rg,_,rfl,hrg,_,_,rfl,⟨bg,rfl⟩,_,_,rfl,⟨en,rfl⟩,rfl⟩:=elem_ofB hr e_x
   have i_fr:=isSl_ofB hfr
   by_cases h8:fr.es.length > 8
   ·
    refine ⟨false,Goes.step' ?_,fun h=>by cases h⟩
    show wp _ _ _ u12T1 _
    refine bS (d:=rs) (sh_fld1 (off:=4) rfl i_rs.one) ?_
    refine bS (d:=dI ((rs.es.length:Nat):Int)) (sh_len i_rs) ?_
    refine bS (d:=dB (decide (((i:Nat):Int) < ((rs.es.length:Nat):Int)))) sk_lss ?_
    refine wp_iteC rfl (fun c=>?_) (fun c=>?_)
    ·
     skip
     refine bS (d:=rs) (sh_fld1 (off:=4) rfl i_rs.one) ?_
     refine bS (d:=dB (true)) (si_inr (s:=((i:Nat):Int)) (by omega) e_x) ?_
     refine bS (d:=fr) (si_elemP (s:=((i:Nat):Int)) (off:=0) i_rs (by omega) e_x rfl i_fr.one (by decide)) ?_
     refine bS (d:=dI ((fr.es.length:Nat):Int)) (sh_len i_fr) ?_
     refine bS (d:=dB (decide (((fr.es.length:Nat):Int) > 8))) sk_gtr ?_
     refine wp_iteC rfl (fun d=>?_) (fun d=>?_)
     ·
      exact wp_retTo rfl rfl
     ·
      have:=of_decide_eq_false d; omega
    ·
     have:=of_nlt c; omega
   ·
    refine ⟨b,Goes.step' ?_,hb⟩
    show wp _ _ _ u12T1 _
    refine bS (d:=rs) (sh_fld1 (off:=4) rfl i_rs.one) ?_
    refine bS (d:=dI ((rs.es.length:Nat):Int)) (sh_len i_rs) ?_
    refine bS (d:=dB (decide (((i:Nat):Int) < ((rs.es.length:Nat):Int)))) sk_lss ?_
    refine wp_iteC rfl (fun c=>?_) (fun c=>?_)
    ·
     skip
     refine bS (d:=rs) (sh_fld1 (off:=4) rfl i_rs.one) ?_
     refine bS (d:=dB (true)) (si_inr (s:=((i:Nat):Int)) (by omega) e_x) ?_
     refine bS (d:=fr) (si_elemP (s:=((i:Nat):Int)) (off:=0) i_rs (by omega) e_x rfl i_fr.one (by decide)) ?_
     refine bS (d:=dI ((fr.es.length:Nat):Int)) (sh_len i_fr) ?_
     refine bS (d:=dB (decide (((fr.es.length:Nat):Int) > 8))) sk_gtr ?_
     refine wp_iteC rfl (fun d=>?_) (fun d=>?_)
     ·
      have:=of_decide_eq_true d; omega
     ·
      skip
      refine bS (d:=dI ((i+1:Nat):Int)) (sh_add (cap_bd' (by omega))) ?_
      exact wp_jumpTo rfl ih
    ·
     have:=of_nlt c; omega
 obtain ⟨b,hgo,hb⟩:=hloop
 refine ⟨if gs.es.length > 8∨us.es.length > 10∨rs.es.length > 2∨n > 3∨ws.es.length > 6∨fs.es.length > 3∨b38=false then false else b,u12 rfl (Goes.step' ?_),fun h=>?_⟩
 ·
  show wp _ _ _ u12T0 _
  refine bS (d:=.agg [gs,nm,us,lt,rs,dI (n),ws,fs,l]) (sh_chkW rfl) ?_
  refine bS (d:=gs) (sh_fld1 (off:=0) rfl i_gs.one) ?_
  refine bS (d:=dI ((gs.es.length:Nat):Int)) (sh_len i_gs) ?_
  refine bS (d:=dB (decide (((gs.es.length:Nat):Int) > 8))) sk_gtr ?_
  refine wp_iteC rfl (fun c1=>?_) (fun c1=>?_)
  ·
   have:=of_decide_eq_true c1
   rw [if_pos (by omega)]; exact wp_retTo rfl rfl
  have h1:=of_decide_eq_false c1
  refine bS (d:=us) (sh_fld1 (off:=2) rfl i_us.one) ?_
  refine bS (d:=dI ((us.es.length:Nat):Int)) (sh_len i_us) ?_
  refine bS (d:=dB (decide (((us.es.length:Nat):Int) > 10))) sk_gtr ?_
  refine wp_iteC rfl (fun c2=>?_) (fun c2=>?_)
  ·
   have:=of_decide_eq_true c2
   rw [if_pos (by omega)]; exact wp_retTo rfl rfl
  have h2:=of_decide_eq_false c2
  refine bS (d:=rs) (sh_fld1 (off:=4) rfl i_rs.one) ?_
  refine bS (d:=dI ((rs.es.length:Nat):Int)) (sh_len i_rs) ?_
  refine bS (d:=dB (decide (((rs.es.length:Nat):Int) > 2))) sk_gtr ?_
  refine wp_iteC rfl (fun c3=>?_) (fun c3=>?_)
  ·
   have:=of_decide_eq_true c3
   rw [if_pos (by omega)]; exact wp_retTo rfl rfl
  have h3:=of_decide_eq_false c3
  refine bS (d:=dI (n)) (sh_fld1 (off:=5) rfl rfl) ?_
  refine bS (d:=dB (decide (n > 3))) sk_gtr ?_
  refine wp_iteC rfl (fun c4=>?_) (fun c4=>?_)
  ·
   have:=of_decide_eq_true c4
   rw [if_pos (by omega)]; exact wp_retTo rfl rfl
  have h4:=of_decide_eq_false c4
  refine bS (d:=ws) (sh_fld1 (off:=6) rfl i_ws.one) ?_
  refine bS (d:=dI ((ws.es.length:Nat):Int)) (sh_len i_ws) ?_
  refine bS (d:=dB (decide (((ws.es.length:Nat):Int) > 6))) sk_gtr ?_
  refine wp_iteC rfl (fun c5=>?_) (fun c5=>?_)
  ·
   have:=of_decide_eq_true c5
   rw [if_pos (by omega)]; exact wp_retTo rfl rfl
  have h5:=of_decide_eq_false c5
  refine bS (d:=fs) (sh_fld1 (off:=7) rfl i_fs.one) ?_
  refine bS (d:=dI ((fs.es.length:Nat):Int)) (sh_len i_fs) ?_
  refine bS (d:=dB (decide (((fs.es.length:Nat):Int) > 3))) sk_gtr ?_
  refine wp_iteC rfl (fun c6=>?_) (fun c6=>?_)
  ·
   have:=of_decide_eq_true c6
   rw [if_pos (by omega)]; exact wp_retTo rfl rfl
  have h6:=of_decide_eq_false c6
  refine bS (d:=l) (sh_fld1 (off:=8) rfl i_l.one) ?_
  refine cS (d:=dB (b38)) q38 ?_
  refine bS (d:=dB (!(b38))) sh_not ?_
  refine wp_iteC rfl (fun c7=>?_) (fun c7=>?_)
  ·
   have h7:b38=false:=by simpa using c7
   rw [if_pos (by simp [h7])]; exact wp_retTo rfl rfl
  have h7:b38=true:=by simpa using c7
  subst h7
  rw [if_neg (by simp; omega)]
  exact wp_jumpTo rfl hgo
 ·
  split at h
  ·
   cases h
  ·
   rename_i hc
   exact ⟨hb h,by omega,by omega⟩
end Go.Proofs.YtnemldklhelbeaaGreat
