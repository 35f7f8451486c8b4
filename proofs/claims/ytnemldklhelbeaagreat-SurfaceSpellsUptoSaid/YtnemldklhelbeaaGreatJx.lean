/- Reading, exact spelling, and the law of SurfaceSpells over data of bounded length. Conditions: none. -/
import Derived.Test.YtnemldklhelbeaaGreatJl
import Derived.Test.YtnemldklhelbeaaGreatOr
import Derived.Test.YtnemldklhelbeaaGreatRows
import Derived.ProofKit
import Derived.OpenShut
import Derived.JoinedCond
set_option linter.unusedVariables false
set_option linter.unusedSimpArgs false
namespace Go.Proofs.YtnemldklhelbeaaGreat
open Go Go.Am Go.Proofs
attribute [local irreducible] Go.Am.wp Go.Am.TOp.eval
theorem bae (a:ByteArray):(a == a)=true:=by
 show (a.data == a.data)=true
 exact beq_self_eq_true _
abbrev RRd (d:D):Prop:=∃ (v:D) (p e:Int),d=.tup [v,dI p,dI e]∧HasB 300000000 ShI v
theorem g26 {nm us lt:D} {tx:ByteArray} (hn:HasB 1048576 .str nm) (hu:HasB 1048576 ShU us) (hl:HasB 1048576 ShT lt) (hok:∀ x∈us.es,okU x) (ht:tx.size≤25165824) :
  ∃ (v:D) (p e:Int),Holds EE 26 [.agg [nm,us,lt],.leaf (.string tx)] (.tup [v,dI p,dI e])∧HasB 300000000 ShI v:=by
 have mo:∀ {s:Sh} {d:D},HasB 1048576 s d→HasB 300000000 s d:=fun h=>hasB_mono (by decide) h
 obtain ⟨ls,k,k53,h53,hix⟩:=g53 (mo hn) (mo hu) (mo hl) ht
 have i_us:=isSl_ofB hu
 have b_us:=len_leB hu
 have i_lt:=isSl_ofB hl
 obtain ⟨nms,rfl,hns⟩:=hn
 have ho:HasB 300000000 ShI (mkOut 3 1 ls):=mkOut_hb (by omega) (fun y hy=>by obtain ⟨j,rfl,_⟩:=hix y hy; exact ⟨_,rfl⟩)
 have hoe:(mkOut 3 1 ls).es=ls:=mkOut_es
 generalize mkOut 3 1 ls=o at *
 rw [← hoe] at h53 hix
 have i_o:=isSl_ofB ho
 suffices h:∃ d,RRd d∧Goes EE (Holds EE) u26Ts 0 [.agg [.leaf (.string nms),us,lt],.leaf (.string tx)] d by
  obtain ⟨_,⟨v,p,e,rfl,h1⟩,hgo⟩:=h
  exact ⟨v,p,e,u26 rfl hgo,h1⟩
 refine goes_R (R:=RRd) ?_
 show wp _ _ _ u26T0 _
 refine bS (d:=.agg [.leaf (.string nms),us,lt]) (sh_chkW rfl) ?_
 refine bS (d:=dB (tx == ⟨#[]⟩)) sh_strE ?_
 refine wp_iteC rfl (fun c=>?_) (fun c=>?_)
 ·
  exact wr_ret rfl ⟨.nil,0,4,rfl,hb_nil⟩
 refine cS (d:=.tup [o,dI (k)]) k53 ?_
 refine bS (d:=o) (te_ext rfl) ?_
 refine bS (d:=dI (k)) (te_ext rfl) ?_
 refine bS (d:=dI ((tx.size:Int))) ss_len ?_
 refine bS (d:=dB (decide (k < (tx.size:Int)))) sk_lss ?_
 refine wp_iteC rfl (fun d=>?_) (fun d=>?_)
 ·
  exact wr_ret rfl ⟨.nil,k,20,rfl,hb_nil⟩
 refine bS (d:=dI ((o.es.length:Nat):Int)) (sh_len i_o) ?_
 refine wr_jump rfl (loop_up (P:=fun i=>i≤o.es.length→∀ v:D,HasB 300000000 ShI v→v.es.length≤3 * i→∃ d,RRd d∧Goes EE (Holds EE) u26Ts 1 [v,o,dI ((o.es.length:Nat):Int),dI ((i:Nat):Int),.agg [.leaf (.string nms),us,lt]] d) o.es.length (fun i ih=>?_) 0 (by omega) .nil hb_nil (by simp [D.es]))
 intro hi v hv hvl
 have i_v:=isSl_ofB hv
 refine goes_R (R:=RRd) ?_
 show wp _ _ _ u26T1 _
 refine bS (d:=dB (decide (((i:Nat):Int) < ((o.es.length:Nat):Int)))) sk_lss ?_
 refine wp_iteC rfl (fun f=>?_) (fun f=>?_)
 ·
  have hia:=of_lt f
  obtain ⟨y,e_y⟩:=lt_at hia
  obtain ⟨j,rfl,hj⟩:=hix y (List.mem_of_getElem? e_y)
  obtain ⟨x,e_x⟩:=lt_at (l:=us) (i:=j) hj
  have hx:=hok x (List.mem_of_getElem? e_x)
  obtain ⟨_,rfl,_,_,rfl,⟨s1,rfl,hs1⟩,sh,_,rfl,hsh,rfl⟩:=elem_ofB hu e_x
  have i_sh:=isSl_ofB hsh
  have hx:1≤sh.es.length∧sh.es.length≤3:=hx
  obtain ⟨w,ev_w,l_w,h_w⟩:=vs_app (E:=EE) (el:=3) (sz:=1) (bytes:=8) hv (mo hsh) (by decide) (by omega)
  have i_w:=isSl_ofB h_w
  refine bS (d:=dB (true)) (si_inr (s:=((i:Nat):Int)) (by omega) e_y) ?_
  refine bS (d:=dI ((j:Nat):Int)) (si_elem1 (s:=((i:Nat):Int)) i_o (by omega) e_y rfl) ?_
  refine bS (d:=us) (sh_fld1 (off:=1) rfl i_us.one) ?_
  refine bS (d:=dB (true)) (si_inr (s:=((j:Nat):Int)) (by omega) e_x) ?_
  refine bS (d:=sh) (si_elemP (s:=((j:Nat):Int)) (off:=1) i_us (by omega) e_x rfl i_sh.one (by decide)) ?_
  refine bS (d:=w) ev_w ?_
  refine bS (d:=dI ((i+1:Nat):Int)) (sh_add (cap_bd' (by omega))) ?_
  exact wr_jump rfl (ih hia (by omega) w h_w (by omega))
 ·
  skip
  refine bS (d:=dI ((v.es.length:Nat):Int)) (sh_len i_v) ?_
  refine bS (d:=dB (decide (((v.es.length:Nat):Int) > 24))) sk_gtr ?_
  refine wp_iteC rfl (fun g=>?_) (fun g=>?_)
  ·
   exact wr_ret rfl ⟨.nil,0,5,rfl,hb_nil⟩
  ·
   exact wr_ret rfl ⟨v,0,0,rfl,hv⟩
theorem g27 {nm us lt w v:D} {s:ByteArray} {p e p2 e2:Int} (hnm:nm.one=true) (hus:HasB 1048576 ShU us) (hlt:HasB 1048576 ShT lt) (hw:HasB 300000000 ShI w) (hv:HasB 300000000 ShI v)
  (k25:Holds EE 25 [.agg [nm,us,lt],w] (.tup [.leaf (.string s),dI p,dI e])) (k26:Holds EE 26 [.agg [nm,us,lt],.leaf (.string s)] (.tup [v,dI p2,dI e2])) :
  Holds EE 27 [.agg [nm,us,lt],w] (dB (decide (e=0) && (decide (e2=0) && eqI v w))):=by
 have i_us:=isSl_ofB hus
 have i_lt:=isSl_ofB hlt
 have i_w:=isSl_ofB hw
 have i_v:=isSl_ofB hv
 have k54:=g54 hv hw
 refine u27 rfl (Goes.step' ?_)
 show wp _ _ _ u27T0 _
 refine bS (d:=.agg [nm,us,lt]) (sh_chkW rfl) ?_
 refine cS (d:=.tup [.leaf (.string s),dI (p),dI (e)]) k25 ?_
 refine bS (d:=.leaf (.string s)) (te_ext rfl) ?_
 refine bS (d:=dI (p)) (te_ext rfl) ?_
 refine bS (d:=dI (e)) (te_ext rfl) ?_
 refine bS (d:=dB (decide (¬ e=0))) sk_neq ?_
 refine wp_iteC rfl (fun c=>?_) (fun c=>?_)
 ·
  have:=of_decide_eq_true c
  refine wp_retTo rfl (congrArg (fun t=>dB t) ?_)
  rw [decide_eq_false this]; rfl
 ·
  have h0:=zz c
  refine cS (d:=.tup [v,dI (p2),dI (e2)]) k26 ?_
  refine bS (d:=v) (te_ext rfl) ?_
  refine bS (d:=dI (p2)) (te_ext rfl) ?_
  refine bS (d:=dI (e2)) (te_ext rfl) ?_
  refine bS (d:=dB (decide (e2=0))) sk_eql ?_
  refine wp_iteC rfl (fun d=>?_) (fun d=>?_)
  ·
   have h2:=of_decide_eq_true d
   refine cS (d:=dB (eqI v w)) k54 ?_
   refine wp_retTo rfl (congrArg (fun t=>dB t) ?_)
   rw [decide_eq_true h0,decide_eq_true h2]; rfl
  ·
   have h2:=of_decide_eq_false d
   refine wp_retTo rfl (congrArg (fun t=>dB t) ?_)
   rw [decide_eq_true h0,decide_eq_false h2]; rfl
section
variable {gs nm us lt rs ws fs l ps fm:D} {n fe:Int}
theorem g16a (hl:l.one=true) (hp:ps.one=true) (hf:fm.one=true) (hfe:fe≠0) (k14:Holds EE 14 [.agg [gs,nm,us,lt,rs,dI n,ws,fs,l],.agg [ps]] (.tup [fm,dI fe])):Holds EE 16 [.agg [gs,nm,us,lt,rs,dI n,ws,fs,l],.agg [ps]] (.tup [.leaf (.string ⟨#[]⟩),dI fe]):=by
 refine u16 rfl (Goes.step' ?_)
 show wp _ _ _ u16T0 _
 refine bS (d:=.agg [gs,nm,us,lt,rs,dI (n),ws,fs,l]) (sh_chkW rfl) ?_
 refine bS (d:=.agg [ps]) (sh_chkW rfl) ?_
 refine cS (d:=.tup [fm,dI (fe)]) k14 ?_
 refine bS (d:=fm) (te_ext rfl) ?_
 refine bS (d:=dI (fe)) (te_ext rfl) ?_
 refine bS (d:=dB (decide (¬ fe=0))) sk_neq ?_
 refine wp_iteC rfl (fun c=>?_) (fun c=>?_)
 ·
  exact wp_retTo2 rfl rfl
 ·
  exact absurd (zz c) hfe
theorem g16b {s:ByteArray} {p e:Int} (hl:l.one=true) (hp:ps.one=true) (hf:fm.one=true) (k14:Holds EE 14 [.agg [gs,nm,us,lt,rs,dI n,ws,fs,l],.agg [ps]] (.tup [fm,dI 0])) (k25:Holds EE 25 [.agg [nm,us,lt],fm] (.tup [.leaf (.string s),dI p,dI e])) :
  Holds EE 16 [.agg [gs,nm,us,lt,rs,dI n,ws,fs,l],.agg [ps]] (.tup [.leaf (.string s),dI e]):=by
 refine u16 rfl (Goes.step' ?_)
 show wp _ _ _ u16T0 _
 refine bS (d:=.agg [gs,nm,us,lt,rs,dI (n),ws,fs,l]) (sh_chkW rfl) ?_
 refine bS (d:=.agg [ps]) (sh_chkW rfl) ?_
 refine cS (d:=.tup [fm,dI (0)]) k14 ?_
 refine bS (d:=fm) (te_ext rfl) ?_
 refine bS (d:=dI (0)) (te_ext rfl) ?_
 refine bS (d:=dB (decide (¬ 0=0))) sk_neq ?_
 refine wp_iteC rfl (fun c=>?_) (fun c=>?_)
 ·
  exact absurd rfl (nz c)
 ·
  skip
  refine bS (d:=.agg [nm,us,lt]) (sh_fldA (off:=1) (size:=3) rfl) ?_
  refine cS (d:=.tup [.leaf (.string s),dI (p),dI (e)]) k25 ?_
  refine bS (d:=.leaf (.string s)) (te_ext rfl) ?_
  refine bS (d:=dI (p)) (te_ext rfl) ?_
  refine bS (d:=dI (e)) (te_ext rfl) ?_
  exact wp_retTo2 rfl rfl
end
theorem law7 {g a : D} (h_g : HasB 1048576 ShL g) (h_a : HasB 1048576 (.st [ShP]) a) (hw : Holds EE 9 [] (dB true)) : Holds EE 7 [g, a] (dB true) := by
  obtain ⟨ps, rfl, hp⟩ : ∃ ps, a = .agg [ps] ∧ HasB 300000000 ShP ps := by
    obtain ⟨_, rfl, ps, _, rfl, hp, rfl⟩ := hasB_mono (B' := 300000000) (by decide) h_a
    exact ⟨ps, rfl, hp⟩
  obtain ⟨_, rfl, gs, _, rfl, hg, nm, _, rfl, hnm, us, _, rfl, hus, lt, _, rfl, hlt, rs, _, rfl, hr, _, _, rfl, ⟨n, rfl⟩, ws, _, rfl, hws, fs, _, rfl, hfs, l, _, rfl, hl, rfl⟩ := h_g
  have hnm1 : nm.one = true := by obtain ⟨s, rfl, _⟩ := hnm; rfl
  have i_l := isSl_ofB hl
  have i_ps := isSl_ofB hp
  have i_us := isSl_ofB hus
  have i_lt := isSl_ofB hlt
  obtain ⟨q1, k1⟩ := k31 hg
  obtain ⟨q2, k2, f2⟩ := g32 hg hnm hus hlt
  obtain ⟨q3, k3, f3⟩ := g33 (nm := nm) (us := us) (lt := lt) (n := dI n) (ws := ws) (fs := fs) (l := l) hg hr
  obtain ⟨q4, k4⟩ := k34 (n := dI n) ⟨n, rfl⟩ hws hfs
  obtain ⟨q5, k5⟩ := k35 hg hl
  obtain ⟨q6, k6⟩ := k36 hl
  obtain ⟨q7, k7⟩ := k37 hl
  obtain ⟨b, kL, hb⟩ := g12 (n := n) hg hnm1 hus hr hws hfs hl (g11 i_l.one k1 k2 k3 k4 k5 k6 k7)
  have kF := g13 hp
  refine u7 rfl (Goes.step' ?_)
  show wp _ _ _ u7T0 _
  refine bS (d := .agg [gs, nm, us, lt, rs, dI (n), ws, fs, l]) (sh_chkW rfl) ?_
  refine bS (d := .agg [ps]) (sh_chkW rfl) ?_
  refine cS (d := dB (b)) kL ?_
  refine bS (d := dB (!(b))) sh_not ?_
  refine wp_iteC rfl (fun c1 => ?_) (fun c1 => ?_)
  · skip
    refine cS (d := dB (true)) hw ?_
    exact wp_retTo rfl rfl
  have hbt : b = true := by simpa using c1
  have hall := chk_zero (hb hbt).1
  have hok := f3 hall.2.2.1
  have hoku := f2 hall.2.1
  refine cS (d := dB (decide (ps.es.length ≤ 20))) kF ?_
  refine bS (d := dB (!(decide (ps.es.length ≤ 20)))) sh_not ?_
  refine wp_iteC rfl (fun c2 => ?_) (fun c2 => ?_)
  · skip
    refine cS (d := dB (true)) hw ?_
    exact wp_retTo rfl rfl
  have hn : ps.es.length ≤ 20 := by
    have : decide (ps.es.length ≤ 20) = true := by simpa using c2
    exact of_decide_eq_true this
  have hg3 := hasB_mono (B' := 300000000) (by decide) hg
  have hr3 := hasB_mono (B' := 300000000) (by decide) hr
  have hw3 := hasB_mono (B' := 300000000) (by decide) hws
  have hf3 := hasB_mono (B' := 300000000) (by decide) hfs
  have hB := base_hb hl hn
  have hlas := las_ok (gs := gs) rs.es hB
  have kFm := g14 (gs := gs) (c1 := nm) (c2 := us) (c3 := lt) (n := dI n) hg3 hr3 hok rfl hw3 hf3 hl hp hn
  have hfmB : HasB 300000000 ShI (frmV gs rs l ws fs ps).1 := by
    unfold frmV
    split
    · exact hb_nil
    · split
      · exact hb_nil
      · exact hlas.1
  generalize hF1 : (frmV gs rs l ws fs ps).1 = fm at *
  generalize hF2 : (frmV gs rs l ws fs ps).2 = fe at *
  have i_fm := isSl_ofB hfmB
  obtain ⟨s, p, e, k25, hs⟩ := g25 hnm hus hlt hfmB hoku
  obtain ⟨v, p2, e2, k26, hv⟩ := g26 hnm hus hlt hoku hs
  have i_v := isSl_ofB hv
  have k27 := g27 hnm1 hus hlt hfmB hv k25 k26
  have k20 := g20 hv hfmB
  refine cS (d := .tup [fm, dI (fe)]) kFm ?_
  refine bS (d := fm) (te_ext rfl) ?_
  refine bS (d := dI (fe)) (te_ext rfl) ?_
  by_cases hfe : fe = 0
  · have kFm0 := kFm
    rw [hfe] at kFm0
    have k16 := g16b (gs := gs) (rs := rs) (n := n) (ws := ws) (fs := fs) i_l.one i_ps.one i_fm.one kFm0 k25
    refine cS (d := .tup [.leaf (.string s), dI (e)]) k16 ?_
    refine bS (d := .leaf (.string s)) (te_ext rfl) ?_
    refine bS (d := dI (e)) (te_ext rfl) ?_
    refine bS (d := dB (decide (¬ fe = 0))) sk_neq ?_
    refine wp_iteC rfl (fun c3 => ?_) (fun c3 => ?_)
    · exact absurd hfe (nz c3)
    refine bS (d := .agg [nm, us, lt]) (sh_fldA (off := 1) (size := 3) rfl) ?_
    refine cS (d := .tup [.leaf (.string s), dI (p), dI (e)]) k25 ?_
    refine bS (d := .leaf (.string s)) (te_ext rfl) ?_
    refine bS (d := dI (p)) (te_ext rfl) ?_
    refine bS (d := dI (e)) (te_ext rfl) ?_
    refine bS (d := .agg [nm, us, lt]) (sh_fldA (off := 1) (size := 3) rfl) ?_
    refine cS (d := .tup [v, dI (p2), dI (e2)]) k26 ?_
    refine bS (d := v) (te_ext rfl) ?_
    refine bS (d := dI (p2)) (te_ext rfl) ?_
    refine bS (d := dI (e2)) (te_ext rfl) ?_
    refine bS (d := dB (s == s)) sh_strE ?_
    refine wp_iteC rfl (fun c4 => ?_) (fun c4 => ?_)
    · skip
      refine bS (d := dB (decide (e = e))) sk_eql ?_
      refine wp_iteC rfl (fun c5 => ?_) (fun c5 => ?_)
      · skip
        refine bS (d := .agg [nm, us, lt]) (sh_fldA (off := 1) (size := 3) rfl) ?_
        refine cS (d := dB (decide (e = 0) && (decide (e2 = 0) && eqI v fm))) k27 ?_
        refine bS (d := dB (!(decide (e = 0) && (decide (e2 = 0) && eqI v fm)))) sh_not ?_
        refine wp_iteC rfl (fun c6 => ?_) (fun c6 => ?_)
        · skip
          refine cS (d := dB (true)) hw ?_
          exact wp_retTo rfl rfl
        · have h3 : decide (e = 0) = true ∧ decide (e2 = 0) = true ∧ eqI v fm = true := by simpa using c6
          refine bS (d := dB (decide (e2 = 0))) sk_eql ?_
          refine wp_iteC rfl (fun c7 => ?_) (fun c7 => ?_)
          · skip
            refine cS (d := dB (eqI v fm)) k20 ?_
            refine wp_iteC rfl (fun c8 => ?_) (fun c8 => ?_)
            · skip
              refine cS (d := dB (true)) hw ?_
              exact wp_retTo rfl rfl
            · rw [h3.2.2] at c8; cases c8
          · rw [h3.2.1] at c7; cases c7
      · have := of_decide_eq_false c5
        exact absurd rfl this
    · rw [bae] at c4; cases c4
  · have k16 := g16a (gs := gs) (nm := nm) (us := us) (lt := lt) (rs := rs) (n := n) (ws := ws) (fs := fs) i_l.one i_ps.one i_fm.one hfe kFm
    refine cS (d := .tup [.leaf (.string ⟨#[]⟩), dI (fe)]) k16 ?_
    refine bS (d := .leaf (.string ⟨#[]⟩)) (te_ext rfl) ?_
    refine bS (d := dI (fe)) (te_ext rfl) ?_
    refine bS (d := dB (decide (¬ fe = 0))) sk_neq ?_
    refine wp_iteC rfl (fun c3 => ?_) (fun c3 => ?_)
    · skip
      refine bS (d := dB (decide (fe = fe))) sk_eql ?_
      refine wp_iteC rfl (fun c4 => ?_) (fun c4 => ?_)
      · skip
        refine bS (d := dB ((⟨#[]⟩ : ByteArray) == ⟨#[]⟩)) sh_strE ?_
        refine wp_iteC rfl (fun c5 => ?_) (fun c5 => ?_)
        · skip
          refine cS (d := dB (true)) hw ?_
          exact wp_retTo rfl rfl
        · rw [bae] at c5; cases c5
      · exact absurd rfl (of_decide_eq_false c4)
    · exact absurd (zz c3) hfe
end Go.Proofs.YtnemldklhelbeaaGreat
namespace Go.Proofs.YtnemldklhelbeaaGreat
open Go Go.Am Go.Proofs
namespace surfaceSpells
mutual
theorem bulk_le {H:Type}:∀ d:DataW H,wBulk d≤Rows.uptoBulk d
 | .lit l=>by cases l <;> simp [wBulk,Rows.uptoBulk]
 | .nil=>by simp [wBulk,Rows.uptoBulk]
 | .ptr d=>by have:=bulk_le d; simp only [wBulk,Rows.uptoBulk]; omega
 | .slice a b=>by have:=bulks_le a; have:=bulks_le b; simp only [wBulk,Rows.uptoBulk]; omega
 | .agg a=>by have:=bulks_le a; simp only [wBulk,Rows.uptoBulk]; omega
 | .iface _ d=>by have:=bulk_le d; simp only [wBulk,Rows.uptoBulk]; omega
 | .map _=>by simp only [wBulk,Rows.uptoBulk]; omega
 | .held _=>by simp [wBulk,Rows.uptoBulk]
theorem bulks_le {H:Type}:∀ l:List (DataW H),wBulks l≤Rows.uptoBulkAll l
 | []=>Nat.le_refl _
 | d::l=>by have:=bulk_le d; have:=bulks_le l; simp only [wBulks,Rows.uptoBulkAll]; omega
end
theorem shapes:argShs Tryz.prog 100 Tryz.f7.params.toList=some [ShL,.st [ShP]]:=by kernel_rfl
theorem law_all (ds:List D) (h:HasBs 1048576 [ShL,.st [ShP]] ds):Holds EE 7 ds (dB true):=by
 simp only [HasBs] at h
 obtain ⟨p,r,rfl,hp,q,r',rfl,hq,rfl⟩:=h
 exact law7 (by simpa only [HasB,HasBs] using hp) (by simpa only [HasB,HasBs] using hq) awake
theorem prog_eq:EE.prog=Tryz.prog:=rfl
theorem sizes (t:TypeId) (ti:TI) (h:EE.types.get t=some ti):ti.size=Tryz.prog.cellsOf t:=size_cells he h
theorem law_run {H:Type} {enc:TypeId × Value→H} {W:World} {args:List Value} {ds:List (DataW H)} {p:List MemPlace}
  (hA:DataW.TrodAll enc Tryz.prog W 0 (fun _=>true) true Tryz.f7.params.toList args ds p)
  (hok:∀ (j:Nat) t v,Tryz.f7.params.toList[j]? = some t→args[j]? = some v→Value.okWide Tryz.prog W .any 0 t v) (hB:wBulks ds≤1048576) :
  Calls Tryz.prog 7 ⟨args⟩ W fun e w'=>e=.returned (.bool true)∧Kept W w':=by
 have h1:=shapes
 have h2:=sizes
 have h3:=prog_eq
 have h4:=law_all
 generalize hts:Tryz.f7.params.toList=ts at *
 generalize hP:Tryz.prog=P at *
 exact lawB_calls (E:=EE) h3 h2 h1 h4 hA hok hB
open Go.ChangeShapes Go.WideShapes Go.ChangeAt Go.RowKit
theorem own:ownKnob Tryz.prog.godebug=none:=by kernel_rfl
theorem laid:laidOutB Tryz.prog=true:=by kernel_rfl
theorem maps:mapsRowed Tryz.prog=true:=by kernel_rfl
theorem full:∀ t e,t < Tryz.prog.types.size→Tryz.prog.underlying t=some (.slice e)→0 < Tryz.prog.cellsOf e:=slices_full_of Tryz.prog (by kernel_rfl)
theorem ps7:∀ t∈Tryz.f7.params.toList,t < Tryz.prog.types.size:=by
 have h:(Tryz.f7.params.toList.all fun t=>Nat.blt t Tryz.prog.types.size)=true:=by kernel_rfl
 intro t ht
 exact Nat.le_of_ble_eq_true (List.all_eq_true.1 h t ht)
def emptyL:Value:=.agg #[.slice none 0 0,.string ⟨#[]⟩,.slice none 0 0,.slice none 0 0,.slice none 0 0,.int .i64 0,.slice none 0 0,.slice none 0 0,.slice none 0 0]
def emptyLD {H:Type}:DataW H:=.agg [.agg [.nil],.agg [.lit (.string []),.nil,.nil],.nil,.agg [.lit (.int .i64 0),.nil,.nil],.nil]
set_option maxRecDepth 100000 in
theorem lifted (os:Os) (started:os.Started) (H:Type) (enc:TypeId × Value→H) (F:Stop.Interp) :
  ReturnsInHanded {} Tryz.checked os 7 .any ((Rows.OpenSpec.upto Rows.surfaceSpellsSpec).pre6 enc Tryz.prog Tryz.f7 Rows.surfaceSpellsUptoRow.domain false) (((Rows.OpenSpec.upto Rows.surfaceSpellsSpec).at F).post enc Tryz.prog Tryz.f7 false true false false):=by
 refine returnsInHanded_of_cond (C:=Tryz.checked) (s:=Rows.OpenSpec.upto Rows.surfaceSpellsSpec) (k:=Rows.uptoSmall) rfl own started (by kernel_rfl) Tryz.func7
  (OpenSpec.witness (enc:=enc) (C:=Tryz.checked) (s:=Rows.OpenSpec.upto Rows.surfaceSpellsSpec) (k:=Rows.uptoSmall) rfl false ⟨#[],#[emptyL,.agg #[.slice none 0 0]],[]⟩ 8 (by kernel_rfl) (by kernel_rfl) (by kernel_rfl)
   (x:=([emptyLD,.agg [.nil]],[],[])) (by kernel_rfl) rfl (by kernel_rfl)) ?_
 intro W base args ds gs before hval0 hW _ hk0 _
 have hval:∀ (j:Nat) t v,Tryz.f7.params[j]? = some t→args[j]? = some v→Value.okWide Tryz.prog W .any base t v:=hval0
 have hW':=hW
 obtain ⟨p,q,hA0,hV,rfl,hfz,hnd⟩:=hW
 have hA:DataW.TrodAll enc Tryz.prog W 0 (fun _=>true) true Tryz.f7.params.toList args.toList ds p:=hA0
 have hAll:=hA
 rw [Tryz.params7] at hA
 obtain ⟨v0,vs0,d0,ds0,p0,q0,hargs,rfl,rfl,h0,r0⟩:=trodAll_cons hA
 obtain ⟨v1,vs1,d1,ds1,p1,q1,rfl,rfl,rfl,h1,r1⟩:=trodAll_cons r0
 obtain ⟨rfl,rfl,rfl⟩:=trodAll_nil r1
 obtain rfl:args = #[v0,v1]:=by cases args; simp_all
 obtain ⟨rfl,rfl⟩:=trodVars_none hV
 have hB:wBulks [d0,d1]≤1048576:=Nat.le_trans (bulks_le _) (of_decide_eq_true hk0)
 have hcall:Calls Tryz.prog 7 #[v0,v1] W fun e w'=>e=.returned (.bool true)∧Kept W w' :=
  law_run hAll (fun j t v e1 e2=>show Value.okWide Tryz.prog W .any 0 t v from hval j t v (by simpa using e1) (by simpa using e2)) hB
 refine hcall.mono fun e W' ⟨he,hk⟩=>?_
 subst he
 exact ⟨_,rfl,post_of_kept (pv:=[]) hW' (fun _ _ _=>trodAll_cons_mk (shut_bool Tryz.underlying4 _) trodAll_mk0) (fun sp hsp=>trodAll_again laid maps full ps7 hAll hk (fun p hp=>hsp p (List.mem_append_left _ hp))) (fun _ _=>rfl) rfl hk
  (ok_one (by kernel_rfl) rfl (okWide_bool_mk Tryz.underlying4 _))⟩
end surfaceSpells
end Go.Proofs.YtnemldklhelbeaaGreat
