/- EditionSums: the law over data of bounded bulk. Conditions: none. -/
import Derived.Test.YtgkfhfcieamncaaGreatDoorSh
import Derived.Test.YtgkfhfcieamncaaGreatDoorSm
set_option linter.unusedVariables false
set_option linter.unusedSimpArgs false
namespace Go.Proofs.YtgkfhfcieamncaaGreatDoor
open Go Go.Am Go.Proofs Go.Am.Tt
attribute [local irreducible] Go.Am.wp Go.Am.TOp.eval
abbrev ShLang : Sh := (.st [(.sl 102 2 (.st [.str, (.int .i64)])), .str, (.sl 121 2 (.st [.str, (.sl 3 1 (.int .i64))])), (.sl 68 1 (.sl 9 1 .str)), (.sl 89 6 (.st [(.sl 3 1 (.int .i64)), (.sl 3 1 (.int .i64)), (.sl 200 2 (.st [(.int .i64), (.int .i64)])), (.sl 200 2 (.st [(.int .i64), (.int .i64)])), .bool, .bool])), (.int .i64), (.sl 123 3 (.st [(.int .i64), (.int .i64), (.int .i64)])), (.sl 3 1 (.int .i64)), (.sl 96 8 (.st [(.int .i64), (.sl 3 1 (.int .i64)), (.int .i64), (.sl 31 1 (.sl 3 1 (.int .i64))), (.int .i64), (.sl 125 2 (.st [.str, .str])), (.sl 148 2 (.st [(.int .i64), (.int .i64)])), (.sl 127 2 (.st [(.int .i64), (.int .i64)]))]))])
abbrev ShDoc : Sh := (.st [(.int .i64), .str, (.int .i64), (.int .i64), (.sl 3 1 (.int .i64)), (.sl 111 4 (.st [.str, (.int .i64), (.int .i64), (.int .i64)])), (.sl 115 7 (.st [(.int .i64), (.int .i64), (.int .i64), (.int .i64), (.int .i64), (.int .i64), .str]))])
abbrev ShPoint : Sh := (.st [(.int .i64), .str, .str, (.sl 3 1 (.int .i64)), (.sl 127 2 (.st [(.int .i64), (.int .i64)]))])
theorem h3 {g d x : D} (hg : Wd ShLang g) (hd : Wd ShDoc d) (hx : Wd ShPoint x) (hw : Holds EE 4 [] (dB true)) : Holds EE 3 [g, d, x] (dB true) := by
  have k5 := H5 hg
  have k6 := H6 hg
  have k7 := H7 hd
  have k8 := H8 hd
  have k9 := H9 hx
  have k10 := H10 hx
  obtain ⟨acs, rfl, ak⟩ := wd_st hg
  obtain ⟨a0, ar0, rfl, ah0, ak⟩ := wds_cons ak
  obtain ⟨a1, ar1, rfl, ah1, ak⟩ := wds_cons ak
  obtain ⟨a2, ar2, rfl, ah2, ak⟩ := wds_cons ak
  obtain ⟨a3, ar3, rfl, ah3, ak⟩ := wds_cons ak
  obtain ⟨a4, ar4, rfl, ah4, ak⟩ := wds_cons ak
  obtain ⟨a5, ar5, rfl, ah5, ak⟩ := wds_cons ak
  obtain ⟨a6, ar6, rfl, ah6, ak⟩ := wds_cons ak
  obtain ⟨a7, ar7, rfl, ah7, ak⟩ := wds_cons ak
  obtain ⟨a8, ar8, rfl, ah8, ak⟩ := wds_cons ak
  obtain rfl := wds_nil ak
  obtain ⟨bcs, rfl, bk⟩ := wd_st hd
  obtain ⟨b0, br0, rfl, bh0, bk⟩ := wds_cons bk
  obtain ⟨b1, br1, rfl, bh1, bk⟩ := wds_cons bk
  obtain ⟨b2, br2, rfl, bh2, bk⟩ := wds_cons bk
  obtain ⟨b3, br3, rfl, bh3, bk⟩ := wds_cons bk
  obtain ⟨b4, br4, rfl, bh4, bk⟩ := wds_cons bk
  obtain ⟨b5, br5, rfl, bh5, bk⟩ := wds_cons bk
  obtain ⟨b6, br6, rfl, bh6, bk⟩ := wds_cons bk
  obtain rfl := wds_nil bk
  obtain ⟨ccs, rfl, ck⟩ := wd_st hx
  obtain ⟨c0, cr0, rfl, ch0, ck⟩ := wds_cons ck
  obtain ⟨c1, cr1, rfl, ch1, ck⟩ := wds_cons ck
  obtain ⟨c2, cr2, rfl, ch2, ck⟩ := wds_cons ck
  obtain ⟨c3, cr3, rfl, ch3, ck⟩ := wds_cons ck
  obtain ⟨c4, cr4, rfl, ch4, ck⟩ := wds_cons ck
  obtain rfl := wds_nil ck
  refine u3 rfl (Goes.step' ?_)
  show wp _ _ _ u3T0 _
  refine wp_bindE (ρ' := [_, _, _, .agg [a0, a1, a2, a3, a4, a5, a6, a7, a8]]) (sh_chkW rfl) rfl rfl ?_
  refine wp_bindE (ρ' := [_, _, _, _, .agg [b0, b1, b2, b3, b4, b5, b6]]) (sh_chkW rfl) rfl rfl ?_
  refine wp_bindE (ρ' := [_, _, _, _, _, .agg [c0, c1, c2, c3, c4]]) (sh_chkW rfl) rfl rfl ?_
  refine wp_bindE (ρ' := [_, _, _, _, _, _, a8]) (sh_fld1 (off := 8) rfl (wd_sl ah8).1.one) rfl rfl ?_
  refine wp_bindE (ρ' := [_, _, _, _, _, _, _, dI (a8.es.length : Int)]) (sh_len (wd_sl ah8).1) rfl rfl ?_
  refine wp_bindE (ρ' := [_, _, _, _, _, _, _, _, _]) sk_gtr rfl rfl ?_
  refine wp_iteC rfl (fun _ => ?_) (fun _ => ?_)
  · refine wp_callE (ρ' := [_, _, _, _, _, _, _, _, _, dB true]) hw rfl rfl rfl rfl ?_
    exact wp_retTo2 rfl rfl
  · skip
    refine wp_bindE (ρ' := [_, _, _, _, _, _, _, _, _, a4]) (sh_fld1 (off := 4) rfl (wd_sl ah4).1.one) rfl rfl ?_
    refine wp_bindE (ρ' := [_, _, _, _, _, _, _, _, _, _, dI (a4.es.length : Int)]) (sh_len (wd_sl ah4).1) rfl rfl ?_
    refine wp_bindE (ρ' := [_, _, _, _, _, _, _, _, _, _, _, _]) sk_gtr rfl rfl ?_
    refine wp_iteC rfl (fun _ => ?_) (fun _ => ?_)
    · refine wp_callE (ρ' := [_, _, _, _, _, _, _, _, _, _, _, _, dB true]) hw rfl rfl rfl rfl ?_
      exact wp_retTo2 rfl rfl
    · skip
      refine wp_bindE (ρ' := [_, _, _, _, _, _, _, _, _, _, _, _, a6]) (sh_fld1 (off := 6) rfl (wd_sl ah6).1.one) rfl rfl ?_
      refine wp_bindE (ρ' := [_, _, _, _, _, _, _, _, _, _, _, _, _, dI (a6.es.length : Int)]) (sh_len (wd_sl ah6).1) rfl rfl ?_
      refine wp_bindE (ρ' := [_, _, _, _, _, _, _, _, _, _, _, _, _, _, _]) sk_gtr rfl rfl ?_
      refine wp_iteC rfl (fun _ => ?_) (fun _ => ?_)
      · refine wp_callE (ρ' := [_, _, _, _, _, _, _, _, _, _, _, _, _, _, _, dB true]) hw rfl rfl rfl rfl ?_
        exact wp_retTo2 rfl rfl
      · skip
        refine wp_bindE (ρ' := [_, _, _, _, _, _, _, _, _, _, _, _, _, _, _, b6]) (sh_fld1 (off := 6) rfl (wd_sl bh6).1.one) rfl rfl ?_
        refine wp_bindE (ρ' := [_, _, _, _, _, _, _, _, _, _, _, _, _, _, _, _, dI (b6.es.length : Int)]) (sh_len (wd_sl bh6).1) rfl rfl ?_
        refine wp_bindE (ρ' := [_, _, _, _, _, _, _, _, _, _, _, _, _, _, _, _, _, _]) sk_gtr rfl rfl ?_
        refine wp_iteC rfl (fun _ => ?_) (fun _ => ?_)
        · refine wp_callE (ρ' := [_, _, _, _, _, _, _, _, _, _, _, _, _, _, _, _, _, _, dB true]) hw rfl rfl rfl rfl ?_
          exact wp_retTo2 rfl rfl
        · skip
          refine wp_bindE (ρ' := [_, _, _, _, _, _, _, _, _, _, _, _, _, _, _, _, _, _, c4]) (sh_fld1 (off := 4) rfl (wd_sl ch4).1.one) rfl rfl ?_
          refine wp_bindE (ρ' := [_, _, _, _, _, _, _, _, _, _, _, _, _, _, _, _, _, _, _, dI (c4.es.length : Int)]) (sh_len (wd_sl ch4).1) rfl rfl ?_
          refine wp_bindE (ρ' := [_, _, _, _, _, _, _, _, _, _, _, _, _, _, _, _, _, _, _, _, _]) sk_gtr rfl rfl ?_
          refine wp_iteC rfl (fun _ => ?_) (fun _ => ?_)
          · refine wp_callE (ρ' := [_, _, _, _, _, _, _, _, _, _, _, _, _, _, _, _, _, _, _, _, _, dB true]) hw rfl rfl rfl rfl ?_
            exact wp_retTo2 rfl rfl
          · skip
            refine wp_callE (ρ' := [_, _, _, _, _, _, _, _, _, _, _, _, _, _, _, _, _, _, _, _, _, dI (hashV (enc ShLang (.agg [a0, a1, a2, a3, a4, a5, a6, a7, a8])))]) k5 rfl rfl rfl rfl ?_
            refine wp_callE (ρ' := [_, _, _, _, _, _, _, _, _, _, _, _, _, _, _, _, _, _, _, _, _, _, dI (hashV (enc ShLang (.agg [a0, a1, a2, a3, a4, a5, a6, a7, a8])))]) k6 rfl rfl rfl rfl ?_
            refine wp_bindE (ρ' := [_, _, _, _, _, _, _, _, _, _, _, _, _, _, _, _, _, _, _, _, _, _, _, _]) sk_eql rfl rfl ?_
            refine wp_iteC rfl (fun _ => ?_) (fun c => absurd rfl (of_decide_eq_false c))
            refine wp_callE (ρ' := [_, _, _, _, _, _, _, _, _, _, _, _, _, _, _, _, _, _, _, _, _, _, _, _, dI (hashV (enc ShDoc (.agg [b0, b1, b2, b3, b4, b5, b6])))]) k7 rfl rfl rfl rfl ?_
            refine wp_callE (ρ' := [_, _, _, _, _, _, _, _, _, _, _, _, _, _, _, _, _, _, _, _, _, _, _, _, _, dI (hashV (enc ShDoc (.agg [b0, b1, b2, b3, b4, b5, b6])))]) k8 rfl rfl rfl rfl ?_
            refine wp_bindE (ρ' := [_, _, _, _, _, _, _, _, _, _, _, _, _, _, _, _, _, _, _, _, _, _, _, _, _, _, _]) sk_eql rfl rfl ?_
            refine wp_iteC rfl (fun _ => ?_) (fun c => absurd rfl (of_decide_eq_false c))
            refine wp_callE (ρ' := [_, _, _, _, _, _, _, _, _, _, _, _, _, _, _, _, _, _, _, _, _, _, _, _, _, _, _, dI (hashV (enc ShPoint (.agg [c0, c1, c2, c3, c4])))]) k9 rfl rfl rfl rfl ?_
            refine wp_callE (ρ' := [_, _, _, _, _, _, _, _, _, _, _, _, _, _, _, _, _, _, _, _, _, _, _, _, _, _, _, _, dI (hashV (enc ShPoint (.agg [c0, c1, c2, c3, c4])))]) k10 rfl rfl rfl rfl ?_
            refine wp_bindE (ρ' := [_, _, _, _, _, _, _, _, _, _, _, _, _, _, _, _, _, _, _, _, _, _, _, _, _, _, _, _, _, _]) sk_eql rfl rfl ?_
            refine wp_iteC rfl (fun _ => ?_) (fun c => absurd rfl (of_decide_eq_false c))
            refine wp_callE (ρ' := [_, _, _, _, _, _, _, _, _, _, _, _, _, _, _, _, _, _, _, _, _, _, _, _, _, _, _, _, _, _, dB true]) hw rfl rfl rfl rfl ?_
            exact wp_retTo2 rfl rfl
theorem law_all (ds : List D) (h : HasShs [ShLang, ShDoc, ShPoint] ds) (hb : dBulks ds ≤ 1048576) : Holds EE 3 ds (dB true) := by
  have hw := wds_of h hb
  obtain ⟨g, r, rfl, hg, hw⟩ := wds_cons hw
  obtain ⟨d, r2, rfl, hd, hw⟩ := wds_cons hw
  obtain ⟨x, r3, rfl, hx, hw⟩ := wds_cons hw
  obtain rfl := wds_nil hw
  exact h3 hg hd hx awake
end Go.Proofs.YtgkfhfcieamncaaGreatDoor
