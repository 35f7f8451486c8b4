/- The entry with an Id, by both. Conditions: none. -/
import Derived.Test.YtnemldklhelbeaaGreatJc
import Derived.Test.YtnemldklhelbeaaGreatJd
import Derived.Test.YtnemldklhelbeaaGreatJe
import Derived.Test.YtnemldklhelbeaaGreatUv
set_option linter.unusedVariables false
set_option linter.unusedSimpArgs false
namespace Go.Proofs.YtnemldklhelbeaaGreat
open Go Go.Am Go.Proofs
attribute [local irreducible] Go.Am.wp Go.Am.TOp.eval
def pId (id:Int):D→Bool
 | .agg (.leaf (.int .i64 n)::_)=>decide (n=id)
 | _=>false
def fst (l:D) (id:Int):Nat:=l.es.findIdx (pId id)
theorem fst_le (l:D) (id:Int):fst l id≤l.es.length:=List.findIdx_le_length
theorem fst_hit {l:D} {id:Int} {i:Nat} {e:D} (h:i≤fst l id) (he:l.es[i]? = some e) (hp:pId id e=true):fst l id=i:=by
 rcases Nat.lt_or_eq_of_le h with h | h
 ·
  have hn:=List.not_of_lt_findIdx h
  have:=(List.getElem?_eq_some_iff.1 he).2
  rw [this,hp] at hn
  cases hn
 ·
  exact h.symm
theorem fst_miss {l:D} {id:Int} {i:Nat} {e:D} (h:i≤fst l id) (he:l.es[i]? = some e) (hp:pId id e=false):i+1≤fst l id:=by
 rcases Nat.lt_or_eq_of_le h with h | h
 ·
  exact h
 ·
  have hl:=(List.getElem?_eq_some_iff.1 he).1
  have h2:l.es.findIdx (pId id) < l.es.length:=by show fst l id < _; omega
  have:=List.findIdx_getElem (w:=h2)
  have e2:l.es[l.es.findIdx (pId id)]=e:=by
   have:l.es[l.es.findIdx (pId id)]? = some e:=by rw [← he,h]; rfl
   exact (List.getElem?_eq_some_iff.1 this).2
  rw [e2,hp] at this
  cases this
abbrev zeroE:D:=.agg [dI ((0:Nat):Int),.nil,dI ((0:Nat):Int),.nil,dI ((0:Nat):Int),.nil,.nil,.nil]
def getR (l:D) (id:Int):D:=match l.es[fst l id]? with
 | some e=>.tup [e,dB true]
 | none=>.tup [zeroE,dB false]
theorem getR_hit {l:D} {id:Int} {i:Nat} {e:D} (h:fst l id=i) (he:l.es[i]? = some e):getR l id=.tup [e,dB true]:=by
 unfold getR; rw [h,he]
theorem getR_none {l:D} {id:Int} (h:l.es.length≤fst l id):getR l id=.tup [zeroE,dB false]:=by
 unfold getR; rw [List.getElem?_eq_none h]
def fstI (l:D) (id:Int):Int:=if fst l id < l.es.length then (fst l id:Int) else -1
abbrev ShE:Sh:=.st [.int .i64,.sl 3 1 (.int .i64),.int .i64,.sl 31 1 (.sl 3 1 (.int .i64)),.int .i64,.sl 79 2 (.st [.str,.str]),.sl 134 2 (.st [.int .i64,.int .i64]),.sl 182 2 (.st [.int .i64,.int .i64])]
theorem g80 {x0 b:Int} {x1 x2 x3 x4 x5 x6 x7:D}:Holds EE 80 [.agg [dI x0,x1,x2,x3,x4,x5,x6,x7],.ptr [dI b] 0] (dB (decide (x0=b))):=by
 refine u80 rfl (Goes.step' ?_)
 show wp _ _ _ u80T0 _
 refine bS (d:=.agg [dI x0,x1,x2,x3,x4,x5,x6,x7]) (sh_chkW rfl) ?_
 refine bS (d:=dI x0) (sh_fld1 (off:=0) rfl rfl) ?_
 refine bS (d:=.ptr [dI b] 0) ev_pchk ?_
 refine bS (d:=dI b) (ev_loadp (ag:=false) (size:=1) (cs:=[dI b]) (off:=0)) ?_
 refine bS (d:=dB (decide (x0=b))) sk_eql ?_
 exact wp_retTo (d':=dB (decide (x0=b))) rfl rfl
theorem g79 {a:D} {b:Int} (h_a:HasB 300000000 (.sl 59 8 ShE) a):Holds EE 79 [a,.clo (.func 80) [] [.ptr [dI b] 0]] (dI (fstI a b)):=by
 suffices h:∃ d,d=dI (fstI a b)∧Goes EE (Holds EE) u79Ts 0 [a,.clo (.func 80) [] [.ptr [dI b] 0]] d by
  obtain ⟨d,rfl,hg⟩:=h; exact u79 rfl hg
 have i_a:=isSl_ofB h_a
 have b_a:=len_leB h_a
 refine goes_R (R:=(fun d=>d=dI (fstI a b))) ?_
 show wp _ _ _ u79T0 _
 refine bS (d:=dI ((a.es.length:Nat):Int)) (sh_len i_a) ?_
 refine wr_jump rfl (loop_up (P:=fun i0=>i0≤fst a b→∃ d,(fun d=>d=dI (fstI a b)) d∧Goes EE (Holds EE) u79Ts 1 [a,.clo (.func 80) [] [.ptr [dI b] 0],dI ((a.es.length:Nat):Int),dI ((i0:Nat):Int)] d) (a.es.length) (fun i0 ih0=>?_) 0 (by omega))
 intro hn0
 refine goes_R (R:=(fun d=>d=dI (fstI a b))) ?_
 show wp _ _ _ u79T1 _
 refine bS sk_lss ?_
 refine wp_iteC rfl (fun c1=>?_) (fun c1=>?_)
 ·
  replace c1:=of_decide_eq_true c1
  obtain ⟨x2,e_x2⟩:=get_at (d:=a) (s:=((i0:Nat):Int)) (by omega) (by omega)
  obtain ⟨_,rfl,_,_,rfl,⟨x2_0,rfl⟩,x2_1,_,rfl,h_x2_1,_,_,rfl,⟨x2_2,rfl⟩,x2_3,_,rfl,h_x2_3,_,_,rfl,⟨x2_4,rfl⟩,x2_5,_,rfl,h_x2_5,x2_6,_,rfl,h_x2_6,x2_7,_,rfl,h_x2_7,rfl⟩:=(elem_ofB h_a e_x2)
  have i_x2_1:=isSl_ofB h_x2_1
  have b_x2_1:=len_leB h_x2_1
  have i_x2_3:=isSl_ofB h_x2_3
  have b_x2_3:=len_leB h_x2_3
  have i_x2_5:=isSl_ofB h_x2_5
  have b_x2_5:=len_leB h_x2_5
  have i_x2_6:=isSl_ofB h_x2_6
  have b_x2_6:=len_leB h_x2_6
  have i_x2_7:=isSl_ofB h_x2_7
  have b_x2_7:=len_leB h_x2_7
  refine bS (d:=dB (true)) (si_inr (by omega) e_x2) ?_
  refine bS (d:=.agg [dI (x2_0),x2_1,dI (x2_2),x2_3,dI (x2_4),x2_5,x2_6,x2_7]) (si_elemW i_a (by omega) e_x2 rfl) ?_
  refine cS (d:=dB (decide (x2_0=b))) (g80 (x0:=x2_0) (b:=b)) ?_
  have e':a.es[i0]? = some _:=e_x2
  refine wp_iteC rfl (fun c3=>?_) (fun c3=>?_)
  ·
   exact wr_ret rfl (by
    show dI ((i0:Nat):Int)=dI (fstI a b)
    have hh:=fst_hit hn0 e' c3
    unfold fstI
    rw [hh,if_pos (by omega)])
  ·
   refine bS (d:=dI ((i0+1:Nat):Int)) (sh_add (cap_bd' (by omega))) ?_
   exact wr_jump rfl (ih0 (by omega) (fst_miss hn0 e' c3))
 ·
  replace c1:=of_decide_eq_false c1
  exact wr_ret rfl (by
   show dI (-1)=dI (fstI a b)
   have:=fst_le a b
   unfold fstI
   rw [if_neg (by omega)])
theorem g43 {a:D} {b:Int} (h_a:HasB 300000000 (.sl 59 8 ShE) a):Holds EE 43 [a,dI b] (getR a b):=by
 refine u43 rfl (Goes.step' ?_)
 have i_a:=isSl_ofB h_a
 have b_a:=len_leB h_a
 show wp _ _ _ u43T0 _
 refine bS (d:=dI b) (sh_chk1 rfl) ?_
 refine bS (d:=.ptr [dI b] 0) ev_box ?_
 refine cS (d:=dI (fstI a b)) (g79 h_a) ?_
 refine bS sk_lss ?_
 have hle:=fst_le a b
 refine wp_iteC rfl (fun c0=>?_) (fun c0=>?_)
 ·
  replace c0:=of_decide_eq_true c0
  refine wp_retTo2 rfl ?_
  refine (getR_none ?_).symm
  unfold fstI at c0
  split at c0 <;> omega
 ·
  replace c0:=of_decide_eq_false c0
  have hf:fst a b < a.es.length∧fstI a b=(fst a b:Int):=by
   unfold fstI at c0 ⊢
   split at c0
   ·
    rename_i h; exact ⟨h,if_pos h⟩
   ·
    omega
  rw [hf.2]
  obtain ⟨x2,e_x2⟩:=get_at (d:=a) (s:=(fst a b:Int)) (by omega) (by omega)
  have e':a.es[fst a b]? = some x2:=e_x2
  obtain ⟨_,rfl,_,_,rfl,⟨x2_0,rfl⟩,x2_1,_,rfl,h_x2_1,_,_,rfl,⟨x2_2,rfl⟩,x2_3,_,rfl,h_x2_3,_,_,rfl,⟨x2_4,rfl⟩,x2_5,_,rfl,h_x2_5,x2_6,_,rfl,h_x2_6,x2_7,_,rfl,h_x2_7,rfl⟩:=(elem_ofB h_a e_x2)
  refine bS (d:=dB true) (si_inr (by omega) e_x2) ?_
  refine bS (si_elemW i_a (by omega) e_x2 rfl) ?_
  refine bS (sh_chkW rfl) ?_
  refine wp_retTo2 rfl ?_
  exact (getR_hit rfl e').symm
end Go.Proofs.YtnemldklhelbeaaGreat
namespace Go.Proofs.YtnemldklhelbeaaGreat
open Go Go.Am Go.Proofs
attribute [local irreducible] Go.Am.wp Go.Am.TOp.eval
abbrev ShI:Sh:=.sl 3 1 (.int .i64)
theorem getR_cases {l:D} {id:Int} (h:HasB 1048576 (.sl 59 8 ShE) l) :
  (∃ (x0 x2 x4:Int) (x1 x3 x5 x6 x7:D),HasB 1048576 ShI x1∧HasB 1048576 (.sl 31 1 ShI) x3∧HasB 1048576 (.sl 79 2 (.st [.str,.str])) x5∧HasB 1048576 (.sl 134 2 (.st [.int .i64,.int .i64])) x6∧HasB 1048576 (.sl 182 2 (.st [.int .i64,.int .i64])) x7 ∧
   l.es[fst l id]? = some (.agg [dI x0,x1,dI x2,x3,dI x4,x5,x6,x7])∧getR l id=.tup [.agg [dI x0,x1,dI x2,x3,dI x4,x5,x6,x7],dB true]) ∨
  (l.es[fst l id]? = none∧getR l id=.tup [zeroE,dB false]):=by
 cases he:l.es[fst l id]? with
 | none=>exact .inr ⟨rfl,by unfold getR; rw [he]⟩
 | some x =>
  left
  obtain ⟨_,rfl,_,_,rfl,⟨x0,rfl⟩,x1,_,rfl,h1,_,_,rfl,⟨x2,rfl⟩,x3,_,rfl,h3,_,_,rfl,⟨x4,rfl⟩,x5,_,rfl,h5,x6,_,rfl,h6,x7,_,rfl,h7,rfl⟩:=elem_ofB h he
  exact ⟨x0,x2,x4,x1,x3,x5,x6,x7,h1,h3,h5,h6,h7,rfl,getR_hit rfl he⟩
def selP (l:D) (p0 p1:Int):Option (D × D):=match l.es[fst l p0]? with
 | some (.agg (_::x1::x2::x3::_))=>if 0≤p1∧p1 < ((x1::x3.es).length:Int) then some (x2,((x1::x3.es)[p1.toNat]?).getD .nil) else none
 | _=>none
theorem forms_all {x1 x3:D} (h1:HasB 1048576 ShI x1) (h3:HasB 1048576 (.sl 31 1 ShI) x3):∀ y∈x1::x3.es,HasB 1048576 ShI y:=by
 intro y hy
 rcases List.mem_cons.1 hy with rfl | hy
 ·
  exact h1
 ·
  obtain ⟨i,hi⟩:=List.mem_iff_getElem?.1 hy
  exact elem_ofB h3 hi
theorem selP_hb {l:D} {p0 p1:Int} {c w:D} (h:HasB 1048576 (.sl 59 8 ShE) l) (hs:selP l p0 p1=some (c,w)):(∃ n,c=dI n)∧HasB 1048576 ShI w:=by
 unfold selP at hs
 rcases getR_cases (id:=p0) h with ⟨x0,x2,x4,x1,x3,x5,x6,x7,h1,h3,h5,h6,h7,he,_⟩ | ⟨he,_⟩
 ·
  rw [he] at hs
  simp only at hs
  split at hs
  ·
   rename_i hc
   simp only [Option.some.injEq,Prod.mk.injEq] at hs
   obtain ⟨rfl,rfl⟩:=hs
   refine ⟨⟨_,rfl⟩,?_⟩
   have hl:p1.toNat < (x1::x3.es).length:=by omega
   rw [List.getElem?_eq_getElem hl]
   exact forms_all h1 h3 _ (List.getElem_mem hl)
  ·
   cases hs
 ·
  rw [he] at hs; cases hs
theorem forms_val {x1 x3:D} (h1:HasB 1048576 ShI x1) (h3:HasB 1048576 (.sl 31 1 ShI) x3):HasB 300000000 (.sl 31 1 ShI) (.sl 31 1 (x1::x3.es)) :=
 hb_sl (by have:=len_leB h3; simp; omega) fun y hy=>hasB_mono (by decide) (forms_all h1 h3 y hy)
theorem g81 {x0 x2 x4:Int} {x1 x3 x5 x6 x7:D} (h1:HasB 1048576 ShI x1) (h3:HasB 1048576 (.sl 31 1 ShI) x3):Holds EE 81 [.agg [dI x0,x1,dI x2,x3,dI x4,x5,x6,x7]] (.sl 31 1 (x1::x3.es)):=by
 refine u81 rfl (Goes.step' ?_)
 have i_x1:=isSl_ofB h1
 have i_x3:=isSl_ofB h3
 have b_x3:=len_leB h3
 show wp _ _ _ u81T0 _
 refine bS (d:=.agg [dI x0,x1,dI x2,x3,dI x4,x5,x6,x7]) (sh_chkW rfl) ?_
 refine bS (d:=x1) (sh_fld1 (off:=1) rfl i_x1.one) ?_
 refine bS (d:=x1) (sh_chk1 i_x1.one) ?_
 refine bS (d:=.sl 31 1 [x1]) (lit_one i_x1.one) ?_
 refine bS (d:=x3) (sh_fld1 (off:=3) rfl i_x3.one) ?_
 refine bS (d:=.sl 31 1 (x1::x3.es)) (app_mk (el:=31) (sz:=1) (bytes:=24) (l:=[x1]) h3 (by decide) (by simp; omega)) ?_
 exact wp_retTo rfl rfl
theorem g44 {g:List D} {l:D} {p0 p1 p2:Int} (hg:g.length=9) (hl:g[8]? = some l) (h:HasB 1048576 (.sl 59 8 ShE) l) :
  ∃ (y0 y2 y4:Int) (y1 y3 y5 y6 y7 w:D) (b:Bool),Holds EE 44 [.agg g,.agg [dI p0,dI p1,dI p2]] (.tup [.agg [dI y0,y1,dI y2,y3,dI y4,y5,y6,y7],w,dB b])∧selP l p0 p1=(if b then some (dI y2,w) else none)∧HasB 1048576 ShI w∧w.one=true:=by
 have hB:=hasB_mono (B':=300000000) (by decide) h
 have i_l:=isSl_ofB hB
 rcases getR_cases (id:=p0) h with ⟨x0,x2,x4,x1,x3,x5,x6,x7,h1,h3,h5,h6,h7,he,hr⟩ | ⟨he,hr⟩
 ·
  have hsel:selP l p0 p1=(if 0≤p1∧p1 < ((x1::x3.es).length:Int) then some (dI x2,((x1::x3.es)[p1.toNat]?).getD .nil) else none):=by
   unfold selP; rw [he]
  have i_f:=isSl_ofB (forms_val h1 h3)
  by_cases hc:0≤p1∧p1 < ((x1::x3.es).length:Int)
  ·
   have hlt:p1.toNat < (x1::x3.es).length:=by omega
   have hw:=forms_all h1 h3 _ (List.getElem_mem hlt)
   have hwe:(x1::x3.es)[p1.toNat]? = some ((x1::x3.es)[p1.toNat]):=List.getElem?_eq_getElem hlt
   generalize (x1::x3.es)[p1.toNat]=w at hw hwe
   have i_w:=isSl_ofB hw
   refine ⟨x0,x2,x4,x1,x3,x5,x6,x7,w,true,?_,by rw [hsel,if_pos hc,hwe]; rfl,hw,i_w.one⟩
   refine u44 rfl (Goes.step' ?_)
   show wp _ _ _ u44T0 _
   refine bS (d:=.agg g) (sh_chkW hg) ?_
   refine bS (d:=.agg [dI p0,dI p1,dI p2]) (sh_chkW rfl) ?_
   refine bS (d:=l) (sh_fld1 (off:=8) hl i_l.one) ?_
   refine bS (d:=dI p0) (sh_fld1 (off:=0) rfl rfl) ?_
   refine cS (d:=.tup [.agg [dI x0,x1,dI x2,x3,dI x4,x5,x6,x7],dB true]) (by rw [← hr]; exact g43 hB) ?_
   refine bS (d:=.agg [dI x0,x1,dI x2,x3,dI x4,x5,x6,x7]) (te_ext rfl) ?_
   refine bS (d:=dB true) (te_ext rfl) ?_
   refine bS (d:=.agg [dI x0,x1,dI x2,x3,dI x4,x5,x6,x7]) (sh_chkW rfl) ?_
   refine cS (d:=.sl 31 1 (x1::x3.es)) (g81 h1 h3) ?_
   refine bS (d:=dB (!true)) sh_not ?_
   refine wp_iteB rfl ?_
   refine ite_f ?_
   refine bS (d:=dI p1) (sh_fld1 (off:=1) rfl rfl) ?_
   refine bS sk_lss ?_
   refine wp_iteC rfl (fun c0=>?_) (fun c0=>?_)
   ·
    replace c0:=of_decide_eq_true c0
    omega
   refine bS (d:=dI p1) (sh_fld1 (off:=1) rfl rfl) ?_
   refine bS (d:=dI (((x1::x3.es).length:Nat):Int)) (sh_len i_f) ?_
   refine bS sk_geq ?_
   refine wp_iteC rfl (fun c1=>?_) (fun c1=>?_)
   ·
    replace c1:=of_decide_eq_true c1
    omega
   refine bS (d:=dI p1) (sh_fld1 (off:=1) rfl rfl) ?_
   refine bS (d:=dB true) (si_inr (d:=.sl 31 1 (x1::x3.es)) hc.1 hwe) ?_
   refine bS (d:=w) (si_elem1 i_f hc.1 hwe i_w.one) ?_
   refine bS (d:=.agg [dI x0,x1,dI x2,x3,dI x4,x5,x6,x7]) (sh_chkW rfl) ?_
   refine bS (d:=dB true) (si_inr (d:=.sl 31 1 (x1::x3.es)) hc.1 hwe) ?_
   exact wp_retTo2 rfl rfl
  ·
   refine ⟨x0,x2,x4,x1,x3,x5,x6,x7,.nil,false,?_,by rw [hsel,if_neg hc]; rfl,hb_nil,rfl⟩
   refine u44 rfl (Goes.step' ?_)
   show wp _ _ _ u44T0 _
   refine bS (d:=.agg g) (sh_chkW hg) ?_
   refine bS (d:=.agg [dI p0,dI p1,dI p2]) (sh_chkW rfl) ?_
   refine bS (d:=l) (sh_fld1 (off:=8) hl i_l.one) ?_
   refine bS (d:=dI p0) (sh_fld1 (off:=0) rfl rfl) ?_
   refine cS (d:=.tup [.agg [dI x0,x1,dI x2,x3,dI x4,x5,x6,x7],dB true]) (by rw [← hr]; exact g43 hB) ?_
   refine bS (d:=.agg [dI x0,x1,dI x2,x3,dI x4,x5,x6,x7]) (te_ext rfl) ?_
   refine bS (d:=dB true) (te_ext rfl) ?_
   refine bS (d:=.agg [dI x0,x1,dI x2,x3,dI x4,x5,x6,x7]) (sh_chkW rfl) ?_
   refine cS (d:=.sl 31 1 (x1::x3.es)) (g81 h1 h3) ?_
   refine bS (d:=dB (!true)) sh_not ?_
   refine wp_iteB rfl ?_
   refine ite_f ?_
   refine bS (d:=dI p1) (sh_fld1 (off:=1) rfl rfl) ?_
   refine bS sk_lss ?_
   refine wp_iteC rfl (fun c0=>?_) (fun c0=>?_)
   ·
    refine bS (d:=.agg [dI x0,x1,dI x2,x3,dI x4,x5,x6,x7]) (sh_chkW rfl) ?_
    exact wp_retTo2 rfl rfl
   replace c0:=of_decide_eq_false c0
   refine bS (d:=dI p1) (sh_fld1 (off:=1) rfl rfl) ?_
   refine bS (d:=dI (((x1::x3.es).length:Nat):Int)) (sh_len i_f) ?_
   refine bS sk_geq ?_
   refine wp_iteC rfl (fun c1=>?_) (fun c1=>?_)
   ·
    refine bS (d:=.agg [dI x0,x1,dI x2,x3,dI x4,x5,x6,x7]) (sh_chkW rfl) ?_
    exact wp_retTo2 rfl rfl
   ·
    replace c1:=of_decide_eq_false c1
    exact absurd ⟨by omega,by omega⟩ hc
 ·
  refine ⟨0,0,0,.nil,.nil,.nil,.nil,.nil,.nil,false,?_,by unfold selP; rw [he]; rfl,hb_nil,rfl⟩
  refine u44 rfl (Goes.step' ?_)
  show wp _ _ _ u44T0 _
  refine bS (d:=.agg g) (sh_chkW hg) ?_
  refine bS (d:=.agg [dI p0,dI p1,dI p2]) (sh_chkW rfl) ?_
  refine bS (d:=l) (sh_fld1 (off:=8) hl i_l.one) ?_
  refine bS (d:=dI p0) (sh_fld1 (off:=0) rfl rfl) ?_
  refine cS (d:=.tup [zeroE,dB false]) (by rw [← hr]; exact g43 hB) ?_
  refine bS (d:=zeroE) (te_ext rfl) ?_
  refine bS (d:=dB false) (te_ext rfl) ?_
  refine bS (d:=zeroE) (sh_chkW rfl) ?_
  refine cS (d:=.sl 31 1 [.nil]) (g81 (x1:=.nil) (x3:=.nil) hb_nil hb_nil) ?_
  refine bS (d:=dB (!false)) sh_not ?_
  refine wp_iteB rfl ?_
  refine ite_t ?_
  refine bS (d:=zeroE) (sh_chkW rfl) ?_
  exact wp_retTo2 rfl rfl
end Go.Proofs.YtnemldklhelbeaaGreat
namespace Go.Proofs.YtnemldklhelbeaaGreat
open Go Go.Am Go.Proofs
attribute [local irreducible] Go.Am.wp Go.Am.TOp.eval
abbrev ShP:Sh:=.sl 82 3 (.st [.int .i64,.int .i64,.int .i64])
def FC (l:D):D→List D
 | .agg [.leaf (.int .i64 p0),.leaf (.int .i64 p1),_]=>match selP l p0 p1 with
  | some (c,_)=>[c]
  | none=>[]
 | _=>[]
def FB (l:D):D→List D
 | .agg [.leaf (.int .i64 p0),.leaf (.int .i64 p1),_]=>match selP l p0 p1 with
  | some (_,w)=>w.es
  | none=>[]
 | _=>[]
theorem g21 {g:List D} {l ps:D} (hg:g.length=9) (hl:g[8]? = some l) (h:HasB 1048576 (.sl 59 8 ShE) l) (hp:HasB 300000000 ShP ps) (hn:ps.es.length≤20) :
  Holds EE 21 [.agg g,.agg [ps]] (mkOut 3 1 (ps.es.flatMap (FC l))):=by
 suffices hh:∃ d,d=mkOut 3 1 (ps.es.flatMap (FC l))∧Goes EE (Holds EE) u21Ts 0 [.agg g,.agg [ps]] d by
  obtain ⟨d,rfl,hg'⟩:=hh; exact u21 rfl hg'
 have i_p:=isSl_ofB hp
 have hFC:∀ x∈ps.es,(FC l x).length≤1:=by
  intro x _
  unfold FC
  split
  ·
   split <;> simp
  ·
   simp
 refine goes_R (R:=(fun d=>d=mkOut 3 1 (ps.es.flatMap (FC l)))) ?_
 show wp _ _ _ u21T0 _
 refine bS (d:=.agg g) (sh_chkW hg) ?_
 refine bS (d:=.agg [ps]) (sh_chkW rfl) ?_
 refine bS (d:=ps) (sh_fld1 (off:=0) rfl i_p.one) ?_
 refine bS (d:=dI ((ps.es.length:Nat):Int)) (sh_len i_p) ?_
 refine wr_jump rfl (loop_up (P:=fun i=>i≤ps.es.length→∃ d,d=mkOut 3 1 (ps.es.flatMap (FC l))∧Goes EE (Holds EE) u21Ts 1 [mkOut 3 1 ((ps.es.take i).flatMap (FC l)),ps,dI ((ps.es.length:Nat):Int),dI ((i:Nat):Int),.agg g] d) (ps.es.length) (fun i ih=>?_) 0 (by omega))
 intro hi
 refine goes_R (R:=(fun d=>d=mkOut 3 1 (ps.es.flatMap (FC l)))) ?_
 show wp _ _ _ u21T1 _
 refine bS sk_lss ?_
 refine wp_iteC rfl (fun c1=>?_) (fun c1=>?_)
 ·
  replace c1:=of_decide_eq_true c1
  obtain ⟨x,e_x⟩:=get_at (d:=ps) (s:=((i:Nat):Int)) (by omega) (by omega)
  obtain ⟨_,rfl,_,_,rfl,⟨p0,rfl⟩,_,_,rfl,⟨p1,rfl⟩,_,_,rfl,⟨p2,rfl⟩,rfl⟩:=elem_ofB hp e_x
  have e':ps.es[i]? = some (.agg [dI p0,dI p1,dI p2]):=e_x
  have htk:=take_flat (F:=FC l) e'
  have hlen:((ps.es.take i).flatMap (FC l)).length≤(ps.es.take i).length * 1:=flat_len_le fun y hy=>hFC y (List.mem_of_mem_take hy)
  rw [List.length_take] at hlen
  obtain ⟨y0,y2,y4,y1,y3,y5,y6,y7,w,b,k21,hs,hw,ho⟩:=g44 (p0:=p0) (p1:=p1) (p2:=p2) hg hl h
  have hF:FC l (.agg [dI p0,dI p1,dI p2])=if b then [dI y2] else []:=by
   show (match selP l p0 p1 with | some (c,_)=>[c] | none=>[])=_
   rw [hs]
   cases b <;> rfl
  refine bS (d:=dB true) (si_inr (by omega) e_x) ?_
  refine bS (d:=.agg [dI p0,dI p1,dI p2]) (si_elemW i_p (by omega) e_x rfl) ?_
  refine bS (d:=.agg [dI p0,dI p1,dI p2]) (sh_chkW rfl) ?_
  refine cS (d:=.tup [.agg [dI y0,y1,dI y2,y3,dI y4,y5,y6,y7],w,dB b]) k21 ?_
  refine bS (d:=.agg [dI y0,y1,dI y2,y3,dI y4,y5,y6,y7]) (te_ext rfl) ?_
  refine bS (d:=w) (te_ext rfl) ?_
  refine bS (d:=dB b) (te_ext rfl) ?_
  refine bS (d:=.agg [dI y0,y1,dI y2,y3,dI y4,y5,y6,y7]) (sh_chkW rfl) ?_
  refine wp_iteC rfl (fun c2=>?_) (fun c2=>?_)
  ·
   subst c2
   rw [hF] at htk
   refine bS (d:=dI y2) (sh_fld1 (off:=2) rfl rfl) ?_
   refine bS (d:=dI y2) (sh_chk1 rfl) ?_
   refine bS (d:=.sl 3 1 [dI y2]) (lit_one rfl) ?_
   refine bS (d:=mkOut 3 1 ((ps.es.take (i+1)).flatMap (FC l))) (by rw [htk]; exact app_mk (B:=300000000) (e:=.int .i64) (b:=.sl 3 1 [dI y2]) (hb_sl (by simp) (all_c hb_int all_n)) (by decide) (by show _+1≤_; omega)) ?_
   refine bS (d:=dI ((i+1:Nat):Int)) (sh_add (cap_bd' (by omega))) ?_
   exact wr_jump rfl (ih (by omega) (by omega))
  ·
   subst c2
   rw [hF] at htk
   refine bS (d:=dI ((i+1:Nat):Int)) (sh_add (cap_bd' (by omega))) ?_
   have hih:=ih (by omega) (by omega)
   rw [htk] at hih
   simp only [Bool.false_eq_true,if_false,List.append_nil] at hih
   exact wr_jump rfl hih
 ·
  replace c1:=of_decide_eq_false c1
  have:i=ps.es.length:=by omega
  subst this
  exact wr_ret (ds:=[mkOut 3 1 ((ps.es.take ps.es.length).flatMap (FC l))]) rfl (by show mkOut 3 1 _=_; rw [List.take_length])
end Go.Proofs.YtnemldklhelbeaaGreat
namespace Go.Proofs.YtnemldklhelbeaaGreat
open Go Go.Am Go.Proofs
attribute [local irreducible] Go.Am.wp Go.Am.TOp.eval
theorem g22 {g:List D} {l ps:D} (hg:g.length=9) (hl:g[8]? = some l) (h:HasB 1048576 (.sl 59 8 ShE) l) (hp:HasB 300000000 ShP ps) (hn:ps.es.length≤20) :
  Holds EE 22 [.agg g,.agg [ps]] (mkOut 3 1 (ps.es.flatMap (FB l))):=by
 suffices hh:∃ d,d=mkOut 3 1 (ps.es.flatMap (FB l))∧Goes EE (Holds EE) u22Ts 0 [.agg g,.agg [ps]] d by
  obtain ⟨d,rfl,hg'⟩:=hh; exact u22 rfl hg'
 have i_p:=isSl_ofB hp
 have hFC:∀ x∈ps.es,(FB l x).length≤1048576:=by
  intro x _
  unfold FB
  split
  ·
   split
   ·
    rename_i c w hs
    exact len_leB (selP_hb h hs).2
   ·
    simp
  ·
   simp
 refine goes_R (R:=(fun d=>d=mkOut 3 1 (ps.es.flatMap (FB l)))) ?_
 show wp _ _ _ u22T0 _
 refine bS (d:=.agg g) (sh_chkW hg) ?_
 refine bS (d:=.agg [ps]) (sh_chkW rfl) ?_
 refine bS (d:=ps) (sh_fld1 (off:=0) rfl i_p.one) ?_
 refine bS (d:=dI ((ps.es.length:Nat):Int)) (sh_len i_p) ?_
 refine wr_jump rfl (loop_up (P:=fun i=>i≤ps.es.length→∃ d,d=mkOut 3 1 (ps.es.flatMap (FB l))∧Goes EE (Holds EE) u22Ts 1 [mkOut 3 1 ((ps.es.take i).flatMap (FB l)),ps,dI ((ps.es.length:Nat):Int),dI ((i:Nat):Int),.agg g] d) (ps.es.length) (fun i ih=>?_) 0 (by omega))
 intro hi
 refine goes_R (R:=(fun d=>d=mkOut 3 1 (ps.es.flatMap (FB l)))) ?_
 show wp _ _ _ u22T1 _
 refine bS sk_lss ?_
 refine wp_iteC rfl (fun c1=>?_) (fun c1=>?_)
 ·
  replace c1:=of_decide_eq_true c1
  obtain ⟨x,e_x⟩:=get_at (d:=ps) (s:=((i:Nat):Int)) (by omega) (by omega)
  obtain ⟨_,rfl,_,_,rfl,⟨p0,rfl⟩,_,_,rfl,⟨p1,rfl⟩,_,_,rfl,⟨p2,rfl⟩,rfl⟩:=elem_ofB hp e_x
  have e':ps.es[i]? = some (.agg [dI p0,dI p1,dI p2]):=e_x
  have htk:=take_flat (F:=FB l) e'
  have hlen:((ps.es.take i).flatMap (FB l)).length≤(ps.es.take i).length * 1048576:=flat_len_le fun y hy=>hFC y (List.mem_of_mem_take hy)
  rw [List.length_take,Nat.min_eq_left (by omega)] at hlen
  obtain ⟨y0,y2,y4,y1,y3,y5,y6,y7,w,b,k21,hs,hw,ho⟩:=g44 (p0:=p0) (p1:=p1) (p2:=p2) hg hl h
  have hF:FB l (.agg [dI p0,dI p1,dI p2])=if b then w.es else []:=by
   show (match selP l p0 p1 with | some (_,w)=>w.es | none=>[])=_
   rw [hs]
   cases b <;> rfl
  refine bS (d:=dB true) (si_inr (by omega) e_x) ?_
  refine bS (d:=.agg [dI p0,dI p1,dI p2]) (si_elemW i_p (by omega) e_x rfl) ?_
  refine bS (d:=.agg [dI p0,dI p1,dI p2]) (sh_chkW rfl) ?_
  refine cS (d:=.tup [.agg [dI y0,y1,dI y2,y3,dI y4,y5,y6,y7],w,dB b]) k21 ?_
  refine bS (d:=.agg [dI y0,y1,dI y2,y3,dI y4,y5,y6,y7]) (te_ext rfl) ?_
  refine bS (d:=w) (te_ext rfl) ?_
  refine bS (d:=dB b) (te_ext rfl) ?_
  refine bS (d:=.agg [dI y0,y1,dI y2,y3,dI y4,y5,y6,y7]) (sh_chkW rfl) ?_
  refine wp_iteC rfl (fun c2=>?_) (fun c2=>?_)
  ·
   subst c2
   rw [hF] at htk
   have hwl:=len_leB hw
   refine bS (d:=mkOut 3 1 ((ps.es.take (i+1)).flatMap (FB l))) (by rw [htk]; exact app_mk hw (by decide) (by show _+w.es.length≤_; omega)) ?_
   refine bS (d:=dI ((i+1:Nat):Int)) (sh_add (cap_bd' (by omega))) ?_
   exact wr_jump rfl (ih (by omega) (by omega))
  ·
   subst c2
   rw [hF] at htk
   refine bS (d:=dI ((i+1:Nat):Int)) (sh_add (cap_bd' (by omega))) ?_
   have hih:=ih (by omega) (by omega)
   rw [htk] at hih
   simp only [Bool.false_eq_true,if_false,List.append_nil] at hih
   exact wr_jump rfl hih
 ·
  replace c1:=of_decide_eq_false c1
  have:i=ps.es.length:=by omega
  subst this
  exact wr_ret (ds:=[mkOut 3 1 ((ps.es.take ps.es.length).flatMap (FB l))]) rfl (by show mkOut 3 1 _=_; rw [List.take_length])
end Go.Proofs.YtnemldklhelbeaaGreat
