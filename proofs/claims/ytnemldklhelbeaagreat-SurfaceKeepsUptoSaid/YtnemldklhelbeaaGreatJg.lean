/- What a net accepts, by the program: sets of states as bits. Conditions: none. -/
import Derived.Test.YtnemldklhelbeaaGreatJf
set_option linter.unusedVariables false
set_option linter.unusedSimpArgs false
namespace Go.Proofs.YtnemldklhelbeaaGreat
open Go Go.Am Go.Proofs
attribute [local irreducible] Go.Am.wp Go.Am.TOp.eval
theorem loop_dn {P:Nat→Prop} (N:Nat) (last:P N) (step:∀ i,i < N→P (i+1)→P i):P 0:=by
 have go:∀ m i,i+m=N→P i:=by
  intro m
  induction m with
  | zero =>
   intro i h
   have:i=N:=by omega
   subst this
   exact last
  | succ m ih =>
   intro i h
   exact step i (by omega) (ih (i+1) (by omega))
 exact go N 0 (by omega)
theorem fold_take {α β:Type} {f:α→β→α} {a:α} {l:List β} {i:Nat} {x:β} (h:l[i]? = some x):(l.take (i+1)).foldl f a=f ((l.take i).foldl f a) x:=by
 rw [List.take_add_one,h,List.foldl_append]; rfl
theorem lt_at {l:D} {i:Nat} (h:i < l.es.length):∃ x,l.es[i]? = some x:=⟨_,List.getElem?_eq_getElem h⟩
theorem of_lt {a b:Nat} (h:decide (((a:Nat):Int) < ((b:Nat):Int))=true):a < b:=by have:=of_decide_eq_true h; omega
theorem of_nlt {a b:Nat} (h:decide (((a:Nat):Int) < ((b:Nat):Int))=false):b≤a:=by have:=of_decide_eq_false h; omega
abbrev dU (n:Int):D:=.leaf (.int .u32 n)
def shN (q:Int):Nat:=Nat.min (IntKind.u64.wrap q).toNat 32
def andV (a b:Int):Int:=IntKind.u32.wrap ((BitVec.ofInt 32 a &&& BitVec.ofInt 32 b).toNat:Int)
def orV (a b:Int):Int:=IntKind.u32.wrap ((BitVec.ofInt 32 a ||| BitVec.ofInt 32 b).toNat:Int)
def hasV (m q:Int):Bool:=decide (andV (m.fdiv (2 ^ shN q)) 1=1)
def withV (m q:Int):Int:=orV m (IntKind.u32.wrap (1 * 2 ^ shN q))
theorem wrap_nn (q:Int):¬ (IntKind.u64.wrap q < 0):=by
 have h:IntKind.u64.wrap q=q % 18446744073709551616:=by
  simp [IntKind.wrap,IntKind.signed,IntKind.bits]
 rw [h]
 have:=Int.emod_nonneg q (b:=18446744073709551616) (by decide)
 omega
theorem cv_u64 (q:Int):TOp.eval EE (.conv 3 193) [dI q]=some (.leaf (.int .u64 (IntKind.u64.wrap q))):=by kernel_rfl
theorem ev_shr (m s:Int) (h:¬ s < 0) {x y:Operand}:TOp.eval EE (.bin .shr 152 x y) [dU m,.leaf (.int .u64 s)]=some (dU (m.fdiv (2 ^ Nat.min s.toNat 32))):=by
 have e:binA EE .shr 152 x y (.int .u32 m) (.int .u64 s)=flat? (pureRun EE.prog (Op.shift .shr .u32 m .u64 s)):=rfl
 rw [ev_bin]
 show leafD (binA EE .shr 152 x y (.int .u32 m) (.int .u64 s))=_
 rw [e,Op.shift,if_neg h]
 rfl
theorem ev_shl (m s:Int) (h:¬ s < 0) {x y:Operand}:TOp.eval EE (.bin .shl 152 x y) [dU m,.leaf (.int .u64 s)]=some (dU (IntKind.u32.wrap (m * 2 ^ Nat.min s.toNat 32))):=by
 have e:binA EE .shl 152 x y (.int .u32 m) (.int .u64 s)=flat? (pureRun EE.prog (Op.shift .shl .u32 m .u64 s)):=rfl
 rw [ev_bin]
 show leafD (binA EE .shl 152 x y (.int .u32 m) (.int .u64 s))=_
 rw [e,Op.shift,if_neg h]
 rfl
theorem ev_and (a b:Int) {x y:Operand}:TOp.eval EE (.bin .and 152 x y) [dU a,dU b]=some (dU (andV a b)):=by rw [ev_bin]; rfl
theorem ev_or (a b:Int) {x y:Operand}:TOp.eval EE (.bin .or 152 x y) [dU a,dU b]=some (dU (orV a b)):=by rw [ev_bin]; rfl
theorem g130 (m q:Int):Holds EE 130 [dU m,dI q] (dB (hasV m q)):=by
 refine u130 rfl (Goes.step' ?_)
 show wp _ _ _ u130T0 _
 refine bS (d:=.leaf (.int .u64 (IntKind.u64.wrap q))) (cv_u64 q) ?_
 refine bS (d:=.leaf (.int .u32 (m.fdiv (2 ^ shN q)))) (ev_shr m _ (wrap_nn q)) ?_
 refine bS (d:=.leaf (.int .u32 (andV (m.fdiv (2 ^ shN q)) 1))) (ev_and _ _) ?_
 refine bS (d:=dB (decide (andV (m.fdiv (2 ^ shN q)) 1=1))) sk_eql ?_
 exact wp_retTo rfl rfl
theorem g105 (m q:Int):Holds EE 105 [dU m,dI q] (dU (withV m q)):=by
 refine u105 rfl (Goes.step' ?_)
 show wp _ _ _ u105T0 _
 refine bS (d:=.leaf (.int .u64 (IntKind.u64.wrap q))) (cv_u64 q) ?_
 refine bS (d:=.leaf (.int .u32 (IntKind.u32.wrap (1 * 2 ^ shN q)))) (ev_shl 1 _ (wrap_nn q)) ?_
 refine bS (d:=.leaf (.int .u32 (withV m q))) (ev_or _ _) ?_
 exact wp_retTo rfl rfl
def finS (m:Int):D→Int
 | .leaf (.int .i64 q)=>withV m q
 | _=>m
def finV (fs:D):Int:=fs.es.foldl finS 0
def stpS (m k:Int) (acc:Int):D→Int
 | .agg [.leaf (.int .i64 f),.leaf (.int .i64 c),.leaf (.int .i64 t)]=>if hasV m f=true∧c=k then withV acc t else acc
 | _=>acc
def aftV (ws:D) (m k:Int):Int:=ws.es.foldl (stpS m k) 0
def runS (ws:D) (m:Int):D→Int
 | .leaf (.int .i64 c)=>aftV ws m c
 | _=>m
def runV (ws cl:D):Int:=cl.es.foldl (runS ws) 1
def accV (ws fs cl:D):Bool:=decide (¬ andV (runV ws cl) (finV fs)=0)
abbrev ShW:Sh:=.sl 122 3 (.st [.int .i64,.int .i64,.int .i64])
variable {B:Nat}
theorem g85 {n ws fs:D} (ho:n.one=true) (hw:ws.one=true) (hf:HasB 300000000 (.sl 3 1 (.int .i64)) fs):Holds EE 85 [.agg [n,ws,fs]] (dU (finV fs)):=by
 have i_fs:=isSl_ofB hf
 have b_fs:=len_leB hf
 refine u85 rfl (Goes.step' ?_)
 show wp _ _ _ u85T0 _
 refine bS (d:=.agg [n,ws,fs]) (sh_chkW rfl) ?_
 refine bS (d:=fs) (sh_fld1 (off:=2) rfl i_fs.one) ?_
 refine bS (d:=dI ((fs.es.length:Nat):Int)) (sh_len i_fs) ?_
 refine wp_jumpTo rfl (loop_dn (P:=fun i=>Goes EE (Holds EE) u85Ts 1 [dU ((fs.es.take i).foldl finS 0),fs,dI ((fs.es.length:Nat):Int),dI ((i:Nat):Int)] (dU (finV fs))) fs.es.length ?_ ?_)
 ·
  refine Goes.step' ?_
  show wp _ _ _ u85T1 _
  refine bS (d:=dB (decide (((fs.es.length:Nat):Int) < ((fs.es.length:Nat):Int)))) sk_lss ?_
  refine wp_iteC rfl (fun c=>?_) (fun c=>?_)
  ·
   have:=of_lt c; omega
  ·
   exact wp_retTo rfl (by rw [List.take_length]; rfl)
 ·
  intro i hi ih
  obtain ⟨x,e_x⟩:=lt_at hi
  obtain ⟨q,rfl⟩:=elem_ofB hf e_x
  rw [fold_take e_x] at ih
  refine Goes.step' ?_
  show wp _ _ _ u85T1 _
  refine bS (d:=dB (decide (((i:Nat):Int) < ((fs.es.length:Nat):Int)))) sk_lss ?_
  refine wp_iteC rfl (fun c=>?_) (fun c=>?_)
  ·
   skip
   refine bS (d:=dB (true)) (si_inr (s:=((i:Nat):Int)) (by omega) e_x) ?_
   refine bS (d:=dI (q)) (si_elem1 (s:=((i:Nat):Int)) i_fs (by omega) e_x rfl) ?_
   refine cS (d:=.leaf (.int .u32 (_))) (g105 _ q) ?_
   refine bS (d:=dI ((i+1:Nat):Int)) (sh_add (cap_bd' (by omega))) ?_
   exact wp_jumpTo rfl ih
  ·
   have:=of_nlt c; omega
theorem g104 {n ws fs:D} {m k:Int} (ho:n.one=true) (hw:HasB 300000000 ShW ws) (hf:fs.one=true):Holds EE 104 [.agg [n,ws,fs],dU m,dI k] (dU (aftV ws m k)):=by
 have i_ws:=isSl_ofB hw
 have b_ws:=len_leB hw
 refine u104 rfl (Goes.step' ?_)
 show wp _ _ _ u104T0 _
 refine bS (d:=.agg [n,ws,fs]) (sh_chkW rfl) ?_
 refine bS (d:=dI (k)) (sh_chk1 rfl) ?_
 refine bS (d:=.agg [n,ws,fs]) (sh_chkW rfl) ?_
 refine bS (d:=.leaf (.int .u32 (m))) (sh_chk1 rfl) ?_
 refine bS (d:=ws) (sh_fld1 (off:=1) rfl i_ws.one) ?_
 refine bS (d:=dI ((ws.es.length:Nat):Int)) (sh_len i_ws) ?_
 refine wp_jumpTo rfl (loop_dn (P:=fun i=>Goes EE (Holds EE) u104Ts 1000 [ws,dI ((ws.es.length:Nat):Int),dI ((i:Nat):Int),.agg [n,ws,fs],dI k,dU ((ws.es.take i).foldl (stpS m k) 0),.agg [n,ws,fs],dU m] (dU (aftV ws m k))) ws.es.length ?_ ?_)
 ·
  refine Goes.step' ?_
  show wp _ _ _ u104T1000 _
  refine bS (d:=dB (decide (((ws.es.length:Nat):Int) < ((ws.es.length:Nat):Int)))) sk_lss ?_
  refine wp_iteC rfl (fun c=>?_) (fun c=>?_)
  ·
   have:=of_lt c; omega
  ·
   exact wp_retTo rfl (by rw [List.take_length]; rfl)
 ·
  intro i hi ih
  obtain ⟨x,e_x⟩:=lt_at hi
  obtain ⟨_,rfl,_,_,rfl,⟨f,rfl⟩,_,_,rfl,⟨c0,rfl⟩,_,_,rfl,⟨t,rfl⟩,rfl⟩:=elem_ofB hw e_x
  rw [fold_take e_x] at ih
  refine Goes.step' ?_
  show wp _ _ _ u104T1000 _
  refine bS (d:=dB (decide (((i:Nat):Int) < ((ws.es.length:Nat):Int)))) sk_lss ?_
  refine wp_iteC rfl (fun c=>?_) (fun c=>?_)
  ·
   skip
   refine bS (d:=dB (true)) (si_inr (s:=((i:Nat):Int)) (by omega) e_x) ?_
   refine bS (d:=.agg [dI (f),dI (c0),dI (t)]) (si_elemW (s:=((i:Nat):Int)) i_ws (by omega) e_x rfl) ?_
   refine bS (d:=.agg [dI (f),dI (c0),dI (t)]) (sh_chkW rfl) ?_
   refine bS (d:=dI (f)) (sh_fld1 (off:=0) rfl rfl) ?_
   refine cS (d:=dB (hasV m f)) (g130 m f) ?_
   refine wp_iteC rfl (fun d=>?_) (fun d=>?_)
   ·
    skip
    refine bS (d:=.agg [dI (f),dI (c0),dI (t)]) (sh_chkW rfl) ?_
    refine bS (d:=dI (c0)) (sh_fld1 (off:=1) rfl rfl) ?_
    refine bS (d:=dB (decide (c0=k))) sk_eql ?_
    refine wp_iteC rfl (fun e=>?_) (fun e=>?_)
    ·
     skip
     refine bS (d:=dI (t)) (sh_fld1 (off:=2) rfl rfl) ?_
     refine cS (d:=.leaf (.int .u32 (_))) (g105 _ t) ?_
     refine bS (d:=dI ((i+1:Nat):Int)) (sh_add (cap_bd' (by omega))) ?_
     have hs:stpS m k ((ws.es.take i).foldl (stpS m k) 0) (.agg [dI f,dI c0,dI t])=withV ((ws.es.take i).foldl (stpS m k) 0) t:=if_pos ⟨d,of_decide_eq_true e⟩
     rw [hs] at ih
     exact wp_jumpTo rfl ih
    ·
     skip
     refine bS (d:=dI ((i+1:Nat):Int)) (sh_add (cap_bd' (by omega))) ?_
     have hs:stpS m k ((ws.es.take i).foldl (stpS m k) 0) (.agg [dI f,dI c0,dI t])=(ws.es.take i).foldl (stpS m k) 0:=if_neg fun h=>of_decide_eq_false e h.2
     rw [hs] at ih
     exact wp_jumpTo rfl ih
   ·
    skip
    refine bS (d:=dI ((i+1:Nat):Int)) (sh_add (cap_bd' (by omega))) ?_
    have hs:stpS m k ((ws.es.take i).foldl (stpS m k) 0) (.agg [dI f,dI c0,dI t])=(ws.es.take i).foldl (stpS m k) 0:=if_neg fun h=>by rw [d] at h; cases h.1
    rw [hs] at ih
    exact wp_jumpTo rfl ih
  ·
   have:=of_nlt c; omega
theorem g84 {n ws fs cl:D} (ho:n.one=true) (hw:HasB 300000000 ShW ws) (hf:fs.one=true) (hc:HasB 300000000 (.sl 3 1 (.int .i64)) cl):Holds EE 84 [.agg [n,ws,fs],cl] (dU (runV ws cl)):=by
 have i_cl:=isSl_ofB hc
 have b_cl:=len_leB hc
 refine u84 rfl (Goes.step' ?_)
 show wp _ _ _ u84T0 _
 refine bS (d:=.agg [n,ws,fs]) (sh_chkW rfl) ?_
 refine bS (d:=dI ((cl.es.length:Nat):Int)) (sh_len i_cl) ?_
 refine wp_jumpTo rfl (loop_dn (P:=fun i=>Goes EE (Holds EE) u84Ts 1 [dU ((cl.es.take i).foldl (runS ws) 1),cl,dI ((cl.es.length:Nat):Int),dI ((i:Nat):Int),.agg [n,ws,fs]] (dU (runV ws cl))) cl.es.length ?_ ?_)
 ·
  refine Goes.step' ?_
  show wp _ _ _ u84T1 _
  refine bS (d:=dB (decide (((cl.es.length:Nat):Int) < ((cl.es.length:Nat):Int)))) sk_lss ?_
  refine wp_iteC rfl (fun c=>?_) (fun c=>?_)
  ·
   have:=of_lt c; omega
  ·
   exact wp_retTo rfl (by rw [List.take_length]; rfl)
 ·
  intro i hi ih
  obtain ⟨x,e_x⟩:=lt_at hi
  obtain ⟨q,rfl⟩:=elem_ofB hc e_x
  rw [fold_take e_x] at ih
  refine Goes.step' ?_
  show wp _ _ _ u84T1 _
  refine bS (d:=dB (decide (((i:Nat):Int) < ((cl.es.length:Nat):Int)))) sk_lss ?_
  refine wp_iteC rfl (fun c=>?_) (fun c=>?_)
  ·
   skip
   refine bS (d:=dB (true)) (si_inr (s:=((i:Nat):Int)) (by omega) e_x) ?_
   refine bS (d:=dI (q)) (si_elem1 (s:=((i:Nat):Int)) i_cl (by omega) e_x rfl) ?_
   refine cS (d:=.leaf (.int .u32 (_))) (g104 ho hw hf) ?_
   refine bS (d:=dI ((i+1:Nat):Int)) (sh_add (cap_bd' (by omega))) ?_
   exact wp_jumpTo rfl ih
  ·
   have:=of_nlt c; omega
theorem g46 {n ws fs cl:D} (ho:n.one=true) (hw:HasB 300000000 ShW ws) (hf:HasB 300000000 (.sl 3 1 (.int .i64)) fs) (hc:HasB 300000000 (.sl 3 1 (.int .i64)) cl):Holds EE 46 [.agg [n,ws,fs],cl] (dB (accV ws fs cl)):=by
 have i_ws:=isSl_ofB hw
 have i_fs:=isSl_ofB hf
 refine u46 rfl (Goes.step' ?_)
 show wp _ _ _ u46T0 _
 refine bS (d:=.agg [n,ws,fs]) (sh_chkW rfl) ?_
 refine cS (d:=.leaf (.int .u32 (runV ws cl))) (g84 ho hw i_fs.one hc) ?_
 refine cS (d:=.leaf (.int .u32 (finV fs))) (g85 ho i_ws.one hf) ?_
 refine bS (d:=.leaf (.int .u32 (andV (runV ws cl) (finV fs)))) (ev_and _ _) ?_
 refine bS (d:=dB (decide (¬ andV (runV ws cl) (finV fs)=0))) sk_neq ?_
 exact wp_retTo rfl rfl
end Go.Proofs.YtnemldklhelbeaaGreat
namespace Go.Proofs.YtnemldklhelbeaaGreat
open Go Go.Am Go.Proofs
attribute [local irreducible] Go.Am.wp Go.Am.TOp.eval
abbrev ShS:Sh:=.sl 79 2 (.st [.str,.str])
def snsN (l:D):Nat→Int→D
 | 0,_=>.nil
 | n+1,id=>match l.es[fst l id]? with
  | some (.agg [_,_,_,_,.leaf (.int .i64 mn),x5,_,_])=>if 0 < x5.es.length then x5 else if mn=0 then .nil else snsN l n mn
  | _=>.nil
def snsV (l:D) (id:Int):D:=snsN l (l.es.length+1) id
theorem g83 {x:D} (h:HasB 1048576 ShS x) (hn:0 < x.es.length):Holds EE 83 [x] x:=by
 have h':=h
 simp only [HasB] at h
 rcases h with rfl | ⟨es,rfl,hl,_⟩
 ·
  cases hn
 refine u83 rfl (Goes.step' ?_)
 show wp _ _ _ u83T0 _
 refine bS (d:=dB (false)) (show TOp.eval EE (.isNil false) [.sl 79 2 es]=some (dB false) by rw [ev_isNil]) ?_
 refine wp_iteB (t:=false) rfl ?_
 refine ite_f ?_
 refine bS (d:=.sl 79 2 []) (show TOp.eval EE (.lit 79 2) []=some (.sl 79 2 []) by rw [ev_lit]; rfl) ?_
 have ha:TOp.eval EE (.app 79 2 32) [.sl 79 2 [],.sl 79 2 es]=some (.sl 79 2 es):=by
  rw [ev_app]
  have hss:strSize (.sl 79 2 [])=some 0:=rfl
  have hb:Nat.ble (Nat.mul (Nat.add (Nat.mul 4 (Nat.add 0 es.length)) 4000) (Nat.succ 32)) 100000000000=true:=app_ble (n:=0+es.length) (by omega) (by decide)
  have hz:Nat.beq es.length 0=false:=by
   have:0 < es.length:=hn
   cases he:es.length with
   | zero=>omega
   | succ n=>rfl
  simp only [hss,hb,Nat.beq_refl,Bool.true_and,cond_true,hz,cond_false,D.es,List.nil_append]
 refine bS (d:=.sl 79 2 es) ha ?_
 exact wp_retTo rfl rfl
theorem sns_loop {l:D} (hl:HasB 1048576 (.sl 59 8 ShE) l):∀ (n i:Nat) (id:Int),i+n=l.es.length+1→Goes EE (Holds EE) u45Ts 1000 [dI ((l.es.length+1:Nat):Int),dI ((i:Nat):Int),l,dI id] (snsN l n id)
 | 0,i,id,hi=>by
  have b_l:=len_leB hl
  refine Goes.step' ?_
  show wp _ _ _ u45T1000 _
  refine bS (d:=dB (decide (((i:Nat):Int) < ((l.es.length+1:Nat):Int)))) sk_lss ?_
  refine wp_iteC rfl (fun c=>?_) (fun c=>?_)
  ·
   have:=of_lt c; omega
  ·
   exact wp_retTo rfl rfl
 | n+1,i,id,hi=>by
  have b_l:=len_leB hl
  have hB:=hasB_mono (B':=300000000) (by decide) hl
  refine Goes.step' ?_
  show wp _ _ _ u45T1000 _
  refine bS (d:=dB (decide (((i:Nat):Int) < ((l.es.length+1:Nat):Int)))) sk_lss ?_
  refine wp_iteC rfl (fun c=>?_) (fun c=>?_)
  ·
   rcases getR_cases (id:=id) hl with ⟨x0,x2,x4,x1,x3,x5,x6,x7,h1,h3,h5,h6,h7,he,hr⟩ | ⟨he,hr⟩
   ·
    have i_x5:=isSl_ofB h5
    have hs:snsN l (n+1) id=(if 0 < x5.es.length then x5 else if x4=0 then .nil else snsN l n x4):=by
     simp only [snsN,he]
    rw [hs]
    refine cS (d:=.tup [.agg [dI (x0),x1,dI (x2),x3,dI (x4),x5,x6,x7],dB (true)]) (by rw [← hr]; exact g43 hB) ?_
    refine bS (d:=.agg [dI (x0),x1,dI (x2),x3,dI (x4),x5,x6,x7]) (te_ext rfl) ?_
    refine bS (d:=dB (true)) (te_ext rfl) ?_
    refine bS (d:=.agg [dI (x0),x1,dI (x2),x3,dI (x4),x5,x6,x7]) (sh_chkW rfl) ?_
    refine bS (d:=dB (!(true))) sh_not ?_
    refine wp_iteB (t:=false) rfl ?_
    refine ite_f ?_
    refine bS (d:=.agg [dI (x0),x1,dI (x2),x3,dI (x4),x5,x6,x7]) (sh_chkW rfl) ?_
    refine bS (d:=x5) (sh_fld1 (off:=5) rfl i_x5.one) ?_
    refine bS (d:=dI ((x5.es.length:Nat):Int)) (sh_len i_x5) ?_
    refine bS (d:=dB (decide (((x5.es.length:Nat):Int) > 0))) sk_gtr ?_
    refine wp_iteC rfl (fun d=>?_) (fun d=>?_)
    ·
     have hd:0 < x5.es.length:=by have:=of_decide_eq_true d; omega
     rw [if_pos hd]
     refine bS (d:=x5) (sh_fld1 (off:=5) rfl i_x5.one) ?_
     refine cS (d:=x5) (g83 h5 hd) ?_
     refine bS (d:=x5) (sh_chk1 i_x5.one) ?_
     exact wp_retTo rfl rfl
    ·
     have hd:¬ 0 < x5.es.length:=by have:=of_decide_eq_false d; omega
     rw [if_neg hd]
     refine bS (d:=dI (x4)) (sh_fld1 (off:=4) rfl rfl) ?_
     refine bS (d:=dB (decide (x4=0))) sk_eql ?_
     refine wp_iteC rfl (fun e=>?_) (fun e=>?_)
     ·
      rw [if_pos (of_decide_eq_true e)]
      exact wp_retTo rfl rfl
     ·
      rw [if_neg (of_decide_eq_false e)]
      refine bS (d:=dI (x4)) (sh_fld1 (off:=4) rfl rfl) ?_
      refine bS (d:=dI ((i+1:Nat):Int)) (sh_add (cap_bd' (by omega))) ?_
      exact wp_jumpTo rfl (sns_loop hl n (i+1) x4 (by omega))
   ·
    have hs:snsN l (n+1) id=.nil:=by simp only [snsN,he]
    rw [hs]
    refine cS (d:=.tup [zeroE,dB (false)]) (by rw [← hr]; exact g43 hB) ?_
    refine bS (d:=zeroE) (te_ext rfl) ?_
    refine bS (d:=dB (false)) (te_ext rfl) ?_
    refine bS (d:=zeroE) (sh_chkW rfl) ?_
    refine bS (d:=dB (!(false))) sh_not ?_
    refine wp_iteB (t:=true) rfl ?_
    refine ite_t ?_
    exact wp_retTo rfl rfl
  ·
   have:=of_nlt c; omega
theorem g45 {l:D} {id:Int} (hl:HasB 1048576 (.sl 59 8 ShE) l):Holds EE 45 [l,dI id] (snsV l id):=by
 have i_l:=isSl_ofB hl
 have b_l:=len_leB hl
 refine u45 rfl (Goes.step' ?_)
 show wp _ _ _ u45T0 _
 refine bS (d:=l) (sh_chk1 i_l.one) ?_
 refine bS (d:=dI (id)) (sh_chk1 rfl) ?_
 refine bS (d:=dI ((l.es.length:Nat):Int)) (sh_len i_l) ?_
 refine bS (d:=dI ((l.es.length+1:Nat):Int)) (sh_add (cap_bd' (by omega))) ?_
 exact wp_jumpTo rfl (sns_loop hl _ 0 id (by omega))
theorem sns_hb {l:D} (hl:HasB 1048576 (.sl 59 8 ShE) l):∀ (n:Nat) (id:Int),HasB 1048576 ShS (snsN l n id)
 | 0,_=>hb_nil
 | n+1,id=>by
  rcases getR_cases (id:=id) hl with ⟨x0,x2,x4,x1,x3,x5,x6,x7,h1,h3,h5,h6,h7,he,hr⟩ | ⟨he,hr⟩
  ·
   simp only [snsN,he]
   split
   ·
    exact h5
   ·
    split
    ·
     exact hb_nil
    ·
     exact sns_hb hl n x4
  ·
   simp only [snsN,he]; exact hb_nil
theorem fc_int {l x:D} (h:HasB 1048576 (.sl 59 8 ShE) l):∀ y∈FC l x,∃ n,y=dI n:=by
 unfold FC
 split
 ·
  split
  ·
   rename_i hs
   intro y hy
   rw [List.mem_singleton.1 hy]
   exact (selP_hb h hs).1
  ·
   intro y hy; cases hy
 ·
  intro y hy; cases hy
theorem fb_int {l x:D} (h:HasB 1048576 (.sl 59 8 ShE) l):∀ y∈FB l x,∃ n,y=dI n:=by
 unfold FB
 split
 ·
  split
  ·
   rename_i hs
   intro y hy
   have:=(selP_hb h hs).2
   simp only [HasB] at this
   rcases this with rfl | ⟨es,rfl,_,ha⟩
   ·
    cases hy
   ·
    exact ha y hy
  ·
   intro y hy; cases hy
 ·
  intro y hy; cases hy
theorem fc_len {l x:D}:(FC l x).length≤1:=by
 unfold FC
 split
 ·
  split <;> simp
 ·
  simp
theorem fb_len {l x:D} (h:HasB 1048576 (.sl 59 8 ShE) l):(FB l x).length≤1048576:=by
 unfold FB
 split
 ·
  split
  ·
   rename_i hs
   exact len_leB (selP_hb h hs).2
  ·
   simp
 ·
  simp
theorem all_flat {F:D→List D} {l:List D} (h:∀ x,∀ y∈F x,∃ n,y=dI n):∀ y∈l.flatMap F,∃ n,y=dI n:=by
 intro y hy
 obtain ⟨x,_,hx⟩:=List.mem_flatMap.1 hy
 exact h x y hx
def partE (l:D):D→Int
 | .agg [.leaf (.int .i64 p0),.leaf (.int .i64 p1),.leaf (.int .i64 p2)] =>
  if (l.es[fst l p0]?).isNone then 9 else if (selP l p0 p1).isNone then 2 else if p2 < 0∨p2≥((snsV l p0).es.length:Int) then 22 else 0
 | _=>0
def errN (l:D):List D→Int
 | []=>0
 | x::r=>if partE l x=0 then errN l r else partE l x
def rstV (l ws fs ps:D):Int :=
 if accV ws fs (mkOut 3 1 (ps.es.flatMap (FC l)))=false then 21 else if 24 < (mkOut 3 1 (ps.es.flatMap (FB l))).es.length then 5 else 0
def lopV (l ws fs ps:D) (i:Nat):Int:=if errN l (ps.es.drop i)=0 then rstV l ws fs ps else errN l (ps.es.drop i)
def rgtV (l ws fs ps:D):Int:=if ps.es.length=0 then 4 else if 4 < ps.es.length then 11 else lopV l ws fs ps 0
theorem drop_at {l:List D} {i:Nat} {x:D} (h:l[i]? = some x):l.drop i=x::l.drop (i+1):=by
 obtain ⟨h1,rfl⟩:=List.getElem?_eq_some_iff.1 h
 exact List.drop_eq_getElem_cons h1
theorem lop_next {l ws fs ps:D} {i:Nat} {x:D} (h:ps.es[i]? = some x) (hp:partE l x=0):lopV l ws fs ps i=lopV l ws fs ps (i+1):=by
 unfold lopV; rw [drop_at h]; simp only [errN,hp,if_true]
theorem lop_err {l ws fs ps:D} {i:Nat} {x:D} {e:Int} (h:ps.es[i]? = some x) (hp:partE l x=e) (he:e≠0):lopV l ws fs ps i=e:=by
 unfold lopV; rw [drop_at h]; simp only [errN,hp,if_neg he]
theorem lop_end {l ws fs ps:D}:lopV l ws fs ps ps.es.length=rstV l ws fs ps:=by
 unfold lopV; rw [List.drop_length]; rfl
theorem g18 {c0 c1 c2 c3 c4 n ws fs l ps:D} (ho:n.one=true) (hw:HasB 300000000 ShW ws) (hf:HasB 300000000 (.sl 3 1 (.int .i64)) fs) (hl:HasB 1048576 (.sl 59 8 ShE) l) (hp:HasB 300000000 ShP ps) (hn:ps.es.length≤20) :
  Holds EE 18 [.agg [c0,c1,c2,c3,c4,n,ws,fs,l],.agg [ps]] (dI (rgtV l ws fs ps)):=by
 have i_ps:=isSl_ofB hp
 have b_ps:=len_leB hp
 have i_l:=isSl_ofB hl
 have i_ws:=isSl_ofB hw
 have i_fs:=isSl_ofB hf
 have hB:=hasB_mono (B':=300000000) (by decide) hl
 have hci:∀ y∈ps.es.flatMap (FC l),∃ n,y=dI n:=all_flat fun x=>fc_int hl
 have hbi:∀ y∈ps.es.flatMap (FB l),∃ n,y=dI n:=all_flat fun x=>fb_int hl
 have hcl:(ps.es.flatMap (FC l)).length≤ps.es.length * 1:=flat_len_le fun y _=>fc_len
 have hbl:(ps.es.flatMap (FB l)).length≤ps.es.length * 1048576:=flat_len_le fun y _=>fb_len hl
 have hC:HasB 300000000 (.sl 3 1 (.int .i64)) (mkOut 3 1 (ps.es.flatMap (FC l))):=mkOut_hb (by omega) hci
 have hD:HasB 300000000 (.sl 3 1 (.int .i64)) (mkOut 3 1 (ps.es.flatMap (FB l))):=mkOut_hb (by omega) hbi
 have i_D:=isSl_ofB hD
 refine u18 rfl (Goes.step' ?_)
 show wp _ _ _ u18T0 _
 refine bS (d:=.agg [c0,c1,c2,c3,c4,n,ws,fs,l]) (sh_chkW rfl) ?_
 refine bS (d:=.agg [ps]) (sh_chkW rfl) ?_
 refine bS (d:=ps) (sh_fld1 (off:=0) rfl i_ps.one) ?_
 refine bS (d:=dI ((ps.es.length:Nat):Int)) (sh_len i_ps) ?_
 refine bS (d:=dB (decide (((ps.es.length:Nat):Int)=0))) sk_eql ?_
 unfold rgtV
 refine wp_iteC rfl (fun c=>?_) (fun c=>?_)
 ·
  have hc:=of_decide_eq_true c
  rw [if_pos (by omega)]
  exact wp_retTo rfl rfl
 have hc:=of_decide_eq_false c
 rw [if_neg (by omega)]
 refine bS (d:=ps) (sh_fld1 (off:=0) rfl i_ps.one) ?_
 refine bS (d:=dI ((ps.es.length:Nat):Int)) (sh_len i_ps) ?_
 refine bS (d:=dB (decide (((ps.es.length:Nat):Int) > 4))) sk_gtr ?_
 refine wp_iteC rfl (fun d=>?_) (fun d=>?_)
 ·
  have hd:=of_decide_eq_true d
  rw [if_pos (by omega)]
  exact wp_retTo rfl rfl
 have hd:=of_decide_eq_false d
 rw [if_neg (by omega)]
 refine bS (d:=ps) (sh_fld1 (off:=0) rfl i_ps.one) ?_
 refine bS (d:=dI ((ps.es.length:Nat):Int)) (sh_len i_ps) ?_
 refine wp_jumpTo rfl (loop_dn (P:=fun i=>Goes EE (Holds EE) u18Ts 1 [ps,dI ((ps.es.length:Nat):Int),dI ((i:Nat):Int),.agg [c0,c1,c2,c3,c4,n,ws,fs,l],.agg [ps]] (dI (lopV l ws fs ps i))) ps.es.length ?_ ?_)
 ·
  rw [lop_end]
  refine Goes.step' ?_
  show wp _ _ _ u18T1 _
  refine bS (d:=dB (decide (((ps.es.length:Nat):Int) < ((ps.es.length:Nat):Int)))) sk_lss ?_
  refine wp_iteC rfl (fun e=>?_) (fun e=>?_)
  ·
   have:=of_lt e; omega
  refine bS (d:=.agg [n,ws,fs]) (sh_fldA (off:=5) (size:=3) rfl) ?_
  refine cS (d:=mkOut 3 1 (ps.es.flatMap (FC l))) (g21 (l:=l) rfl rfl hl hp hn) ?_
  refine cS (d:=dB (accV ws fs (mkOut 3 1 (ps.es.flatMap (FC l))))) (g46 ho hw hf hC) ?_
  refine bS (d:=dB (!(accV ws fs (mkOut 3 1 (ps.es.flatMap (FC l)))))) sh_not ?_
  unfold rstV
  refine wp_iteC rfl (fun k=>?_) (fun k=>?_)
  ·
   have hk:accV ws fs (mkOut 3 1 (ps.es.flatMap (FC l)))=false:=by simpa using k
   rw [if_pos hk]
   exact wp_retTo rfl rfl
  have hk:¬ accV ws fs (mkOut 3 1 (ps.es.flatMap (FC l)))=false:=by simpa using k
  rw [if_neg hk]
  refine cS (d:=mkOut 3 1 (ps.es.flatMap (FB l))) (g22 (l:=l) rfl rfl hl hp hn) ?_
  refine bS (d:=dI (((mkOut 3 1 (ps.es.flatMap (FB l))).es.length:Nat):Int)) (sh_len i_D) ?_
  refine bS (d:=dB (decide ((((mkOut 3 1 (ps.es.flatMap (FB l))).es.length:Nat):Int) > 24))) sk_gtr ?_
  refine wp_iteC rfl (fun m=>?_) (fun m=>?_)
  ·
   have hm:=of_decide_eq_true m
   rw [if_pos (by omega)]
   exact wp_retTo rfl rfl
  ·
   have hm:=of_decide_eq_false m
   rw [if_neg (by omega)]
   exact wp_retTo rfl rfl
 ·
  intro i hi ih
  obtain ⟨x,e_x⟩:=lt_at hi
  obtain ⟨_,rfl,_,_,rfl,⟨p0,rfl⟩,_,_,rfl,⟨p1,rfl⟩,_,_,rfl,⟨p2,rfl⟩,rfl⟩:=elem_ofB hp e_x
  have hP:partE l (.agg [dI p0,dI p1,dI p2])=if (l.es[fst l p0]?).isNone then 9 else if (selP l p0 p1).isNone then 2 else if p2 < 0∨p2≥((snsV l p0).es.length:Int) then 22 else 0:=rfl
  refine Goes.step' ?_
  show wp _ _ _ u18T1 _
  refine bS (d:=dB (decide (((i:Nat):Int) < ((ps.es.length:Nat):Int)))) sk_lss ?_
  refine wp_iteC rfl (fun e=>?_) (fun e=>?_)
  ·
   skip
   refine bS (d:=dB (true)) (si_inr (s:=((i:Nat):Int)) (by omega) e_x) ?_
   refine bS (d:=.agg [dI (p0),dI (p1),dI (p2)]) (si_elemW (s:=((i:Nat):Int)) i_ps (by omega) e_x rfl) ?_
   refine bS (d:=.agg [dI (p0),dI (p1),dI (p2)]) (sh_chkW rfl) ?_
   refine bS (d:=l) (sh_fld1 (off:=8) rfl i_l.one) ?_
   refine bS (d:=dI (p0)) (sh_fld1 (off:=0) rfl rfl) ?_
   rcases getR_cases (id:=p0) hl with ⟨x0,x2,x4,x1,x3,x5,x6,x7,h1,h3,h5,h6,h7,he,hr⟩ | ⟨he,hr⟩
   ·
    rw [he,if_neg (by simp)] at hP
    refine cS (d:=.tup [.agg [dI (x0),x1,dI (x2),x3,dI (x4),x5,x6,x7],dB (true)]) (by rw [← hr]; exact g43 hB) ?_
    refine bS (d:=.agg [dI (x0),x1,dI (x2),x3,dI (x4),x5,x6,x7]) (te_ext rfl) ?_
    refine bS (d:=dB (true)) (te_ext rfl) ?_
    refine bS (d:=.agg [dI (x0),x1,dI (x2),x3,dI (x4),x5,x6,x7]) (sh_chkW rfl) ?_
    refine bS (d:=dB (!(true))) sh_not ?_
    refine wp_iteB (t:=false) rfl ?_
    refine ite_f ?_
    obtain ⟨y0,y2,y4,y1,y3,y5,y6,y7,w,b,q1,q2,q3,q4⟩:=g44 (g:=[c0,c1,c2,c3,c4,n,ws,fs,l]) (p0:=p0) (p1:=p1) (p2:=p2) rfl rfl hl
    refine cS (d:=.tup [.agg [dI (y0),y1,dI (y2),y3,dI (y4),y5,y6,y7],w,dB (b)]) q1 ?_
    refine bS (d:=.agg [dI (y0),y1,dI (y2),y3,dI (y4),y5,y6,y7]) (te_ext rfl) ?_
    refine bS (d:=w) (te_ext rfl) ?_
    refine bS (d:=dB (b)) (te_ext rfl) ?_
    refine bS (d:=.agg [dI (y0),y1,dI (y2),y3,dI (y4),y5,y6,y7]) (sh_chkW rfl) ?_
    refine bS (d:=dB (!(b))) sh_not ?_
    refine wp_iteC rfl (fun f=>?_) (fun f=>?_)
    ·
     have hb:b=false:=by simpa using f
     subst hb
     rw [q2,if_pos (by simp)] at hP
     exact wp_retTo rfl (by rw [lop_err e_x hP (by decide)]; rfl)
    have hb:b=true:=by simpa using f
    subst hb
    rw [q2,if_neg (by simp)] at hP
    refine bS (d:=dI (p2)) (sh_fld1 (off:=2) rfl rfl) ?_
    refine bS (d:=dB (decide (p2 < 0))) sk_lss ?_
    refine wp_iteC rfl (fun k=>?_) (fun k=>?_)
    ·
     have hk:=of_decide_eq_true k
     rw [if_pos (.inl hk)] at hP
     exact wp_retTo rfl (by rw [lop_err e_x hP (by decide)]; rfl)
    have hk:=of_decide_eq_false k
    have hs:=sns_hb hl (l.es.length+1) p0
    have i_s:=isSl_ofB hs
    refine bS (d:=dI (p2)) (sh_fld1 (off:=2) rfl rfl) ?_
    refine bS (d:=l) (sh_fld1 (off:=8) rfl i_l.one) ?_
    refine bS (d:=dI (p0)) (sh_fld1 (off:=0) rfl rfl) ?_
    refine cS (d:=snsV l p0) (g45 hl) ?_
    refine bS (d:=dI (((snsV l p0).es.length:Nat):Int)) (sh_len i_s) ?_
    refine bS (d:=dB (decide (p2≥(((snsV l p0).es.length:Nat):Int)))) sk_geq ?_
    refine wp_iteC rfl (fun m=>?_) (fun m=>?_)
    ·
     have hm:=of_decide_eq_true m
     rw [if_pos (.inr hm)] at hP
     exact wp_retTo rfl (by rw [lop_err e_x hP (by decide)]; rfl)
    ·
     have hm:=of_decide_eq_false m
     rw [if_neg (fun h=>h.elim hk hm)] at hP
     refine bS (d:=dI ((i+1:Nat):Int)) (sh_add (cap_bd' (by omega))) ?_
     rw [lop_next e_x hP]
     exact wp_jumpTo rfl ih
   ·
    rw [he,if_pos (by simp)] at hP
    refine cS (d:=.tup [zeroE,dB (false)]) (by rw [← hr]; exact g43 hB) ?_
    refine bS (d:=zeroE) (te_ext rfl) ?_
    refine bS (d:=dB (false)) (te_ext rfl) ?_
    refine bS (d:=zeroE) (sh_chkW rfl) ?_
    refine bS (d:=dB (!(false))) sh_not ?_
    refine wp_iteB (t:=true) rfl ?_
    refine ite_t ?_
    exact wp_retTo rfl (by rw [lop_err e_x hP (by decide)]; rfl)
  ·
   have:=of_nlt e; omega
end Go.Proofs.YtnemldklhelbeaaGreat
namespace Go.Proofs.YtnemldklhelbeaaGreat
open Go Go.Am Go.Proofs
attribute [local irreducible] Go.Am.wp Go.Am.TOp.eval
abbrev ShG:Sh:=.sl 71 2 (.st [.str,.int .i64])
abbrev ShK:Sh:=.sl 120 2 (.st [.int .i64,.int .i64])
abbrev ShR:Sh:=.st [ShI,ShI,ShK,ShK,.bool,.bool]
def andI (a b:Int):Int:=IntKind.i64.wrap ((BitVec.ofInt 64 a &&& BitVec.ofInt 64 b).toNat:Int)
theorem ev_andI (a b:Int) {t:TypeId} {x y:Operand}:TOp.eval EE (.bin .and t x y) [dI a,dI b]=some (dI (andI a b)):=by rw [ev_bin]; rfl
def featV (gs:D) (s:Int):Int:=match gs.es[(s - 1).toNat]? with
 | some (.agg [_,.leaf (.int .i64 f)])=>f
 | _=>0
def inV (gs:D) (s m v:Int):Bool:=decide (1≤s) && (decide (s≤(gs.es.length:Int)) && deqs [dI m,dI v] [dI m,dI (andI (featV gs s) m)])
theorem g131 {gs:D} {s:Int} (hg:HasB 300000000 ShG gs):Holds EE 131 [.agg [gs],dI s] (dB (decide (1≤s) && decide (s≤(gs.es.length:Int)))):=by
 have i_gs:=isSl_ofB hg
 refine u131 rfl (Goes.step' ?_)
 show wp _ _ _ u131T0 _
 refine bS (d:=.agg [gs]) (sh_chkW rfl) ?_
 refine bS (d:=dB (decide (s≥1))) sk_geq ?_
 refine wp_iteC rfl (fun c=>?_) (fun c=>?_)
 ·
  skip
  refine bS (d:=gs) (sh_fld1 (off:=0) rfl i_gs.one) ?_
  refine bS (d:=dI ((gs.es.length:Nat):Int)) (sh_len i_gs) ?_
  refine bS (d:=dB (decide (s≤((gs.es.length:Nat):Int)))) sk_leq ?_
  exact wp_retTo rfl (by have h:decide (1≤s)=true:=decide_eq_true (of_decide_eq_true c); rw [h,Bool.true_and]; rfl)
 ·
  exact wp_retTo rfl (by have h:decide (1≤s)=false:=decide_eq_false (of_decide_eq_false c); rw [h,Bool.false_and]; rfl)
theorem ev_cls {x y:Operand} {m v m' v':Int}:TOp.eval EE (.bin .eql 120 x y) [.agg [dI m,dI v],.agg [dI m',dI v']]=some (dB (deqs [dI m,dI v] [dI m',dI v'])) :=
 sh_cmpS .eql (.inr rfl) (n:=5) (ss:=[.int .i64,.int .i64]) (by kernel_rfl) (by kernel_rfl) (by decide) (by kernel_rfl) rfl (shs_cons sh_int (shs_cons sh_int shs_nil)) (shs_cons sh_int (shs_cons sh_int shs_nil))
theorem g128 {gs:D} {s m v:Int} (hg:HasB 300000000 ShG gs):Holds EE 128 [.agg [gs],dI s,.agg [dI m,dI v]] (dB (inV gs s m v)):=by
 have i_gs:=isSl_ofB hg
 have b_gs:=len_leB hg
 refine u128 rfl (Goes.step' ?_)
 show wp _ _ _ u128T0 _
 refine bS (d:=.agg [gs]) (sh_chkW rfl) ?_
 refine bS (d:=.agg [dI (m),dI (v)]) (sh_chkW rfl) ?_
 refine cS (d:=dB (decide (1≤s) && decide (s≤(gs.es.length:Int)))) (g131 hg) ?_
 refine wp_iteC rfl (fun c=>?_) (fun c=>?_)
 ·
  simp only [Bool.and_eq_true,decide_eq_true_eq] at c
  obtain ⟨x,e_x⟩:=get_at (d:=gs) (s:=s - 1) (by omega) (by omega)
  obtain ⟨_,rfl,_,_,rfl,⟨nm,rfl,_⟩,_,_,rfl,⟨f,rfl⟩,rfl⟩:=elem_ofB hg e_x
  have hf:featV gs s=f:=by unfold featV; rw [e_x]
  refine bS (d:=dI (m)) (sh_fld1 (off:=0) rfl rfl) ?_
  refine bS (d:=gs) (sh_fld1 (off:=0) rfl i_gs.one) ?_
  refine bS (d:=dI (s - 1)) (si_sub (by omega)) ?_
  refine bS (d:=dB (true)) (si_inr (s:=s - 1) (by omega) e_x) ?_
  refine bS (d:=dI (f)) (si_elemP (s:=s - 1) (off:=1) i_gs (by omega) e_x rfl rfl (by decide)) ?_
  refine bS (d:=dI (m)) (sh_fld1 (off:=0) rfl rfl) ?_
  refine bS (d:=dI (andI f m)) (ev_andI _ _) ?_
  refine bS (d:=dB (deqs [dI m,dI v] [dI m,dI (andI f m)])) ev_cls ?_
  refine wp_retTo rfl ?_
  unfold inV
  rw [hf,decide_eq_true c.1,decide_eq_true c.2]
  rfl
 ·
  have hc:inV gs s m v=false:=by
   unfold inV
   rw [← Bool.and_assoc,c,Bool.false_and]
  rw [hc]
  exact wp_retTo rfl rfl
def inD (gs:D):D→D→Bool
 | .leaf (.int .i64 s),.agg [.leaf (.int .i64 m),.leaf (.int .i64 v)]=>inV gs s m v
 | _,_=>true
def fitL (gs:D):List D→List D→Bool
 | x::xs,y::ys=>inD gs x y && fitL gs xs ys
 | _,_=>true
theorem g118 {gs ks:D} {k:Nat} {s m v:Int} (hg:HasB 300000000 ShG gs) (hk:HasB 300000000 ShK ks) (he:ks.es[k]? = some (.agg [dI m,dI v])):Holds EE 118 [.agg [gs,ks],dI ((k:Nat):Int),dI s] (dB (inV gs s m v)):=by
 have i_gs:=isSl_ofB hg
 have i_ks:=isSl_ofB hk
 refine u118 rfl (Goes.step' ?_)
 show wp _ _ _ u118T0 _
 refine bS (d:=.agg [gs,ks]) (sh_chkW rfl) ?_
 refine bS (d:=.agg [gs]) (sh_fldA (off:=0) (size:=1) rfl) ?_
 refine bS (d:=ks) (sh_fld1 (off:=1) rfl i_ks.one) ?_
 refine bS (d:=dB (true)) (si_inr (s:=((k:Nat):Int)) (by omega) he) ?_
 refine bS (d:=.agg [dI (m),dI (v)]) (si_elemW (s:=((k:Nat):Int)) i_ks (by omega) he rfl) ?_
 refine cS (d:=dB (inV gs s m v)) (g128 hg) ?_
 exact wp_retTo rfl rfl
theorem g117 {gs ks w:D} (hg:HasB 300000000 ShG gs) (hk:HasB 300000000 ShK ks) (hw:HasB 300000000 ShI w) (hl:w.es.length≤ks.es.length) :
  Holds EE 117 [.clo (.func 118) [] [],.agg [gs,ks],w] (dB (fitL gs w.es ks.es)):=by
 have i_w:=isSl_ofB hw
 have b_w:=len_leB hw
 refine u117 rfl (Goes.step' ?_)
 show wp _ _ _ u117T0 _
 refine bS (d:=.agg [gs,ks]) (sh_chkW rfl) ?_
 refine bS (d:=dI ((w.es.length:Nat):Int)) (sh_len i_w) ?_
 refine wp_jumpTo rfl (loop_dn (P:=fun i=>Goes EE (Holds EE) u117Ts 1 [.clo (.func 118) [] [],w,dI ((w.es.length:Nat):Int),dI ((i:Nat):Int),.agg [gs,ks]] (dB (fitL gs (w.es.drop i) (ks.es.drop i)))) w.es.length ?_ ?_)
 ·
  rw [List.drop_length]
  refine Goes.step' ?_
  show wp _ _ _ u117T1 _
  refine bS (d:=dB (decide (((w.es.length:Nat):Int) < ((w.es.length:Nat):Int)))) sk_lss ?_
  refine wp_iteC rfl (fun c=>?_) (fun c=>?_)
  ·
   have:=of_lt c; omega
  ·
   exact wp_retTo rfl (by cases ks.es.drop w.es.length <;> rfl)
 ·
  intro i hi ih
  obtain ⟨x,e_x⟩:=lt_at hi
  obtain ⟨s,rfl⟩:=elem_ofB hw e_x
  obtain ⟨y,e_y⟩:=lt_at (l:=ks) (i:=i) (by omega)
  obtain ⟨_,rfl,_,_,rfl,⟨m,rfl⟩,_,_,rfl,⟨v,rfl⟩,rfl⟩:=elem_ofB hk e_y
  have hd:fitL gs (w.es.drop i) (ks.es.drop i)=(inV gs s m v && fitL gs (w.es.drop (i+1)) (ks.es.drop (i+1))):=by
   rw [drop_at e_x,drop_at e_y]; rfl
  rw [hd]
  refine Goes.step' ?_
  show wp _ _ _ u117T1 _
  refine bS (d:=dB (decide (((i:Nat):Int) < ((w.es.length:Nat):Int)))) sk_lss ?_
  refine wp_iteC rfl (fun c=>?_) (fun c=>?_)
  ·
   skip
   refine bS (d:=dB (true)) (si_inr (s:=((i:Nat):Int)) (by omega) e_x) ?_
   refine bS (d:=dI (s)) (si_elem1 (s:=((i:Nat):Int)) i_w (by omega) e_x rfl) ?_
   refine cS (d:=dB (inV gs s m v)) (g118 hg hk e_y) ?_
   refine bS (d:=dB (!(inV gs s m v))) sh_not ?_
   refine wp_iteC rfl (fun d=>?_) (fun d=>?_)
   ·
    have hv:inV gs s m v=false:=by simpa using d
    rw [hv]
    exact wp_retTo rfl rfl
   ·
    have hv:inV gs s m v=true:=by simpa using d
    rw [hv,Bool.true_and]
    refine bS (d:=dI ((i+1:Nat):Int)) (sh_add (cap_bd' (by omega))) ?_
    exact wp_jumpTo rfl ih
  ·
   have:=of_nlt c; omega
def isI (x:Int):D→Bool
 | .leaf (.int .i64 n)=>decide (x=n)
 | _=>false
def ixN (l:D) (x:Int):Nat:=l.es.findIdx (isI x)
def ixV (l:D) (x:Int):Int:=if ixN l x < l.es.length then (ixN l x:Int) else -1
theorem ix_hit {l:D} {x:Int} {i:Nat} {e:D} (h:i≤ixN l x) (he:l.es[i]? = some e) (hp:isI x e=true):ixN l x=i:=by
 rcases Nat.lt_or_eq_of_le h with h | h
 ·
  have hn:=List.not_of_lt_findIdx h
  have:=(List.getElem?_eq_some_iff.1 he).2
  rw [this,hp] at hn
  cases hn
 ·
  exact h.symm
theorem ix_miss {l:D} {x:Int} {i:Nat} {e:D} (h:i≤ixN l x) (he:l.es[i]? = some e) (hp:isI x e=false):i+1≤ixN l x:=by
 rcases Nat.lt_or_eq_of_le h with h | h
 ·
  exact h
 ·
  have hl:=(List.getElem?_eq_some_iff.1 he).1
  have h2:l.es.findIdx (isI x) < l.es.length:=by show ixN l x < _; omega
  have:=List.findIdx_getElem (w:=h2)
  have e2:l.es[l.es.findIdx (isI x)]=e:=by
   have:l.es[l.es.findIdx (isI x)]? = some e:=by rw [← he,h]; rfl
   exact (List.getElem?_eq_some_iff.1 this).2
  rw [e2,hp] at this
  cases this
theorem g101 {l:D} {x:Int} (hl:HasB 300000000 ShI l):Holds EE 101 [l,dI x] (dI (ixV l x)):=by
 have i_l:=isSl_ofB hl
 have b_l:=len_leB hl
 refine u101 rfl (Goes.step' ?_)
 show wp _ _ _ u101T0 _
 refine bS (d:=dI ((l.es.length:Nat):Int)) (sh_len i_l) ?_
 refine wp_jumpTo rfl (loop_dn (P:=fun i=>i≤ixN l x→Goes EE (Holds EE) u101Ts 1 [l,dI x,dI ((l.es.length:Nat):Int),dI ((i:Nat):Int)] (dI (ixV l x))) l.es.length ?_ ?_ (Nat.zero_le _))
 ·
  intro hle
  refine Goes.step' ?_
  show wp _ _ _ u101T1 _
  refine bS (d:=dB (decide (((l.es.length:Nat):Int) < ((l.es.length:Nat):Int)))) sk_lss ?_
  refine wp_iteC rfl (fun c=>?_) (fun c=>?_)
  ·
   have:=of_lt c; omega
  ·
   exact wp_retTo rfl (by unfold ixV; rw [if_neg (by omega)]; rfl)
 ·
  intro i hi ih hle
  obtain ⟨y,e_y⟩:=lt_at hi
  obtain ⟨n,rfl⟩:=elem_ofB hl e_y
  refine Goes.step' ?_
  show wp _ _ _ u101T1 _
  refine bS (d:=dB (decide (((i:Nat):Int) < ((l.es.length:Nat):Int)))) sk_lss ?_
  refine wp_iteC rfl (fun c=>?_) (fun c=>?_)
  ·
   skip
   refine bS (d:=dB (true)) (si_inr (s:=((i:Nat):Int)) (by omega) e_y) ?_
   refine bS (d:=dI (n)) (si_elem1 (s:=((i:Nat):Int)) i_l (by omega) e_y rfl) ?_
   refine bS (d:=dB (decide (x=n))) sk_eql ?_
   refine wp_iteC rfl (fun d=>?_) (fun d=>?_)
   ·
    have h:=ix_hit hle e_y d
    exact wp_retTo rfl (by unfold ixV; rw [h,if_pos hi]; rfl)
   ·
    skip
    refine bS (d:=dI ((i+1:Nat):Int)) (sh_add (cap_bd' (by omega))) ?_
    exact wp_jumpTo rfl (ih (ix_miss hle e_y d))
  ·
   have:=of_nlt c; omega
theorem g116 {l:D} {x:Int} (hl:HasB 300000000 ShI l):Holds EE 116 [l,dI x] (dB (decide (ixN l x < l.es.length))):=by
 have h127:Holds EE 127 [l,dI x] (dB (decide (ixN l x < l.es.length))):=by
  refine u127 rfl (Goes.step' ?_)
  show wp _ _ _ u127T0 _
  refine cS (d:=dI (ixV l x)) (g101 hl) ?_
  refine bS (d:=dB (decide (ixV l x≥0))) sk_geq ?_
  refine wp_retTo rfl ?_
  by_cases h:ixN l x < l.es.length
  ·
   rw [decide_eq_true h]
   exact congrArg (fun b=>dB b) (decide_eq_true (by unfold ixV; rw [if_pos h]; omega))
  ·
   rw [decide_eq_false h]
   exact congrArg (fun b=>dB b) (decide_eq_false (by unfold ixV; rw [if_neg h]; omega))
 refine u116 rfl (Goes.step' ?_)
 show wp _ _ _ u116T0 _
 refine cS (d:=dB (decide (ixN l x < l.es.length))) h127 ?_
 exact wp_retTo rfl rfl
def slcV (w:D) (a b:Nat):D:=match w with
 | .sl el sz es=>.sl el sz ((es.drop a).take (b - a))
 | d=>d
theorem slc_ev {el sz:Nat} {e:Sh} {w:D} {a b:Nat} (hw:HasB 300000000 (.sl el sz e) w) (h1:a≤b) (h2:b≤w.es.length):TOp.eval EE (.slc el sz true true) [w,dI ((a:Nat):Int),dI ((b:Nat):Int)]=some (slcV w a b):=by
 simp only [HasB] at hw
 rcases hw with rfl | ⟨es,rfl,_,_⟩
 ·
  have hb:b=0:=by simpa [D.es] using h2
  subst hb
  have ha:a=0:=by omega
  subst ha
  rw [ev_slc]; rfl
 ·
  have h2:b≤es.length:=h2
  rw [ev_slc]
  have e1:boundD true 0 [dI ((a:Nat):Int),dI ((b:Nat):Int)]=some (a,[dI ((b:Nat):Int)]):=rfl
  have e2:boundD true es.length [dI ((b:Nat):Int)]=some (b,[]):=rfl
  simp only [e1,e2,Nat.beq_refl,Nat.ble_eq_true_of_le h1,Nat.ble_eq_true_of_le h2,Bool.and_self,cond_true,slcV]
theorem slc_es {el sz:Nat} {e:Sh} {w:D} {a b:Nat} (hw:HasB 300000000 (.sl el sz e) w):(slcV w a b).es=(w.es.drop a).take (b - a):=by
 simp only [HasB] at hw
 rcases hw with rfl | ⟨es,rfl,_,_⟩
 ·
  simp [slcV,D.es]
 ·
  rfl
theorem slc_hb {el sz:Nat} {e:Sh} {w:D} {a b:Nat} (hw:HasB 300000000 (.sl el sz e) w):HasB 300000000 (.sl el sz e) (slcV w a b):=by
 have h0:=hw
 simp only [HasB] at hw
 rcases hw with rfl | ⟨es,rfl,h1,h2⟩
 ·
  exact h0
 ·
  exact hb_sl (by have:=List.length_take_le (b - a) (es.drop a); simp only [List.length_take,List.length_drop]; omega) fun x hx=>h2 x (List.mem_of_mem_drop (List.mem_of_mem_take hx))
def siteV (gs fr lf rg:D) (bg en:Bool) (w:D) (i:Nat) (s:Int):Bool :=
 if ¬ ixN fr s < fr.es.length then false
 else if i < lf.es.length then false
 else if w.es.length < i+1+rg.es.length then false
 else if bg=true∧lf.es.length < i then false
 else if en=true∧i+1+rg.es.length < w.es.length then false
 else fitL gs ((w.es.drop (i - lf.es.length)).take lf.es.length) lf.es && fitL gs ((w.es.drop (i+1)).take rg.es.length) rg.es
theorem g100 {gs fr to lf rg w:D} {bg en:Bool} {i:Nat} {s:Int} (hg:HasB 300000000 ShG gs) (hfr:HasB 300000000 ShI fr) (hlf:HasB 300000000 ShK lf) (hrg:HasB 300000000 ShK rg) (hw:HasB 300000000 ShI w) (he:w.es[i]? = some (dI s)) :
  Holds EE 100 [.agg [gs],.agg [fr,to,lf,rg,dB bg,dB en],w,dI ((i:Nat):Int)] (dB (siteV gs fr lf rg bg en w i s)):=by
 have i_gs:=isSl_ofB hg
 have i_fr:=isSl_ofB hfr
 have i_lf:=isSl_ofB hlf
 have i_rg:=isSl_ofB hrg
 have i_w:=isSl_ofB hw
 have b_lf:=len_leB hlf
 have b_rg:=len_leB hrg
 have b_w:=len_leB hw
 have hi:i < w.es.length:=(List.getElem?_eq_some_iff.1 he).1
 refine u100 rfl (Goes.step' ?_)
 show wp _ _ _ u100T0 _
 refine bS (d:=.agg [gs]) (sh_chkW rfl) ?_
 refine bS (d:=.agg [fr,to,lf,rg,dB (bg),dB (en)]) (sh_chkW rfl) ?_
 refine bS (d:=lf) (sh_fld1 (off:=2) rfl i_lf.one) ?_
 refine bS (d:=dI ((lf.es.length:Nat):Int)) (sh_len i_lf) ?_
 refine bS (d:=dI (((i:Nat):Int) - ((lf.es.length:Nat):Int))) (si_sub (by omega)) ?_
 refine bS (d:=dI ((i+1:Nat):Int)) (sh_add (cap_bd' (by omega))) ?_
 refine bS (d:=rg) (sh_fld1 (off:=3) rfl i_rg.one) ?_
 refine bS (d:=dI ((rg.es.length:Nat):Int)) (sh_len i_rg) ?_
 refine bS (d:=dI (((i+1:Nat):Int)+((rg.es.length:Nat):Int))) (si_add (by omega)) ?_
 refine bS (d:=fr) (sh_fld1 (off:=0) rfl i_fr.one) ?_
 refine bS (d:=dB (true)) (si_inr (s:=((i:Nat):Int)) (by omega) he) ?_
 refine bS (d:=dI (s)) (si_elem1 (s:=((i:Nat):Int)) i_w (by omega) he rfl) ?_
 refine cS (d:=dB (decide (ixN fr s < fr.es.length))) (g116 hfr) ?_
 refine bS (d:=dB (!(decide (ixN fr s < fr.es.length)))) sh_not ?_
 unfold siteV
 refine wp_iteC rfl (fun c1=>?_) (fun c1=>?_)
 ·
  have h1:¬ ixN fr s < fr.es.length:=by simpa using c1
  rw [if_pos h1]
  exact wp_retTo rfl rfl
 have h1:¬ ¬ ixN fr s < fr.es.length:=by simpa using c1
 rw [if_neg h1]
 refine bS (d:=dB (decide (((i:Nat):Int) - ((lf.es.length:Nat):Int) < 0))) sk_lss ?_
 refine wp_iteC rfl (fun c2=>?_) (fun c2=>?_)
 ·
  have h2:=of_decide_eq_true c2
  rw [if_pos (by omega)]
  exact wp_retTo rfl rfl
 have h2:=of_decide_eq_false c2
 rw [if_neg (by omega)]
 refine bS (d:=dI ((w.es.length:Nat):Int)) (sh_len i_w) ?_
 refine bS (d:=dB (decide (((i+1:Nat):Int)+((rg.es.length:Nat):Int) > ((w.es.length:Nat):Int)))) sk_gtr ?_
 refine wp_iteC rfl (fun c3=>?_) (fun c3=>?_)
 ·
  have h3:=of_decide_eq_true c3
  rw [if_pos (by omega)]
  exact wp_retTo rfl rfl
 have h3:=of_decide_eq_false c3
 rw [if_neg (by omega)]
 have hfrom:((i:Nat):Int) - ((lf.es.length:Nat):Int)=((i - lf.es.length:Nat):Int):=by omega
 have hto:((i+1:Nat):Int)+((rg.es.length:Nat):Int)=((i+1+rg.es.length:Nat):Int):=by omega
 have hA:HasB 300000000 ShI (slcV w (i - lf.es.length) i):=slc_hb hw
 have i_A:=isSl_ofB hA
 have eA:(slcV w (i - lf.es.length) i).es=(w.es.drop (i - lf.es.length)).take lf.es.length:=by rw [slc_es hw]; congr 1; omega
 have lA:(slcV w (i - lf.es.length) i).es.length=lf.es.length:=by rw [eA,List.length_take,List.length_drop]; omega
 have hR:HasB 300000000 ShI (slcV w (i+1) (i+1+rg.es.length)):=slc_hb hw
 have i_R:=isSl_ofB hR
 have eR:(slcV w (i+1) (i+1+rg.es.length)).es=(w.es.drop (i+1)).take rg.es.length:=by rw [slc_es hw]; congr 1; omega
 have lR:(slcV w (i+1) (i+1+rg.es.length)).es.length=rg.es.length:=by rw [eR,List.length_take,List.length_drop]; omega
 have s1:TOp.eval EE (.slc 3 1 true true) [w,dI (((i:Nat):Int) - ((lf.es.length:Nat):Int)),dI ((i:Nat):Int)]=some (slcV w (i - lf.es.length) i):=by
  rw [hfrom]; exact slc_ev (a:=i - lf.es.length) (b:=i) hw (by omega) (by omega)
 have s2:TOp.eval EE (.slc 3 1 true true) [w,dI ((i+1:Nat):Int),dI (((i+1:Nat):Int)+((rg.es.length:Nat):Int))]=some (slcV w (i+1) (i+1+rg.es.length)):=by
  rw [hto]; exact slc_ev (a:=i+1) (b:=i+1+rg.es.length) hw (by omega) (by omega)
 refine bS (d:=dB (bg)) (sh_fld1 (off:=4) rfl rfl) ?_
 refine wp_iteC rfl (fun c4=>?_) (fun c4=>?_)
 ·
  skip
  refine bS (d:=dB (decide (((i:Nat):Int) - ((lf.es.length:Nat):Int) > 0))) sk_gtr ?_
  refine wp_iteC rfl (fun c5=>?_) (fun c5=>?_)
  ·
   have h5:=of_decide_eq_true c5
   rw [if_pos ⟨c4,by omega⟩]
   exact wp_retTo rfl rfl
  have h5:=of_decide_eq_false c5
  rw [if_neg (by omega)]
  refine bS (d:=dB (en)) (sh_fld1 (off:=5) rfl rfl) ?_
  refine wp_iteC rfl (fun c6=>?_) (fun c6=>?_)
  ·
   skip
   refine bS (d:=dI ((w.es.length:Nat):Int)) (sh_len i_w) ?_
   refine bS (d:=dB (decide (((i+1:Nat):Int)+((rg.es.length:Nat):Int) < ((w.es.length:Nat):Int)))) sk_lss ?_
   refine wp_iteC rfl (fun c7=>?_) (fun c7=>?_)
   ·
    have h7:=of_decide_eq_true c7
    rw [if_pos ⟨c6,by omega⟩]
    exact wp_retTo rfl rfl
   have h7:=of_decide_eq_false c7
   rw [if_neg (by omega)]
   refine bS (d:=lf) (sh_fld1 (off:=2) rfl i_lf.one) ?_
   refine bS (d:=.agg [gs]) (sh_chkW rfl) ?_
   refine bS (d:=gs) (sh_fld1 (off:=0) rfl i_gs.one) ?_
   refine bS (d:=slcV w (i - lf.es.length) i) s1 ?_
   refine cS (d:=dB (fitL gs (slcV w (i - lf.es.length) i).es lf.es)) (g117 hg hlf hA (by rw [lA]; exact Nat.le_refl _)) ?_
   refine wp_iteC rfl (fun z=>?_) (fun z=>?_)
   ·
    rw [eA] at z
    rw [z,Bool.true_and]
    refine bS (d:=rg) (sh_fld1 (off:=3) rfl i_rg.one) ?_
    refine bS (d:=.agg [gs]) (sh_chkW rfl) ?_
    refine bS (d:=gs) (sh_fld1 (off:=0) rfl i_gs.one) ?_
    refine bS (d:=dI ((i+1:Nat):Int)) (sh_add (cap_bd' (by omega))) ?_
    refine bS (d:=slcV w (i+1) (i+1+rg.es.length)) s2 ?_
    refine cS (d:=dB (fitL gs (slcV w (i+1) (i+1+rg.es.length)).es rg.es)) (g117 hg hrg hR (by rw [lR]; exact Nat.le_refl _)) ?_
    rw [← eR]
    exact wp_retTo rfl rfl
   ·
    rw [eA] at z
    rw [z,Bool.false_and]
    exact wp_retTo rfl rfl
  rw [if_neg (by rw [c6]; simp)]
  refine bS (d:=lf) (sh_fld1 (off:=2) rfl i_lf.one) ?_
  refine bS (d:=.agg [gs]) (sh_chkW rfl) ?_
  refine bS (d:=gs) (sh_fld1 (off:=0) rfl i_gs.one) ?_
  refine bS (d:=slcV w (i - lf.es.length) i) s1 ?_
  refine cS (d:=dB (fitL gs (slcV w (i - lf.es.length) i).es lf.es)) (g117 hg hlf hA (by rw [lA]; exact Nat.le_refl _)) ?_
  refine wp_iteC rfl (fun z=>?_) (fun z=>?_)
  ·
   rw [eA] at z
   rw [z,Bool.true_and]
   refine bS (d:=rg) (sh_fld1 (off:=3) rfl i_rg.one) ?_
   refine bS (d:=.agg [gs]) (sh_chkW rfl) ?_
   refine bS (d:=gs) (sh_fld1 (off:=0) rfl i_gs.one) ?_
   refine bS (d:=dI ((i+1:Nat):Int)) (sh_add (cap_bd' (by omega))) ?_
   refine bS (d:=slcV w (i+1) (i+1+rg.es.length)) s2 ?_
   refine cS (d:=dB (fitL gs (slcV w (i+1) (i+1+rg.es.length)).es rg.es)) (g117 hg hrg hR (by rw [lR]; exact Nat.le_refl _)) ?_
   rw [← eR]
   exact wp_retTo rfl rfl
  ·
   rw [eA] at z
   rw [z,Bool.false_and]
   exact wp_retTo rfl rfl
 rw [if_neg (by rw [c4]; simp)]
 refine bS (d:=dB (en)) (sh_fld1 (off:=5) rfl rfl) ?_
 refine wp_iteC rfl (fun c6=>?_) (fun c6=>?_)
 ·
  skip
  refine bS (d:=dI ((w.es.length:Nat):Int)) (sh_len i_w) ?_
  refine bS (d:=dB (decide (((i+1:Nat):Int)+((rg.es.length:Nat):Int) < ((w.es.length:Nat):Int)))) sk_lss ?_
  refine wp_iteC rfl (fun c7=>?_) (fun c7=>?_)
  ·
   have h7:=of_decide_eq_true c7
   rw [if_pos ⟨c6,by omega⟩]
   exact wp_retTo rfl rfl
  have h7:=of_decide_eq_false c7
  rw [if_neg (by omega)]
  refine bS (d:=lf) (sh_fld1 (off:=2) rfl i_lf.one) ?_
  refine bS (d:=.agg [gs]) (sh_chkW rfl) ?_
  refine bS (d:=gs) (sh_fld1 (off:=0) rfl i_gs.one) ?_
  refine bS (d:=slcV w (i - lf.es.length) i) s1 ?_
  refine cS (d:=dB (fitL gs (slcV w (i - lf.es.length) i).es lf.es)) (g117 hg hlf hA (by rw [lA]; exact Nat.le_refl _)) ?_
  refine wp_iteC rfl (fun z=>?_) (fun z=>?_)
  ·
   rw [eA] at z
   rw [z,Bool.true_and]
   refine bS (d:=rg) (sh_fld1 (off:=3) rfl i_rg.one) ?_
   refine bS (d:=.agg [gs]) (sh_chkW rfl) ?_
   refine bS (d:=gs) (sh_fld1 (off:=0) rfl i_gs.one) ?_
   refine bS (d:=dI ((i+1:Nat):Int)) (sh_add (cap_bd' (by omega))) ?_
   refine bS (d:=slcV w (i+1) (i+1+rg.es.length)) s2 ?_
   refine cS (d:=dB (fitL gs (slcV w (i+1) (i+1+rg.es.length)).es rg.es)) (g117 hg hrg hR (by rw [lR]; exact Nat.le_refl _)) ?_
   rw [← eR]
   exact wp_retTo rfl rfl
  ·
   rw [eA] at z
   rw [z,Bool.false_and]
   exact wp_retTo rfl rfl
 rw [if_neg (by rw [c6]; simp)]
 refine bS (d:=lf) (sh_fld1 (off:=2) rfl i_lf.one) ?_
 refine bS (d:=.agg [gs]) (sh_chkW rfl) ?_
 refine bS (d:=gs) (sh_fld1 (off:=0) rfl i_gs.one) ?_
 refine bS (d:=slcV w (i - lf.es.length) i) s1 ?_
 refine cS (d:=dB (fitL gs (slcV w (i - lf.es.length) i).es lf.es)) (g117 hg hlf hA (by rw [lA]; exact Nat.le_refl _)) ?_
 refine wp_iteC rfl (fun z=>?_) (fun z=>?_)
 ·
  rw [eA] at z
  rw [z,Bool.true_and]
  refine bS (d:=rg) (sh_fld1 (off:=3) rfl i_rg.one) ?_
  refine bS (d:=.agg [gs]) (sh_chkW rfl) ?_
  refine bS (d:=gs) (sh_fld1 (off:=0) rfl i_gs.one) ?_
  refine bS (d:=dI ((i+1:Nat):Int)) (sh_add (cap_bd' (by omega))) ?_
  refine bS (d:=slcV w (i+1) (i+1+rg.es.length)) s2 ?_
  refine cS (d:=dB (fitL gs (slcV w (i+1) (i+1+rg.es.length)).es rg.es)) (g117 hg hrg hR (by rw [lR]; exact Nat.le_refl _)) ?_
  rw [← eR]
  exact wp_retTo rfl rfl
 ·
  rw [eA] at z
  rw [z,Bool.false_and]
  exact wp_retTo rfl rfl
end Go.Proofs.YtnemldklhelbeaaGreat
namespace Go.Proofs.YtnemldklhelbeaaGreat
open Go Go.Am Go.Proofs
attribute [local irreducible] Go.Am.wp Go.Am.TOp.eval
def aplI (gs fr to lf rg:D) (bg en:Bool) (w:D) (i:Nat):List D:=match w.es[i]? with
 | some (.leaf (.int .i64 s))=>if siteV gs fr lf rg bg en w i s=true then (match to.es[ixN fr s]? with
   | some (.leaf (.int .i64 t))=>if t=0 then [] else [dI t]
   | _=>[]) else [dI s]
 | _=>[]
theorem aplI_len {gs fr to lf rg:D} {bg en:Bool} {w:D} (i:Nat):(aplI gs fr to lf rg bg en w i).length≤1:=by
 unfold aplI
 split
 ·
  split
  ·
   split
   ·
    split <;> simp
   ·
    simp
  ·
   simp
 ·
  simp
theorem aplI_int {gs fr to lf rg:D} {bg en:Bool} {w:D} (i:Nat):∀ y∈aplI gs fr to lf rg bg en w i,∃ n,y=dI n:=by
 unfold aplI
 intro y hy
 split at hy
 ·
  split at hy
  ·
   split at hy
   ·
    split at hy
    ·
     cases hy
    ·
     exact ⟨_,List.mem_singleton.1 hy⟩
   ·
    cases hy
  ·
   exact ⟨_,List.mem_singleton.1 hy⟩
 ·
  cases hy
def appL (gs fr to lf rg:D) (bg en:Bool) (w:D) (n:Nat):List D:=(List.range n).flatMap (aplI gs fr to lf rg bg en w)
def appV (gs fr to lf rg:D) (bg en:Bool) (w:D):D:=mkOut 3 1 (appL gs fr to lf rg bg en w w.es.length)
theorem app_next {gs fr to lf rg:D} {bg en:Bool} {w:D} {n:Nat}:appL gs fr to lf rg bg en w (n+1)=appL gs fr to lf rg bg en w n++aplI gs fr to lf rg bg en w n:=by
 unfold appL; rw [List.range_succ,List.flatMap_append]; simp
theorem app_len {gs fr to lf rg:D} {bg en:Bool} {w:D}:∀ n:Nat,(appL gs fr to lf rg bg en w n).length≤n
 | 0=>Nat.le_refl _
 | n+1=>by
  have:=app_len (gs:=gs) (fr:=fr) (to:=to) (lf:=lf) (rg:=rg) (bg:=bg) (en:=en) (w:=w) n
  have:=aplI_len (gs:=gs) (fr:=fr) (to:=to) (lf:=lf) (rg:=rg) (bg:=bg) (en:=en) (w:=w) n
  rw [app_next,List.length_append]; omega
theorem app_int {gs fr to lf rg:D} {bg en:Bool} {w:D} {n:Nat}:∀ y∈appL gs fr to lf rg bg en w n,∃ m,y=dI m:=by
 intro y hy
 obtain ⟨i,_,h⟩:=List.mem_flatMap.1 hy
 exact aplI_int i y h
theorem appV_len {gs fr to lf rg:D} {bg en:Bool} {w:D}:(appV gs fr to lf rg bg en w).es.length≤w.es.length:=by
 unfold appV; rw [mkOut_es]; exact app_len _
theorem appV_hb {gs fr to lf rg:D} {bg en:Bool} {w:D} (h:w.es.length≤300000000):HasB 300000000 ShI (appV gs fr to lf rg bg en w) :=
 mkOut_hb (Nat.le_trans (app_len _) h) app_int
theorem app_push {l:List D} {t:Int} (h:l.length+1≤300000000):TOp.eval EE (.app 3 1 8) [mkOut 3 1 l,.sl 3 1 [dI t]]=some (mkOut 3 1 (l++[dI t])) :=
 app_mk (B:=300000000) (e:=.int .i64) (hb_sl (show 1≤300000000 by decide) fun x hx=>by rw [List.mem_singleton.1 hx]; exact ⟨t,rfl⟩) (by decide) h
theorem g74 {gs fr to lf rg w:D} {bg en:Bool} (hg:HasB 300000000 ShG gs) (hfr:HasB 300000000 ShI fr) (hto:HasB 300000000 ShI to) (hlf:HasB 300000000 ShK lf) (hrg:HasB 300000000 ShK rg) (hw:HasB 300000000 ShI w) (hl:to.es.length=fr.es.length) :
  Holds EE 74 [.agg [gs],.agg [fr,to,lf,rg,dB bg,dB en],w] (appV gs fr to lf rg bg en w):=by
 have i_w:=isSl_ofB hw
 have i_fr:=isSl_ofB hfr
 have i_to:=isSl_ofB hto
 have b_w:=len_leB hw
 refine u74 rfl (Goes.step' ?_)
 show wp _ _ _ u74T0 _
 refine bS (d:=.agg [gs]) (sh_chkW rfl) ?_
 refine bS (d:=.agg [fr,to,lf,rg,dB (bg),dB (en)]) (sh_chkW rfl) ?_
 refine bS (d:=dI ((w.es.length:Nat):Int)) (sh_len i_w) ?_
 refine wp_jumpTo rfl (loop_dn (P:=fun i=>Goes EE (Holds EE) u74Ts 1 [w,mkOut 3 1 (appL gs fr to lf rg bg en w i),dI ((w.es.length:Nat):Int),dI ((i:Nat):Int),.agg [gs],.agg [fr,to,lf,rg,dB bg,dB en]] (appV gs fr to lf rg bg en w)) w.es.length ?_ ?_)
 ·
  refine Goes.step' ?_
  show wp _ _ _ u74T1 _
  refine bS (d:=dB (decide (((w.es.length:Nat):Int) < ((w.es.length:Nat):Int)))) sk_lss ?_
  refine wp_iteC rfl (fun c=>?_) (fun c=>?_)
  ·
   have:=of_lt c; omega
  ·
   exact wp_retTo rfl rfl
 ·
  intro i hi ih
  obtain ⟨x,e_x⟩:=lt_at hi
  obtain ⟨s,rfl⟩:=elem_ofB hw e_x
  have hal:=app_len (gs:=gs) (fr:=fr) (to:=to) (lf:=lf) (rg:=rg) (bg:=bg) (en:=en) (w:=w) i
  have hI:aplI gs fr to lf rg bg en w i=if siteV gs fr lf rg bg en w i s=true then (match to.es[ixN fr s]? with
   | some (.leaf (.int .i64 t))=>if t=0 then [] else [dI t]
   | _=>[]) else [dI s]:=by unfold aplI; rw [e_x]
  rw [app_next] at ih
  refine Goes.step' ?_
  show wp _ _ _ u74T1 _
  refine bS (d:=dB (decide (((i:Nat):Int) < ((w.es.length:Nat):Int)))) sk_lss ?_
  refine wp_iteC rfl (fun c=>?_) (fun c=>?_)
  ·
   skip
   refine bS (d:=dB (true)) (si_inr (s:=((i:Nat):Int)) (by omega) e_x) ?_
   refine bS (d:=dI (s)) (si_elem1 (s:=((i:Nat):Int)) i_w (by omega) e_x rfl) ?_
   refine cS (d:=dB (siteV gs fr lf rg bg en w i s)) (g100 (s:=s) hg hfr hlf hrg hw e_x) ?_
   refine wp_iteC rfl (fun d=>?_) (fun d=>?_)
   ·
    have hix:ixN fr s < fr.es.length:=by
     have h:=d
     unfold siteV at h
     split at h
     ·
      cases h
     ·
      rename_i h2; simpa using h2
    have hv:ixV fr s=((ixN fr s:Nat):Int):=by unfold ixV; rw [if_pos hix]
    obtain ⟨y,e_y⟩:=lt_at (l:=to) (i:=ixN fr s) (by omega)
    obtain ⟨t,rfl⟩:=elem_ofB hto e_y
    rw [if_pos d,e_y] at hI
    simp only at hI
    refine bS (d:=to) (sh_fld1 (off:=1) rfl i_to.one) ?_
    refine bS (d:=fr) (sh_fld1 (off:=0) rfl i_fr.one) ?_
    refine cS (d:=dI ((ixN fr s:Nat):Int)) (by rw [← hv]; exact g101 hfr) ?_
    refine bS (d:=dB (true)) (si_inr (s:=((ixN fr s:Nat):Int)) (by omega) e_y) ?_
    refine bS (d:=dI (t)) (si_elem1 (s:=((ixN fr s:Nat):Int)) i_to (by omega) e_y rfl) ?_
    refine bS (d:=dB (decide (t=0))) sk_eql ?_
    refine wp_iteC rfl (fun e=>?_) (fun e=>?_)
    ·
     rw [hI,if_pos (of_decide_eq_true e),List.append_nil] at ih
     refine bS (d:=dI ((i+1:Nat):Int)) (sh_add (cap_bd' (by omega))) ?_
     exact wp_jumpTo rfl ih
    ·
     rw [hI,if_neg (of_decide_eq_false e)] at ih
     refine bS (d:=dI (t)) (sh_chk1 rfl) ?_
     refine bS (d:=.sl 3 1 [dI (t)]) (lit_one rfl) ?_
     refine bS (d:=mkOut 3 1 (appL gs fr to lf rg bg en w i++[dI t])) (app_push (by omega)) ?_
     refine bS (d:=dI ((i+1:Nat):Int)) (sh_add (cap_bd' (by omega))) ?_
     exact wp_jumpTo rfl ih
   ·
    rw [hI,if_neg (by rw [d]; simp)] at ih
    refine bS (d:=dI (s)) (sh_chk1 rfl) ?_
    refine bS (d:=.sl 3 1 [dI (s)]) (lit_one rfl) ?_
    refine bS (d:=mkOut 3 1 (appL gs fr to lf rg bg en w i++[dI s])) (app_push (by omega)) ?_
    refine bS (d:=dI ((i+1:Nat):Int)) (sh_add (cap_bd' (by omega))) ?_
    exact wp_jumpTo rfl ih
  ·
   have:=of_nlt c; omega
def appD (gs:D) (w:D):D→D
 | .agg [fr,to,lf,rg,.leaf (.bool bg),.leaf (.bool en)]=>appV gs fr to lf rg bg en w
 | _=>w
def lasV (gs rs w:D):D:=rs.es.foldl (appD gs) w
def okR:D→Prop
 | .agg [fr,to,_,_,_,_]=>to.es.length=fr.es.length
 | _=>True
theorem appD_ok {gs w r:D} (h:HasB 300000000 ShI w):HasB 300000000 ShI (appD gs w r)∧(appD gs w r).es.length≤w.es.length:=by
 unfold appD
 split
 ·
  exact ⟨appV_hb (len_leB h),appV_len⟩
 ·
  exact ⟨h,Nat.le_refl _⟩
theorem las_ok {gs:D}:∀ (rs:List D) {w:D},HasB 300000000 ShI w→HasB 300000000 ShI (rs.foldl (appD gs) w)∧(rs.foldl (appD gs) w).es.length≤w.es.length
 | [],_,h=>⟨h,Nat.le_refl _⟩
 | r::rs,w,h=>by
  obtain ⟨h1,h2⟩:=appD_ok (gs:=gs) (r:=r) h
  obtain ⟨h3,h4⟩:=las_ok (gs:=gs) rs h1
  exact ⟨h3,Nat.le_trans h4 h2⟩
theorem g39 {gs rs w:D} (hg:HasB 300000000 ShG gs) (hr:HasB 300000000 (.sl 77 6 ShR) rs) (hw:HasB 300000000 ShI w) (ho:∀ r∈rs.es,okR r):Holds EE 39 [.agg [gs],rs,w] (lasV gs rs w):=by
 have i_rs:=isSl_ofB hr
 have b_rs:=len_leB hr
 refine u39 rfl (Goes.step' ?_)
 show wp _ _ _ u39T0 _
 refine bS (d:=.agg [gs]) (sh_chkW rfl) ?_
 refine bS (d:=dI ((rs.es.length:Nat):Int)) (sh_len i_rs) ?_
 refine wp_jumpTo rfl (loop_dn (P:=fun i=>Goes EE (Holds EE) u39Ts 1 [(rs.es.take i).foldl (appD gs) w,rs,dI ((rs.es.length:Nat):Int),dI ((i:Nat):Int),.agg [gs]] (lasV gs rs w)) rs.es.length ?_ ?_)
 ·
  refine Goes.step' ?_
  show wp _ _ _ u39T1 _
  refine bS (d:=dB (decide (((rs.es.length:Nat):Int) < ((rs.es.length:Nat):Int)))) sk_lss ?_
  refine wp_iteC rfl (fun c=>?_) (fun c=>?_)
  ·
   have:=of_lt c; omega
  ·
   exact wp_retTo rfl (by rw [List.take_length]; rfl)
 ·
  intro i hi ih
  obtain ⟨x,e_x⟩:=lt_at hi
  have hox:=ho x (List.mem_of_getElem? e_x)
  obtain ⟨_,rfl,fr,_,rfl,hfr,to,_,rfl,hto,lf,_,rfl,hlf,rg,_,rfl,hrg,_,_,rfl,⟨bg,rfl⟩,_,_,rfl,⟨en,rfl⟩,rfl⟩:=elem_ofB hr e_x
  rw [fold_take e_x] at ih
  have hwi:=(las_ok (gs:=gs) (rs.es.take i) hw).1
  refine Goes.step' ?_
  show wp _ _ _ u39T1 _
  refine bS (d:=dB (decide (((i:Nat):Int) < ((rs.es.length:Nat):Int)))) sk_lss ?_
  refine wp_iteC rfl (fun c=>?_) (fun c=>?_)
  ·
   skip
   refine bS (d:=dB (true)) (si_inr (s:=((i:Nat):Int)) (by omega) e_x) ?_
   refine bS (d:=.agg [fr,to,lf,rg,dB (bg),dB (en)]) (si_elemW (s:=((i:Nat):Int)) i_rs (by omega) e_x rfl) ?_
   refine bS (d:=.agg [fr,to,lf,rg,dB (bg),dB (en)]) (sh_chkW rfl) ?_
   refine cS (g74 hg hfr hto hlf hrg hwi hox) ?_
   refine bS (d:=dI ((i+1:Nat):Int)) (sh_add (cap_bd' (by omega))) ?_
   exact wp_jumpTo rfl ih
  ·
   have:=of_nlt c; omega
def baseV (l ps:D):D:=mkOut 3 1 (ps.es.flatMap (FB l))
def frmV (gs rs l ws fs ps:D):D × Int :=
 if rgtV l ws fs ps≠0 then (.nil,rgtV l ws fs ps) else if (lasV gs rs (baseV l ps)).es.length=0 then (.nil,23) else (lasV gs rs (baseV l ps),0)
theorem base_hb {l ps:D} (hl:HasB 1048576 (.sl 59 8 ShE) l) (hn:ps.es.length≤20):HasB 300000000 ShI (baseV l ps):=by
 have hbi:∀ y∈ps.es.flatMap (FB l),∃ n,y=dI n:=all_flat fun x=>fb_int hl
 have hbl:(ps.es.flatMap (FB l)).length≤ps.es.length * 1048576:=flat_len_le fun y _=>fb_len hl
 exact mkOut_hb (by omega) hbi
theorem g14 {gs c1 c2 c3 rs n ws fs l ps:D} (hg:HasB 300000000 ShG gs) (hr:HasB 300000000 (.sl 77 6 ShR) rs) (ho:∀ r∈rs.es,okR r) (hno:n.one=true) (hw:HasB 300000000 ShW ws) (hf:HasB 300000000 (.sl 3 1 (.int .i64)) fs) (hl:HasB 1048576 (.sl 59 8 ShE) l) (hp:HasB 300000000 ShP ps) (hn:ps.es.length≤20) :
  Holds EE 14 [.agg [gs,c1,c2,c3,rs,n,ws,fs,l],.agg [ps]] (.tup [(frmV gs rs l ws fs ps).1,dI (frmV gs rs l ws fs ps).2]):=by
 have i_rs:=isSl_ofB hr
 have hB:=base_hb hl hn
 have i_last:=isSl_ofB (las_ok (gs:=gs) rs.es hB).1
 unfold frmV
 refine u14 rfl (Goes.step' ?_)
 show wp _ _ _ u14T0 _
 refine bS (d:=.agg [gs,c1,c2,c3,rs,n,ws,fs,l]) (sh_chkW rfl) ?_
 refine bS (d:=.agg [ps]) (sh_chkW rfl) ?_
 refine cS (d:=dI (rgtV l ws fs ps)) (g18 hno hw hf hl hp hn) ?_
 refine bS (d:=dB (decide (¬ rgtV l ws fs ps=0))) sk_neq ?_
 refine wp_iteC rfl (fun c=>?_) (fun c=>?_)
 ·
  rw [if_pos (of_decide_eq_true c)]
  exact wp_retTo2 rfl rfl
 rw [if_neg (of_decide_eq_false c)]
 refine bS (d:=.agg [gs]) (sh_fldA (off:=0) (size:=1) rfl) ?_
 refine bS (d:=rs) (sh_fld1 (off:=4) rfl i_rs.one) ?_
 refine cS (d:=baseV l ps) (g22 (l:=l) rfl rfl hl hp hn) ?_
 refine cS (d:=lasV gs rs (baseV l ps)) (g39 hg hr hB ho) ?_
 refine bS (d:=dI (((lasV gs rs (baseV l ps)).es.length:Nat):Int)) (sh_len i_last) ?_
 refine bS (d:=dB (decide ((((lasV gs rs (baseV l ps)).es.length:Nat):Int)=0))) sk_eql ?_
 refine wp_iteC rfl (fun d=>?_) (fun d=>?_)
 ·
  have hd:=of_decide_eq_true d
  rw [if_pos (by omega)]
  exact wp_retTo2 rfl rfl
 ·
  have hd:=of_decide_eq_false d
  rw [if_neg (by omega)]
  exact wp_retTo2 rfl rfl
theorem err_all {l:D}:∀ {xs:List D},errN l xs=0→∀ x∈xs,partE l x=0
 | [],_,x,hx=>by cases hx
 | y::xs,h,x,hx=>by
  simp only [errN] at h
  split at h
  ·
   rename_i hy
   rcases List.mem_cons.1 hx with rfl | hx
   ·
    exact hy
   ·
    exact err_all h x hx
  ·
   rename_i hy; exact absurd h hy
theorem rgt_zero {l ws fs ps:D} (h:rgtV l ws fs ps=0):1≤ps.es.length∧ps.es.length≤4∧errN l ps.es=0∧rstV l ws fs ps=0:=by
 unfold rgtV at h
 split at h
 ·
  cases h
 ·
  split at h
  ·
   cases h
  ·
   unfold lopV at h
   split at h
   ·
    rename_i h1 h2 h3
    rw [List.drop_zero] at h3
    exact ⟨by omega,by omega,h3,h⟩
   ·
    rename_i h1 h2 h3; exact absurd h h3
end Go.Proofs.YtnemldklhelbeaaGreat
