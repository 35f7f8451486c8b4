/- A further entry changes nothing about an analysis that is right: the law of the data. Conditions: none. -/
import Derived.Test.YtnemldklhelbeaaGreatJg
import Derived.Test.YtnemldklhelbeaaGreatJi
import Derived.Test.YtnemldklhelbeaaGreatJk
import Derived.Test.YtnemldklhelbeaaGreatOr
import Derived.Test.YtnemldklhelbeaaGreatRows
import Derived.ProofKit
import Derived.OpenShut
import Derived.JoinedCond
set_option linter.unusedVariables false
set_option linter.unusedSimpArgs false
namespace Go.Proofs.YtnemldklhelbeaaGreat
open Go Go.Am Go.Proofs
theorem find_at {p:D→Bool}:∀ (l:List D),l[l.findIdx p]? = l.find? p
 | []=>rfl
 | x::r=>by
  rw [List.findIdx_cons,List.find?_cons]
  cases p x with
  | true=>rfl
  | false=>simpa using find_at r
theorem fst_find (l:D) (id:Int):l.es[fst l id]? = l.es.find? (pId id):=find_at l.es
def insD (l x:D) (i:Nat):D:=.sl 59 8 (l.es.take i++x::l.es.drop i)
theorem ins_look {l x:D} {i:Nat} {id:Int} (hx:pId id x=false):(insD l x i).es[fst (insD l x i) id]? = l.es[fst l id]? := by
 rw [fst_find,fst_find]
 show (l.es.take i++x::l.es.drop i).find? (pId id)=_
 rw [List.find?_append,List.find?_cons,hx]
 show (List.find? (pId id) (l.es.take i)).or (List.find? (pId id) (l.es.drop i))=_
 rw [← List.find?_append,List.take_append_drop]
theorem ins_len {l x:D} {i:Nat}:(insD l x i).es.length=l.es.length+1:=by
 show (l.es.take i++x::l.es.drop i).length=_
 rw [List.length_append,List.length_cons,List.length_take,List.length_drop]
 omega
theorem ins_hb {l x:D} {i:Nat} (hl:HasB 1048576 (.sl 59 8 ShE) l) (hx:HasB 1048576 ShE x) (hn:l.es.length < 1048576):HasB 1048576 (.sl 59 8 ShE) (insD l x i):=by
 refine hb_sl (by rw [show (l.es.take i++x::l.es.drop i).length=l.es.length+1 from ins_len (l:=l) (x:=x)]; omega) ?_
 intro y hy
 have hall:∀ y∈l.es,HasB 1048576 ShE y:=by
  intro y hy
  obtain ⟨k,hk⟩:=List.mem_iff_getElem?.1 hy
  exact elem_ofB hl hk
 rcases List.mem_append.1 hy with h | h
 ·
  exact hall y (List.mem_of_mem_take h)
 ·
  rcases List.mem_cons.1 h with rfl | h
  ·
   exact hx
  ·
   exact hall y (List.mem_of_mem_drop h)
def Agr (l k:D):Prop:=k.es.length=l.es.length+1∧∀ id,(l.es[fst l id]?).isSome=true→k.es[fst k id]? = l.es[fst l id]?
theorem agr_ins {l x:D} {i:Nat} {x0:Int} {r:List D} (hx:x=.agg (dI x0::r)) (h:l.es[fst l x0]? = none):Agr l (insD l x i):=by
 refine ⟨ins_len,fun id hs=>ins_look ?_⟩
 subst hx
 show decide (x0=id)=false
 refine decide_eq_false (fun e=>?_)
 subst e
 rw [h] at hs; cases hs
theorem sns_s (l:D) (n:Nat) (id:Int):snsN l (n+1) id=match l.es[fst l id]? with
  | some (.agg [_,_,_,_,.leaf (.int .i64 mn),x5,_,_])=>if 0 < x5.es.length then x5 else if mn=0 then .nil else snsN l n mn
  | _=>.nil:=rfl
theorem sns_agr {l k:D} (hl:HasB 1048576 (.sl 59 8 ShE) l) (h:Agr l k):∀ (n:Nat) (id:Int),0 < (snsN l n id).es.length→snsN k (n+1) id=snsN l n id
 | 0,_,hp=>absurd hp (Nat.lt_irrefl 0)
 | n+1,id,hp=>by
  rcases getR_cases (id:=id) hl with ⟨x0,x2,x4,x1,x3,x5,x6,x7,h1,h3,h5,h6,h7,he,hr⟩ | ⟨he,hr⟩
  ·
   have e1:snsN l (n+1) id=(if 0 < x5.es.length then x5 else if x4=0 then .nil else snsN l n x4):=by rw [sns_s,he]
   have e2:snsN k (n+1+1) id=(if 0 < x5.es.length then x5 else if x4=0 then .nil else snsN k (n+1) x4):=by
    rw [sns_s,h.2 id (by rw [he]; rfl),he]
   rw [e1] at hp
   rw [e1,e2]
   by_cases c:0 < x5.es.length
   ·
    rw [if_pos c,if_pos c]
   ·
    rw [if_neg c] at hp
    rw [if_neg c,if_neg c]
    by_cases d:x4=0
    ·
     rw [if_pos d,if_pos d]
    ·
     rw [if_neg d] at hp
     rw [if_neg d,if_neg d]
     exact sns_agr hl h n x4 hp
  ·
   rw [sns_s,he] at hp
   exact absurd hp (Nat.lt_irrefl 0)
theorem part_agr {l k:D} (hl:HasB 1048576 (.sl 59 8 ShE) l) (h:Agr l k) {p0 p1 p2:Int} (hz:partE l (.agg [dI p0,dI p1,dI p2])=0) :
  partE k (.agg [dI p0,dI p1,dI p2])=0∧FC k (.agg [dI p0,dI p1,dI p2])=FC l (.agg [dI p0,dI p1,dI p2])∧FB k (.agg [dI p0,dI p1,dI p2])=FB l (.agg [dI p0,dI p1,dI p2]):=by
 have hP:∀ l:D,partE l (.agg [dI p0,dI p1,dI p2])=if (l.es[fst l p0]?).isNone then 9 else if (selP l p0 p1).isNone then 2 else if p2 < 0∨p2≥((snsV l p0).es.length:Int) then 22 else 0:=fun _=>rfl
 have hC:∀ l:D,FC l (.agg [dI p0,dI p1,dI p2])=match selP l p0 p1 with | some (c,_)=>[c] | none=>[]:=fun _=>rfl
 have hB:∀ l:D,FB l (.agg [dI p0,dI p1,dI p2])=match selP l p0 p1 with | some (_,w)=>w.es | none=>[]:=fun _=>rfl
 rw [hP] at hz
 by_cases c1:(l.es[fst l p0]?).isNone=true
 ·
  rw [if_pos c1] at hz; cases hz
 rw [if_neg c1] at hz
 by_cases c2:(selP l p0 p1).isNone=true
 ·
  rw [if_pos c2] at hz; cases hz
 rw [if_neg c2] at hz
 by_cases c3:p2 < 0∨p2≥((snsV l p0).es.length:Int)
 ·
  rw [if_pos c3] at hz; cases hz
 have hsome:(l.es[fst l p0]?).isSome=true:=by
  cases he:l.es[fst l p0]? with
  | none=>rw [he] at c1; exact absurd rfl c1
  | some _=>rfl
 have hlk:=h.2 p0 hsome
 have hsel:selP k p0 p1=selP l p0 p1:=by unfold selP; rw [hlk]
 have hsn:snsV k p0=snsV l p0:=by
  unfold snsV
  rw [h.1]
  exact sns_agr hl h _ p0 (by show 0 < (snsV l p0).es.length; omega)
 refine ⟨?_,?_,?_⟩
 ·
  rw [hP,hlk,if_neg c1,hsel,if_neg c2,hsn,if_neg c3]
 ·
  rw [hC,hC,hsel]
 ·
  rw [hB,hB,hsel]
theorem all_agr {l k:D} (hl:HasB 1048576 (.sl 59 8 ShE) l) (h:Agr l k):∀ {xs:List D},(∀ x∈xs,∃ p0 p1 p2:Int,x=.agg [dI p0,dI p1,dI p2])→errN l xs=0 →
  errN k xs=0∧xs.flatMap (FC k)=xs.flatMap (FC l)∧xs.flatMap (FB k)=xs.flatMap (FB l)
 | [],_,_=>⟨rfl,rfl,rfl⟩
 | x::xs,hx,hz=>by
  have h0:=err_all hz x List.mem_cons_self
  have h1:errN l xs=0:=by simp only [errN,h0,if_true] at hz; exact hz
  obtain ⟨p0,p1,p2,rfl⟩:=hx x List.mem_cons_self
  obtain ⟨a,b,c⟩:=part_agr hl h h0
  obtain ⟨a',b',c'⟩:=all_agr hl h (fun y hy=>hx y (List.mem_cons_of_mem _ hy)) h1
  refine ⟨?_,?_,?_⟩
  ·
   simp only [errN,a,if_true]; exact a'
  ·
   rw [List.flatMap_cons,List.flatMap_cons,b,b']
  ·
   rw [List.flatMap_cons,List.flatMap_cons,c,c']
theorem rgt_agr {l k ws fs ps:D} (hl:HasB 1048576 (.sl 59 8 ShE) l) (h:Agr l k) (hp:HasB 300000000 ShP ps) (hz:rgtV l ws fs ps=0) :
  rgtV k ws fs ps=0∧baseV k ps=baseV l ps:=by
 obtain ⟨r1,r2,r3,r4⟩:=rgt_zero hz
 obtain ⟨a,b,c⟩:=all_agr hl h (xs:=ps.es) (fun x hx=>by
  obtain ⟨i,hi⟩:=List.getElem?_of_mem hx
  obtain ⟨_,rfl,_,_,rfl,⟨p0,rfl⟩,_,_,rfl,⟨p1,rfl⟩,_,_,rfl,⟨p2,rfl⟩,rfl⟩:=elem_ofB hp hi
  exact ⟨p0,p1,p2,rfl⟩) r3
 have e:rstV k ws fs ps=rstV l ws fs ps:=by unfold rstV; rw [b,c]
 refine ⟨?_,by unfold baseV; rw [c]⟩
 unfold rgtV lopV
 rw [if_neg (by omega),if_neg (by omega),List.drop_zero,if_pos a,e]
 exact r4
theorem frm_agr {gs rs l k ws fs ps:D} (hl:HasB 1048576 (.sl 59 8 ShE) l) (h:Agr l k) (hp:HasB 300000000 ShP ps) (hz:rgtV l ws fs ps=0) :
  frmV gs rs k ws fs ps=frmV gs rs l ws fs ps:=by
 obtain ⟨a,b⟩:=rgt_agr (ws:=ws) (fs:=fs) hl h hp hz
 unfold frmV
 rw [a,b,hz]
end Go.Proofs.YtnemldklhelbeaaGreat
namespace Go.Proofs.YtnemldklhelbeaaGreat
open Go Go.Am Go.Proofs
attribute [local irreducible] Go.Am.wp Go.Am.TOp.eval
abbrev ShLk:Sh:=.st [ShG,.str,ShU,ShT,ShRs,.int .i64,ShW,ShI,ShLe]
theorem h13 {ps:D} (hp:HasB 300000000 ShP ps):Holds EE 13 [.agg [ps]] (dB (decide (ps.es.length≤20))):=by
 have i_ps:=isSl_ofB hp
 refine u13 rfl (Goes.step' ?_)
 show wp _ _ _ u13T0 _
 refine bS (d:=.agg [ps]) (sh_chkW rfl) ?_
 refine bS (d:=ps) (sh_fld1 (off:=0) rfl i_ps.one) ?_
 refine bS (d:=dI ((ps.es.length:Nat):Int)) (sh_len i_ps) ?_
 refine bS (d:=dB (decide (((ps.es.length:Nat):Int)≤20))) sk_leq ?_
 refine wp_retTo rfl (congrArg (fun b=>dB b) ?_)
 rw [decide_eq_decide]; omega
theorem h20 {a:D} (ha:HasB 300000000 ShI a):Holds EE 20 [a,a] (dB true):=by
 have i_a:=isSl_ofB ha
 have b_a:=len_leB ha
 refine z20 rfl (Goes.step' ?_)
 show wp _ _ _ z20T0 _
 refine bS (d:=dI ((a.es.length:Nat):Int)) (sh_len i_a) ?_
 refine bS (d:=dI ((a.es.length:Nat):Int)) (sh_len i_a) ?_
 refine bS (d:=dB (decide (¬ ((a.es.length:Nat):Int)=((a.es.length:Nat):Int)))) sk_neq ?_
 refine wp_iteC rfl (fun c=>?_) (fun c=>?_)
 ·
  exact absurd rfl (of_decide_eq_true c)
 refine bS (d:=dI ((a.es.length:Nat):Int)) (sh_len i_a) ?_
 refine wp_jumpTo rfl (loop_dn (P:=fun i=>Goes EE (Holds EE) z20Ts 1 [a,a,dI ((a.es.length:Nat):Int),dI ((i:Nat):Int)] (dB true)) a.es.length ?_ ?_)
 ·
  refine Goes.step' ?_
  show wp _ _ _ z20T1 _
  refine bS (d:=dB (decide (((a.es.length:Nat):Int) < ((a.es.length:Nat):Int)))) sk_lss ?_
  refine wp_iteC rfl (fun d=>?_) (fun d=>?_)
  ·
   have:=of_lt d; omega
  ·
   exact wp_retTo rfl rfl
 ·
  intro i hi ih
  obtain ⟨x,e_x⟩:=lt_at hi
  obtain ⟨p,rfl⟩:=elem_ofB ha e_x
  refine Goes.step' ?_
  show wp _ _ _ z20T1 _
  refine bS (d:=dB (decide (((i:Nat):Int) < ((a.es.length:Nat):Int)))) sk_lss ?_
  refine wp_iteC rfl (fun d=>?_) (fun d=>?_)
  ·
   skip
   refine bS (d:=dB (true)) (si_inr (s:=((i:Nat):Int)) (by omega) e_x) ?_
   refine bS (d:=dI (p)) (si_elem1 (s:=((i:Nat):Int)) i_a (by omega) e_x rfl) ?_
   refine bS (d:=dB (true)) (si_inr (s:=((i:Nat):Int)) (by omega) e_x) ?_
   refine bS (d:=dI (p)) (si_elem1 (s:=((i:Nat):Int)) i_a (by omega) e_x rfl) ?_
   refine bS (d:=dB (decide (¬ p=p))) sk_neq ?_
   refine wp_iteC rfl (fun f=>?_) (fun f=>?_)
   ·
    exact absurd rfl (of_decide_eq_true f)
   ·
    skip
    refine bS (d:=dI ((i+1:Nat):Int)) (sh_add (cap_bd' (by omega))) ?_
    exact wp_jumpTo rfl ih
  ·
   have:=of_nlt d; omega
theorem h23 {a:D} {b:Int} (h_a:HasB 300000000 (.sl 59 8 ShE) a):Holds EE 23 [a,dI b] (getR a b):=by
 have i_a:=isSl_ofB h_a
 have b_a:=len_leB h_a
 refine z23 rfl (Goes.step' ?_)
 show wp _ _ _ z23T0 _
 refine bS (d:=dI ((a.es.length:Nat):Int)) (sh_len i_a) ?_
 refine wp_jumpTo rfl (loop_up (P:=fun i:Nat=>i≤fst a b→Goes EE (Holds EE) z23Ts 1 [a,dI b,dI ((a.es.length:Nat):Int),dI ((i:Nat):Int)] (getR a b)) a.es.length (fun i ih=>?_) 0 (Nat.zero_le _))
 intro hi
 refine Goes.step' ?_
 show wp _ _ _ z23T1 _
 refine bS (d:=dB (decide (((i:Nat):Int) < ((a.es.length:Nat):Int)))) sk_lss ?_
 refine wp_iteC rfl (fun c=>?_) (fun c=>?_)
 ·
  have hia:=of_lt c
  obtain ⟨x,e_x⟩:=lt_at hia
  obtain ⟨_,rfl,_,_,rfl,⟨x0,rfl⟩,x1,_,rfl,h1,_,_,rfl,⟨x2,rfl⟩,x3,_,rfl,h3,_,_,rfl,⟨x4,rfl⟩,x5,_,rfl,h5,x6,_,rfl,h6,x7,_,rfl,h7,rfl⟩:=elem_ofB h_a e_x
  refine bS (d:=dB (true)) (si_inr (s:=((i:Nat):Int)) (by omega) e_x) ?_
  refine bS (d:=dI (x0)) (si_elemP (s:=((i:Nat):Int)) (off:=0) i_a (by omega) e_x rfl rfl (by decide)) ?_
  refine bS (d:=dB (decide (x0=b))) sk_eql ?_
  refine wp_iteC rfl (fun d=>?_) (fun d=>?_)
  ·
   skip
   refine bS (d:=dB (true)) (si_inr (s:=((i:Nat):Int)) (by omega) e_x) ?_
   refine bS (d:=.agg [dI (x0),x1,dI (x2),x3,dI (x4),x5,x6,x7]) (si_elemW (s:=((i:Nat):Int)) i_a (by omega) e_x rfl) ?_
   refine bS (d:=.agg [dI (x0),x1,dI (x2),x3,dI (x4),x5,x6,x7]) (sh_chkW rfl) ?_
   exact wp_retTo2 rfl (getR_hit (fst_hit hi e_x (decide_eq_true (of_decide_eq_true d))) e_x).symm
  ·
   skip
   refine bS (d:=dI ((i+1:Nat):Int)) (sh_add (cap_bd' (by omega))) ?_
   exact wp_jumpTo rfl (ih (of_lt c) (fst_miss hi e_x (decide_eq_false (of_decide_eq_false d))))
 ·
  exact wp_retTo2 rfl (getR_none (by have:=fst_le a b; have:=of_nlt c; omega)).symm
theorem ap_ble {n bytes:Nat} (h:n≤3000000) (hb:bytes≤1000):Nat.ble (Nat.mul (Nat.add (Nat.mul 4 n) 4000) (Nat.succ bytes)) 100000000000=true:=by
 rw [Nat.ble_eq]
 have h1:4 * n+4000≤12004000:=by omega
 have h2:bytes+1≤1001:=by omega
 exact Nat.le_trans (Nat.mul_le_mul h1 h2) (Nat.le_of_ble_eq_true rfl)
theorem ap_mk {el sz bytes:Nat} {l:List D} {b:D} {e:Sh} (hb:HasB 300000000 (.sl el sz e) b) (hl:l.length+b.es.length≤3000000) (hbytes:bytes≤1000:=by decide) :
  TOp.eval EE (.app el sz bytes) [mkOut el sz l,b]=some (mkOut el sz (l++b.es)):=by
 have hss:strSize (mkOut el sz l)=some l.length:=by
  unfold mkOut; split
  ·
   rename_i h; rw [h]; rfl
  ·
   rfl
 have tt:∀ (b:Bool) (x y:Option D),b=true→(bif b then x else y)=x:=fun b x y hb=>by rw [hb]; rfl
 rw [ev_app,hss]
 simp only [HasB] at hb
 rcases hb with rfl | ⟨es,rfl,hbl,hbe⟩
 ·
  have h1:Nat.ble (Nat.mul (Nat.add (Nat.mul 4 l.length) 4000) (Nat.succ bytes)) 100000000000=true:=ap_ble (by have:(D.nil).es.length=0:=rfl; omega) hbytes
  refine (tt _ _ _ h1).trans ?_
  show some (mkOut el sz l)=some (mkOut el sz (l++[]))
  rw [List.append_nil]
 ·
  have h1:Nat.ble (Nat.mul (Nat.add (Nat.mul 4 (Nat.add l.length es.length)) 4000) (Nat.succ bytes)) 100000000000=true:=ap_ble hl hbytes
  have h2:Nat.beq sz sz=true:=Nat.beq_refl _
  have hes:(D.sl el sz es).es=es:=rfl
  by_cases hn:l=[]
  ·
   subst hn
   refine (tt _ _ _ (by rw [h1,h2]; rfl)).trans ?_
   rw [bif_beq,hes]
   split
   ·
    rename_i h0
    have:es=[]:=List.length_eq_zero_iff.1 h0
    rw [this]; rfl
   ·
    rename_i h0
    have hne:es≠[]:=fun h=>h0 (by rw [h]; rfl)
    show some (D.sl el sz ([]++es))=some (mkOut el sz ([]++es))
    rw [List.nil_append]
    unfold mkOut
    rw [if_neg hne]
  ·
   have hm:mkOut el sz l=.sl el sz l:=if_neg hn
   rw [hm]
   refine (tt _ _ _ (by rw [h1,h2]; show (true && true && (Nat.beq el el && Nat.beq sz sz))=true; rw [Nat.beq_refl,Nat.beq_refl]; rfl)).trans ?_
   have hm2:mkOut el sz (l++es)=.sl el sz (l++es):=if_neg (by intro h; exact hn (List.append_eq_nil_iff.1 h).1)
   rw [bif_beq,hes,hm2]
   split
   ·
    rename_i h0
    have:es=[]:=List.length_eq_zero_iff.1 h0
    rw [this,List.append_nil]
   ·
    rfl
theorem sl_suf {el sz:Nat} {e:Sh} {w:D} {a:Nat} (hw:HasB 300000000 (.sl el sz e) w) (h2:a≤w.es.length):TOp.eval EE (.slc el sz true false) [w,dI ((a:Nat):Int)]=some (slcV w a w.es.length):=by
 simp only [HasB] at hw
 rcases hw with rfl | ⟨es,rfl,_,_⟩
 ·
  have hb:a=0:=by simpa [D.es] using h2
  subst hb
  rw [ev_slc]; rfl
 ·
  have h2:a≤es.length:=h2
  rw [ev_slc]
  have e1:boundD true 0 [dI ((a:Nat):Int)]=some (a,[]):=rfl
  have e2:boundD false es.length []=some (es.length,[]):=rfl
  have e3:(D.sl el sz es).es=es:=rfl
  simp only [e1,e2,e3,Nat.beq_refl,Nat.ble_eq_true_of_le h2,Nat.ble_eq_true_of_le (Nat.le_refl es.length),Bool.and_self,cond_true,slcV]
theorem ins_eq {l x:D} {i:Nat} (hl:HasB 300000000 (.sl 59 8 ShE) l):mkOut 59 8 (l.es.take i++[x]++(slcV l i l.es.length).es)=insD l x i:=by
 rw [slc_es hl,List.take_of_length_le (l:=l.es.drop i) (by rw [List.length_drop]; omega),List.append_assoc]
 exact if_neg (by intro h; have:=List.append_eq_nil_iff.1 h; cases this.2)
theorem k35n {gs l:D} (hl:HasB 1048576 ShLe l) (h:∃ q:Int,Holds EE 35 [.agg [gs],l] (dI q)):∃ q:Int,Holds EE 35 [.agg [gs],l] (dI q)∧(q=0→l.es.length≤100):=by
 have i_l:=isSl_ofB hl
 by_cases hn:l.es.length≤100
 ·
  obtain ⟨q,hq⟩:=h; exact ⟨q,hq,fun _=>hn⟩
 ·
  refine ⟨11,?_,fun h=>by cases h⟩
  refine z35 rfl (Goes.step' ?_)
  show wp _ _ _ z35T0 _
  refine bS (d:=.agg [gs]) (sh_chkW rfl) ?_
  refine bS (d:=dI ((l.es.length:Nat):Int)) (sh_len i_l) ?_
  refine bS (d:=dB (decide (((l.es.length:Nat):Int) > 100))) sk_gtr ?_
  refine wp_iteC rfl (fun c=>?_) (fun c=>?_)
  ·
   exact wp_retTo rfl rfl
  ·
   have:=of_decide_eq_false c; omega
theorem h24 {gs l:D} {x0 x2 x4:Int} {x1 x3 x5 x6 x7:D} (hg:HasB 1048576 ShG gs) (hl:HasB 1048576 ShLe l) (h1:HasB 1048576 ShI x1) (h3:HasB 1048576 (.sl 31 1 ShI) x3) (h5:HasB 1048576 ShS x5) (h6:HasB 1048576 (.sl 134 2 (.st [.int .i64,.int .i64])) x6) (h7:HasB 1048576 (.sl 182 2 (.st [.int .i64,.int .i64])) x7) (hn:l.es.length≤100) (hno:l.es[fst l x0]? = none) :
  ∃ (d:D) (q:Int),Holds EE 24 [.agg [gs],l,.agg [dI x0,x1,dI x2,x3,dI x4,x5,x6,x7]] (.tup [d,dI q])∧IsSl 59 8 d∧(q=0→HasB 1048576 ShLe d∧Agr l d):=by
 have i_l:=isSl_ofB hl
 have hl3:=hasB_mono (B':=300000000) (by decide) hl
 have hE:HasB 1048576 ShE (.agg [dI x0,x1,dI x2,x3,dI x4,x5,x6,x7]):=hb_st (hbs_cons hb_int (hbs_cons h1 (hbs_cons hb_int (hbs_cons h3 (hbs_cons hb_int (hbs_cons h5 (hbs_cons h6 (hbs_cons h7 hbs_nil))))))))
 have hfl:l.es.length≤fst l x0:=List.getElem?_eq_none_iff.1 hno
 obtain ⟨x,hx⟩:∃ x:D,x=.agg [dI x0,x1,dI x2,x3,dI x4,x5,x6,x7]:=⟨_,rfl⟩
 have hX:HasB 300000000 (.sl 59 8 ShE) (.sl 59 8 [x]):=by rw [hx]; exact hb_sl (by show 1≤_; omega) (fun y hy=>by rw [List.mem_singleton.1 hy]; exact hasB_mono (by decide) hE)
 have hlit:TOp.eval EE (.lit 59 8) [.agg [dI x0,x1,dI x2,x3,dI x4,x5,x6,x7]]=some (.sl 59 8 [x]):=by rw [hx,ev_lit]; rfl
 have hall:∃ (i:Nat) (q:Int),Goes EE (Holds EE) z24Ts 1 [l,mkOut 59 8 (l.es.take 0),dI ((0:Nat):Int),.agg [gs],.agg [dI x0,x1,dI x2,x3,dI x4,x5,x6,x7]] (.tup [if q=0 then insD l x i else .nil,dI q]):=by
  refine loop_dn (P:=fun i=>∃ (k:Nat) (q:Int),Goes EE (Holds EE) z24Ts 1 [l,mkOut 59 8 (l.es.take i),dI ((i:Nat):Int),.agg [gs],.agg [dI x0,x1,dI x2,x3,dI x4,x5,x6,x7]] (.tup [if q=0 then insD l x k else .nil,dI q])) l.es.length ?_ ?_
  ·
   obtain ⟨i,hi⟩:∃ i,i=l.es.length:=⟨_,rfl⟩
   rw [← hi]
   obtain ⟨q,hq⟩:=k35 (l:=insD l x i) hg (ins_hb hl (by rw [hx]; exact hE) (by omega))
   refine ⟨i,q,?_⟩
   obtain ⟨d,hd⟩:∃ d:D,d=.tup [if q=0 then insD l x i else .nil,dI q]:=⟨_,rfl⟩
   rw [← hd]
   refine Goes.step' ?_
   show wp _ _ _ z24T1 _
   refine bS (d:=dI ((l.es.length:Nat):Int)) (sh_len i_l) ?_
   refine bS (d:=dB (decide (((i:Nat):Int) < ((l.es.length:Nat):Int)))) sk_lss ?_
   refine wp_iteC rfl (fun c=>?_) (fun c=>?_)
   ·
    have:=of_lt c; omega
   refine bS (d:=.agg [dI (x0),x1,dI (x2),x3,dI (x4),x5,x6,x7]) (sh_chkW rfl) ?_
   refine bS (d:=.sl 59 8 [x]) hlit ?_
   refine bS (d:=mkOut 59 8 (l.es.take i++[x])) (ap_mk hX (by rw [List.length_take]; show _+1≤_; omega)) ?_
   refine bS (d:=dI ((l.es.length:Nat):Int)) (sh_len i_l) ?_
   refine bS (d:=dB (decide (((i:Nat):Int) < ((l.es.length:Nat):Int)))) sk_lss ?_
   refine wp_iteC rfl (fun c2=>?_) (fun c2=>?_)
   ·
    have:=of_lt c2; omega
   refine bS (d:=slcV l i l.es.length) (sl_suf hl3 (by omega)) ?_
   refine bS (d:=mkOut 59 8 (l.es.take i++[x]++(slcV l i l.es.length).es)) (ap_mk (slc_hb hl3) (by rw [List.length_append,List.length_take,slc_es hl3,List.length_take,List.length_drop]; simp only [List.length_cons,List.length_nil]; omega)) ?_
   have kq:Holds EE 35 [.agg [gs],mkOut 59 8 (l.es.take i++[x]++(slcV l i l.es.length).es)] (dI q):=by rw [ins_eq hl3]; exact hq
   refine cS (d:=dI (q)) kq ?_
   refine bS (d:=dB (decide (¬ q=0))) sk_neq ?_
   refine wp_iteC rfl (fun c3=>?_) (fun c3=>?_)
   ·
    exact wp_retTo2 rfl (by rw [hd]; exact congrArg (fun z=>D.tup [z,dI q]) (if_neg (nz c3)).symm)
   ·
    have hz:=zz c3
    exact wp_retTo2 rfl (by rw [hd,hz,ins_eq hl3]; rfl)
  ·
   intro i hi ⟨k,q',ih⟩
   obtain ⟨y,e_y⟩:=lt_at hi
   have hy:=e_y
   obtain ⟨_,rfl,_,_,rfl,⟨y0,rfl⟩,y1,_,rfl,_,_,_,rfl,⟨y2,rfl⟩,y3,_,rfl,_,_,_,rfl,⟨y4,rfl⟩,y5,_,rfl,_,y6,_,rfl,_,y7,_,rfl,_,rfl⟩:=elem_ofB hl e_y
   have hyx:¬ y0=x0:=fun h=>by
    have:=fst_hit (l:=l) (id:=x0) (i:=i) (by omega) hy (decide_eq_true h)
    omega
   by_cases hlt:y0 < x0
   ·
    refine ⟨k,q',Goes.step' ?_⟩
    show wp _ _ _ z24T1 _
    refine bS (d:=dI ((l.es.length:Nat):Int)) (sh_len i_l) ?_
    refine bS (d:=dB (decide (((i:Nat):Int) < ((l.es.length:Nat):Int)))) sk_lss ?_
    refine wp_iteC rfl (fun c=>?_) (fun c=>?_)
    ·
     skip
     refine bS (d:=dB (true)) (si_inr (s:=((i:Nat):Int)) (by omega) e_y) ?_
     refine bS (d:=dI (y0)) (si_elemP (s:=((i:Nat):Int)) (off:=0) i_l (by omega) e_y rfl rfl (by decide)) ?_
     refine bS (d:=dI (x0)) (sh_fld1 (off:=0) rfl rfl) ?_
     refine bS (d:=dB (decide (y0 < x0))) sk_lss ?_
     refine wp_iteC rfl (fun c2=>?_) (fun c2=>?_)
     ·
      skip
      refine bS (d:=dB (true)) (si_inr (s:=((i:Nat):Int)) (by omega) e_y) ?_
      refine bS (d:=.agg [dI (y0),y1,dI (y2),y3,dI (y4),y5,y6,y7]) (si_elemW (s:=((i:Nat):Int)) i_l (by omega) e_y rfl) ?_
      refine bS (d:=.agg [dI (y0),y1,dI (y2),y3,dI (y4),y5,y6,y7]) (sh_chkW rfl) ?_
      have hlit2:TOp.eval EE (.lit 59 8) [.agg [dI y0,y1,dI y2,y3,dI y4,y5,y6,y7]]=some (.sl 59 8 [.agg [dI y0,y1,dI y2,y3,dI y4,y5,y6,y7]]):=by rw [ev_lit]; rfl
      have hY:HasB 300000000 (.sl 59 8 ShE) (.sl 59 8 [.agg [dI y0,y1,dI y2,y3,dI y4,y5,y6,y7]]):=hb_sl (by show 1≤_; omega) (fun z hz=>by rw [List.mem_singleton.1 hz]; exact elem_ofB hl3 hy)
      have htk:l.es.take (i+1)=l.es.take i++[.agg [dI y0,y1,dI y2,y3,dI y4,y5,y6,y7]]:=by rw [List.take_add_one,hy]; rfl
      refine bS (d:=.sl 59 8 [.agg [dI y0,y1,dI y2,y3,dI y4,y5,y6,y7]]) hlit2 ?_
      refine bS (d:=mkOut 59 8 (l.es.take (i+1))) (by rw [htk]; exact ap_mk hY (by rw [List.length_take]; show _+1≤_; omega)) ?_
      refine bS (d:=dI ((i+1:Nat):Int)) (sh_add (cap_bd' (by omega))) ?_
      exact wp_jumpTo rfl ih
     ·
      exact absurd hlt (of_decide_eq_false c2)
    ·
     have:=of_nlt c; omega
   ·
    obtain ⟨q,hq⟩:=k35 (l:=insD l x i) hg (ins_hb hl (by rw [hx]; exact hE) (by omega))
    refine ⟨i,q,?_⟩
    obtain ⟨d,hd⟩:∃ d:D,d=.tup [if q=0 then insD l x i else .nil,dI q]:=⟨_,rfl⟩
    rw [← hd]
    refine Goes.step' ?_
    show wp _ _ _ z24T1 _
    refine bS (d:=dI ((l.es.length:Nat):Int)) (sh_len i_l) ?_
    refine bS (d:=dB (decide (((i:Nat):Int) < ((l.es.length:Nat):Int)))) sk_lss ?_
    refine wp_iteC rfl (fun c=>?_) (fun c=>?_)
    ·
     skip
     refine bS (d:=dB (true)) (si_inr (s:=((i:Nat):Int)) (by omega) e_y) ?_
     refine bS (d:=dI (y0)) (si_elemP (s:=((i:Nat):Int)) (off:=0) i_l (by omega) e_y rfl rfl (by decide)) ?_
     refine bS (d:=dI (x0)) (sh_fld1 (off:=0) rfl rfl) ?_
     refine bS (d:=dB (decide (y0 < x0))) sk_lss ?_
     refine wp_iteC rfl (fun c2=>?_) (fun c2=>?_)
     ·
      exact absurd (of_decide_eq_true c2) hlt
     refine bS (d:=.agg [dI (x0),x1,dI (x2),x3,dI (x4),x5,x6,x7]) (sh_chkW rfl) ?_
     refine bS (d:=.sl 59 8 [x]) hlit ?_
     refine bS (d:=mkOut 59 8 (l.es.take i++[x])) (ap_mk hX (by rw [List.length_take]; show _+1≤_; omega)) ?_
     refine bS (d:=dI ((l.es.length:Nat):Int)) (sh_len i_l) ?_
     refine bS (d:=dB (decide (((i:Nat):Int) < ((l.es.length:Nat):Int)))) sk_lss ?_
     refine wp_iteC rfl (fun c3=>?_) (fun c3=>?_)
     ·
      skip
      refine bS (d:=dB (true)) (si_inr (s:=((i:Nat):Int)) (by omega) e_y) ?_
      refine bS (d:=dI (y0)) (si_elemP (s:=((i:Nat):Int)) (off:=0) i_l (by omega) e_y rfl rfl (by decide)) ?_
      refine bS (d:=dI (x0)) (sh_fld1 (off:=0) rfl rfl) ?_
      refine bS (d:=dB (decide (y0=x0))) sk_eql ?_
      refine wp_iteC rfl (fun c4=>?_) (fun c4=>?_)
      ·
       exact absurd (of_decide_eq_true c4) hyx
      refine bS (d:=slcV l i l.es.length) (sl_suf hl3 (by omega)) ?_
      refine bS (d:=mkOut 59 8 (l.es.take i++[x]++(slcV l i l.es.length).es)) (ap_mk (slc_hb hl3) (by rw [List.length_append,List.length_take,slc_es hl3,List.length_take,List.length_drop]; simp only [List.length_cons,List.length_nil]; omega)) ?_
      have kq:Holds EE 35 [.agg [gs],mkOut 59 8 (l.es.take i++[x]++(slcV l i l.es.length).es)] (dI q):=by rw [ins_eq hl3]; exact hq
      refine cS (d:=dI (q)) kq ?_
      refine bS (d:=dB (decide (¬ q=0))) sk_neq ?_
      refine wp_iteC rfl (fun c5=>?_) (fun c5=>?_)
      ·
       exact wp_retTo2 rfl (by rw [hd]; exact congrArg (fun z=>D.tup [z,dI q]) (if_neg (nz c5)).symm)
      ·
       have hz:=zz c5
       exact wp_retTo2 rfl (by rw [hd,hz,ins_eq hl3]; rfl)
     ·
      have:=of_nlt c3; omega
    ·
     have:=of_nlt c; omega
 obtain ⟨i,q,hgo⟩:=hall
 refine ⟨if q=0 then insD l x i else .nil,q,z24 rfl (Goes.step' ?_),?_,fun hz=>?_⟩
 ·
  show wp _ _ _ z24T0 _
  refine bS (d:=.agg [gs]) (sh_chkW rfl) ?_
  refine bS (d:=.agg [dI (x0),x1,dI (x2),x3,dI (x4),x5,x6,x7]) (sh_chkW rfl) ?_
  exact wp_jumpTo rfl hgo
 ·
  split
  ·
   exact isSl_ofB (ins_hb hl (by rw [hx]; exact hE) (by omega))
  ·
   exact .inl rfl
 ·
  rw [if_pos hz]
  exact ⟨ins_hb hl (by rw [hx]; exact hE) (by omega),agr_ins hx hno⟩
end Go.Proofs.YtnemldklhelbeaaGreat
namespace Go.Proofs.YtnemldklhelbeaaGreat
open Go Go.Am Go.Proofs
attribute [local irreducible] Go.Am.wp Go.Am.TOp.eval
theorem frm_hb {gs rs l ws fs ps:D} (hB:HasB 300000000 ShI (baseV l ps)):HasB 300000000 ShI (frmV gs rs l ws fs ps).1:=by
 unfold frmV
 split
 ·
  exact hb_nil
 ·
  split
  ·
   exact hb_nil
  ·
   exact (las_ok (gs:=gs) rs.es hB).1
theorem getR_any {l:D} {id:Int} (h:HasB 1048576 ShLe l):∃ (es:List D) (old:Bool),getR l id=.tup [.agg es,dB old]∧es.length=8∧(old=false→l.es[fst l id]? = none):=by
 rcases getR_cases (id:=id) h with ⟨x0,x2,x4,x1,x3,x5,x6,x7,h1,h3,h5,h6,h7,he,hr⟩ | ⟨he,hr⟩
 ·
  exact ⟨_,true,hr,rfl,fun h=>by cases h⟩
 ·
  exact ⟨_,false,hr,rfl,fun _=>he⟩
theorem law6 {g a x:D} (h_g:HasB 1048576 ShLk g) (h_a:HasB 1048576 (.st [ShP]) a) (h_x:HasB 1048576 ShE x) (hw:Holds EE 9 [] (dB true)):Holds EE 6 [g,a,x] (dB true):=by
 obtain ⟨ps,rfl,hp⟩:∃ ps,a=.agg [ps]∧HasB 300000000 ShP ps:=by
  obtain ⟨_,rfl,ps,_,rfl,hp,rfl⟩:=hasB_mono (B':=300000000) (by decide) h_a
  exact ⟨ps,rfl,hp⟩
 obtain ⟨_,rfl,gs,_,rfl,hg,nm,_,rfl,hnm,us,_,rfl,hus,lt,_,rfl,hlt,rs,_,rfl,hr,_,_,rfl,⟨n,rfl⟩,ws,_,rfl,hws,fs,_,rfl,hfs,l,_,rfl,hl,rfl⟩:=h_g
 obtain ⟨_,rfl,_,_,rfl,⟨x0,rfl⟩,x1,_,rfl,h1,_,_,rfl,⟨x2,rfl⟩,x3,_,rfl,h3,_,_,rfl,⟨x4,rfl⟩,x5,_,rfl,h5,x6,_,rfl,h6,x7,_,rfl,h7,rfl⟩:=h_x
 have i_x1:=isSl_ofB h1
 have i_x3:=isSl_ofB h3
 have i_x5:=isSl_ofB h5
 have i_x6:=isSl_ofB h6
 have i_x7:=isSl_ofB h7
 have hnm1:nm.one=true:=by obtain ⟨s,rfl,_⟩:=hnm; rfl
 have i_l:=isSl_ofB hl
 have i_gs:=isSl_ofB hg
 have i_us:=isSl_ofB hus
 have i_lt:=isSl_ofB hlt
 have i_rs:=isSl_ofB hr
 have i_ws:=isSl_ofB hws
 have i_fs:=isSl_ofB hfs
 have i_ps:=isSl_ofB hp
 obtain ⟨q1,k1⟩:=k31 hg
 obtain ⟨q2,k2⟩:=k32 hg hnm hus hlt
 obtain ⟨q3,k3,f3⟩:=g33 (nm:=nm) (us:=us) (lt:=lt) (n:=dI n) (ws:=ws) (fs:=fs) (l:=l) hg hr
 obtain ⟨q4,k4⟩:=k34 (n:=dI n) ⟨n,rfl⟩ hws hfs
 obtain ⟨q5,k5,f5⟩:=k35n hl (k35 hg hl)
 obtain ⟨q6,k6⟩:=k36 hl
 obtain ⟨q7,k7⟩:=k37 hl
 obtain ⟨b,kL,hb⟩:=g12 (n:=n) hg hnm1 hus hr hws hfs hl (g11 i_l.one k1 k2 k3 k4 k5 k6 k7)
 have kF:=h13 hp
 obtain ⟨es,old,hget,hes,hold⟩:=getR_any (id:=x0) hl
 have kG:=h23 (b:=x0) (hasB_mono (B':=300000000) (by decide) hl)
 rw [hget] at kG
 refine z6 rfl (Goes.step' ?_)
 show wp _ _ _ z6T0 _
 refine bS (d:=.agg [gs,nm,us,lt,rs,dI (n),ws,fs,l]) (sh_chkW rfl) ?_
 refine bS (d:=.agg [ps]) (sh_chkW rfl) ?_
 refine bS (d:=.agg [dI (x0),x1,dI (x2),x3,dI (x4),x5,x6,x7]) (sh_chkW rfl) ?_
 refine bS (d:=.agg [gs,nm,us,lt,rs,dI (n),ws,fs,l]) (sh_chkW rfl) ?_
 refine bS (d:=l) (sh_fld1 (off:=8) rfl i_l.one) ?_
 refine bS (d:=dI (x0)) (sh_fld1 (off:=0) rfl rfl) ?_
 refine cS (d:=.tup [.agg es,dB (old)]) kG ?_
 refine bS (d:=.agg es) (te_ext rfl) ?_
 refine bS (d:=dB (old)) (te_ext rfl) ?_
 refine bS (d:=.agg es) (sh_chkW hes) ?_
 refine cS (d:=dB (b)) kL ?_
 refine bS (d:=dB (!(b))) sh_not ?_
 refine wp_iteC rfl (fun c1=>?_) (fun c1=>?_)
 ·
  skip
  refine cS (d:=dB (true)) hw ?_
  exact wp_retTo rfl rfl
 have hbt:b=true:=by simpa using c1
 have hall:=chk_zero (hb hbt).1
 have hok:=f3 hall.2.2.1
 have hn5:=f5 hall.2.2.2.2.1
 refine cS (d:=dB (decide (ps.es.length≤20))) kF ?_
 refine bS (d:=dB (!(decide (ps.es.length≤20)))) sh_not ?_
 refine wp_iteC rfl (fun c2=>?_) (fun c2=>?_)
 ·
  skip
  refine cS (d:=dB (true)) hw ?_
  exact wp_retTo rfl rfl
 have hn:ps.es.length≤20:=by
  have:decide (ps.es.length≤20)=true:=by simpa using c2
  exact of_decide_eq_true this
 have hg3:=hasB_mono (B':=300000000) (by decide) hg
 have hr3:=hasB_mono (B':=300000000) (by decide) hr
 have hw3:=hasB_mono (B':=300000000) (by decide) hws
 have hf3:=hasB_mono (B':=300000000) (by decide) hfs
 have hB:=base_hb hl hn
 refine wp_iteC rfl (fun c3=>?_) (fun c3=>?_)
 ·
  skip
  refine cS (d:=dB (true)) hw ?_
  exact wp_retTo rfl rfl
 have hno:=hold c3
 refine bS (d:=x1) (sh_fld1 (off:=1) rfl i_x1.one) ?_
 refine bS (d:=dI ((x1.es.length:Nat):Int)) (sh_len i_x1) ?_
 refine bS (d:=dB (decide (((x1.es.length:Nat):Int) > 30))) sk_gtr ?_
 refine wp_iteC rfl (fun c4=>?_) (fun c4=>?_)
 ·
  skip
  refine cS (d:=dB (true)) hw ?_
  exact wp_retTo rfl rfl
 refine bS (d:=x3) (sh_fld1 (off:=3) rfl i_x3.one) ?_
 refine bS (d:=dI ((x3.es.length:Nat):Int)) (sh_len i_x3) ?_
 refine bS (d:=dB (decide (((x3.es.length:Nat):Int) > 10))) sk_gtr ?_
 refine wp_iteC rfl (fun c5=>?_) (fun c5=>?_)
 ·
  skip
  refine cS (d:=dB (true)) hw ?_
  exact wp_retTo rfl rfl
 refine bS (d:=x5) (sh_fld1 (off:=5) rfl i_x5.one) ?_
 refine bS (d:=dI ((x5.es.length:Nat):Int)) (sh_len i_x5) ?_
 refine bS (d:=dB (decide (((x5.es.length:Nat):Int) > 10))) sk_gtr ?_
 refine wp_iteC rfl (fun c6=>?_) (fun c6=>?_)
 ·
  skip
  refine cS (d:=dB (true)) hw ?_
  exact wp_retTo rfl rfl
 refine bS (d:=x6) (sh_fld1 (off:=6) rfl i_x6.one) ?_
 refine bS (d:=dI ((x6.es.length:Nat):Int)) (sh_len i_x6) ?_
 refine bS (d:=dB (decide (((x6.es.length:Nat):Int) > 20))) sk_gtr ?_
 refine wp_iteC rfl (fun c7=>?_) (fun c7=>?_)
 ·
  skip
  refine cS (d:=dB (true)) hw ?_
  exact wp_retTo rfl rfl
 refine bS (d:=x7) (sh_fld1 (off:=7) rfl i_x7.one) ?_
 refine bS (d:=dI ((x7.es.length:Nat):Int)) (sh_len i_x7) ?_
 refine bS (d:=dB (decide (((x7.es.length:Nat):Int) > 20))) sk_gtr ?_
 refine wp_iteC rfl (fun c8=>?_) (fun c8=>?_)
 ·
  skip
  refine cS (d:=dB (true)) hw ?_
  exact wp_retTo rfl rfl
 obtain ⟨d,q,k24,i_d,hd⟩:=h24 (x2:=x2) (x4:=x4) hg hl h1 h3 h5 h6 h7 hn5 hno
 refine bS (d:=.agg [gs]) (sh_fldA (off:=0) (size:=1) rfl) ?_
 refine bS (d:=l) (sh_fld1 (off:=8) rfl i_l.one) ?_
 refine cS (d:=.tup [d,dI (q)]) k24 ?_
 refine bS (d:=d) (te_ext rfl) ?_
 refine bS (d:=dI (q)) (te_ext rfl) ?_
 refine bS (d:=.agg [gs,nm,us,lt,rs,dI (n),ws,fs,l]) (sh_chkW rfl) ?_
 refine bS (d:=gs) (sh_fld1 (off:=0) rfl i_gs.one) ?_
 refine bS (d:=nm) (sh_fld1 (off:=1) rfl hnm1) ?_
 refine bS (d:=us) (sh_fld1 (off:=2) rfl i_us.one) ?_
 refine bS (d:=lt) (sh_fld1 (off:=3) rfl i_lt.one) ?_
 refine bS (d:=rs) (sh_fld1 (off:=4) rfl i_rs.one) ?_
 refine bS (d:=dI (n)) (sh_fld1 (off:=5) rfl rfl) ?_
 refine bS (d:=ws) (sh_fld1 (off:=6) rfl i_ws.one) ?_
 refine bS (d:=fs) (sh_fld1 (off:=7) rfl i_fs.one) ?_
 refine bS (d:=l) (sh_fld1 (off:=8) rfl i_l.one) ?_
 refine bS (d:=d) (sh_chk1 i_d.one) ?_
 refine bS (d:=dB (decide (¬ q=0))) sk_neq ?_
 refine wp_iteC rfl (fun c9=>?_) (fun c9=>?_)
 ·
  skip
  refine cS (d:=dB (true)) hw ?_
  exact wp_retTo rfl rfl
 obtain ⟨hdB,hagr⟩:=hd (zz c9)
 obtain ⟨p3,m3,_⟩:=g33 (nm:=nm) (us:=us) (lt:=lt) (n:=dI n) (ws:=ws) (fs:=fs) (l:=d) hg hr
 obtain ⟨p5,m5⟩:=k35 hg hdB
 obtain ⟨p6,m6⟩:=k36 hdB
 obtain ⟨p7,m7⟩:=k37 hdB
 have kC:=g11 i_d.one k1 k2 m3 k4 m5 m6 m7
 have kR:=g18 (c0:=gs) (c1:=nm) (c2:=us) (c3:=lt) (c4:=rs) (n:=dI n) rfl hw3 hf3 hl hp hn
 have kR':=g18 (c0:=gs) (c1:=nm) (c2:=us) (c3:=lt) (c4:=rs) (n:=dI n) rfl hw3 hf3 hdB hp hn
 have kFm:=g14 (gs:=gs) (c1:=nm) (c2:=us) (c3:=lt) (n:=dI n) hg3 hr3 hok rfl hw3 hf3 hl hp hn
 have kFm':=g14 (gs:=gs) (c1:=nm) (c2:=us) (c3:=lt) (n:=dI n) hg3 hr3 hok rfl hw3 hf3 hdB hp hn
 have hfB:=frm_hb (gs:=gs) (rs:=rs) (ws:=ws) (fs:=fs) hB
 refine cS (d:=dI (chkV q1 q2 p3 q4 p5 p6 p7)) kC ?_
 refine bS (d:=dB (decide (¬ chkV q1 q2 p3 q4 p5 p6 p7=0))) sk_neq ?_
 refine wp_iteC rfl (fun c10=>?_) (fun c10=>?_)
 ·
  skip
  refine cS (d:=dB (true)) hw ?_
  exact wp_retTo rfl rfl
 refine cS (d:=dI (rgtV l ws fs ps)) kR ?_
 refine bS (d:=dB (decide (¬ rgtV l ws fs ps=0))) sk_neq ?_
 refine wp_iteC rfl (fun c11=>?_) (fun c11=>?_)
 ·
  skip
  refine cS (d:=dB (true)) hw ?_
  exact wp_retTo rfl rfl
 have hz:=zz c11
 obtain ⟨hz',_⟩:=rgt_agr (ws:=ws) (fs:=fs) hl hagr hp hz
 have hfr:=frm_agr (gs:=gs) (rs:=rs) (ws:=ws) (fs:=fs) hl hagr hp hz
 rw [hz'] at kR'
 rw [hfr] at kFm'
 generalize hF1:(frmV gs rs l ws fs ps).1=fm at *
 generalize hF2:(frmV gs rs l ws fs ps).2=fe at *
 have i_fm:=isSl_ofB hfB
 have kS:=h20 hfB
 refine cS (d:=.tup [fm,dI (fe)]) kFm ?_
 refine bS (d:=fm) (te_ext rfl) ?_
 refine bS (d:=dI (fe)) (te_ext rfl) ?_
 refine cS (d:=.tup [fm,dI (fe)]) kFm' ?_
 refine bS (d:=fm) (te_ext rfl) ?_
 refine bS (d:=dI (fe)) (te_ext rfl) ?_
 refine cS (d:=dI (0)) kR' ?_
 refine bS (d:=dB (decide (0=0))) sk_eql ?_
 refine wp_iteC rfl (fun c12=>?_) (fun c12=>?_)
 ·
  skip
  refine bS (d:=dB (decide (fe=fe))) sk_eql ?_
  refine wp_iteC rfl (fun c13=>?_) (fun c13=>?_)
  ·
   skip
   refine cS (d:=dB (true)) kS ?_
   refine wp_iteC rfl (fun c14=>?_) (fun c14=>?_)
   ·
    skip
    refine cS (d:=dB (true)) hw ?_
    exact wp_retTo rfl rfl
   ·
    cases c14
  ·
   exact absurd rfl (of_decide_eq_false c13)
 ·
  exact absurd rfl (of_decide_eq_false c12)
end Go.Proofs.YtnemldklhelbeaaGreat
namespace Go.Proofs.YtnemldklhelbeaaGreat
open Go Go.Am Go.Proofs
namespace surfaceKeeps
mutual
theorem bulk_le {H:Type}:∀ d:DataW H,wBulk d≤Rows.uptoBulk d
 | .lit l=>by cases l <;> simp [wBulk,Rows.uptoBulk]
 | .nil=>by simp [wBulk,Rows.uptoBulk]
 | .ptr d=>by have:=bulk_le d; simp only [wBulk,Rows.uptoBulk]; omega
 | .slice a b=>by have:=bulks_le a; have:=bulks_le b; simp only [wBulk,Rows.uptoBulk]; omega
 | .agg a=>by have:=bulks_le a; simp only [wBulk,Rows.uptoBulk]; omega
 | .iface _ d=>by have:=bulk_le d; simp only [wBulk,Rows.uptoBulk]; omega
 | .map _=>by simp only [wBulk,Rows.uptoBulk]; omega
 | .held _=>by simp [wBulk,Rows.uptoBulk]
theorem bulks_le {H:Type}:∀ l:List (DataW H),wBulks l≤Rows.uptoBulkAll l
 | []=>Nat.le_refl _
 | d::l=>by have:=bulk_le d; have:=bulks_le l; simp only [wBulks,Rows.uptoBulkAll]; omega
end
theorem shapes:argShs Tryz.prog 100 Tryz.f6.params.toList=some [ShLk,.st [ShP],ShE]:=by kernel_rfl
theorem law_all (ds:List D) (h:HasBs 1048576 [ShLk,.st [ShP],ShE] ds):Holds EE 6 ds (dB true):=by
 simp only [HasBs] at h
 obtain ⟨p,r,rfl,hp,q,r',rfl,hq,x,r'',rfl,hx,rfl⟩:=h
 exact law6 (by simpa only [HasB,HasBs] using hp) (by simpa only [HasB,HasBs] using hq) (by simpa only [HasB,HasBs] using hx) awake
theorem prog_eq:EE.prog=Tryz.prog:=rfl
theorem sizes (t:TypeId) (ti:TI) (h:EE.types.get t=some ti):ti.size=Tryz.prog.cellsOf t:=size_cells he h
theorem law_run {H:Type} {enc:TypeId × Value→H} {W:World} {args:List Value} {ds:List (DataW H)} {p:List MemPlace}
  (hA:DataW.TrodAll enc Tryz.prog W 0 (fun _=>true) true Tryz.f6.params.toList args ds p)
  (hok:∀ (j:Nat) t v,Tryz.f6.params.toList[j]? = some t→args[j]? = some v→Value.okWide Tryz.prog W .any 0 t v) (hB:wBulks ds≤1048576) :
  Calls Tryz.prog 6 ⟨args⟩ W fun e w'=>e=.returned (.bool true)∧Kept W w':=by
 have h1:=shapes
 have h2:=sizes
 have h3:=prog_eq
 have h4:=law_all
 generalize hts:Tryz.f6.params.toList=ts at *
 generalize hP:Tryz.prog=P at *
 exact lawB_calls (E:=EE) h3 h2 h1 h4 hA hok hB
open Go.ChangeShapes Go.WideShapes Go.ChangeAt Go.RowKit
theorem own:ownKnob Tryz.prog.godebug=none:=by kernel_rfl
theorem laid:laidOutB Tryz.prog=true:=by kernel_rfl
theorem maps:mapsRowed Tryz.prog=true:=by kernel_rfl
theorem full:∀ t e,t < Tryz.prog.types.size→Tryz.prog.underlying t=some (.slice e)→0 < Tryz.prog.cellsOf e:=slices_full_of Tryz.prog (by kernel_rfl)
theorem ps6:∀ t∈Tryz.f6.params.toList,t < Tryz.prog.types.size:=by
 have h:(Tryz.f6.params.toList.all fun t=>Nat.blt t Tryz.prog.types.size)=true:=by kernel_rfl
 intro t ht
 exact Nat.le_of_ble_eq_true (List.all_eq_true.1 h t ht)
def emptyL:Value:=.agg #[.slice none 0 0,.string ⟨#[]⟩,.slice none 0 0,.slice none 0 0,.slice none 0 0,.int .i64 0,.slice none 0 0,.slice none 0 0,.slice none 0 0]
def emptyLD {H:Type}:DataW H:=.agg [.agg [.nil],.agg [.lit (.string []),.nil,.nil],.nil,.agg [.lit (.int .i64 0),.nil,.nil],.nil]
def emptyX:Value:=.agg #[.int .i64 0,.slice none 0 0,.int .i64 0,.slice none 0 0,.int .i64 0,.slice none 0 0,.slice none 0 0,.slice none 0 0]
def emptyXD {H:Type}:DataW H:=.agg [.lit (.int .i64 0),.nil,.lit (.int .i64 0),.nil,.lit (.int .i64 0),.nil,.nil,.nil]
set_option maxRecDepth 100000 in
theorem lifted (os:Os) (started:os.Started) (H:Type) (enc:TypeId × Value→H) (F:Stop.Interp) :
  ReturnsInHanded {} Tryz.checked os 6 .any ((Rows.OpenSpec.upto Rows.surfaceKeepsSpec).pre6 enc Tryz.prog Tryz.f6 Rows.surfaceKeepsUptoRow.domain false) (((Rows.OpenSpec.upto Rows.surfaceKeepsSpec).at F).post enc Tryz.prog Tryz.f6 false true false false):=by
 refine returnsInHanded_of_cond (C:=Tryz.checked) (s:=Rows.OpenSpec.upto Rows.surfaceKeepsSpec) (k:=Rows.uptoSmall) rfl own started (by kernel_rfl) Tryz.func6
  (OpenSpec.witness (enc:=enc) (C:=Tryz.checked) (s:=Rows.OpenSpec.upto Rows.surfaceKeepsSpec) (k:=Rows.uptoSmall) rfl false ⟨#[],#[emptyL,.agg #[.slice none 0 0],emptyX],[]⟩ 8 (by kernel_rfl) (by kernel_rfl) (by kernel_rfl)
   (x:=([emptyLD,.agg [.nil],emptyXD],[],[])) (by kernel_rfl) rfl (by kernel_rfl)) ?_
 intro W base args ds gs before hval0 hW _ hk0 _
 have hval:∀ (j:Nat) t v,Tryz.f6.params[j]? = some t→args[j]? = some v→Value.okWide Tryz.prog W .any base t v:=hval0
 have hW':=hW
 obtain ⟨p,q,hA0,hV,rfl,hfz,hnd⟩:=hW
 have hA:DataW.TrodAll enc Tryz.prog W 0 (fun _=>true) true Tryz.f6.params.toList args.toList ds p:=hA0
 have hAll:=hA
 rw [Tryz.params6] at hA
 obtain ⟨v0,vs0,d0,ds0,p0,q0,hargs,rfl,rfl,h0,r0⟩:=trodAll_cons hA
 obtain ⟨v1,vs1,d1,ds1,p1,q1,rfl,rfl,rfl,h1,r1⟩:=trodAll_cons r0
 obtain ⟨v2,vs2,d2,ds2,p2,q2,rfl,rfl,rfl,h2,r2⟩:=trodAll_cons r1
 obtain ⟨rfl,rfl,rfl⟩:=trodAll_nil r2
 obtain rfl:args = #[v0,v1,v2]:=by cases args; simp_all
 obtain ⟨rfl,rfl⟩:=trodVars_none hV
 have hB:wBulks [d0,d1,d2]≤1048576:=Nat.le_trans (bulks_le _) (of_decide_eq_true hk0)
 have hcall:Calls Tryz.prog 6 #[v0,v1,v2] W fun e w'=>e=.returned (.bool true)∧Kept W w' :=
  law_run hAll (fun j t v e1 e2=>show Value.okWide Tryz.prog W .any 0 t v from hval j t v (by simpa using e1) (by simpa using e2)) hB
 refine hcall.mono fun e W' ⟨he,hk⟩=>?_
 subst he
 exact ⟨_,rfl,post_of_kept (pv:=[]) hW' (fun _ _ _=>trodAll_cons_mk (shut_bool Tryz.underlying4 _) trodAll_mk0) (fun sp hsp=>trodAll_again laid maps full ps6 hAll hk (fun p hp=>hsp p (List.mem_append_left _ hp))) (fun _ _=>rfl) rfl hk
  (ok_one (by kernel_rfl) rfl (okWide_bool_mk Tryz.underlying4 _))⟩
end surfaceKeeps
end Go.Proofs.YtnemldklhelbeaaGreat
