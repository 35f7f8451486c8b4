/- What a net accepts, by the program: sets of states as bits. Conditions: none. -/
import Derived.Test.YtnemldklhelbeaaGreatJf
set_option linter.unusedVariables false
set_option linter.unusedSimpArgs false
namespace Go.Proofs.YtnemldklhelbeaaGreat
open Go Go.Am Go.Proofs
attribute [local irreducible] Go.Am.wp Go.Am.TOp.eval
theorem vK {P:Nat->Prop} (N:Nat) (last:P N) (step:∀ i,i < N->P (i+1)->P i):P 0:=by
 have go:∀ m i,i+m=N->P i:=by
  intro m
  induction m with
  | zero =>
   intro i h
   have:i=N:=by omega
   subst this
   exact last
  | succ m ih =>
   intro i h
   exact step i (by omega) (ih (i+1) (by omega))
 exact go N 0 (by omega)
theorem yV {α β:Type} {f:α->β->α} {a:α} {l:List β} {i:Nat} {x:β} (h:l[i]? = some x):(l.take (i+1)).foldl f a=f ((l.take i).foldl f a) x:=by
 rw [List.take_add_one,h,List.foldl_append]; rfl
theorem vH {l:D} {i:Nat} (h:i < l.es.length):∃ x,l.es[i]? = some x:=⟨_,List.getElem?_eq_getElem h⟩
theorem vV {a b:Nat} (h:decide (((a:Nat):Int) < ((b:Nat):Int))=true):a < b:=by have:=dT h; omega
theorem zC {a b:Nat} (h:decide (((a:Nat):Int) < ((b:Nat):Int))=false):b<=a:=by have:=dF h; omega
abbrev dU (n:Int):D:=.leaf (.int .u32 n)
def qX0 (q:Int):Nat:=Nat.min (IntKind.u64.wrap q).toNat 32
def qJd (a b:Int):Int:=IntKind.u32.wrap ((BitVec.ofInt 32 a &&& BitVec.ofInt 32 b).toNat:Int)
def qX2 (a b:Int):Int:=IntKind.u32.wrap ((BitVec.ofInt 32 a ||| BitVec.ofInt 32 b).toNat:Int)
def rO (m q:Int):Bool:=decide (qJd (m.fdiv (2 ^ qX0 q)) 1=1)
def pR (m q:Int):Int:=qX2 m (IntKind.u32.wrap (1 * 2 ^ qX0 q))
theorem qGM (q:Int):¬ (IntKind.u64.wrap q < 0):=by
 have h:IntKind.u64.wrap q=q % 18446744073709551616:=by
  simp [IntKind.wrap,IntKind.signed,IntKind.bits]
 rw [h]
 have:=Int.emod_nonneg q (b:=18446744073709551616) (by decide)
 omega
theorem qLY (q:Int):TOp.eval EE (.conv 3 193) [dI q]=some (.leaf (.int .u64 (IntKind.u64.wrap q))):=by kernel_rfl
theorem qSE (m s:Int) (h:¬ s < 0) {x y:Operand}:TOp.eval EE (.bin .shr 152 x y) [dU m,.leaf (.int .u64 s)]=some (dU (m.fdiv (2 ^ Nat.min s.toNat 32))):=by
 have e:yE EE .shr 152 x y (.int .u32 m) (.int .u64 s)=flat? (qT EE.prog (Op.shift .shr .u32 m .u64 s)):=rfl
 rw [rQ]
 show nL (yE EE .shr 152 x y (.int .u32 m) (.int .u64 s))=_
 rw [e,Op.shift,if_neg h]
 rfl
theorem qSF (m s:Int) (h:¬ s < 0) {x y:Operand}:TOp.eval EE (.bin .shl 152 x y) [dU m,.leaf (.int .u64 s)]=some (dU (IntKind.u32.wrap (m * 2 ^ Nat.min s.toNat 32))):=by
 have e:yE EE .shl 152 x y (.int .u32 m) (.int .u64 s)=flat? (qT EE.prog (Op.shift .shl .u32 m .u64 s)):=rfl
 rw [rQ]
 show nL (yE EE .shl 152 x y (.int .u32 m) (.int .u64 s))=_
 rw [e,Op.shift,if_neg h]
 rfl
theorem qLL (a b:Int) {x y:Operand}:TOp.eval EE (.bin .and 152 x y) [dU a,dU b]=some (dU (qJd a b)):=by rw [rQ]; rfl
theorem qVq (a b:Int) {x y:Operand}:TOp.eval EE (.bin .or 152 x y) [dU a,dU b]=some (dU (qX2 a b)):=by rw [rQ]; rfl
theorem qXi (m q:Int):qA EE 130 [dU m,dI q] (dB (rO m q)):=by
 refine qWg rfl (qG.step' ?_)
 refine bS (qLY q) ?_
 refine bS (qSE m _ (qGM q)) ?_
 refine bS (qLL _ _) ?_
 refine bS vX ?_
 exact qD rfl rfl
theorem qVm (m q:Int):qA EE 105 [dU m,dI q] (dU (pR m q)):=by
 refine qWr rfl (qG.step' ?_)
 refine bS (qLY q) ?_
 refine bS (qSF 1 _ (qGM q)) ?_
 refine bS (qVq _ _) ?_
 exact qD rfl rfl
def qBH (m:Int):D->Int
 | .leaf (.int .i64 q)=>pR m q
 | _=>m
def qIN (fs:D):Int:=fs.es.foldl qBH 0
def rY (m k:Int) (acc:Int):D->Int
 | .agg [.leaf (.int .i64 f),.leaf (.int .i64 c),.leaf (.int .i64 t)]=>if rO m f=true/\c=k then pR acc t else acc
 | _=>acc
def qJf (ws:D) (m k:Int):Int:=ws.es.foldl (rY m k) 0
def qFC (ws:D) (m:Int):D->Int
 | .leaf (.int .i64 c)=>qJf ws m c
 | _=>m
def qKB (ws cl:D):Int:=cl.es.foldl (qFC ws) 1
def qGE (ws fs cl:D):Bool:=decide (¬ qJd (qKB ws cl) (qIN fs)=0)
abbrev qHW:Sh:=.sl 122 3 (.st [.int .i64,.int .i64,.int .i64])
variable {B:Nat}
theorem qZD {n ws fs:D} (ho:n.one=true) (hw:ws.one=true) (hf:qE 300000000 (.sl 3 1 (.int .i64)) fs):qA EE 85 [.agg [n,ws,fs]] (dU (qIN fs)):=by
 have i_fs:=qC hf
 have b_fs:=qJ hf
 refine qYF rfl (qG.step' ?_)
 refine bS (qI rfl) ?_
 refine bS (qB (off:=2) rfl i_fs.one) ?_
 refine bS (qH i_fs) ?_
 refine qF rfl (vK (P:=fun i=>qG EE (qA EE) qO3 1 [dU ((fs.es.take i).foldl qBH 0),fs,dI ((fs.es.length:Nat):Int),dI ((i:Nat):Int)] (dU (qIN fs))) fs.es.length ?_ ?_)
 ·refine qG.step' ?_
  refine bS qK ?_
  refine iC (fun c=>?_) fun c=>?_
  ·have:=vV c; omega
  exact qD rfl (by rw [List.take_length]; rfl)
 intro i hi ih
 obtain ⟨x,e_x⟩:=vH hi
 obtain ⟨q,rfl⟩:=qN hf e_x
 rw [yV e_x] at ih
 refine qG.step' ?_
 refine bS qK ?_
 refine iC (fun c=>?_) fun c=>?_
 ·skip
  refine bS (qL (s:=((i:Nat):Int)) (by omega) e_x) ?_
  refine bS (qO (s:=((i:Nat):Int)) i_fs (by omega) e_x rfl) ?_
  refine cS (qVm _ q) ?_
  refine bS (d:=dI ((i+1:Nat):Int)) (qP (qM (by omega))) ?_
  exact qF rfl ih
 have:=zC c; omega
theorem qXm {n ws fs:D} {m k:Int} (ho:n.one=true) (hw:qE 300000000 qHW ws) (hf:fs.one=true):qA EE 104 [.agg [n,ws,fs],dU m,dI k] (dU (qJf ws m k)):=by
 have i_ws:=qC hw
 have b_ws:=qJ hw
 refine qWs rfl (qG.step' ?_)
 refine bS (qI rfl) ?_
 refine bS (vY rfl) ?_
 refine bS (qI rfl) ?_
 refine bS (vY rfl) ?_
 refine bS (qB (off:=1) rfl i_ws.one) ?_
 refine bS (qH i_ws) ?_
 refine qF rfl (vK (P:=fun i=>qG EE (qA EE) qJ7 1000 [ws,dI ((ws.es.length:Nat):Int),dI ((i:Nat):Int),.agg [n,ws,fs],dI k,dU ((ws.es.take i).foldl (rY m k) 0),.agg [n,ws,fs],dU m] (dU (qJf ws m k))) ws.es.length ?_ ?_)
 ·refine qG.step' ?_
  refine bS qK ?_
  refine iC (fun c=>?_) fun c=>?_
  ·have:=vV c; omega
  exact qD rfl (by rw [List.take_length]; rfl)
 intro i hi ih
 obtain ⟨x,e_x⟩:=vH hi
 obtain ⟨_,rfl,_,_,rfl,⟨f,rfl⟩,_,_,rfl,⟨c0,rfl⟩,_,_,rfl,⟨t,rfl⟩,rfl⟩:=qN hw e_x
 rw [yV e_x] at ih
 refine qG.step' ?_
 refine bS qK ?_
 refine iC (fun c=>?_) fun c=>?_
 ·skip
  refine bS (qL (s:=((i:Nat):Int)) (by omega) e_x) ?_
  refine bS (z8 (s:=((i:Nat):Int)) i_ws (by omega) e_x rfl) ?_
  refine bS (qI rfl) ?_
  refine bS (qB (off:=0) rfl rfl) ?_
  refine cS (qXi m f) ?_
  refine iC (fun d=>?_) fun d=>?_
  ·skip
   refine bS (qI rfl) ?_
   refine bS (qB (off:=1) rfl rfl) ?_
   refine bS vX ?_
   refine iC (fun e=>?_) fun e=>?_
   ·skip
    refine bS (qB (off:=2) rfl rfl) ?_
    refine cS (qVm _ t) ?_
    refine bS (d:=dI ((i+1:Nat):Int)) (qP (qM (by omega))) ?_
    have hs:rY m k ((ws.es.take i).foldl (rY m k) 0) (.agg [dI f,dI c0,dI t])=pR ((ws.es.take i).foldl (rY m k) 0) t:=if_pos ⟨d,dT e⟩
    rw [hs] at ih
    exact qF rfl ih
   refine bS (d:=dI ((i+1:Nat):Int)) (qP (qM (by omega))) ?_
   have hs:rY m k ((ws.es.take i).foldl (rY m k) 0) (.agg [dI f,dI c0,dI t])=(ws.es.take i).foldl (rY m k) 0:=if_neg fun h=>dF e h.2
   rw [hs] at ih
   exact qF rfl ih
  refine bS (d:=dI ((i+1:Nat):Int)) (qP (qM (by omega))) ?_
  have hs:rY m k ((ws.es.take i).foldl (rY m k) 0) (.agg [dI f,dI c0,dI t])=(ws.es.take i).foldl (rY m k) 0:=if_neg fun h=>by rw [d] at h; cases h.1
  rw [hs] at ih
  exact qF rfl ih
 have:=zC c; omega
theorem qZE {n ws fs cl:D} (ho:n.one=true) (hw:qE 300000000 qHW ws) (hf:fs.one=true) (hc:qE 300000000 (.sl 3 1 (.int .i64)) cl):qA EE 84 [.agg [n,ws,fs],cl] (dU (qKB ws cl)):=by
 have i_cl:=qC hc
 have b_cl:=qJ hc
 refine qYG rfl (qG.step' ?_)
 refine bS (qI rfl) ?_
 refine bS (qH i_cl) ?_
 refine qF rfl (vK (P:=fun i=>qG EE (qA EE) qO6 1 [dU ((cl.es.take i).foldl (qFC ws) 1),cl,dI ((cl.es.length:Nat):Int),dI ((i:Nat):Int),.agg [n,ws,fs]] (dU (qKB ws cl))) cl.es.length ?_ ?_)
 ·refine qG.step' ?_
  refine bS qK ?_
  refine iC (fun c=>?_) fun c=>?_
  ·have:=vV c; omega
  exact qD rfl (by rw [List.take_length]; rfl)
 intro i hi ih
 obtain ⟨x,e_x⟩:=vH hi
 obtain ⟨q,rfl⟩:=qN hc e_x
 rw [yV e_x] at ih
 refine qG.step' ?_
 refine bS qK ?_
 refine iC (fun c=>?_) fun c=>?_
 ·skip
  refine bS (qL (s:=((i:Nat):Int)) (by omega) e_x) ?_
  refine bS (qO (s:=((i:Nat):Int)) i_cl (by omega) e_x rfl) ?_
  refine cS (qXm ho hw hf) ?_
  refine bS (d:=dI ((i+1:Nat):Int)) (qP (qM (by omega))) ?_
  exact qF rfl ih
 have:=zC c; omega
theorem qZN {n ws fs cl:D} (ho:n.one=true) (hw:qE 300000000 qHW ws) (hf:qE 300000000 (.sl 3 1 (.int .i64)) fs) (hc:qE 300000000 (.sl 3 1 (.int .i64)) cl):qA EE 46 [.agg [n,ws,fs],cl] (dB (qGE ws fs cl)):=by
 have i_ws:=qC hw
 have i_fs:=qC hf
 refine qY0 rfl (qG.step' ?_)
 refine bS (qI rfl) ?_
 refine cS (qZE ho hw i_fs.one hc) ?_
 refine cS (qZD ho i_ws.one hf) ?_
 refine bS (qLL _ _) ?_
 refine bS zS ?_
 exact qD rfl rfl
end Go.Proofs.YtnemldklhelbeaaGreat
namespace Go.Proofs.YtnemldklhelbeaaGreat
open Go Go.Am Go.Proofs
attribute [local irreducible] Go.Am.wp Go.Am.TOp.eval
abbrev qYv:Sh:=.sl 79 2 (.st [.str,.str])
def lG (l:D):Nat->Int->D
 | 0,_=>.nil
 | n+1,id=>match l.es[pP l id]? with
  | some (.agg [_,_,_,_,.leaf (.int .i64 mn),x5,_,_])=>if 0 < x5.es.length then x5 else if mn=0 then .nil else lG l n mn
  | _=>.nil
def qFv (l:D) (id:Int):D:=lG l (l.es.length+1) id
theorem qZF {x:D} (h:qE 1048576 qYv x) (hn:0 < x.es.length):qA EE 83 [x] x:=by
 have h':=h
 simp only [qE] at h
 rcases h with rfl | ⟨es,rfl,hl,_⟩
 ·cases hn
 refine qYH rfl (qG.step' ?_)
 refine bS (d:=dB (false)) (show TOp.eval EE (.isNil false) [.sl 79 2 es]=some (dB false) by rw [qEH]) ?_
 refine jJ (t:=false) rfl ?_
 refine mZ ?_
 refine bS (d:=.sl 79 2 []) (show TOp.eval EE (.lit 79 2) []=some (.sl 79 2 []) by rw [iW]; rfl) ?_
 have ha:TOp.eval EE (.app 79 2 32) [.sl 79 2 [],.sl 79 2 es]=some (.sl 79 2 es):=by
  rw [iX]
  have hss:pT (.sl 79 2 [])=some 0:=rfl
  have hb:Nat.ble (Nat.mul (Nat.add (Nat.mul 4 (Nat.add 0 es.length)) 4000) (Nat.succ 32)) 100000000000=true:=rG (n:=0+es.length) (by omega) (by decide)
  have hz:Nat.beq es.length 0=false:=by
   have:0 < es.length:=hn
   cases he:es.length with
   | zero=>omega
   | succ n=>rfl
  simp only [hss,hb,Nat.beq_refl,Bool.true_and,cond_true,hz,cond_false,D.es,List.nil_append]
 refine bS ha ?_
 exact qD rfl rfl
theorem qDG {l:D} (hl:qE 1048576 (.sl 59 8 cJ) l):∀ (n i:Nat) (id:Int),i+n=l.es.length+1->qG EE (qA EE) qPR 1000 [dI ((l.es.length+1:Nat):Int),dI ((i:Nat):Int),l,dI id] (lG l n id)
 | 0,i,id,hi=>by
  have b_l:=qJ hl
  refine qG.step' ?_
  refine bS qK ?_
  refine iC (fun c=>?_) fun c=>?_
  ·have:=vV c; omega
  exact qD rfl rfl
 | n+1,i,id,hi=>by
  have b_l:=qJ hl
  have hB:=zQ (B':=300000000) (by decide) hl
  refine qG.step' ?_
  refine bS qK ?_
  refine iC (fun c=>?_) fun c=>?_
  ·rcases xC (id:=id) hl with ⟨x0,x2,x4,x1,x3,x5,x6,x7,h1,h3,h5,h6,h7,he,hr⟩ | ⟨he,hr⟩
   ·have i_x5:=qC h5
    have hs:lG l (n+1) id=(if 0 < x5.es.length then x5 else if x4=0 then .nil else lG l n x4):=by
     simp only [lG,he]
    rw [hs]
    refine cS (d:=.tup [.agg [dI (x0),x1,dI (x2),x3,dI (x4),x5,x6,x7],dB (true)]) (by rw [← hr]; exact qSt hB) ?_
    refine bS (zF rfl) ?_
    refine bS (zF rfl) ?_
    refine bS (qI rfl) ?_
    refine bS zZ ?_
    refine jJ (t:=false) rfl ?_
    refine mZ ?_
    refine bS (qI rfl) ?_
    refine bS (qB (off:=5) rfl i_x5.one) ?_
    refine bS (qH i_x5) ?_
    refine bS zL ?_
    refine iC (fun d=>?_) fun d=>?_
    ·have hd:0 < x5.es.length:=by have:=dT d; omega
     rw [if_pos hd]
     refine bS (qB (off:=5) rfl i_x5.one) ?_
     refine cS (qZF h5 hd) ?_
     refine bS (vY i_x5.one) ?_
     exact qD rfl rfl
    have hd:¬ 0 < x5.es.length:=by have:=dF d; omega
    rw [if_neg hd]
    refine bS (qB (off:=4) rfl rfl) ?_
    refine bS vX ?_
    refine iC (fun e=>?_) fun e=>?_
    ·rw [if_pos (dT e)]
     exact qD rfl rfl
    rw [if_neg (dF e)]
    refine bS (qB (off:=4) rfl rfl) ?_
    refine bS (d:=dI ((i+1:Nat):Int)) (qP (qM (by omega))) ?_
    exact qF rfl (qDG hl n (i+1) x4 (by omega))
   have hs:lG l (n+1) id=.nil:=by simp only [lG,he]
   rw [hs]
   refine cS (d:=.tup [aM,dB (false)]) (by rw [← hr]; exact qSt hB) ?_
   refine bS (zF rfl) ?_
   refine bS (zF rfl) ?_
   refine bS (qI rfl) ?_
   refine bS zZ ?_
   refine jJ (t:=true) rfl ?_
   refine lM ?_
   exact qD rfl rfl
  have:=zC c; omega
theorem qZO {l:D} {id:Int} (hl:qE 1048576 (.sl 59 8 cJ) l):qA EE 45 [l,dI id] (qFv l id):=by
 have i_l:=qC hl
 have b_l:=qJ hl
 refine qY1 rfl (qG.step' ?_)
 refine bS (vY i_l.one) ?_
 refine bS (vY rfl) ?_
 refine bS (qH i_l) ?_
 refine bS (d:=dI ((l.es.length+1:Nat):Int)) (qP (qM (by omega))) ?_
 exact qF rfl (qDG hl _ 0 id (by omega))
theorem qFu {l:D} (hl:qE 1048576 (.sl 59 8 cJ) l):∀ (n:Nat) (id:Int),qE 1048576 qYv (lG l n id)
 | 0,_=>wZ
 | n+1,id=>by
  rcases xC (id:=id) hl with ⟨x0,x2,x4,x1,x3,x5,x6,x7,h1,h3,h5,h6,h7,he,hr⟩ | ⟨he,hr⟩
  ·simp only [lG,he]
   split
   ·exact h5
   split
   ·exact wZ
   exact qFu hl n x4
  simp only [lG,he]; exact wZ
theorem qLA {l x:D} (h:qE 1048576 (.sl 59 8 cJ) l):∀ y∈FC l x,∃ n,y=dI n:=by
 unfold FC
 split
 ·split
  ·rename_i hs
   intro y hy
   rw [List.mem_singleton.1 hy]
   exact (eF h hs).1
  intro y hy; cases hy
 intro y hy; cases hy
theorem qGe {l x:D} (h:qE 1048576 (.sl 59 8 cJ) l):∀ y∈FB l x,∃ n,y=dI n:=by
 unfold FB
 split
 ·split
  ·rename_i hs
   intro y hy
   have:=(eF h hs).2
   simp only [qE] at this
   rcases this with rfl | ⟨es,rfl,_,ha⟩
   ·cases hy
   exact ha y hy
  intro y hy; cases hy
 intro y hy; cases hy
theorem qLz {l x:D}:(FC l x).length<=1:=by
 unfold FC
 split
 ·split <;> simp
 simp
theorem qGd {l x:D} (h:qE 1048576 (.sl 59 8 cJ) l):(FB l x).length<=1048576:=by
 unfold FB
 split
 ·split
  ·rename_i hs
   exact qJ (eF h hs).2
  simp
 simp
theorem l5 {F:D->List D} {l:List D} (h:∀ x,∀ y∈F x,∃ n,y=dI n):∀ y∈l.flatMap F,∃ n,y=dI n:=by
 intro y hy
 obtain ⟨x,_,hx⟩:=List.mem_flatMap.1 hy
 exact h x y hx
def aX (l:D):D->Int
 | .agg [.leaf (.int .i64 p0),.leaf (.int .i64 p1),.leaf (.int .i64 p2)] =>
  if (l.es[pP l p0]?).isNone then 9 else if (kZ l p0 p1).isNone then 2 else if p2 < 0∨p2≥((qFv l p0).es.length:Int) then 22 else 0
 | _=>0
def qLM (l:D):List D->Int
 | []=>0
 | x::r=>if aX l x=0 then qLM l r else aX l x
def qNa (l ws fs ps:D):Int :=
 if qGE ws fs (qV 3 1 (ps.es.flatMap (FC l)))=false then 21 else if 24 < (qV 3 1 (ps.es.flatMap (FB l))).es.length then 5 else 0
def qBD (l ws fs ps:D) (i:Nat):Int:=if qLM l (ps.es.drop i)=0 then qNa l ws fs ps else qLM l (ps.es.drop i)
def qFF (l ws fs ps:D):Int:=if ps.es.length=0 then 4 else if 4 < ps.es.length then 11 else qBD l ws fs ps 0
theorem oP {l:List D} {i:Nat} {x:D} (h:l[i]? = some x):l.drop i=x::l.drop (i+1):=by
 obtain ⟨h1,rfl⟩:=gI h
 exact List.drop_eq_getElem_cons h1
theorem qD3 {l ws fs ps:D} {i:Nat} {x:D} (h:ps.es[i]? = some x) (hp:aX l x=0):qBD l ws fs ps i=qBD l ws fs ps (i+1):=by
 unfold qBD; rw [oP h]; simp only [qLM,hp,if_true]
theorem eX {l ws fs ps:D} {i:Nat} {x:D} {e:Int} (h:ps.es[i]? = some x) (hp:aX l x=e) (he:e≠0):qBD l ws fs ps i=e:=by
 unfold qBD; rw [oP h]; simp only [qLM,hp,if_neg he]
theorem qHg {l ws fs ps:D}:qBD l ws fs ps ps.es.length=qNa l ws fs ps:=by
 unfold qBD; rw [List.drop_length]; rfl
theorem qYb {c0 c1 c2 c3 c4 n ws fs l ps:D} (ho:n.one=true) (hw:qE 300000000 qHW ws) (hf:qE 300000000 (.sl 3 1 (.int .i64)) fs) (hl:qE 1048576 (.sl 59 8 cJ) l) (hp:qE 300000000 qJg ps) (hn:ps.es.length<=20) :
  qA EE 18 [.agg [c0,c1,c2,c3,c4,n,ws,fs,l],.agg [ps]] (dI (qFF l ws fs ps)):=by
 have i_ps:=qC hp
 have b_ps:=qJ hp
 have i_l:=qC hl
 have i_ws:=qC hw
 have i_fs:=qC hf
 have hB:=zQ (B':=300000000) (by decide) hl
 have hci:∀ y∈ps.es.flatMap (FC l),∃ n,y=dI n:=l5 fun x=>qLA hl
 have hbi:∀ y∈ps.es.flatMap (FB l),∃ n,y=dI n:=l5 fun x=>qGe hl
 have hcl:(ps.es.flatMap (FC l)).length<=ps.es.length * 1:=j8 fun y _=>qLz
 have hbl:(ps.es.flatMap (FB l)).length<=ps.es.length * 1048576:=j8 fun y _=>qGd hl
 have hC:qE 300000000 (.sl 3 1 (.int .i64)) (qV 3 1 (ps.es.flatMap (FC l))):=pA (by omega) hci
 have hD:qE 300000000 (.sl 3 1 (.int .i64)) (qV 3 1 (ps.es.flatMap (FB l))):=pA (by omega) hbi
 have i_D:=qC hD
 refine qZc rfl (qG.step' ?_)
 refine bS (qI rfl) ?_
 refine bS (qI rfl) ?_
 refine bS (qB (off:=0) rfl i_ps.one) ?_
 refine bS (qH i_ps) ?_
 refine bS vX ?_
 unfold qFF
 refine iC (fun c=>?_) fun c=>?_
 ·have hc:=dT c
  rw [if_pos (by omega)]
  exact qD rfl rfl
 have hc:=dF c
 rw [if_neg (by omega)]
 refine bS (qB (off:=0) rfl i_ps.one) ?_
 refine bS (qH i_ps) ?_
 refine bS zL ?_
 refine iC (fun d=>?_) fun d=>?_
 ·have hd:=dT d
  rw [if_pos (by omega)]
  exact qD rfl rfl
 have hd:=dF d
 rw [if_neg (by omega)]
 refine bS (qB (off:=0) rfl i_ps.one) ?_
 refine bS (qH i_ps) ?_
 refine qF rfl (vK (P:=fun i=>qG EE (qA EE) qQw 1 [ps,dI ((ps.es.length:Nat):Int),dI ((i:Nat):Int),.agg [c0,c1,c2,c3,c4,n,ws,fs,l],.agg [ps]] (dI (qBD l ws fs ps i))) ps.es.length ?_ ?_)
 ·rw [qHg]
  refine qG.step' ?_
  refine bS qK ?_
  refine iC (fun e=>?_) fun e=>?_
  ·have:=vV e; omega
  refine bS (xW (off:=5) (size:=3) rfl) ?_
  refine cS (qZR (l:=l) rfl rfl hl hp hn) ?_
  refine cS (qZN ho hw hf hC) ?_
  refine bS zZ ?_
  unfold qNa
  refine iC (fun k=>?_) fun k=>?_
  ·have hk:qGE ws fs (qV 3 1 (ps.es.flatMap (FC l)))=false:=by simpa using k
   rw [if_pos hk]
   exact qD rfl rfl
  have hk:¬ qGE ws fs (qV 3 1 (ps.es.flatMap (FC l)))=false:=by simpa using k
  rw [if_neg hk]
  refine cS (qYa (l:=l) rfl rfl hl hp hn) ?_
  refine bS (d:=dI (((qV 3 1 (ps.es.flatMap (FB l))).es.length:Nat):Int)) (qH i_D) ?_
  refine bS zL ?_
  refine iC (fun m=>?_) fun m=>?_
  ·have hm:=dT m
   rw [if_pos (by omega)]
   exact qD rfl rfl
  have hm:=dF m
  rw [if_neg (by omega)]
  exact qD rfl rfl
 intro i hi ih
 obtain ⟨x,e_x⟩:=vH hi
 obtain ⟨_,rfl,_,_,rfl,⟨p0,rfl⟩,_,_,rfl,⟨p1,rfl⟩,_,_,rfl,⟨p2,rfl⟩,rfl⟩:=qN hp e_x
 have hP:aX l (.agg [dI p0,dI p1,dI p2])=if (l.es[pP l p0]?).isNone then 9 else if (kZ l p0 p1).isNone then 2 else if p2 < 0∨p2≥((qFv l p0).es.length:Int) then 22 else 0:=rfl
 refine qG.step' ?_
 refine bS qK ?_
 refine iC (fun e=>?_) fun e=>?_
 ·skip
  refine bS (qL (s:=((i:Nat):Int)) (by omega) e_x) ?_
  refine bS (z8 (s:=((i:Nat):Int)) i_ps (by omega) e_x rfl) ?_
  refine bS (qI rfl) ?_
  refine bS (qB (off:=8) rfl i_l.one) ?_
  refine bS (qB (off:=0) rfl rfl) ?_
  rcases xC (id:=p0) hl with ⟨x0,x2,x4,x1,x3,x5,x6,x7,h1,h3,h5,h6,h7,he,hr⟩ | ⟨he,hr⟩
  ·rw [he,if_neg (by simp)] at hP
   refine cS (d:=.tup [.agg [dI (x0),x1,dI (x2),x3,dI (x4),x5,x6,x7],dB (true)]) (by rw [← hr]; exact qSt hB) ?_
   refine bS (zF rfl) ?_
   refine bS (zF rfl) ?_
   refine bS (qI rfl) ?_
   refine bS zZ ?_
   refine jJ (t:=false) rfl ?_
   refine mZ ?_
   obtain ⟨y0,y2,y4,y1,y3,y5,y6,y7,w,b,q1,q2,q3,q4⟩:=qXe (g:=[c0,c1,c2,c3,c4,n,ws,fs,l]) (p0:=p0) (p1:=p1) (p2:=p2) rfl rfl hl
   refine cS q1 ?_
   refine bS (zF rfl) ?_
   refine bS (zF rfl) ?_
   refine bS (zF rfl) ?_
   refine bS (qI rfl) ?_
   refine bS zZ ?_
   refine iC (fun f=>?_) fun f=>?_
   ·have hb:b=false:=by simpa using f
    subst hb
    rw [q2,if_pos (by simp)] at hP
    exact qD rfl (by rw [eX e_x hP (by decide)]; rfl)
   have hb:b=true:=by simpa using f
   subst hb
   rw [q2,if_neg (by simp)] at hP
   refine bS (qB (off:=2) rfl rfl) ?_
   refine bS qK ?_
   refine iC (fun k=>?_) fun k=>?_
   ·have hk:=dT k
    rw [if_pos (.inl hk)] at hP
    exact qD rfl (by rw [eX e_x hP (by decide)]; rfl)
   have hk:=dF k
   have hs:=qFu hl (l.es.length+1) p0
   have i_s:=qC hs
   refine bS (qB (off:=2) rfl rfl) ?_
   refine bS (qB (off:=8) rfl i_l.one) ?_
   refine bS (qB (off:=0) rfl rfl) ?_
   refine cS (qZO hl) ?_
   refine bS (d:=dI (((qFv l p0).es.length:Nat):Int)) (qH i_s) ?_
   refine bS wE ?_
   refine iC (fun m=>?_) fun m=>?_
   ·have hm:=dT m
    rw [if_pos (.inr hm)] at hP
    exact qD rfl (by rw [eX e_x hP (by decide)]; rfl)
   have hm:=dF m
   rw [if_neg (fun h=>h.elim hk hm)] at hP
   refine bS (d:=dI ((i+1:Nat):Int)) (qP (qM (by omega))) ?_
   rw [qD3 e_x hP]
   exact qF rfl ih
  rw [he,if_pos (by simp)] at hP
  refine cS (d:=.tup [aM,dB (false)]) (by rw [← hr]; exact qSt hB) ?_
  refine bS (zF rfl) ?_
  refine bS (zF rfl) ?_
  refine bS (qI rfl) ?_
  refine bS zZ ?_
  refine jJ (t:=true) rfl ?_
  refine lM ?_
  exact qD rfl (by rw [eX e_x hP (by decide)]; rfl)
 have:=zC e; omega
end Go.Proofs.YtnemldklhelbeaaGreat
namespace Go.Proofs.YtnemldklhelbeaaGreat
open Go Go.Am Go.Proofs
attribute [local irreducible] Go.Am.wp Go.Am.TOp.eval
abbrev aK:Sh:=.sl 71 2 (.st [.str,.int .i64])
abbrev qHX:Sh:=.sl 120 2 (.st [.int .i64,.int .i64])
abbrev qVO:Sh:=.st [xT,xT,qHX,qHX,.bool,.bool]
def qVL (a b:Int):Int:=IntKind.i64.wrap ((BitVec.ofInt 64 a &&& BitVec.ofInt 64 b).toNat:Int)
theorem qHA (a b:Int) {t:TypeId} {x y:Operand}:TOp.eval EE (.bin .and t x y) [dI a,dI b]=some (dI (qVL a b)):=by rw [rQ]; rfl
def qEC (gs:D) (s:Int):Int:=match gs.es[(s - 1).toNat]? with
 | some (.agg [_,.leaf (.int .i64 f)])=>f
 | _=>0
def qCZ (gs:D) (s m v:Int):Bool:=decide (1<=s) && (decide (s<=(gs.es.length:Int)) && lW [dI m,dI v] [dI m,dI (qVL (qEC gs s) m)])
theorem qXh {gs:D} {s:Int} (hg:qE 300000000 aK gs):qA EE 131 [.agg [gs],dI s] (dB (decide (1<=s) && decide (s<=(gs.es.length:Int)))):=by
 have i_gs:=qC hg
 refine qWf rfl (qG.step' ?_)
 refine bS (qI rfl) ?_
 refine bS wE ?_
 refine iC (fun c=>?_) fun c=>?_
 ·skip
  refine bS (qB (off:=0) rfl i_gs.one) ?_
  refine bS (qH i_gs) ?_
  refine bS o7 ?_
  exact qD rfl (by have h:decide (1<=s)=true:=tD (dT c); rw [h,Bool.true_and]; rfl)
 exact qD rfl (by have h:decide (1<=s)=false:=fD (dF c); rw [h,Bool.false_and]; rfl)
theorem qSG {x y:Operand} {m v m' v':Int}:TOp.eval EE (.bin .eql 120 x y) [.agg [dI m,dI v],.agg [dI m',dI v']]=some (dB (lW [dI m,dI v] [dI m',dI v'])) :=
 qCF .eql (.inr rfl) (n:=5) (ss:=[.int .i64,.int .i64]) (by kernel_rfl) (by kernel_rfl) (by decide) (by kernel_rfl) rfl (yA rK (yA rK tB)) (yA rK (yA rK tB))
theorem qXj {gs:D} {s m v:Int} (hg:qE 300000000 aK gs):qA EE 128 [.agg [gs],dI s,.agg [dI m,dI v]] (dB (qCZ gs s m v)):=by
 have i_gs:=qC hg
 have b_gs:=qJ hg
 refine qWh rfl (qG.step' ?_)
 refine bS (qI rfl) ?_
 refine bS (qI rfl) ?_
 refine cS (qXh hg) ?_
 refine iC (fun c=>?_) fun c=>?_
 ·simp only [aE,decide_eq_true_eq] at c
  obtain ⟨x,e_x⟩:=get_at (d:=gs) (s:=s - 1) (by omega) (by omega)
  obtain ⟨_,rfl,_,_,rfl,⟨nm,rfl,_⟩,_,_,rfl,⟨f,rfl⟩,rfl⟩:=qN hg e_x
  have hf:qEC gs s=f:=by unfold qEC; rw [e_x]
  refine bS (qB (off:=0) rfl rfl) ?_
  refine bS (qB (off:=0) rfl i_gs.one) ?_
  refine bS (d:=dI (s - 1)) (lI (by omega)) ?_
  refine bS (qL (s:=s - 1) (by omega) e_x) ?_
  refine bS (z9 (s:=s - 1) (off:=1) i_gs (by omega) e_x rfl rfl (by decide)) ?_
  refine bS (qB (off:=0) rfl rfl) ?_
  refine bS (qHA _ _) ?_
  refine bS qSG ?_
  refine qD rfl ?_
  unfold qCZ
  rw [hf,tD c.1,tD c.2]
  rfl
 have hc:qCZ gs s m v=false:=by
  unfold qCZ
  rw [← Bool.and_assoc,c,Bool.false_and]
 rw [hc]
 exact qD rfl rfl
def qX7 (gs:D):D->D->Bool
 | .leaf (.int .i64 s),.agg [.leaf (.int .i64 m),.leaf (.int .i64 v)]=>qCZ gs s m v
 | _,_=>true
def oN (gs:D):List D->List D->Bool
 | x::xs,y::ys=>qX7 gs x y && oN gs xs ys
 | _,_=>true
theorem qXk {gs ks:D} {k:Nat} {s m v:Int} (hg:qE 300000000 aK gs) (hk:qE 300000000 qHX ks) (he:ks.es[k]? = some (.agg [dI m,dI v])):qA EE 118 [.agg [gs,ks],dI ((k:Nat):Int),dI s] (dB (qCZ gs s m v)):=by
 have i_gs:=qC hg
 have i_ks:=qC hk
 refine qWl rfl (qG.step' ?_)
 refine bS (qI rfl) ?_
 refine bS (xW (off:=0) (size:=1) rfl) ?_
 refine bS (qB (off:=1) rfl i_ks.one) ?_
 refine bS (qL (s:=((k:Nat):Int)) (by omega) he) ?_
 refine bS (z8 (s:=((k:Nat):Int)) i_ks (by omega) he rfl) ?_
 refine cS (qXj hg) ?_
 exact qD rfl rfl
theorem qEm {gs ks w:D} (hg:qE 300000000 aK gs) (hk:qE 300000000 qHX ks) (hw:qE 300000000 xT w) (hl:w.es.length<=ks.es.length) :
  qA EE 117 [.clo (.func 118) [] [],.agg [gs,ks],w] (dB (oN gs w.es ks.es)):=by
 have i_w:=qC hw
 have b_w:=qJ hw
 refine qWm rfl (qG.step' ?_)
 refine bS (qI rfl) ?_
 refine bS (qH i_w) ?_
 refine qF rfl (vK (P:=fun i=>qG EE (qA EE) qJV 1 [.clo (.func 118) [] [],w,dI ((w.es.length:Nat):Int),dI ((i:Nat):Int),.agg [gs,ks]] (dB (oN gs (w.es.drop i) (ks.es.drop i)))) w.es.length ?_ ?_)
 ·rw [List.drop_length]
  refine qG.step' ?_
  refine bS qK ?_
  refine iC (fun c=>?_) fun c=>?_
  ·have:=vV c; omega
  exact qD rfl (by cases ks.es.drop w.es.length <;> rfl)
 intro i hi ih
 obtain ⟨x,e_x⟩:=vH hi
 obtain ⟨s,rfl⟩:=qN hw e_x
 obtain ⟨y,e_y⟩:=vH (l:=ks) (i:=i) (by omega)
 obtain ⟨_,rfl,_,_,rfl,⟨m,rfl⟩,_,_,rfl,⟨v,rfl⟩,rfl⟩:=qN hk e_y
 have hd:oN gs (w.es.drop i) (ks.es.drop i)=(qCZ gs s m v && oN gs (w.es.drop (i+1)) (ks.es.drop (i+1))):=by
  rw [oP e_x,oP e_y]; rfl
 rw [hd]
 refine qG.step' ?_
 refine bS qK ?_
 refine iC (fun c=>?_) fun c=>?_
 ·skip
  refine bS (qL (s:=((i:Nat):Int)) (by omega) e_x) ?_
  refine bS (qO (s:=((i:Nat):Int)) i_w (by omega) e_x rfl) ?_
  refine cS (qXk hg hk e_y) ?_
  refine bS zZ ?_
  refine iC (fun d=>?_) fun d=>?_
  ·have hv:qCZ gs s m v=false:=by simpa using d
   rw [hv]
   exact qD rfl rfl
  have hv:qCZ gs s m v=true:=by simpa using d
  rw [hv,Bool.true_and]
  refine bS (d:=dI ((i+1:Nat):Int)) (qP (qM (by omega))) ?_
  exact qF rfl ih
 have:=zC c; omega
def qRa (x:Int):D->Bool
 | .leaf (.int .i64 n)=>decide (x=n)
 | _=>false
def lC (l:D) (x:Int):Nat:=l.es.findIdx (qRa x)
def qQ8 (l:D) (x:Int):Int:=if lC l x < l.es.length then (lC l x:Int) else -1
theorem qLg {l:D} {x:Int} {i:Nat} {e:D} (h:i<=lC l x) (he:l.es[i]? = some e) (hp:qRa x e=true):lC l x=i:=by
 rcases Nat.lt_or_eq_of_le h with h | h
 ·have hn:=List.not_of_lt_findIdx h
  have:=(gI he).2
  rw [this,hp] at hn
  cases hn
 exact h.symm
theorem qHl {l:D} {x:Int} {i:Nat} {e:D} (h:i<=lC l x) (he:l.es[i]? = some e) (hp:qRa x e=false):i+1<=lC l x:=by
 rcases Nat.lt_or_eq_of_le h with h | h
 ·exact h
 have hl:=(gI he).1
 have h2:l.es.findIdx (qRa x) < l.es.length:=by show lC l x < _; omega
 have:=List.findIdx_getElem (w:=h2)
 have e2:l.es[l.es.findIdx (qRa x)]=e:=by
  have:l.es[l.es.findIdx (qRa x)]? = some e:=by rw [← he,h]; rfl
  exact (gI this).2
 rw [e2,hp] at this
 cases this
theorem qVn {l:D} {x:Int} (hl:qE 300000000 xT l):qA EE 101 [l,dI x] (dI (qQ8 l x)):=by
 have i_l:=qC hl
 have b_l:=qJ hl
 refine qWu rfl (qG.step' ?_)
 refine bS (qH i_l) ?_
 refine qF rfl (vK (P:=fun i=>i<=lC l x->qG EE (qA EE) qKc 1 [l,dI x,dI ((l.es.length:Nat):Int),dI ((i:Nat):Int)] (dI (qQ8 l x))) l.es.length ?_ ?_ (Nat.zero_le _))
 ·intro hle
  refine qG.step' ?_
  refine bS qK ?_
  refine iC (fun c=>?_) fun c=>?_
  ·have:=vV c; omega
  exact qD rfl (by unfold qQ8; rw [if_neg (by omega)]; rfl)
 intro i hi ih hle
 obtain ⟨y,e_y⟩:=vH hi
 obtain ⟨n,rfl⟩:=qN hl e_y
 refine qG.step' ?_
 refine bS qK ?_
 refine iC (fun c=>?_) fun c=>?_
 ·skip
  refine bS (qL (s:=((i:Nat):Int)) (by omega) e_y) ?_
  refine bS (qO (s:=((i:Nat):Int)) i_l (by omega) e_y rfl) ?_
  refine bS vX ?_
  refine iC (fun d=>?_) fun d=>?_
  ·have h:=qLg hle e_y d
   exact qD rfl (by unfold qQ8; rw [h,if_pos hi]; rfl)
  refine bS (d:=dI ((i+1:Nat):Int)) (qP (qM (by omega))) ?_
  exact qF rfl (ih (qHl hle e_y d))
 have:=zC c; omega
theorem qXl {l:D} {x:Int} (hl:qE 300000000 xT l):qA EE 116 [l,dI x] (dB (decide (lC l x < l.es.length))):=by
 have h127:qA EE 127 [l,dI x] (dB (decide (lC l x < l.es.length))):=by
  refine qWi rfl (qG.step' ?_)
  refine cS (qVn hl) ?_
  refine bS wE ?_
  refine qD rfl ?_
  by_cases h:lC l x < l.es.length
  ·rw [tD h]
   exact congrArg (fun b=>dB b) (tD (by unfold qQ8; rw [if_pos h]; omega))
  rw [fD h]
  exact congrArg (fun b=>dB b) (fD (by unfold qQ8; rw [if_neg h]; omega))
 refine qWn rfl (qG.step' ?_)
 refine cS h127 ?_
 exact qD rfl rfl
def yL (w:D) (a b:Nat):D:=match w with
 | .sl el sz es=>.sl el sz ((es.drop a).take (b - a))
 | d=>d
theorem qKo {el sz:Nat} {e:Sh} {w:D} {a b:Nat} (hw:qE 300000000 (.sl el sz e) w) (h1:a<=b) (h2:b<=w.es.length):TOp.eval EE (.slc el sz true true) [w,dI ((a:Nat):Int),dI ((b:Nat):Int)]=some (yL w a b):=by
 simp only [qE] at hw
 rcases hw with rfl | ⟨es,rfl,_,_⟩
 ·have hb:b=0:=by simpa [D.es] using h2
  subst hb
  have ha:a=0:=by omega
  subst ha
  rw [oB]; rfl
 have h2:b<=es.length:=h2
 rw [oB]
 have e1:vR true 0 [dI ((a:Nat):Int),dI ((b:Nat):Int)]=some (a,[dI ((b:Nat):Int)]):=rfl
 have e2:vR true es.length [dI ((b:Nat):Int)]=some (b,[]):=rfl
 simp only [e1,e2,Nat.beq_refl,bL h1,bL h2,Bool.and_self,cond_true,yL]
theorem uI {el sz:Nat} {e:Sh} {w:D} {a b:Nat} (hw:qE 300000000 (.sl el sz e) w):(yL w a b).es=(w.es.drop a).take (b - a):=by
 simp only [qE] at hw
 rcases hw with rfl | ⟨es,rfl,_,_⟩
 ·simp [yL,D.es]
 rfl
theorem uH {el sz:Nat} {e:Sh} {w:D} {a b:Nat} (hw:qE 300000000 (.sl el sz e) w):qE 300000000 (.sl el sz e) (yL w a b):=by
 have h0:=hw
 simp only [qE] at hw
 rcases hw with rfl | ⟨es,rfl,h1,h2⟩
 ·exact h0
 exact rB (by have:=List.length_take_le (b - a) (es.drop a); simp only [List.length_take,List.length_drop]; omega) fun x hx=>h2 x (List.mem_of_mem_drop (List.mem_of_mem_take hx))
def cD (gs fr lf rg:D) (bg en:Bool) (w:D) (i:Nat) (s:Int):Bool :=
 if ¬ lC fr s < fr.es.length then false
 else if i < lf.es.length then false
 else if w.es.length < i+1+rg.es.length then false
 else if bg=true/\lf.es.length < i then false
 else if en=true/\i+1+rg.es.length < w.es.length then false
 else oN gs ((w.es.drop (i - lf.es.length)).take lf.es.length) lf.es && oN gs ((w.es.drop (i+1)).take rg.es.length) rg.es
theorem qXn {gs fr to lf rg w:D} {bg en:Bool} {i:Nat} {s:Int} (hg:qE 300000000 aK gs) (hfr:qE 300000000 xT fr) (hlf:qE 300000000 qHX lf) (hrg:qE 300000000 qHX rg) (hw:qE 300000000 xT w) (he:w.es[i]? = some (dI s)) :
  qA EE 100 [.agg [gs],.agg [fr,to,lf,rg,dB bg,dB en],w,dI ((i:Nat):Int)] (dB (cD gs fr lf rg bg en w i s)):=by
 have i_gs:=qC hg
 have i_fr:=qC hfr
 have i_lf:=qC hlf
 have i_rg:=qC hrg
 have i_w:=qC hw
 have b_lf:=qJ hlf
 have b_rg:=qJ hrg
 have b_w:=qJ hw
 have hi:i < w.es.length:=(gI he).1
 refine qWv rfl (qG.step' ?_)
 refine bS (qI rfl) ?_
 refine bS (qI rfl) ?_
 refine bS (qB (off:=2) rfl i_lf.one) ?_
 refine bS (qH i_lf) ?_
 refine bS (d:=dI (((i:Nat):Int) - ((lf.es.length:Nat):Int))) (lI (by omega)) ?_
 refine bS (d:=dI ((i+1:Nat):Int)) (qP (qM (by omega))) ?_
 refine bS (qB (off:=3) rfl i_rg.one) ?_
 refine bS (qH i_rg) ?_
 refine bS (d:=dI (((i+1:Nat):Int)+((rg.es.length:Nat):Int))) (xF (by omega)) ?_
 refine bS (qB (off:=0) rfl i_fr.one) ?_
 refine bS (qL (s:=((i:Nat):Int)) (by omega) he) ?_
 refine bS (qO (s:=((i:Nat):Int)) i_w (by omega) he rfl) ?_
 refine cS (qXl hfr) ?_
 refine bS zZ ?_
 unfold cD
 refine iC (fun c1=>?_) fun c1=>?_
 ·have h1:¬ lC fr s < fr.es.length:=by simpa using c1
  rw [if_pos h1]
  exact qD rfl rfl
 have h1:¬ ¬ lC fr s < fr.es.length:=by simpa using c1
 rw [if_neg h1]
 refine bS qK ?_
 refine iC (fun c2=>?_) fun c2=>?_
 ·have h2:=dT c2
  rw [if_pos (by omega)]
  exact qD rfl rfl
 have h2:=dF c2
 rw [if_neg (by omega)]
 refine bS (qH i_w) ?_
 refine bS zL ?_
 refine iC (fun c3=>?_) fun c3=>?_
 ·have h3:=dT c3
  rw [if_pos (by omega)]
  exact qD rfl rfl
 have h3:=dF c3
 rw [if_neg (by omega)]
 have hfrom:((i:Nat):Int) - ((lf.es.length:Nat):Int)=((i - lf.es.length:Nat):Int):=by omega
 have hto:((i+1:Nat):Int)+((rg.es.length:Nat):Int)=((i+1+rg.es.length:Nat):Int):=by omega
 have hA:qE 300000000 xT (yL w (i - lf.es.length) i):=uH hw
 have i_A:=qC hA
 have eA:(yL w (i - lf.es.length) i).es=(w.es.drop (i - lf.es.length)).take lf.es.length:=by rw [uI hw]; congr 1; omega
 have lA:(yL w (i - lf.es.length) i).es.length=lf.es.length:=by rw [eA,List.length_take,List.length_drop]; omega
 have hR:qE 300000000 xT (yL w (i+1) (i+1+rg.es.length)):=uH hw
 have i_R:=qC hR
 have eR:(yL w (i+1) (i+1+rg.es.length)).es=(w.es.drop (i+1)).take rg.es.length:=by rw [uI hw]; congr 1; omega
 have lR:(yL w (i+1) (i+1+rg.es.length)).es.length=rg.es.length:=by rw [eR,List.length_take,List.length_drop]; omega
 have s1:TOp.eval EE (.slc 3 1 true true) [w,dI (((i:Nat):Int) - ((lf.es.length:Nat):Int)),dI ((i:Nat):Int)]=some (yL w (i - lf.es.length) i):=by
  rw [hfrom]; exact qKo (a:=i - lf.es.length) (b:=i) hw (by omega) (by omega)
 have s2:TOp.eval EE (.slc 3 1 true true) [w,dI ((i+1:Nat):Int),dI (((i+1:Nat):Int)+((rg.es.length:Nat):Int))]=some (yL w (i+1) (i+1+rg.es.length)):=by
  rw [hto]; exact qKo (a:=i+1) (b:=i+1+rg.es.length) hw (by omega) (by omega)
 refine bS (qB (off:=4) rfl rfl) ?_
 refine iC (fun c4=>?_) fun c4=>?_
 ·skip
  refine bS zL ?_
  refine iC (fun c5=>?_) fun c5=>?_
  ·have h5:=dT c5
   rw [if_pos ⟨c4,by omega⟩]
   exact qD rfl rfl
  have h5:=dF c5
  rw [if_neg (by omega)]
  refine bS (qB (off:=5) rfl rfl) ?_
  refine iC (fun c6=>?_) fun c6=>?_
  ·skip
   refine bS (qH i_w) ?_
   refine bS qK ?_
   refine iC (fun c7=>?_) fun c7=>?_
   ·have h7:=dT c7
    rw [if_pos ⟨c6,by omega⟩]
    exact qD rfl rfl
   have h7:=dF c7
   rw [if_neg (by omega)]
   refine bS (qB (off:=2) rfl i_lf.one) ?_
   refine bS (qI rfl) ?_
   refine bS (qB (off:=0) rfl i_gs.one) ?_
   refine bS s1 ?_
   refine cS (d:=dB (oN gs (yL w (i - lf.es.length) i).es lf.es)) (qEm hg hlf hA (by rw [lA]; exact zT _)) ?_
   refine iC (fun z=>?_) fun z=>?_
   ·rw [eA] at z
    rw [z,Bool.true_and]
    refine bS (qB (off:=3) rfl i_rg.one) ?_
    refine bS (qI rfl) ?_
    refine bS (qB (off:=0) rfl i_gs.one) ?_
    refine bS (d:=dI ((i+1:Nat):Int)) (qP (qM (by omega))) ?_
    refine bS s2 ?_
    refine cS (d:=dB (oN gs (yL w (i+1) (i+1+rg.es.length)).es rg.es)) (qEm hg hrg hR (by rw [lR]; exact zT _)) ?_
    rw [← eR]
    exact qD rfl rfl
   rw [eA] at z
   rw [z,Bool.false_and]
   exact qD rfl rfl
  rw [if_neg (by rw [c6]; simp)]
  refine bS (qB (off:=2) rfl i_lf.one) ?_
  refine bS (qI rfl) ?_
  refine bS (qB (off:=0) rfl i_gs.one) ?_
  refine bS s1 ?_
  refine cS (d:=dB (oN gs (yL w (i - lf.es.length) i).es lf.es)) (qEm hg hlf hA (by rw [lA]; exact zT _)) ?_
  refine iC (fun z=>?_) fun z=>?_
  ·rw [eA] at z
   rw [z,Bool.true_and]
   refine bS (qB (off:=3) rfl i_rg.one) ?_
   refine bS (qI rfl) ?_
   refine bS (qB (off:=0) rfl i_gs.one) ?_
   refine bS (d:=dI ((i+1:Nat):Int)) (qP (qM (by omega))) ?_
   refine bS s2 ?_
   refine cS (d:=dB (oN gs (yL w (i+1) (i+1+rg.es.length)).es rg.es)) (qEm hg hrg hR (by rw [lR]; exact zT _)) ?_
   rw [← eR]
   exact qD rfl rfl
  rw [eA] at z
  rw [z,Bool.false_and]
  exact qD rfl rfl
 rw [if_neg (by rw [c4]; simp)]
 refine bS (qB (off:=5) rfl rfl) ?_
 refine iC (fun c6=>?_) fun c6=>?_
 ·skip
  refine bS (qH i_w) ?_
  refine bS qK ?_
  refine iC (fun c7=>?_) fun c7=>?_
  ·have h7:=dT c7
   rw [if_pos ⟨c6,by omega⟩]
   exact qD rfl rfl
  have h7:=dF c7
  rw [if_neg (by omega)]
  refine bS (qB (off:=2) rfl i_lf.one) ?_
  refine bS (qI rfl) ?_
  refine bS (qB (off:=0) rfl i_gs.one) ?_
  refine bS s1 ?_
  refine cS (d:=dB (oN gs (yL w (i - lf.es.length) i).es lf.es)) (qEm hg hlf hA (by rw [lA]; exact zT _)) ?_
  refine iC (fun z=>?_) fun z=>?_
  ·rw [eA] at z
   rw [z,Bool.true_and]
   refine bS (qB (off:=3) rfl i_rg.one) ?_
   refine bS (qI rfl) ?_
   refine bS (qB (off:=0) rfl i_gs.one) ?_
   refine bS (d:=dI ((i+1:Nat):Int)) (qP (qM (by omega))) ?_
   refine bS s2 ?_
   refine cS (d:=dB (oN gs (yL w (i+1) (i+1+rg.es.length)).es rg.es)) (qEm hg hrg hR (by rw [lR]; exact zT _)) ?_
   rw [← eR]
   exact qD rfl rfl
  rw [eA] at z
  rw [z,Bool.false_and]
  exact qD rfl rfl
 rw [if_neg (by rw [c6]; simp)]
 refine bS (qB (off:=2) rfl i_lf.one) ?_
 refine bS (qI rfl) ?_
 refine bS (qB (off:=0) rfl i_gs.one) ?_
 refine bS s1 ?_
 refine cS (d:=dB (oN gs (yL w (i - lf.es.length) i).es lf.es)) (qEm hg hlf hA (by rw [lA]; exact zT _)) ?_
 refine iC (fun z=>?_) fun z=>?_
 ·rw [eA] at z
  rw [z,Bool.true_and]
  refine bS (qB (off:=3) rfl i_rg.one) ?_
  refine bS (qI rfl) ?_
  refine bS (qB (off:=0) rfl i_gs.one) ?_
  refine bS (d:=dI ((i+1:Nat):Int)) (qP (qM (by omega))) ?_
  refine bS s2 ?_
  refine cS (d:=dB (oN gs (yL w (i+1) (i+1+rg.es.length)).es rg.es)) (qEm hg hrg hR (by rw [lR]; exact zT _)) ?_
  rw [← eR]
  exact qD rfl rfl
 rw [eA] at z
 rw [z,Bool.false_and]
 exact qD rfl rfl
end Go.Proofs.YtnemldklhelbeaaGreat
namespace Go.Proofs.YtnemldklhelbeaaGreat
open Go Go.Am Go.Proofs
attribute [local irreducible] Go.Am.wp Go.Am.TOp.eval
def s6 (gs fr to lf rg:D) (bg en:Bool) (w:D) (i:Nat):List D:=match w.es[i]? with
 | some (.leaf (.int .i64 s))=>if cD gs fr lf rg bg en w i s=true then (match to.es[lC fr s]? with
   | some (.leaf (.int .i64 t))=>if t=0 then [] else [dI t]
   | _=>[]) else [dI s]
 | _=>[]
theorem qMs {gs fr to lf rg:D} {bg en:Bool} {w:D} (i:Nat):(s6 gs fr to lf rg bg en w i).length<=1:=by
 unfold s6
 split
 ·split
  ·split
   ·split <;> simp
   simp
  simp
 simp
theorem qMt {gs fr to lf rg:D} {bg en:Bool} {w:D} (i:Nat):∀ y∈s6 gs fr to lf rg bg en w i,∃ n,y=dI n:=by
 unfold s6
 intro y hy
 split at hy
 ·split at hy
  ·split at hy
   ·split at hy
    ·cases hy
    exact ⟨_,List.mem_singleton.1 hy⟩
   cases hy
  exact ⟨_,List.mem_singleton.1 hy⟩
 cases hy
def aJ (gs fr to lf rg:D) (bg en:Bool) (w:D) (n:Nat):List D:=(List.range n).flatMap (s6 gs fr to lf rg bg en w)
def qBl (gs fr to lf rg:D) (bg en:Bool) (w:D):D:=qV 3 1 (aJ gs fr to lf rg bg en w w.es.length)
theorem qBk {gs fr to lf rg:D} {bg en:Bool} {w:D} {n:Nat}:aJ gs fr to lf rg bg en w (n+1)=aJ gs fr to lf rg bg en w n++s6 gs fr to lf rg bg en w n:=by
 unfold aJ; rw [List.range_succ,List.flatMap_append]; simp
theorem fS {gs fr to lf rg:D} {bg en:Bool} {w:D}:∀ n:Nat,(aJ gs fr to lf rg bg en w n).length<=n
 | 0=>zT _
 | n+1=>by
  have:=fS (gs:=gs) (fr:=fr) (to:=to) (lf:=lf) (rg:=rg) (bg:=bg) (en:=en) (w:=w) n
  have:=qMs (gs:=gs) (fr:=fr) (to:=to) (lf:=lf) (rg:=rg) (bg:=bg) (en:=en) (w:=w) n
  rw [qBk,List.length_append]; omega
theorem qOw {gs fr to lf rg:D} {bg en:Bool} {w:D} {n:Nat}:∀ y∈aJ gs fr to lf rg bg en w n,∃ m,y=dI m:=by
 intro y hy
 obtain ⟨i,_,h⟩:=List.mem_flatMap.1 hy
 exact qMt i y h
theorem qMq {gs fr to lf rg:D} {bg en:Bool} {w:D}:(qBl gs fr to lf rg bg en w).es.length<=w.es.length:=by
 unfold qBl; rw [gN]; exact fS _
theorem qOA {gs fr to lf rg:D} {bg en:Bool} {w:D} (h:w.es.length<=300000000):qE 300000000 xT (qBl gs fr to lf rg bg en w) :=
 pA (lT (fS _) h) qOw
theorem fR {l:List D} {t:Int} (h:l.length+1<=300000000):TOp.eval EE (.app 3 1 8) [qV 3 1 l,.sl 3 1 [dI t]]=some (qV 3 1 (l++[dI t])) :=
 gD (B:=300000000) (e:=.int .i64) (rB (show 1<=300000000 by decide) fun x hx=>by rw [List.mem_singleton.1 hx]; exact ⟨t,rfl⟩) (by decide) h
theorem qZI {gs fr to lf rg w:D} {bg en:Bool} (hg:qE 300000000 aK gs) (hfr:qE 300000000 xT fr) (hto:qE 300000000 xT to) (hlf:qE 300000000 qHX lf) (hrg:qE 300000000 qHX rg) (hw:qE 300000000 xT w) (hl:to.es.length=fr.es.length) :
  qA EE 74 [.agg [gs],.agg [fr,to,lf,rg,dB bg,dB en],w] (qBl gs fr to lf rg bg en w):=by
 have i_w:=qC hw
 have i_fr:=qC hfr
 have i_to:=qC hto
 have b_w:=qJ hw
 refine qYP rfl (qG.step' ?_)
 refine bS (qI rfl) ?_
 refine bS (qI rfl) ?_
 refine bS (qH i_w) ?_
 refine qF rfl (vK (P:=fun i=>qG EE (qA EE) qPm 1 [w,qV 3 1 (aJ gs fr to lf rg bg en w i),dI ((w.es.length:Nat):Int),dI ((i:Nat):Int),.agg [gs],.agg [fr,to,lf,rg,dB bg,dB en]] (qBl gs fr to lf rg bg en w)) w.es.length ?_ ?_)
 ·refine qG.step' ?_
  refine bS qK ?_
  refine iC (fun c=>?_) fun c=>?_
  ·have:=vV c; omega
  exact qD rfl rfl
 intro i hi ih
 obtain ⟨x,e_x⟩:=vH hi
 obtain ⟨s,rfl⟩:=qN hw e_x
 have hal:=fS (gs:=gs) (fr:=fr) (to:=to) (lf:=lf) (rg:=rg) (bg:=bg) (en:=en) (w:=w) i
 have hI:s6 gs fr to lf rg bg en w i=if cD gs fr lf rg bg en w i s=true then (match to.es[lC fr s]? with
  | some (.leaf (.int .i64 t))=>if t=0 then [] else [dI t]
  | _=>[]) else [dI s]:=by unfold s6; rw [e_x]
 rw [qBk] at ih
 refine qG.step' ?_
 refine bS qK ?_
 refine iC (fun c=>?_) fun c=>?_
 ·skip
  refine bS (qL (s:=((i:Nat):Int)) (by omega) e_x) ?_
  refine bS (qO (s:=((i:Nat):Int)) i_w (by omega) e_x rfl) ?_
  refine cS (qXn (s:=s) hg hfr hlf hrg hw e_x) ?_
  refine iC (fun d=>?_) fun d=>?_
  ·have hix:lC fr s < fr.es.length:=by
    have h:=d
    unfold cD at h
    split at h
    ·cases h
    rename_i h2; simpa using h2
   have hv:qQ8 fr s=((lC fr s:Nat):Int):=by unfold qQ8; rw [if_pos hix]
   obtain ⟨y,e_y⟩:=vH (l:=to) (i:=lC fr s) (by omega)
   obtain ⟨t,rfl⟩:=qN hto e_y
   rw [if_pos d,e_y] at hI
   simp only at hI
   refine bS (qB (off:=1) rfl i_to.one) ?_
   refine bS (qB (off:=0) rfl i_fr.one) ?_
   refine cS (d:=dI ((lC fr s:Nat):Int)) (by rw [← hv]; exact qVn hfr) ?_
   refine bS (qL (s:=((lC fr s:Nat):Int)) (by omega) e_y) ?_
   refine bS (qO (s:=((lC fr s:Nat):Int)) i_to (by omega) e_y rfl) ?_
   refine bS vX ?_
   refine iC (fun e=>?_) fun e=>?_
   ·rw [hI,if_pos (dT e),List.append_nil] at ih
    refine bS (d:=dI ((i+1:Nat):Int)) (qP (qM (by omega))) ?_
    exact qF rfl ih
   rw [hI,if_neg (dF e)] at ih
   refine bS (vY rfl) ?_
   refine bS (wU rfl) ?_
   refine bS (d:=qV 3 1 (aJ gs fr to lf rg bg en w i++[dI t])) (fR (by omega)) ?_
   refine bS (d:=dI ((i+1:Nat):Int)) (qP (qM (by omega))) ?_
   exact qF rfl ih
  rw [hI,if_neg (by rw [d]; simp)] at ih
  refine bS (vY rfl) ?_
  refine bS (wU rfl) ?_
  refine bS (d:=qV 3 1 (aJ gs fr to lf rg bg en w i++[dI s])) (fR (by omega)) ?_
  refine bS (d:=dI ((i+1:Nat):Int)) (qP (qM (by omega))) ?_
  exact qF rfl ih
 have:=zC c; omega
def sZ (gs:D) (w:D):D->D
 | .agg [fr,to,lf,rg,.leaf (.bool bg),.leaf (.bool en)]=>qBl gs fr to lf rg bg en w
 | _=>w
def qEb (gs rs w:D):D:=rs.es.foldl (sZ gs) w
def qVX:D->Prop
 | .agg [fr,to,_,_,_,_]=>to.es.length=fr.es.length
 | _=>True
theorem qOB {gs w r:D} (h:qE 300000000 xT w):qE 300000000 xT (sZ gs w r)/\(sZ gs w r).es.length<=w.es.length:=by
 unfold sZ
 split
 ·exact ⟨qOA (qJ h),qMq⟩
 exact ⟨h,zT _⟩
theorem iL {gs:D}:∀ (rs:List D) {w:D},qE 300000000 xT w->qE 300000000 xT (rs.foldl (sZ gs) w)/\(rs.foldl (sZ gs) w).es.length<=w.es.length
 | [],_,h=>⟨h,zT _⟩
 | r::rs,w,h=>by
  obtain ⟨h1,h2⟩:=qOB (gs:=gs) (r:=r) h
  obtain ⟨h3,h4⟩:=iL (gs:=gs) rs h1
  exact ⟨h3,lT h4 h2⟩
theorem qZP {gs rs w:D} (hg:qE 300000000 aK gs) (hr:qE 300000000 (.sl 77 6 qVO) rs) (hw:qE 300000000 xT w) (ho:∀ r∈rs.es,qVX r):qA EE 39 [.agg [gs],rs,w] (qEb gs rs w):=by
 have i_rs:=qC hr
 have b_rs:=qJ hr
 refine qY6 rfl (qG.step' ?_)
 refine bS (qI rfl) ?_
 refine bS (qH i_rs) ?_
 refine qF rfl (vK (P:=fun i=>qG EE (qA EE) qP3 1 [(rs.es.take i).foldl (sZ gs) w,rs,dI ((rs.es.length:Nat):Int),dI ((i:Nat):Int),.agg [gs]] (qEb gs rs w)) rs.es.length ?_ ?_)
 ·refine qG.step' ?_
  refine bS qK ?_
  refine iC (fun c=>?_) fun c=>?_
  ·have:=vV c; omega
  exact qD rfl (by rw [List.take_length]; rfl)
 intro i hi ih
 obtain ⟨x,e_x⟩:=vH hi
 have hox:=ho x (List.mem_of_getElem? e_x)
 obtain ⟨_,rfl,fr,_,rfl,hfr,to,_,rfl,hto,lf,_,rfl,hlf,rg,_,rfl,hrg,_,_,rfl,⟨bg,rfl⟩,_,_,rfl,⟨en,rfl⟩,rfl⟩:=qN hr e_x
 rw [yV e_x] at ih
 have hwi:=(iL (gs:=gs) (rs.es.take i) hw).1
 refine qG.step' ?_
 refine bS qK ?_
 refine iC (fun c=>?_) fun c=>?_
 ·skip
  refine bS (qL (s:=((i:Nat):Int)) (by omega) e_x) ?_
  refine bS (z8 (s:=((i:Nat):Int)) i_rs (by omega) e_x rfl) ?_
  refine bS (qI rfl) ?_
  refine cS (qZI hg hfr hto hlf hrg hwi hox) ?_
  refine bS (d:=dI ((i+1:Nat):Int)) (qP (qM (by omega))) ?_
  exact qF rfl ih
 have:=zC c; omega
def qBh (l ps:D):D:=qV 3 1 (ps.es.flatMap (FB l))
def qBF (gs rs l ws fs ps:D):D × Int :=
 if qFF l ws fs ps≠0 then (.nil,qFF l ws fs ps) else if (qEb gs rs (qBh l ps)).es.length=0 then (.nil,23) else (qEb gs rs (qBh l ps),0)
theorem qDj {l ps:D} (hl:qE 1048576 (.sl 59 8 cJ) l) (hn:ps.es.length<=20):qE 300000000 xT (qBh l ps):=by
 have hbi:∀ y∈ps.es.flatMap (FB l),∃ n,y=dI n:=l5 fun x=>qGe hl
 have hbl:(ps.es.flatMap (FB l)).length<=ps.es.length * 1048576:=j8 fun y _=>qGd hl
 exact pA (by omega) hbi
theorem qZT {gs c1 c2 c3 rs n ws fs l ps:D} (hg:qE 300000000 aK gs) (hr:qE 300000000 (.sl 77 6 qVO) rs) (ho:∀ r∈rs.es,qVX r) (hno:n.one=true) (hw:qE 300000000 qHW ws) (hf:qE 300000000 (.sl 3 1 (.int .i64)) fs) (hl:qE 1048576 (.sl 59 8 cJ) l) (hp:qE 300000000 qJg ps) (hn:ps.es.length<=20) :
  qA EE 14 [.agg [gs,c1,c2,c3,rs,n,ws,fs,l],.agg [ps]] (.tup [(qBF gs rs l ws fs ps).1,dI (qBF gs rs l ws fs ps).2]):=by
 have i_rs:=qC hr
 have hB:=qDj hl hn
 have i_last:=qC (iL (gs:=gs) rs.es hB).1
 unfold qBF
 refine qZe rfl (qG.step' ?_)
 refine bS (qI rfl) ?_
 refine bS (qI rfl) ?_
 refine cS (qYb hno hw hf hl hp hn) ?_
 refine bS zS ?_
 refine iC (fun c=>?_) fun c=>?_
 ·rw [if_pos (dT c)]
  exact zW rfl rfl
 rw [if_neg (dF c)]
 refine bS (xW (off:=0) (size:=1) rfl) ?_
 refine bS (qB (off:=4) rfl i_rs.one) ?_
 refine cS (qYa (l:=l) rfl rfl hl hp hn) ?_
 refine cS (qZP hg hr hB ho) ?_
 refine bS (d:=dI (((qEb gs rs (qBh l ps)).es.length:Nat):Int)) (qH i_last) ?_
 refine bS vX ?_
 refine iC (fun d=>?_) fun d=>?_
 ·have hd:=dT d
  rw [if_pos (by omega)]
  exact zW rfl rfl
 have hd:=dF d
 rw [if_neg (by omega)]
 exact zW rfl rfl
end Go.Proofs.YtnemldklhelbeaaGreat
