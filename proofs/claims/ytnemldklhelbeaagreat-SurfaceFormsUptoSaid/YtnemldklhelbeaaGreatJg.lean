/- What a net accepts, by the program: sets of states as bits. Conditions: none. -/
import Derived.Test.YtnemldklhelbeaaGreatJf
set_option linter.unusedVariables false
set_option linter.unusedSimpArgs false
namespace Go.Proofs.YtnemldklhelbeaaGreat
open Go Go.Am Go.Proofs
attribute [local irreducible] Go.Am.wp Go.Am.TOp.eval
theorem vK {P:Nat->Prop} (N:Nat) (last:P N) (step:∀ i,i < N->P (i+1)->P i):P 0:=by
 have go:∀ m i,i+m=N->P i:=by
  intro m
  induction m with
  | zero =>
   intro i h
   have:i=N:=by omega
   subst this
   exact last
  | succ m ih =>
   intro i h
   exact step i (by omega) (ih (i+1) (by omega))
 exact go N 0 (by omega)
theorem yV {α β:Type} {f:α->β->α} {a:α} {l:List β} {i:Nat} {x:β} (h:l[i]? = some x):(l.take (i+1)).foldl f a=f ((l.take i).foldl f a) x:=by
 rw [List.take_add_one,h,List.foldl_append]; rfl
theorem vH {l:D} {i:Nat} (h:i < l.es.length):∃ x,l.es[i]? = some x:=⟨_,List.getElem?_eq_getElem h⟩
theorem vV {a b:Nat} (h:decide (((a:Nat):Int) < ((b:Nat):Int))=true):a < b:=by have:=dT h; omega
theorem zC {a b:Nat} (h:decide (((a:Nat):Int) < ((b:Nat):Int))=false):b<=a:=by have:=dF h; omega
abbrev dU (n:Int):D:=.leaf (.int .u32 n)
def qX1 (q:Int):Nat:=Nat.min (IntKind.u64.wrap q).toNat 32
def qJe (a b:Int):Int:=IntKind.u32.wrap ((BitVec.ofInt 32 a &&& BitVec.ofInt 32 b).toNat:Int)
def qX3 (a b:Int):Int:=IntKind.u32.wrap ((BitVec.ofInt 32 a ||| BitVec.ofInt 32 b).toNat:Int)
def rO (m q:Int):Bool:=decide (qJe (m.fdiv (2 ^ qX1 q)) 1=1)
def oE (m q:Int):Int:=qX3 m (IntKind.u32.wrap (1 * 2 ^ qX1 q))
theorem qGN (q:Int):¬ (IntKind.u64.wrap q < 0):=by
 have h:IntKind.u64.wrap q=q % 18446744073709551616:=by
  simp [IntKind.wrap,IntKind.signed,IntKind.bits]
 rw [h]
 have:=Int.emod_nonneg q (b:=18446744073709551616) (by decide)
 omega
theorem qLZ (q:Int):TOp.eval EE (.conv 3 193) [dI q]=some (.leaf (.int .u64 (IntKind.u64.wrap q))):=by kernel_rfl
theorem qSF (m s:Int) (h:¬ s < 0) {x y:Operand}:TOp.eval EE (.bin .shr 152 x y) [dU m,.leaf (.int .u64 s)]=some (dU (m.fdiv (2 ^ Nat.min s.toNat 32))):=by
 have e:yE EE .shr 152 x y (.int .u32 m) (.int .u64 s)=flat? (qT EE.prog (Op.shift .shr .u32 m .u64 s)):=rfl
 rw [rQ]
 show nL (yE EE .shr 152 x y (.int .u32 m) (.int .u64 s))=_
 rw [e,Op.shift,if_neg h]
 rfl
theorem qSG (m s:Int) (h:¬ s < 0) {x y:Operand}:TOp.eval EE (.bin .shl 152 x y) [dU m,.leaf (.int .u64 s)]=some (dU (IntKind.u32.wrap (m * 2 ^ Nat.min s.toNat 32))):=by
 have e:yE EE .shl 152 x y (.int .u32 m) (.int .u64 s)=flat? (qT EE.prog (Op.shift .shl .u32 m .u64 s)):=rfl
 rw [rQ]
 show nL (yE EE .shl 152 x y (.int .u32 m) (.int .u64 s))=_
 rw [e,Op.shift,if_neg h]
 rfl
theorem qLM (a b:Int) {x y:Operand}:TOp.eval EE (.bin .and 152 x y) [dU a,dU b]=some (dU (qJe a b)):=by rw [rQ]; rfl
theorem qVr (a b:Int) {x y:Operand}:TOp.eval EE (.bin .or 152 x y) [dU a,dU b]=some (dU (qX3 a b)):=by rw [rQ]; rfl
theorem qXj (m q:Int):qA EE 130 [dU m,dI q] (dB (rO m q)):=by
 refine qWh rfl (qG.step' ?_)
 refine bS (qLZ q) ?_
 refine bS (qSF m _ (qGN q)) ?_
 refine bS (qLM _ _) ?_
 refine bS vX ?_
 exact qD rfl rfl
theorem qVn (m q:Int):qA EE 105 [dU m,dI q] (dU (oE m q)):=by
 refine qWs rfl (qG.step' ?_)
 refine bS (qLZ q) ?_
 refine bS (qSG 1 _ (qGN q)) ?_
 refine bS (qVr _ _) ?_
 exact qD rfl rfl
def qBI (m:Int):D->Int
 | .leaf (.int .i64 q)=>oE m q
 | _=>m
def qIO (fs:D):Int:=fs.es.foldl qBI 0
def rY (m k:Int) (acc:Int):D->Int
 | .agg [.leaf (.int .i64 f),.leaf (.int .i64 c),.leaf (.int .i64 t)]=>if rO m f=true/\c=k then oE acc t else acc
 | _=>acc
def qJg (ws:D) (m k:Int):Int:=ws.es.foldl (rY m k) 0
def qFD (ws:D) (m:Int):D->Int
 | .leaf (.int .i64 c)=>qJg ws m c
 | _=>m
def qKC (ws cl:D):Int:=cl.es.foldl (qFD ws) 1
def qGF (ws fs cl:D):Bool:=decide (¬ qJe (qKC ws cl) (qIO fs)=0)
abbrev qHX:Sh:=.sl 122 3 (.st [.int .i64,.int .i64,.int .i64])
variable {B:Nat}
theorem qZE {n ws fs:D} (ho:n.one=true) (hw:ws.one=true) (hf:qE 300000000 (.sl 3 1 (.int .i64)) fs):qA EE 85 [.agg [n,ws,fs]] (dU (qIO fs)):=by
 have i_fs:=qC hf
 have b_fs:=qJ hf
 refine qYG rfl (qG.step' ?_)
 refine bS (qI rfl) ?_
 refine bS (qB (off:=2) rfl i_fs.one) ?_
 refine bS (qH i_fs) ?_
 refine qF rfl (vK (P:=fun i=>qG EE (qA EE) qO4 1 [dU ((fs.es.take i).foldl qBI 0),fs,dI ((fs.es.length:Nat):Int),dI ((i:Nat):Int)] (dU (qIO fs))) fs.es.length ?_ ?_)
 ·refine qG.step' ?_
  refine bS qK ?_
  refine iC (fun c=>?_) fun c=>?_
  ·have:=vV c; omega
  exact qD rfl (by rw [List.take_length]; rfl)
 intro i hi ih
 obtain ⟨x,e_x⟩:=vH hi
 obtain ⟨q,rfl⟩:=qN hf e_x
 rw [yV e_x] at ih
 refine qG.step' ?_
 refine bS qK ?_
 refine iC (fun c=>?_) fun c=>?_
 ·skip
  refine bS (qL (s:=((i:Nat):Int)) (by omega) e_x) ?_
  refine bS (qO (s:=((i:Nat):Int)) i_fs (by omega) e_x rfl) ?_
  refine cS (qVn _ q) ?_
  refine bS (d:=dI ((i+1:Nat):Int)) (qP (qM (by omega))) ?_
  exact qF rfl ih
 have:=zC c; omega
theorem qXn {n ws fs:D} {m k:Int} (ho:n.one=true) (hw:qE 300000000 qHX ws) (hf:fs.one=true):qA EE 104 [.agg [n,ws,fs],dU m,dI k] (dU (qJg ws m k)):=by
 have i_ws:=qC hw
 have b_ws:=qJ hw
 refine qWt rfl (qG.step' ?_)
 refine bS (qI rfl) ?_
 refine bS (vY rfl) ?_
 refine bS (qI rfl) ?_
 refine bS (vY rfl) ?_
 refine bS (qB (off:=1) rfl i_ws.one) ?_
 refine bS (qH i_ws) ?_
 refine qF rfl (vK (P:=fun i=>qG EE (qA EE) qJ8 1000 [ws,dI ((ws.es.length:Nat):Int),dI ((i:Nat):Int),.agg [n,ws,fs],dI k,dU ((ws.es.take i).foldl (rY m k) 0),.agg [n,ws,fs],dU m] (dU (qJg ws m k))) ws.es.length ?_ ?_)
 ·refine qG.step' ?_
  refine bS qK ?_
  refine iC (fun c=>?_) fun c=>?_
  ·have:=vV c; omega
  exact qD rfl (by rw [List.take_length]; rfl)
 intro i hi ih
 obtain ⟨x,e_x⟩:=vH hi
 obtain ⟨_,rfl,_,_,rfl,⟨f,rfl⟩,_,_,rfl,⟨c0,rfl⟩,_,_,rfl,⟨t,rfl⟩,rfl⟩:=qN hw e_x
 rw [yV e_x] at ih
 refine qG.step' ?_
 refine bS qK ?_
 refine iC (fun c=>?_) fun c=>?_
 ·skip
  refine bS (qL (s:=((i:Nat):Int)) (by omega) e_x) ?_
  refine bS (z8 (s:=((i:Nat):Int)) i_ws (by omega) e_x rfl) ?_
  refine bS (qI rfl) ?_
  refine bS (qB (off:=0) rfl rfl) ?_
  refine cS (qXj m f) ?_
  refine iC (fun d=>?_) fun d=>?_
  ·skip
   refine bS (qI rfl) ?_
   refine bS (qB (off:=1) rfl rfl) ?_
   refine bS vX ?_
   refine iC (fun e=>?_) fun e=>?_
   ·skip
    refine bS (qB (off:=2) rfl rfl) ?_
    refine cS (qVn _ t) ?_
    refine bS (d:=dI ((i+1:Nat):Int)) (qP (qM (by omega))) ?_
    have hs:rY m k ((ws.es.take i).foldl (rY m k) 0) (.agg [dI f,dI c0,dI t])=oE ((ws.es.take i).foldl (rY m k) 0) t:=if_pos ⟨d,dT e⟩
    rw [hs] at ih
    exact qF rfl ih
   refine bS (d:=dI ((i+1:Nat):Int)) (qP (qM (by omega))) ?_
   have hs:rY m k ((ws.es.take i).foldl (rY m k) 0) (.agg [dI f,dI c0,dI t])=(ws.es.take i).foldl (rY m k) 0:=if_neg fun h=>dF e h.2
   rw [hs] at ih
   exact qF rfl ih
  refine bS (d:=dI ((i+1:Nat):Int)) (qP (qM (by omega))) ?_
  have hs:rY m k ((ws.es.take i).foldl (rY m k) 0) (.agg [dI f,dI c0,dI t])=(ws.es.take i).foldl (rY m k) 0:=if_neg fun h=>by rw [d] at h; cases h.1
  rw [hs] at ih
  exact qF rfl ih
 have:=zC c; omega
theorem qZF {n ws fs cl:D} (ho:n.one=true) (hw:qE 300000000 qHX ws) (hf:fs.one=true) (hc:qE 300000000 (.sl 3 1 (.int .i64)) cl):qA EE 84 [.agg [n,ws,fs],cl] (dU (qKC ws cl)):=by
 have i_cl:=qC hc
 have b_cl:=qJ hc
 refine qYH rfl (qG.step' ?_)
 refine bS (qI rfl) ?_
 refine bS (qH i_cl) ?_
 refine qF rfl (vK (P:=fun i=>qG EE (qA EE) qO7 1 [dU ((cl.es.take i).foldl (qFD ws) 1),cl,dI ((cl.es.length:Nat):Int),dI ((i:Nat):Int),.agg [n,ws,fs]] (dU (qKC ws cl))) cl.es.length ?_ ?_)
 ·refine qG.step' ?_
  refine bS qK ?_
  refine iC (fun c=>?_) fun c=>?_
  ·have:=vV c; omega
  exact qD rfl (by rw [List.take_length]; rfl)
 intro i hi ih
 obtain ⟨x,e_x⟩:=vH hi
 obtain ⟨q,rfl⟩:=qN hc e_x
 rw [yV e_x] at ih
 refine qG.step' ?_
 refine bS qK ?_
 refine iC (fun c=>?_) fun c=>?_
 ·skip
  refine bS (qL (s:=((i:Nat):Int)) (by omega) e_x) ?_
  refine bS (qO (s:=((i:Nat):Int)) i_cl (by omega) e_x rfl) ?_
  refine cS (qXn ho hw hf) ?_
  refine bS (d:=dI ((i+1:Nat):Int)) (qP (qM (by omega))) ?_
  exact qF rfl ih
 have:=zC c; omega
theorem qZO {n ws fs cl:D} (ho:n.one=true) (hw:qE 300000000 qHX ws) (hf:qE 300000000 (.sl 3 1 (.int .i64)) fs) (hc:qE 300000000 (.sl 3 1 (.int .i64)) cl):qA EE 46 [.agg [n,ws,fs],cl] (dB (qGF ws fs cl)):=by
 have i_ws:=qC hw
 have i_fs:=qC hf
 refine qY1 rfl (qG.step' ?_)
 refine bS (qI rfl) ?_
 refine cS (qZF ho hw i_fs.one hc) ?_
 refine cS (qZE ho i_ws.one hf) ?_
 refine bS (qLM _ _) ?_
 refine bS zS ?_
 exact qD rfl rfl
end Go.Proofs.YtnemldklhelbeaaGreat
namespace Go.Proofs.YtnemldklhelbeaaGreat
open Go Go.Am Go.Proofs
attribute [local irreducible] Go.Am.wp Go.Am.TOp.eval
abbrev qYw:Sh:=.sl 79 2 (.st [.str,.str])
def lH (l:D):Nat->Int->D
 | 0,_=>.nil
 | n+1,id=>match l.es[pQ l id]? with
  | some (.agg [_,_,_,_,.leaf (.int .i64 mn),x5,_,_])=>if 0 < x5.es.length then x5 else if mn=0 then .nil else lH l n mn
  | _=>.nil
def qFw (l:D) (id:Int):D:=lH l (l.es.length+1) id
theorem qZG {x:D} (h:qE 1048576 qYw x) (hn:0 < x.es.length):qA EE 83 [x] x:=by
 have h':=h
 simp only [qE] at h
 rcases h with rfl | ⟨es,rfl,hl,_⟩
 ·cases hn
 refine qYI rfl (qG.step' ?_)
 refine bS (d:=dB (false)) (show TOp.eval EE (.isNil false) [.sl 79 2 es]=some (dB false) by rw [qEI]) ?_
 refine jJ (t:=false) rfl ?_
 refine mZ ?_
 refine bS (d:=.sl 79 2 []) (show TOp.eval EE (.lit 79 2) []=some (.sl 79 2 []) by rw [iX]; rfl) ?_
 have ha:TOp.eval EE (.app 79 2 32) [.sl 79 2 [],.sl 79 2 es]=some (.sl 79 2 es):=by
  rw [iY]
  have hss:pT (.sl 79 2 [])=some 0:=rfl
  have hb:Nat.ble (Nat.mul (Nat.add (Nat.mul 4 (Nat.add 0 es.length)) 4000) (Nat.succ 32)) 100000000000=true:=rG (n:=0+es.length) (by omega) (by decide)
  have hz:Nat.beq es.length 0=false:=by
   have:0 < es.length:=hn
   cases he:es.length with
   | zero=>omega
   | succ n=>rfl
  simp only [hss,hb,Nat.beq_refl,Bool.true_and,cond_true,hz,cond_false,D.es,List.nil_append]
 refine bS ha ?_
 exact qD rfl rfl
theorem qDH {l:D} (hl:qE 1048576 (.sl 59 8 cL) l):∀ (n i:Nat) (id:Int),i+n=l.es.length+1->qG EE (qA EE) qPS 1000 [dI ((l.es.length+1:Nat):Int),dI ((i:Nat):Int),l,dI id] (lH l n id)
 | 0,i,id,hi=>by
  have b_l:=qJ hl
  refine qG.step' ?_
  refine bS qK ?_
  refine iC (fun c=>?_) fun c=>?_
  ·have:=vV c; omega
  exact qD rfl rfl
 | n+1,i,id,hi=>by
  have b_l:=qJ hl
  have hB:=zQ (B':=300000000) (by decide) hl
  refine qG.step' ?_
  refine bS qK ?_
  refine iC (fun c=>?_) fun c=>?_
  ·rcases xC (id:=id) hl with ⟨x0,x2,x4,x1,x3,x5,x6,x7,h1,h3,h5,h6,h7,he,hr⟩ | ⟨he,hr⟩
   ·have i_x5:=qC h5
    have hs:lH l (n+1) id=(if 0 < x5.es.length then x5 else if x4=0 then .nil else lH l n x4):=by
     simp only [lH,he]
    rw [hs]
    refine cS (d:=.tup [.agg [dI (x0),x1,dI (x2),x3,dI (x4),x5,x6,x7],dB (true)]) (by rw [← hr]; exact qSu hB) ?_
    refine bS (zF rfl) ?_
    refine bS (zF rfl) ?_
    refine bS (qI rfl) ?_
    refine bS zZ ?_
    refine jJ (t:=false) rfl ?_
    refine mZ ?_
    refine bS (qI rfl) ?_
    refine bS (qB (off:=5) rfl i_x5.one) ?_
    refine bS (qH i_x5) ?_
    refine bS zL ?_
    refine iC (fun d=>?_) fun d=>?_
    ·have hd:0 < x5.es.length:=by have:=dT d; omega
     rw [if_pos hd]
     refine bS (qB (off:=5) rfl i_x5.one) ?_
     refine cS (qZG h5 hd) ?_
     refine bS (vY i_x5.one) ?_
     exact qD rfl rfl
    have hd:¬ 0 < x5.es.length:=by have:=dF d; omega
    rw [if_neg hd]
    refine bS (qB (off:=4) rfl rfl) ?_
    refine bS vX ?_
    refine iC (fun e=>?_) fun e=>?_
    ·rw [if_pos (dT e)]
     exact qD rfl rfl
    rw [if_neg (dF e)]
    refine bS (qB (off:=4) rfl rfl) ?_
    refine bS (d:=dI ((i+1:Nat):Int)) (qP (qM (by omega))) ?_
    exact qF rfl (qDH hl n (i+1) x4 (by omega))
   have hs:lH l (n+1) id=.nil:=by simp only [lH,he]
   rw [hs]
   refine cS (d:=.tup [aN,dB (false)]) (by rw [← hr]; exact qSu hB) ?_
   refine bS (zF rfl) ?_
   refine bS (zF rfl) ?_
   refine bS (qI rfl) ?_
   refine bS zZ ?_
   refine jJ (t:=true) rfl ?_
   refine lN ?_
   exact qD rfl rfl
  have:=zC c; omega
theorem qZP {l:D} {id:Int} (hl:qE 1048576 (.sl 59 8 cL) l):qA EE 45 [l,dI id] (qFw l id):=by
 have i_l:=qC hl
 have b_l:=qJ hl
 refine qY2 rfl (qG.step' ?_)
 refine bS (vY i_l.one) ?_
 refine bS (vY rfl) ?_
 refine bS (qH i_l) ?_
 refine bS (d:=dI ((l.es.length+1:Nat):Int)) (qP (qM (by omega))) ?_
 exact qF rfl (qDH hl _ 0 id (by omega))
theorem qFv {l:D} (hl:qE 1048576 (.sl 59 8 cL) l):∀ (n:Nat) (id:Int),qE 1048576 qYw (lH l n id)
 | 0,_=>wZ
 | n+1,id=>by
  rcases xC (id:=id) hl with ⟨x0,x2,x4,x1,x3,x5,x6,x7,h1,h3,h5,h6,h7,he,hr⟩ | ⟨he,hr⟩
  ·simp only [lH,he]
   split
   ·exact h5
   split
   ·exact wZ
   exact qFv hl n x4
  simp only [lH,he]; exact wZ
theorem qLB {l x:D} (h:qE 1048576 (.sl 59 8 cL) l):∀ y∈FC l x,∃ n,y=dI n:=by
 unfold FC
 split
 ·split
  ·rename_i hs
   intro y hy
   rw [List.mem_singleton.1 hy]
   exact (eG h hs).1
  intro y hy; cases hy
 intro y hy; cases hy
theorem qGf {l x:D} (h:qE 1048576 (.sl 59 8 cL) l):∀ y∈FB l x,∃ n,y=dI n:=by
 unfold FB
 split
 ·split
  ·rename_i hs
   intro y hy
   have:=(eG h hs).2
   simp only [qE] at this
   rcases this with rfl | ⟨es,rfl,_,ha⟩
   ·cases hy
   exact ha y hy
  intro y hy; cases hy
 intro y hy; cases hy
theorem qLA {l x:D}:(FC l x).length<=1:=by
 unfold FC
 split
 ·split <;> simp
 simp
theorem qGe {l x:D} (h:qE 1048576 (.sl 59 8 cL) l):(FB l x).length<=1048576:=by
 unfold FB
 split
 ·split
  ·rename_i hs
   exact qJ (eG h hs).2
  simp
 simp
theorem l6 {F:D->List D} {l:List D} (h:∀ x,∀ y∈F x,∃ n,y=dI n):∀ y∈l.flatMap F,∃ n,y=dI n:=by
 intro y hy
 obtain ⟨x,_,hx⟩:=List.mem_flatMap.1 hy
 exact h x y hx
def aY (l:D):D->Int
 | .agg [.leaf (.int .i64 p0),.leaf (.int .i64 p1),.leaf (.int .i64 p2)] =>
  if (l.es[pQ l p0]?).isNone then 9 else if (kZ l p0 p1).isNone then 2 else if p2 < 0∨p2≥((qFw l p0).es.length:Int) then 22 else 0
 | _=>0
def qLN (l:D):List D->Int
 | []=>0
 | x::r=>if aY l x=0 then qLN l r else aY l x
def qNb (l ws fs ps:D):Int :=
 if qGF ws fs (qV 3 1 (ps.es.flatMap (FC l)))=false then 21 else if 24 < (qV 3 1 (ps.es.flatMap (FB l))).es.length then 5 else 0
def qBE (l ws fs ps:D) (i:Nat):Int:=if qLN l (ps.es.drop i)=0 then qNb l ws fs ps else qLN l (ps.es.drop i)
def qFG (l ws fs ps:D):Int:=if ps.es.length=0 then 4 else if 4 < ps.es.length then 11 else qBE l ws fs ps 0
theorem oQ {l:List D} {i:Nat} {x:D} (h:l[i]? = some x):l.drop i=x::l.drop (i+1):=by
 obtain ⟨h1,rfl⟩:=gI h
 exact List.drop_eq_getElem_cons h1
theorem qD4 {l ws fs ps:D} {i:Nat} {x:D} (h:ps.es[i]? = some x) (hp:aY l x=0):qBE l ws fs ps i=qBE l ws fs ps (i+1):=by
 unfold qBE; rw [oQ h]; simp only [qLN,hp,if_true]
theorem eY {l ws fs ps:D} {i:Nat} {x:D} {e:Int} (h:ps.es[i]? = some x) (hp:aY l x=e) (he:e≠0):qBE l ws fs ps i=e:=by
 unfold qBE; rw [oQ h]; simp only [qLN,hp,if_neg he]
theorem qHh {l ws fs ps:D}:qBE l ws fs ps ps.es.length=qNb l ws fs ps:=by
 unfold qBE; rw [List.drop_length]; rfl
theorem qYc {c0 c1 c2 c3 c4 n ws fs l ps:D} (ho:n.one=true) (hw:qE 300000000 qHX ws) (hf:qE 300000000 (.sl 3 1 (.int .i64)) fs) (hl:qE 1048576 (.sl 59 8 cL) l) (hp:qE 300000000 qJh ps) (hn:ps.es.length<=20) :
  qA EE 18 [.agg [c0,c1,c2,c3,c4,n,ws,fs,l],.agg [ps]] (dI (qFG l ws fs ps)):=by
 have i_ps:=qC hp
 have b_ps:=qJ hp
 have i_l:=qC hl
 have i_ws:=qC hw
 have i_fs:=qC hf
 have hB:=zQ (B':=300000000) (by decide) hl
 have hci:∀ y∈ps.es.flatMap (FC l),∃ n,y=dI n:=l6 fun x=>qLB hl
 have hbi:∀ y∈ps.es.flatMap (FB l),∃ n,y=dI n:=l6 fun x=>qGf hl
 have hcl:(ps.es.flatMap (FC l)).length<=ps.es.length * 1:=j8 fun y _=>qLA
 have hbl:(ps.es.flatMap (FB l)).length<=ps.es.length * 1048576:=j8 fun y _=>qGe hl
 have hC:qE 300000000 (.sl 3 1 (.int .i64)) (qV 3 1 (ps.es.flatMap (FC l))):=pB (by omega) hci
 have hD:qE 300000000 (.sl 3 1 (.int .i64)) (qV 3 1 (ps.es.flatMap (FB l))):=pB (by omega) hbi
 have i_D:=qC hD
 refine qZd rfl (qG.step' ?_)
 refine bS (qI rfl) ?_
 refine bS (qI rfl) ?_
 refine bS (qB (off:=0) rfl i_ps.one) ?_
 refine bS (qH i_ps) ?_
 refine bS vX ?_
 unfold qFG
 refine iC (fun c=>?_) fun c=>?_
 ·have hc:=dT c
  rw [if_pos (by omega)]
  exact qD rfl rfl
 have hc:=dF c
 rw [if_neg (by omega)]
 refine bS (qB (off:=0) rfl i_ps.one) ?_
 refine bS (qH i_ps) ?_
 refine bS zL ?_
 refine iC (fun d=>?_) fun d=>?_
 ·have hd:=dT d
  rw [if_pos (by omega)]
  exact qD rfl rfl
 have hd:=dF d
 rw [if_neg (by omega)]
 refine bS (qB (off:=0) rfl i_ps.one) ?_
 refine bS (qH i_ps) ?_
 refine qF rfl (vK (P:=fun i=>qG EE (qA EE) qQx 1 [ps,dI ((ps.es.length:Nat):Int),dI ((i:Nat):Int),.agg [c0,c1,c2,c3,c4,n,ws,fs,l],.agg [ps]] (dI (qBE l ws fs ps i))) ps.es.length ?_ ?_)
 ·rw [qHh]
  refine qG.step' ?_
  refine bS qK ?_
  refine iC (fun e=>?_) fun e=>?_
  ·have:=vV e; omega
  refine bS (xW (off:=5) (size:=3) rfl) ?_
  refine cS (qZS (l:=l) rfl rfl hl hp hn) ?_
  refine cS (qZO ho hw hf hC) ?_
  refine bS zZ ?_
  unfold qNb
  refine iC (fun k=>?_) fun k=>?_
  ·have hk:qGF ws fs (qV 3 1 (ps.es.flatMap (FC l)))=false:=by simpa using k
   rw [if_pos hk]
   exact qD rfl rfl
  have hk:¬ qGF ws fs (qV 3 1 (ps.es.flatMap (FC l)))=false:=by simpa using k
  rw [if_neg hk]
  refine cS (qYb (l:=l) rfl rfl hl hp hn) ?_
  refine bS (d:=dI (((qV 3 1 (ps.es.flatMap (FB l))).es.length:Nat):Int)) (qH i_D) ?_
  refine bS zL ?_
  refine iC (fun m=>?_) fun m=>?_
  ·have hm:=dT m
   rw [if_pos (by omega)]
   exact qD rfl rfl
  have hm:=dF m
  rw [if_neg (by omega)]
  exact qD rfl rfl
 intro i hi ih
 obtain ⟨x,e_x⟩:=vH hi
 obtain ⟨_,rfl,_,_,rfl,⟨p0,rfl⟩,_,_,rfl,⟨p1,rfl⟩,_,_,rfl,⟨p2,rfl⟩,rfl⟩:=qN hp e_x
 have hP:aY l (.agg [dI p0,dI p1,dI p2])=if (l.es[pQ l p0]?).isNone then 9 else if (kZ l p0 p1).isNone then 2 else if p2 < 0∨p2≥((qFw l p0).es.length:Int) then 22 else 0:=rfl
 refine qG.step' ?_
 refine bS qK ?_
 refine iC (fun e=>?_) fun e=>?_
 ·skip
  refine bS (qL (s:=((i:Nat):Int)) (by omega) e_x) ?_
  refine bS (z8 (s:=((i:Nat):Int)) i_ps (by omega) e_x rfl) ?_
  refine bS (qI rfl) ?_
  refine bS (qB (off:=8) rfl i_l.one) ?_
  refine bS (qB (off:=0) rfl rfl) ?_
  rcases xC (id:=p0) hl with ⟨x0,x2,x4,x1,x3,x5,x6,x7,h1,h3,h5,h6,h7,he,hr⟩ | ⟨he,hr⟩
  ·rw [he,if_neg (by simp)] at hP
   refine cS (d:=.tup [.agg [dI (x0),x1,dI (x2),x3,dI (x4),x5,x6,x7],dB (true)]) (by rw [← hr]; exact qSu hB) ?_
   refine bS (zF rfl) ?_
   refine bS (zF rfl) ?_
   refine bS (qI rfl) ?_
   refine bS zZ ?_
   refine jJ (t:=false) rfl ?_
   refine mZ ?_
   obtain ⟨y0,y2,y4,y1,y3,y5,y6,y7,w,b,q1,q2,q3,q4⟩:=qXf (g:=[c0,c1,c2,c3,c4,n,ws,fs,l]) (p0:=p0) (p1:=p1) (p2:=p2) rfl rfl hl
   refine cS q1 ?_
   refine bS (zF rfl) ?_
   refine bS (zF rfl) ?_
   refine bS (zF rfl) ?_
   refine bS (qI rfl) ?_
   refine bS zZ ?_
   refine iC (fun f=>?_) fun f=>?_
   ·have hb:b=false:=by simpa using f
    subst hb
    rw [q2,if_pos (by simp)] at hP
    exact qD rfl (by rw [eY e_x hP (by decide)]; rfl)
   have hb:b=true:=by simpa using f
   subst hb
   rw [q2,if_neg (by simp)] at hP
   refine bS (qB (off:=2) rfl rfl) ?_
   refine bS qK ?_
   refine iC (fun k=>?_) fun k=>?_
   ·have hk:=dT k
    rw [if_pos (.inl hk)] at hP
    exact qD rfl (by rw [eY e_x hP (by decide)]; rfl)
   have hk:=dF k
   have hs:=qFv hl (l.es.length+1) p0
   have i_s:=qC hs
   refine bS (qB (off:=2) rfl rfl) ?_
   refine bS (qB (off:=8) rfl i_l.one) ?_
   refine bS (qB (off:=0) rfl rfl) ?_
   refine cS (qZP hl) ?_
   refine bS (d:=dI (((qFw l p0).es.length:Nat):Int)) (qH i_s) ?_
   refine bS wE ?_
   refine iC (fun m=>?_) fun m=>?_
   ·have hm:=dT m
    rw [if_pos (.inr hm)] at hP
    exact qD rfl (by rw [eY e_x hP (by decide)]; rfl)
   have hm:=dF m
   rw [if_neg (fun h=>h.elim hk hm)] at hP
   refine bS (d:=dI ((i+1:Nat):Int)) (qP (qM (by omega))) ?_
   rw [qD4 e_x hP]
   exact qF rfl ih
  rw [he,if_pos (by simp)] at hP
  refine cS (d:=.tup [aN,dB (false)]) (by rw [← hr]; exact qSu hB) ?_
  refine bS (zF rfl) ?_
  refine bS (zF rfl) ?_
  refine bS (qI rfl) ?_
  refine bS zZ ?_
  refine jJ (t:=true) rfl ?_
  refine lN ?_
  exact qD rfl (by rw [eY e_x hP (by decide)]; rfl)
 have:=zC e; omega
end Go.Proofs.YtnemldklhelbeaaGreat
namespace Go.Proofs.YtnemldklhelbeaaGreat
open Go Go.Am Go.Proofs
attribute [local irreducible] Go.Am.wp Go.Am.TOp.eval
abbrev aL:Sh:=.sl 71 2 (.st [.str,.int .i64])
abbrev qHY:Sh:=.sl 120 2 (.st [.int .i64,.int .i64])
abbrev qVP:Sh:=.st [xT,xT,qHY,qHY,.bool,.bool]
def qVM (a b:Int):Int:=IntKind.i64.wrap ((BitVec.ofInt 64 a &&& BitVec.ofInt 64 b).toNat:Int)
theorem qHB (a b:Int) {t:TypeId} {x y:Operand}:TOp.eval EE (.bin .and t x y) [dI a,dI b]=some (dI (qVM a b)):=by rw [rQ]; rfl
def qED (gs:D) (s:Int):Int:=match gs.es[(s - 1).toNat]? with
 | some (.agg [_,.leaf (.int .i64 f)])=>f
 | _=>0
def qC0 (gs:D) (s m v:Int):Bool:=decide (1<=s) && (decide (s<=(gs.es.length:Int)) && lX [dI m,dI v] [dI m,dI (qVM (qED gs s) m)])
theorem qXi {gs:D} {s:Int} (hg:qE 300000000 aL gs):qA EE 131 [.agg [gs],dI s] (dB (decide (1<=s) && decide (s<=(gs.es.length:Int)))):=by
 have i_gs:=qC hg
 refine qWg rfl (qG.step' ?_)
 refine bS (qI rfl) ?_
 refine bS wE ?_
 refine iC (fun c=>?_) fun c=>?_
 ·skip
  refine bS (qB (off:=0) rfl i_gs.one) ?_
  refine bS (qH i_gs) ?_
  refine bS o8 ?_
  exact qD rfl (by have h:decide (1<=s)=true:=tD (dT c); rw [h,Bool.true_and]; rfl)
 exact qD rfl (by have h:decide (1<=s)=false:=fD (dF c); rw [h,Bool.false_and]; rfl)
theorem qSH {x y:Operand} {m v m' v':Int}:TOp.eval EE (.bin .eql 120 x y) [.agg [dI m,dI v],.agg [dI m',dI v']]=some (dB (lX [dI m,dI v] [dI m',dI v'])) :=
 qCG .eql (.inr rfl) (n:=5) (ss:=[.int .i64,.int .i64]) (by kernel_rfl) (by kernel_rfl) (by decide) (by kernel_rfl) rfl (yA rK (yA rK tC)) (yA rK (yA rK tC))
theorem qXk {gs:D} {s m v:Int} (hg:qE 300000000 aL gs):qA EE 128 [.agg [gs],dI s,.agg [dI m,dI v]] (dB (qC0 gs s m v)):=by
 have i_gs:=qC hg
 have b_gs:=qJ hg
 refine qWi rfl (qG.step' ?_)
 refine bS (qI rfl) ?_
 refine bS (qI rfl) ?_
 refine cS (qXi hg) ?_
 refine iC (fun c=>?_) fun c=>?_
 ·simp only [aE,decide_eq_true_eq] at c
  obtain ⟨x,e_x⟩:=get_at (d:=gs) (s:=s - 1) (by omega) (by omega)
  obtain ⟨_,rfl,_,_,rfl,⟨nm,rfl,_⟩,_,_,rfl,⟨f,rfl⟩,rfl⟩:=qN hg e_x
  have hf:qED gs s=f:=by unfold qED; rw [e_x]
  refine bS (qB (off:=0) rfl rfl) ?_
  refine bS (qB (off:=0) rfl i_gs.one) ?_
  refine bS (d:=dI (s - 1)) (lJ (by omega)) ?_
  refine bS (qL (s:=s - 1) (by omega) e_x) ?_
  refine bS (z9 (s:=s - 1) (off:=1) i_gs (by omega) e_x rfl rfl (by decide)) ?_
  refine bS (qB (off:=0) rfl rfl) ?_
  refine bS (qHB _ _) ?_
  refine bS qSH ?_
  refine qD rfl ?_
  unfold qC0
  rw [hf,tD c.1,tD c.2]
  rfl
 have hc:qC0 gs s m v=false:=by
  unfold qC0
  rw [← Bool.and_assoc,c,Bool.false_and]
 rw [hc]
 exact qD rfl rfl
def qX8 (gs:D):D->D->Bool
 | .leaf (.int .i64 s),.agg [.leaf (.int .i64 m),.leaf (.int .i64 v)]=>qC0 gs s m v
 | _,_=>true
def oO (gs:D):List D->List D->Bool
 | x::xs,y::ys=>qX8 gs x y && oO gs xs ys
 | _,_=>true
theorem qXl {gs ks:D} {k:Nat} {s m v:Int} (hg:qE 300000000 aL gs) (hk:qE 300000000 qHY ks) (he:ks.es[k]? = some (.agg [dI m,dI v])):qA EE 118 [.agg [gs,ks],dI ((k:Nat):Int),dI s] (dB (qC0 gs s m v)):=by
 have i_gs:=qC hg
 have i_ks:=qC hk
 refine qWm rfl (qG.step' ?_)
 refine bS (qI rfl) ?_
 refine bS (xW (off:=0) (size:=1) rfl) ?_
 refine bS (qB (off:=1) rfl i_ks.one) ?_
 refine bS (qL (s:=((k:Nat):Int)) (by omega) he) ?_
 refine bS (z8 (s:=((k:Nat):Int)) i_ks (by omega) he rfl) ?_
 refine cS (qXk hg) ?_
 exact qD rfl rfl
theorem qEn {gs ks w:D} (hg:qE 300000000 aL gs) (hk:qE 300000000 qHY ks) (hw:qE 300000000 xT w) (hl:w.es.length<=ks.es.length) :
  qA EE 117 [.clo (.func 118) [] [],.agg [gs,ks],w] (dB (oO gs w.es ks.es)):=by
 have i_w:=qC hw
 have b_w:=qJ hw
 refine qWn rfl (qG.step' ?_)
 refine bS (qI rfl) ?_
 refine bS (qH i_w) ?_
 refine qF rfl (vK (P:=fun i=>qG EE (qA EE) qJW 1 [.clo (.func 118) [] [],w,dI ((w.es.length:Nat):Int),dI ((i:Nat):Int),.agg [gs,ks]] (dB (oO gs (w.es.drop i) (ks.es.drop i)))) w.es.length ?_ ?_)
 ·rw [List.drop_length]
  refine qG.step' ?_
  refine bS qK ?_
  refine iC (fun c=>?_) fun c=>?_
  ·have:=vV c; omega
  exact qD rfl (by cases ks.es.drop w.es.length <;> rfl)
 intro i hi ih
 obtain ⟨x,e_x⟩:=vH hi
 obtain ⟨s,rfl⟩:=qN hw e_x
 obtain ⟨y,e_y⟩:=vH (l:=ks) (i:=i) (by omega)
 obtain ⟨_,rfl,_,_,rfl,⟨m,rfl⟩,_,_,rfl,⟨v,rfl⟩,rfl⟩:=qN hk e_y
 have hd:oO gs (w.es.drop i) (ks.es.drop i)=(qC0 gs s m v && oO gs (w.es.drop (i+1)) (ks.es.drop (i+1))):=by
  rw [oQ e_x,oQ e_y]; rfl
 rw [hd]
 refine qG.step' ?_
 refine bS qK ?_
 refine iC (fun c=>?_) fun c=>?_
 ·skip
  refine bS (qL (s:=((i:Nat):Int)) (by omega) e_x) ?_
  refine bS (qO (s:=((i:Nat):Int)) i_w (by omega) e_x rfl) ?_
  refine cS (qXl hg hk e_y) ?_
  refine bS zZ ?_
  refine iC (fun d=>?_) fun d=>?_
  ·have hv:qC0 gs s m v=false:=by simpa using d
   rw [hv]
   exact qD rfl rfl
  have hv:qC0 gs s m v=true:=by simpa using d
  rw [hv,Bool.true_and]
  refine bS (d:=dI ((i+1:Nat):Int)) (qP (qM (by omega))) ?_
  exact qF rfl ih
 have:=zC c; omega
def qRb (x:Int):D->Bool
 | .leaf (.int .i64 n)=>decide (x=n)
 | _=>false
def lD (l:D) (x:Int):Nat:=l.es.findIdx (qRb x)
def qQ9 (l:D) (x:Int):Int:=if lD l x < l.es.length then (lD l x:Int) else -1
theorem qLh {l:D} {x:Int} {i:Nat} {e:D} (h:i<=lD l x) (he:l.es[i]? = some e) (hp:qRb x e=true):lD l x=i:=by
 rcases Nat.lt_or_eq_of_le h with h | h
 ·have hn:=List.not_of_lt_findIdx h
  have:=(gI he).2
  rw [this,hp] at hn
  cases hn
 exact h.symm
theorem qHm {l:D} {x:Int} {i:Nat} {e:D} (h:i<=lD l x) (he:l.es[i]? = some e) (hp:qRb x e=false):i+1<=lD l x:=by
 rcases Nat.lt_or_eq_of_le h with h | h
 ·exact h
 have hl:=(gI he).1
 have h2:l.es.findIdx (qRb x) < l.es.length:=by show lD l x < _; omega
 have:=List.findIdx_getElem (w:=h2)
 have e2:l.es[l.es.findIdx (qRb x)]=e:=by
  have:l.es[l.es.findIdx (qRb x)]? = some e:=by rw [← he,h]; rfl
  exact (gI this).2
 rw [e2,hp] at this
 cases this
theorem qVo {l:D} {x:Int} (hl:qE 300000000 xT l):qA EE 101 [l,dI x] (dI (qQ9 l x)):=by
 have i_l:=qC hl
 have b_l:=qJ hl
 refine qWv rfl (qG.step' ?_)
 refine bS (qH i_l) ?_
 refine qF rfl (vK (P:=fun i=>i<=lD l x->qG EE (qA EE) qKd 1 [l,dI x,dI ((l.es.length:Nat):Int),dI ((i:Nat):Int)] (dI (qQ9 l x))) l.es.length ?_ ?_ (Nat.zero_le _))
 ·intro hle
  refine qG.step' ?_
  refine bS qK ?_
  refine iC (fun c=>?_) fun c=>?_
  ·have:=vV c; omega
  exact qD rfl (by unfold qQ9; rw [if_neg (by omega)]; rfl)
 intro i hi ih hle
 obtain ⟨y,e_y⟩:=vH hi
 obtain ⟨n,rfl⟩:=qN hl e_y
 refine qG.step' ?_
 refine bS qK ?_
 refine iC (fun c=>?_) fun c=>?_
 ·skip
  refine bS (qL (s:=((i:Nat):Int)) (by omega) e_y) ?_
  refine bS (qO (s:=((i:Nat):Int)) i_l (by omega) e_y rfl) ?_
  refine bS vX ?_
  refine iC (fun d=>?_) fun d=>?_
  ·have h:=qLh hle e_y d
   exact qD rfl (by unfold qQ9; rw [h,if_pos hi]; rfl)
  refine bS (d:=dI ((i+1:Nat):Int)) (qP (qM (by omega))) ?_
  exact qF rfl (ih (qHm hle e_y d))
 have:=zC c; omega
theorem qXm {l:D} {x:Int} (hl:qE 300000000 xT l):qA EE 116 [l,dI x] (dB (decide (lD l x < l.es.length))):=by
 have h127:qA EE 127 [l,dI x] (dB (decide (lD l x < l.es.length))):=by
  refine qWj rfl (qG.step' ?_)
  refine cS (qVo hl) ?_
  refine bS wE ?_
  refine qD rfl ?_
  by_cases h:lD l x < l.es.length
  ·rw [tD h]
   exact congrArg (fun b=>dB b) (tD (by unfold qQ9; rw [if_pos h]; omega))
  rw [fD h]
  exact congrArg (fun b=>dB b) (fD (by unfold qQ9; rw [if_neg h]; omega))
 refine qWo rfl (qG.step' ?_)
 refine cS h127 ?_
 exact qD rfl rfl
def yL (w:D) (a b:Nat):D:=match w with
 | .sl el sz es=>.sl el sz ((es.drop a).take (b - a))
 | d=>d
theorem qKp {el sz:Nat} {e:Sh} {w:D} {a b:Nat} (hw:qE 300000000 (.sl el sz e) w) (h1:a<=b) (h2:b<=w.es.length):TOp.eval EE (.slc el sz true true) [w,dI ((a:Nat):Int),dI ((b:Nat):Int)]=some (yL w a b):=by
 simp only [qE] at hw
 rcases hw with rfl | ⟨es,rfl,_,_⟩
 ·have hb:b=0:=by simpa [D.es] using h2
  subst hb
  have ha:a=0:=by omega
  subst ha
  rw [oB]; rfl
 have h2:b<=es.length:=h2
 rw [oB]
 have e1:vR true 0 [dI ((a:Nat):Int),dI ((b:Nat):Int)]=some (a,[dI ((b:Nat):Int)]):=rfl
 have e2:vR true es.length [dI ((b:Nat):Int)]=some (b,[]):=rfl
 simp only [e1,e2,Nat.beq_refl,bL h1,bL h2,Bool.and_self,cond_true,yL]
theorem uJ {el sz:Nat} {e:Sh} {w:D} {a b:Nat} (hw:qE 300000000 (.sl el sz e) w):(yL w a b).es=(w.es.drop a).take (b - a):=by
 simp only [qE] at hw
 rcases hw with rfl | ⟨es,rfl,_,_⟩
 ·simp [yL,D.es]
 rfl
theorem uI {el sz:Nat} {e:Sh} {w:D} {a b:Nat} (hw:qE 300000000 (.sl el sz e) w):qE 300000000 (.sl el sz e) (yL w a b):=by
 have h0:=hw
 simp only [qE] at hw
 rcases hw with rfl | ⟨es,rfl,h1,h2⟩
 ·exact h0
 exact rB (by have:=List.length_take_le (b - a) (es.drop a); simp only [List.length_take,List.length_drop]; omega) fun x hx=>h2 x (List.mem_of_mem_drop (List.mem_of_mem_take hx))
def cE (gs fr lf rg:D) (bg en:Bool) (w:D) (i:Nat) (s:Int):Bool :=
 if ¬ lD fr s < fr.es.length then false
 else if i < lf.es.length then false
 else if w.es.length < i+1+rg.es.length then false
 else if bg=true/\lf.es.length < i then false
 else if en=true/\i+1+rg.es.length < w.es.length then false
 else oO gs ((w.es.drop (i - lf.es.length)).take lf.es.length) lf.es && oO gs ((w.es.drop (i+1)).take rg.es.length) rg.es
theorem qXo {gs fr to lf rg w:D} {bg en:Bool} {i:Nat} {s:Int} (hg:qE 300000000 aL gs) (hfr:qE 300000000 xT fr) (hlf:qE 300000000 qHY lf) (hrg:qE 300000000 qHY rg) (hw:qE 300000000 xT w) (he:w.es[i]? = some (dI s)) :
  qA EE 100 [.agg [gs],.agg [fr,to,lf,rg,dB bg,dB en],w,dI ((i:Nat):Int)] (dB (cE gs fr lf rg bg en w i s)):=by
 have i_gs:=qC hg
 have i_fr:=qC hfr
 have i_lf:=qC hlf
 have i_rg:=qC hrg
 have i_w:=qC hw
 have b_lf:=qJ hlf
 have b_rg:=qJ hrg
 have b_w:=qJ hw
 have hi:i < w.es.length:=(gI he).1
 refine qWw rfl (qG.step' ?_)
 refine bS (qI rfl) ?_
 refine bS (qI rfl) ?_
 refine bS (qB (off:=2) rfl i_lf.one) ?_
 refine bS (qH i_lf) ?_
 refine bS (d:=dI (((i:Nat):Int) - ((lf.es.length:Nat):Int))) (lJ (by omega)) ?_
 refine bS (d:=dI ((i+1:Nat):Int)) (qP (qM (by omega))) ?_
 refine bS (qB (off:=3) rfl i_rg.one) ?_
 refine bS (qH i_rg) ?_
 refine bS (d:=dI (((i+1:Nat):Int)+((rg.es.length:Nat):Int))) (xF (by omega)) ?_
 refine bS (qB (off:=0) rfl i_fr.one) ?_
 refine bS (qL (s:=((i:Nat):Int)) (by omega) he) ?_
 refine bS (qO (s:=((i:Nat):Int)) i_w (by omega) he rfl) ?_
 refine cS (qXm hfr) ?_
 refine bS zZ ?_
 unfold cE
 refine iC (fun c1=>?_) fun c1=>?_
 ·have h1:¬ lD fr s < fr.es.length:=by simpa using c1
  rw [if_pos h1]
  exact qD rfl rfl
 have h1:¬ ¬ lD fr s < fr.es.length:=by simpa using c1
 rw [if_neg h1]
 refine bS qK ?_
 refine iC (fun c2=>?_) fun c2=>?_
 ·have h2:=dT c2
  rw [if_pos (by omega)]
  exact qD rfl rfl
 have h2:=dF c2
 rw [if_neg (by omega)]
 refine bS (qH i_w) ?_
 refine bS zL ?_
 refine iC (fun c3=>?_) fun c3=>?_
 ·have h3:=dT c3
  rw [if_pos (by omega)]
  exact qD rfl rfl
 have h3:=dF c3
 rw [if_neg (by omega)]
 have hfrom:((i:Nat):Int) - ((lf.es.length:Nat):Int)=((i - lf.es.length:Nat):Int):=by omega
 have hto:((i+1:Nat):Int)+((rg.es.length:Nat):Int)=((i+1+rg.es.length:Nat):Int):=by omega
 have hA:qE 300000000 xT (yL w (i - lf.es.length) i):=uI hw
 have i_A:=qC hA
 have eA:(yL w (i - lf.es.length) i).es=(w.es.drop (i - lf.es.length)).take lf.es.length:=by rw [uJ hw]; congr 1; omega
 have lA:(yL w (i - lf.es.length) i).es.length=lf.es.length:=by rw [eA,List.length_take,List.length_drop]; omega
 have hR:qE 300000000 xT (yL w (i+1) (i+1+rg.es.length)):=uI hw
 have i_R:=qC hR
 have eR:(yL w (i+1) (i+1+rg.es.length)).es=(w.es.drop (i+1)).take rg.es.length:=by rw [uJ hw]; congr 1; omega
 have lR:(yL w (i+1) (i+1+rg.es.length)).es.length=rg.es.length:=by rw [eR,List.length_take,List.length_drop]; omega
 have s1:TOp.eval EE (.slc 3 1 true true) [w,dI (((i:Nat):Int) - ((lf.es.length:Nat):Int)),dI ((i:Nat):Int)]=some (yL w (i - lf.es.length) i):=by
  rw [hfrom]; exact qKp (a:=i - lf.es.length) (b:=i) hw (by omega) (by omega)
 have s2:TOp.eval EE (.slc 3 1 true true) [w,dI ((i+1:Nat):Int),dI (((i+1:Nat):Int)+((rg.es.length:Nat):Int))]=some (yL w (i+1) (i+1+rg.es.length)):=by
  rw [hto]; exact qKp (a:=i+1) (b:=i+1+rg.es.length) hw (by omega) (by omega)
 refine bS (qB (off:=4) rfl rfl) ?_
 refine iC (fun c4=>?_) fun c4=>?_
 ·skip
  refine bS zL ?_
  refine iC (fun c5=>?_) fun c5=>?_
  ·have h5:=dT c5
   rw [if_pos ⟨c4,by omega⟩]
   exact qD rfl rfl
  have h5:=dF c5
  rw [if_neg (by omega)]
  refine bS (qB (off:=5) rfl rfl) ?_
  refine iC (fun c6=>?_) fun c6=>?_
  ·skip
   refine bS (qH i_w) ?_
   refine bS qK ?_
   refine iC (fun c7=>?_) fun c7=>?_
   ·have h7:=dT c7
    rw [if_pos ⟨c6,by omega⟩]
    exact qD rfl rfl
   have h7:=dF c7
   rw [if_neg (by omega)]
   refine bS (qB (off:=2) rfl i_lf.one) ?_
   refine bS (qI rfl) ?_
   refine bS (qB (off:=0) rfl i_gs.one) ?_
   refine bS s1 ?_
   refine cS (d:=dB (oO gs (yL w (i - lf.es.length) i).es lf.es)) (qEn hg hlf hA (by rw [lA]; exact zT _)) ?_
   refine iC (fun z=>?_) fun z=>?_
   ·rw [eA] at z
    rw [z,Bool.true_and]
    refine bS (qB (off:=3) rfl i_rg.one) ?_
    refine bS (qI rfl) ?_
    refine bS (qB (off:=0) rfl i_gs.one) ?_
    refine bS (d:=dI ((i+1:Nat):Int)) (qP (qM (by omega))) ?_
    refine bS s2 ?_
    refine cS (d:=dB (oO gs (yL w (i+1) (i+1+rg.es.length)).es rg.es)) (qEn hg hrg hR (by rw [lR]; exact zT _)) ?_
    rw [← eR]
    exact qD rfl rfl
   rw [eA] at z
   rw [z,Bool.false_and]
   exact qD rfl rfl
  rw [if_neg (by rw [c6]; simp)]
  refine bS (qB (off:=2) rfl i_lf.one) ?_
  refine bS (qI rfl) ?_
  refine bS (qB (off:=0) rfl i_gs.one) ?_
  refine bS s1 ?_
  refine cS (d:=dB (oO gs (yL w (i - lf.es.length) i).es lf.es)) (qEn hg hlf hA (by rw [lA]; exact zT _)) ?_
  refine iC (fun z=>?_) fun z=>?_
  ·rw [eA] at z
   rw [z,Bool.true_and]
   refine bS (qB (off:=3) rfl i_rg.one) ?_
   refine bS (qI rfl) ?_
   refine bS (qB (off:=0) rfl i_gs.one) ?_
   refine bS (d:=dI ((i+1:Nat):Int)) (qP (qM (by omega))) ?_
   refine bS s2 ?_
   refine cS (d:=dB (oO gs (yL w (i+1) (i+1+rg.es.length)).es rg.es)) (qEn hg hrg hR (by rw [lR]; exact zT _)) ?_
   rw [← eR]
   exact qD rfl rfl
  rw [eA] at z
  rw [z,Bool.false_and]
  exact qD rfl rfl
 rw [if_neg (by rw [c4]; simp)]
 refine bS (qB (off:=5) rfl rfl) ?_
 refine iC (fun c6=>?_) fun c6=>?_
 ·skip
  refine bS (qH i_w) ?_
  refine bS qK ?_
  refine iC (fun c7=>?_) fun c7=>?_
  ·have h7:=dT c7
   rw [if_pos ⟨c6,by omega⟩]
   exact qD rfl rfl
  have h7:=dF c7
  rw [if_neg (by omega)]
  refine bS (qB (off:=2) rfl i_lf.one) ?_
  refine bS (qI rfl) ?_
  refine bS (qB (off:=0) rfl i_gs.one) ?_
  refine bS s1 ?_
  refine cS (d:=dB (oO gs (yL w (i - lf.es.length) i).es lf.es)) (qEn hg hlf hA (by rw [lA]; exact zT _)) ?_
  refine iC (fun z=>?_) fun z=>?_
  ·rw [eA] at z
   rw [z,Bool.true_and]
   refine bS (qB (off:=3) rfl i_rg.one) ?_
   refine bS (qI rfl) ?_
   refine bS (qB (off:=0) rfl i_gs.one) ?_
   refine bS (d:=dI ((i+1:Nat):Int)) (qP (qM (by omega))) ?_
   refine bS s2 ?_
   refine cS (d:=dB (oO gs (yL w (i+1) (i+1+rg.es.length)).es rg.es)) (qEn hg hrg hR (by rw [lR]; exact zT _)) ?_
   rw [← eR]
   exact qD rfl rfl
  rw [eA] at z
  rw [z,Bool.false_and]
  exact qD rfl rfl
 rw [if_neg (by rw [c6]; simp)]
 refine bS (qB (off:=2) rfl i_lf.one) ?_
 refine bS (qI rfl) ?_
 refine bS (qB (off:=0) rfl i_gs.one) ?_
 refine bS s1 ?_
 refine cS (d:=dB (oO gs (yL w (i - lf.es.length) i).es lf.es)) (qEn hg hlf hA (by rw [lA]; exact zT _)) ?_
 refine iC (fun z=>?_) fun z=>?_
 ·rw [eA] at z
  rw [z,Bool.true_and]
  refine bS (qB (off:=3) rfl i_rg.one) ?_
  refine bS (qI rfl) ?_
  refine bS (qB (off:=0) rfl i_gs.one) ?_
  refine bS (d:=dI ((i+1:Nat):Int)) (qP (qM (by omega))) ?_
  refine bS s2 ?_
  refine cS (d:=dB (oO gs (yL w (i+1) (i+1+rg.es.length)).es rg.es)) (qEn hg hrg hR (by rw [lR]; exact zT _)) ?_
  rw [← eR]
  exact qD rfl rfl
 rw [eA] at z
 rw [z,Bool.false_and]
 exact qD rfl rfl
end Go.Proofs.YtnemldklhelbeaaGreat
namespace Go.Proofs.YtnemldklhelbeaaGreat
open Go Go.Am Go.Proofs
attribute [local irreducible] Go.Am.wp Go.Am.TOp.eval
def s7 (gs fr to lf rg:D) (bg en:Bool) (w:D) (i:Nat):List D:=match w.es[i]? with
 | some (.leaf (.int .i64 s))=>if cE gs fr lf rg bg en w i s=true then (match to.es[lD fr s]? with
   | some (.leaf (.int .i64 t))=>if t=0 then [] else [dI t]
   | _=>[]) else [dI s]
 | _=>[]
theorem qMt {gs fr to lf rg:D} {bg en:Bool} {w:D} (i:Nat):(s7 gs fr to lf rg bg en w i).length<=1:=by
 unfold s7
 split
 ·split
  ·split
   ·split <;> simp
   simp
  simp
 simp
theorem qMu {gs fr to lf rg:D} {bg en:Bool} {w:D} (i:Nat):∀ y∈s7 gs fr to lf rg bg en w i,∃ n,y=dI n:=by
 unfold s7
 intro y hy
 split at hy
 ·split at hy
  ·split at hy
   ·split at hy
    ·cases hy
    exact ⟨_,List.mem_singleton.1 hy⟩
   cases hy
  exact ⟨_,List.mem_singleton.1 hy⟩
 cases hy
def aK (gs fr to lf rg:D) (bg en:Bool) (w:D) (n:Nat):List D:=(List.range n).flatMap (s7 gs fr to lf rg bg en w)
def qBm (gs fr to lf rg:D) (bg en:Bool) (w:D):D:=qV 3 1 (aK gs fr to lf rg bg en w w.es.length)
theorem qBl {gs fr to lf rg:D} {bg en:Bool} {w:D} {n:Nat}:aK gs fr to lf rg bg en w (n+1)=aK gs fr to lf rg bg en w n++s7 gs fr to lf rg bg en w n:=by
 unfold aK; rw [List.range_succ,List.flatMap_append]; simp
theorem fT {gs fr to lf rg:D} {bg en:Bool} {w:D}:∀ n:Nat,(aK gs fr to lf rg bg en w n).length<=n
 | 0=>zT _
 | n+1=>by
  have:=fT (gs:=gs) (fr:=fr) (to:=to) (lf:=lf) (rg:=rg) (bg:=bg) (en:=en) (w:=w) n
  have:=qMt (gs:=gs) (fr:=fr) (to:=to) (lf:=lf) (rg:=rg) (bg:=bg) (en:=en) (w:=w) n
  rw [qBl,List.length_append]; omega
theorem qOx {gs fr to lf rg:D} {bg en:Bool} {w:D} {n:Nat}:∀ y∈aK gs fr to lf rg bg en w n,∃ m,y=dI m:=by
 intro y hy
 obtain ⟨i,_,h⟩:=List.mem_flatMap.1 hy
 exact qMu i y h
theorem qMr {gs fr to lf rg:D} {bg en:Bool} {w:D}:(qBm gs fr to lf rg bg en w).es.length<=w.es.length:=by
 unfold qBm; rw [gN]; exact fT _
theorem qOB {gs fr to lf rg:D} {bg en:Bool} {w:D} (h:w.es.length<=300000000):qE 300000000 xT (qBm gs fr to lf rg bg en w) :=
 pB (lT (fT _) h) qOx
theorem fS {l:List D} {t:Int} (h:l.length+1<=300000000):TOp.eval EE (.app 3 1 8) [qV 3 1 l,.sl 3 1 [dI t]]=some (qV 3 1 (l++[dI t])) :=
 gD (B:=300000000) (e:=.int .i64) (rB (show 1<=300000000 by decide) fun x hx=>by rw [List.mem_singleton.1 hx]; exact ⟨t,rfl⟩) (by decide) h
theorem qZJ {gs fr to lf rg w:D} {bg en:Bool} (hg:qE 300000000 aL gs) (hfr:qE 300000000 xT fr) (hto:qE 300000000 xT to) (hlf:qE 300000000 qHY lf) (hrg:qE 300000000 qHY rg) (hw:qE 300000000 xT w) (hl:to.es.length=fr.es.length) :
  qA EE 74 [.agg [gs],.agg [fr,to,lf,rg,dB bg,dB en],w] (qBm gs fr to lf rg bg en w):=by
 have i_w:=qC hw
 have i_fr:=qC hfr
 have i_to:=qC hto
 have b_w:=qJ hw
 refine qYQ rfl (qG.step' ?_)
 refine bS (qI rfl) ?_
 refine bS (qI rfl) ?_
 refine bS (qH i_w) ?_
 refine qF rfl (vK (P:=fun i=>qG EE (qA EE) qPn 1 [w,qV 3 1 (aK gs fr to lf rg bg en w i),dI ((w.es.length:Nat):Int),dI ((i:Nat):Int),.agg [gs],.agg [fr,to,lf,rg,dB bg,dB en]] (qBm gs fr to lf rg bg en w)) w.es.length ?_ ?_)
 ·refine qG.step' ?_
  refine bS qK ?_
  refine iC (fun c=>?_) fun c=>?_
  ·have:=vV c; omega
  exact qD rfl rfl
 intro i hi ih
 obtain ⟨x,e_x⟩:=vH hi
 obtain ⟨s,rfl⟩:=qN hw e_x
 have hal:=fT (gs:=gs) (fr:=fr) (to:=to) (lf:=lf) (rg:=rg) (bg:=bg) (en:=en) (w:=w) i
 have hI:s7 gs fr to lf rg bg en w i=if cE gs fr lf rg bg en w i s=true then (match to.es[lD fr s]? with
  | some (.leaf (.int .i64 t))=>if t=0 then [] else [dI t]
  | _=>[]) else [dI s]:=by unfold s7; rw [e_x]
 rw [qBl] at ih
 refine qG.step' ?_
 refine bS qK ?_
 refine iC (fun c=>?_) fun c=>?_
 ·skip
  refine bS (qL (s:=((i:Nat):Int)) (by omega) e_x) ?_
  refine bS (qO (s:=((i:Nat):Int)) i_w (by omega) e_x rfl) ?_
  refine cS (qXo (s:=s) hg hfr hlf hrg hw e_x) ?_
  refine iC (fun d=>?_) fun d=>?_
  ·have hix:lD fr s < fr.es.length:=by
    have h:=d
    unfold cE at h
    split at h
    ·cases h
    rename_i h2; simpa using h2
   have hv:qQ9 fr s=((lD fr s:Nat):Int):=by unfold qQ9; rw [if_pos hix]
   obtain ⟨y,e_y⟩:=vH (l:=to) (i:=lD fr s) (by omega)
   obtain ⟨t,rfl⟩:=qN hto e_y
   rw [if_pos d,e_y] at hI
   simp only at hI
   refine bS (qB (off:=1) rfl i_to.one) ?_
   refine bS (qB (off:=0) rfl i_fr.one) ?_
   refine cS (d:=dI ((lD fr s:Nat):Int)) (by rw [← hv]; exact qVo hfr) ?_
   refine bS (qL (s:=((lD fr s:Nat):Int)) (by omega) e_y) ?_
   refine bS (qO (s:=((lD fr s:Nat):Int)) i_to (by omega) e_y rfl) ?_
   refine bS vX ?_
   refine iC (fun e=>?_) fun e=>?_
   ·rw [hI,if_pos (dT e),List.append_nil] at ih
    refine bS (d:=dI ((i+1:Nat):Int)) (qP (qM (by omega))) ?_
    exact qF rfl ih
   rw [hI,if_neg (dF e)] at ih
   refine bS (vY rfl) ?_
   refine bS (wU rfl) ?_
   refine bS (d:=qV 3 1 (aK gs fr to lf rg bg en w i++[dI t])) (fS (by omega)) ?_
   refine bS (d:=dI ((i+1:Nat):Int)) (qP (qM (by omega))) ?_
   exact qF rfl ih
  rw [hI,if_neg (by rw [d]; simp)] at ih
  refine bS (vY rfl) ?_
  refine bS (wU rfl) ?_
  refine bS (d:=qV 3 1 (aK gs fr to lf rg bg en w i++[dI s])) (fS (by omega)) ?_
  refine bS (d:=dI ((i+1:Nat):Int)) (qP (qM (by omega))) ?_
  exact qF rfl ih
 have:=zC c; omega
def s6 (gs:D) (w:D):D->D
 | .agg [fr,to,lf,rg,.leaf (.bool bg),.leaf (.bool en)]=>qBm gs fr to lf rg bg en w
 | _=>w
def qEc (gs rs w:D):D:=rs.es.foldl (s6 gs) w
def qVY:D->Prop
 | .agg [fr,to,_,_,_,_]=>to.es.length=fr.es.length
 | _=>True
theorem qOC {gs w r:D} (h:qE 300000000 xT w):qE 300000000 xT (s6 gs w r)/\(s6 gs w r).es.length<=w.es.length:=by
 unfold s6
 split
 ·exact ⟨qOB (qJ h),qMr⟩
 exact ⟨h,zT _⟩
theorem iM {gs:D}:∀ (rs:List D) {w:D},qE 300000000 xT w->qE 300000000 xT (rs.foldl (s6 gs) w)/\(rs.foldl (s6 gs) w).es.length<=w.es.length
 | [],_,h=>⟨h,zT _⟩
 | r::rs,w,h=>by
  obtain ⟨h1,h2⟩:=qOC (gs:=gs) (r:=r) h
  obtain ⟨h3,h4⟩:=iM (gs:=gs) rs h1
  exact ⟨h3,lT h4 h2⟩
theorem qZQ {gs rs w:D} (hg:qE 300000000 aL gs) (hr:qE 300000000 (.sl 77 6 qVP) rs) (hw:qE 300000000 xT w) (ho:∀ r∈rs.es,qVY r):qA EE 39 [.agg [gs],rs,w] (qEc gs rs w):=by
 have i_rs:=qC hr
 have b_rs:=qJ hr
 refine qY7 rfl (qG.step' ?_)
 refine bS (qI rfl) ?_
 refine bS (qH i_rs) ?_
 refine qF rfl (vK (P:=fun i=>qG EE (qA EE) qP4 1 [(rs.es.take i).foldl (s6 gs) w,rs,dI ((rs.es.length:Nat):Int),dI ((i:Nat):Int),.agg [gs]] (qEc gs rs w)) rs.es.length ?_ ?_)
 ·refine qG.step' ?_
  refine bS qK ?_
  refine iC (fun c=>?_) fun c=>?_
  ·have:=vV c; omega
  exact qD rfl (by rw [List.take_length]; rfl)
 intro i hi ih
 obtain ⟨x,e_x⟩:=vH hi
 have hox:=ho x (List.mem_of_getElem? e_x)
 obtain ⟨_,rfl,fr,_,rfl,hfr,to,_,rfl,hto,lf,_,rfl,hlf,rg,_,rfl,hrg,_,_,rfl,⟨bg,rfl⟩,_,_,rfl,⟨en,rfl⟩,rfl⟩:=qN hr e_x
 rw [yV e_x] at ih
 have hwi:=(iM (gs:=gs) (rs.es.take i) hw).1
 refine qG.step' ?_
 refine bS qK ?_
 refine iC (fun c=>?_) fun c=>?_
 ·skip
  refine bS (qL (s:=((i:Nat):Int)) (by omega) e_x) ?_
  refine bS (z8 (s:=((i:Nat):Int)) i_rs (by omega) e_x rfl) ?_
  refine bS (qI rfl) ?_
  refine cS (qZJ hg hfr hto hlf hrg hwi hox) ?_
  refine bS (d:=dI ((i+1:Nat):Int)) (qP (qM (by omega))) ?_
  exact qF rfl ih
 have:=zC c; omega
def qBi (l ps:D):D:=qV 3 1 (ps.es.flatMap (FB l))
def qBG (gs rs l ws fs ps:D):D × Int :=
 if qFG l ws fs ps≠0 then (.nil,qFG l ws fs ps) else if (qEc gs rs (qBi l ps)).es.length=0 then (.nil,23) else (qEc gs rs (qBi l ps),0)
theorem qDk {l ps:D} (hl:qE 1048576 (.sl 59 8 cL) l) (hn:ps.es.length<=20):qE 300000000 xT (qBi l ps):=by
 have hbi:∀ y∈ps.es.flatMap (FB l),∃ n,y=dI n:=l6 fun x=>qGf hl
 have hbl:(ps.es.flatMap (FB l)).length<=ps.es.length * 1048576:=j8 fun y _=>qGe hl
 exact pB (by omega) hbi
theorem qZU {gs c1 c2 c3 rs n ws fs l ps:D} (hg:qE 300000000 aL gs) (hr:qE 300000000 (.sl 77 6 qVP) rs) (ho:∀ r∈rs.es,qVY r) (hno:n.one=true) (hw:qE 300000000 qHX ws) (hf:qE 300000000 (.sl 3 1 (.int .i64)) fs) (hl:qE 1048576 (.sl 59 8 cL) l) (hp:qE 300000000 qJh ps) (hn:ps.es.length<=20) :
  qA EE 14 [.agg [gs,c1,c2,c3,rs,n,ws,fs,l],.agg [ps]] (.tup [(qBG gs rs l ws fs ps).1,dI (qBG gs rs l ws fs ps).2]):=by
 have i_rs:=qC hr
 have hB:=qDk hl hn
 have i_last:=qC (iM (gs:=gs) rs.es hB).1
 unfold qBG
 refine qZf rfl (qG.step' ?_)
 refine bS (qI rfl) ?_
 refine bS (qI rfl) ?_
 refine cS (qYc hno hw hf hl hp hn) ?_
 refine bS zS ?_
 refine iC (fun c=>?_) fun c=>?_
 ·rw [if_pos (dT c)]
  exact zW rfl rfl
 rw [if_neg (dF c)]
 refine bS (xW (off:=0) (size:=1) rfl) ?_
 refine bS (qB (off:=4) rfl i_rs.one) ?_
 refine cS (qYb (l:=l) rfl rfl hl hp hn) ?_
 refine cS (qZQ hg hr hB ho) ?_
 refine bS (d:=dI (((qEc gs rs (qBi l ps)).es.length:Nat):Int)) (qH i_last) ?_
 refine bS vX ?_
 refine iC (fun d=>?_) fun d=>?_
 ·have hd:=dT d
  rw [if_pos (by omega)]
  exact zW rfl rfl
 have hd:=dF d
 rw [if_neg (by omega)]
 exact zW rfl rfl
end Go.Proofs.YtnemldklhelbeaaGreat
