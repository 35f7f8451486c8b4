/- Where a scalar lies, and whether a text is right, by the program. Conditions: none. -/
import Derived.Test.YtminhjecpnpaeaaGreatDoorBc
import Derived.Lib.IndexLaws
set_option linter.unusedVariables false
set_option linter.unusedSimpArgs false
namespace Go.Proofs.YtminhjecpnpaeaaGreatDoor
open Go Go.Am Go.Proofs Go.Am.Tu
attribute [local irreducible] Go.Am.wp Go.Am.TOp.eval
theorem qW1 {s:ByteArray} {a n:Nat} (h:a+n<=s.size):(s.extract a (a+n)).data.toList=(List.range n).map fun k=>s.get! (a+k):=by
 rw [ByteArray.data_extract,Array.toList_extract,List.extract_eq_take_drop]
 apply List.ext_getElem?
 intro i
 by_cases hi:i < n
 ·have hl:a+i < s.data.toList.length:=by rw [kM]; omega
  have e:s.data.toList[a+i]? = some (s.get! (a+i)):=by
   rw [← Go.Lib.getD_get!' s (a+i),List.getD_eq_getElem?_getD,List.getElem?_eq_getElem hl]; rfl
  rw [List.getElem?_take,if_pos (by omega),List.getElem?_drop,e,List.getElem?_map,List.getElem?_range hi]; rfl
 rw [List.getElem?_take,if_neg (by omega),List.getElem?_map,List.getElem?_eq_none (by simp; omega)]; rfl
theorem qOT {s:ByteArray} {a n:Nat} {l:List Nat} (h:a+n<=s.size) (hl:∀ x∈l,x < 256):qL2 l=s.extract a (a+n)↔l=(List.range n).map fun k=>bt s (a+k):=by
 have hb:∀ k,UInt8.ofNat (bt s k)=s.get! k:=fun k=>UInt8.ofNat_toNat
 constructor
 ·intro e
  have e1:l.map UInt8.ofNat=(List.range n).map fun k=>s.get! (a+k):=by rw [← qW1 h,← e]; rfl
  have e2:(l.map UInt8.ofNat).map UInt8.toNat=((List.range n).map fun k=>s.get! (a+k)).map UInt8.toNat:=by rw [e1]
  rw [List.map_map,List.map_map] at e2
  have e3:l.map (UInt8.toNat ∘ UInt8.ofNat)=l:=by
   conv=>rhs; rw [← List.map_id l]
   exact List.map_congr_left fun x hx=>by
    show (UInt8.ofNat x).toNat=x
    rw [UInt8.toNat_ofNat']; exact Nat.mod_eq_of_lt (hl x hx)
  rw [e3] at e2
  exact e2
 intro e
 apply ByteArray.ext
 apply Array.toList_inj.1
 rw [qW1 h]
 show l.map UInt8.ofNat=_
 rw [e,List.map_map]
 exact List.map_congr_left fun k _=>hb (a+k)
theorem qUt {p:Nat} (hp:p<=1114111):∀ x∈rD p,x < 256:=by
 intro x hx
 unfold rD at hx
 repeat' split at hx
 all_goals simp only [List.mem_cons,List.mem_nil_iff,or_false] at hx
 all_goals omega
theorem qTk {s:ByteArray} {a b:Nat} (h:a<=b) (hb:b<=s.size):TOp.eval EE (.sub true true) [.leaf (.string s),dI ((a:Nat):Int),dI ((b:Nat):Int)]=some (.leaf (.string (s.extract a b))):=by
 rw [qHW]
 show (bif Nat.ble a b && Nat.ble b s.size then some (D.leaf (.string (s.extract a b))) else none)=_
 rw [bL h,bL hb]; rfl
def qWX:Option (Nat × Nat)->D
 | some (p,n)=>.tup [dI ((p:Nat):Int),dI ((n:Nat):Int)]
 | none=>.tup [dI (-1),dI 0]
theorem qKd {s:ByteArray} {a p n i:Nat} {d:D} (hi:i < n) (hn:a+n<=s.size) (hs:s.size<=1048576) (hp:p<=30000000)
  (h:qK EE (qB EE) rP 1 [.leaf (.string s),dI ((a:Nat):Int),dI ((p * 64+bt s (a+i) % 64:Nat):Int),dI ((n:Nat):Int),dI ((i+1:Nat):Int)] d) :
  qK EE (qB EE) rP 1 [.leaf (.string s),dI ((a:Nat):Int),dI ((p:Nat):Int),dI ((n:Nat):Int),dI ((i:Nat):Int)] d:=by
 refine qK.step' ?_
 refine bS zE ?_
 refine zY (t:=true) (congrArg (fun q=>dB q) (tD (show ((i:Nat):Int) < ((n:Nat):Int) by omega))) ?_
 refine kZ ?_
 refine bS (d:=dI ((p * 64:Nat):Int)) (qYp (n:=64) (by omega)) ?_
 refine bS (d:=dI ((a+i:Nat):Int)) (mV (by omega)) ?_
 refine bS (d:=.leaf (.int .u8 (((bt s (a+i):Nat):Int)))) (yX (by omega)) ?_
 refine bS (d:=dI ((bt s (a+i):Nat):Int)) (qXr _ (by omega) (by have:=sR s (a+i); omega)) ?_
 refine bS fQ ?_
 refine bS (d:=dI ((p * 64+bt s (a+i) % 64:Nat):Int)) (mV (by omega)) ?_
 refine bS (d:=dI ((i+1:Nat):Int)) (zA (qX (by omega))) ?_
 exact qE rfl h
theorem qPO {s:ByteArray} {a p n:Nat} (hn:a+n<=s.size) (hs:s.size<=1048576) :
  qK EE (qB EE) rP 1 [.leaf (.string s),dI ((a:Nat):Int),dI ((p:Nat):Int),dI ((n:Nat):Int),dI ((n:Nat):Int)]
   (qWX (if l8 p/\rD p=(List.range n).map (fun k=>bt s (a+k)) then some (p,n) else none)):=by
 refine qK.step' ?_
 refine bS zE ?_
 refine zY (t:=false) (congrArg (fun q=>dB q) (fD (show ¬ ((n:Nat):Int) < ((n:Nat):Int) by omega))) ?_
 refine oA ?_
 refine cS qYA ?_
 refine bS vV ?_
 refine iC (fun c=>?_) fun c=>?_
 ·have c1:¬ l8 p:=fun h=>by rw [tD h] at c; cases c
  exact vY rfl (by rw [if_neg (fun h=>c1 h.1)]; rfl)
 have c1:l8 p:=Classical.byContradiction fun h=>by rw [fD h] at c; cases c
 refine cS (qYz c1.1) ?_
 refine bS (d:=dI ((a+n:Nat):Int)) (mV (by omega)) ?_
 refine bS (d:=.leaf (.string (s.extract a (a+n)))) (qTk (by omega) hn) ?_
 refine bS pZ ?_
 have q:=qOT (l:=rD p) hn (qUt c1.1)
 refine iC (fun e=>?_) fun e=>?_
 ·have e1:¬ qL2 (rD p)=s.extract a (a+n):=fun h=>by rw [dP.2 h] at e; cases e
  exact vY rfl (by rw [if_neg (fun h=>e1 (q.2 h.2))]; rfl)
 have e1:qL2 (rD p)=s.extract a (a+n):=by
  rw [Bool.not_eq_false'] at e; exact dP.1 e
 exact vY rfl (by rw [if_pos ⟨c1,q.1 e1⟩]; rfl)
theorem qT2 {s:ByteArray} {a:Nat} (ha:a < s.size) (hs:s.size<=1048576):qB EE 161 [.leaf (.string s),dI ((a:Nat):Int)] (qWX (fst s a)):=by
 have q0:=sR s a
 have q1:∀ k,bt s k % 64 < 64:=fun k=>by omega
 refine qS7 rfl (qK.step' ?_)
 refine bS (yX ha) ?_
 refine bS (d:=dI ((bt s a:Nat):Int)) (qXr _ (by omega) (by omega)) ?_
 refine bS wN ?_
 refine iC (fun c=>?_) fun c=>?_
 ·skip
  have c1:240<=bt s a:=by have:((bt s a:Nat):Int)≥240:=dT c; omega
  refine bS (d:=dI ((bt s a - 240:Nat):Int)) (qTm (n:=240) (by omega) (by omega)) ?_
  refine bS (d:=dI ((a+4:Nat):Int)) (mV (n:=4) (by omega)) ?_
  refine bS wW ?_
  refine bS vT ?_
  refine iC (fun e=>?_) fun e=>?_
  ·have e1:((a+4:Nat):Int) > (s.size:Int):=dT e
   exact vY rfl (by unfold fst nE; rw [if_pos c1,if_pos (by omega)]; rfl)
  have e1:¬ ((a+4:Nat):Int) > (s.size:Int):=dF e
  have g1:=q1 (a+1); have g2:=q1 (a+2); have g3:=q1 (a+3)
  have e2:fst s a=if l8 ((((bt s a - 240) * 64+bt s (a+1) % 64) * 64+bt s (a+2) % 64) * 64+bt s (a+3) % 64)/\rD ((((bt s a - 240) * 64+bt s (a+1) % 64) * 64+bt s (a+2) % 64) * 64+bt s (a+3) % 64)=(List.range 4).map (fun k=>bt s (a+k)) then some ((((bt s a - 240) * 64+bt s (a+1) % 64) * 64+bt s (a+2) % 64) * 64+bt s (a+3) % 64,4) else none:=by
   unfold fst nE; rw [if_pos c1,if_neg (by omega)]; rfl
  rw [e2]
  exact qE rfl (qKd (n:=4) (i:=1) (by decide) (by omega) hs (by omega) (qKd (n:=4) (i:=2) (by decide) (by omega) hs (by omega) (qKd (n:=4) (i:=3) (by decide) (by omega) hs (by omega) (qPO (n:=4) (by omega) hs))))
 have c1:¬ 240<=bt s a:=by have:¬ ((bt s a:Nat):Int)≥240:=dF c; omega
 refine bS wN ?_
 refine iC (fun d=>?_) fun d=>?_
 ·skip
  have d1:224<=bt s a:=by have:((bt s a:Nat):Int)≥224:=dT d; omega
  refine bS (d:=dI ((bt s a - 224:Nat):Int)) (qTm (n:=224) (by omega) (by omega)) ?_
  refine bS (d:=dI ((a+3:Nat):Int)) (mV (n:=3) (by omega)) ?_
  refine bS wW ?_
  refine bS vT ?_
  refine iC (fun e=>?_) fun e=>?_
  ·have e1:((a+3:Nat):Int) > (s.size:Int):=dT e
   exact vY rfl (by unfold fst nE; rw [if_neg c1,if_pos d1,if_pos (by omega)]; rfl)
  have e1:¬ ((a+3:Nat):Int) > (s.size:Int):=dF e
  have g1:=q1 (a+1); have g2:=q1 (a+2)
  have e2:fst s a=if l8 (((bt s a - 224) * 64+bt s (a+1) % 64) * 64+bt s (a+2) % 64)/\rD (((bt s a - 224) * 64+bt s (a+1) % 64) * 64+bt s (a+2) % 64)=(List.range 3).map (fun k=>bt s (a+k)) then some (((bt s a - 224) * 64+bt s (a+1) % 64) * 64+bt s (a+2) % 64,3) else none:=by
   unfold fst nE; rw [if_neg c1,if_pos d1,if_neg (by omega)]; rfl
  rw [e2]
  exact qE rfl (qKd (n:=3) (i:=1) (by decide) (by omega) hs (by omega) (qKd (n:=3) (i:=2) (by decide) (by omega) hs (by omega) (qPO (n:=3) (by omega) hs)))
 have d1:¬ 224<=bt s a:=by have:¬ ((bt s a:Nat):Int)≥224:=dF d; omega
 refine bS wN ?_
 refine iC (fun f=>?_) fun f=>?_
 ·skip
  have f1:192<=bt s a:=by have:((bt s a:Nat):Int)≥192:=dT f; omega
  refine bS (d:=dI ((bt s a - 192:Nat):Int)) (qTm (n:=192) (by omega) (by omega)) ?_
  refine bS (d:=dI ((a+2:Nat):Int)) (mV (n:=2) (by omega)) ?_
  refine bS wW ?_
  refine bS vT ?_
  refine iC (fun e=>?_) fun e=>?_
  ·have e1:((a+2:Nat):Int) > (s.size:Int):=dT e
   exact vY rfl (by unfold fst nE; rw [if_neg c1,if_neg d1,if_pos f1,if_pos (by omega)]; rfl)
  have e1:¬ ((a+2:Nat):Int) > (s.size:Int):=dF e
  have g1:=q1 (a+1)
  have e2:fst s a=if l8 ((bt s a - 192) * 64+bt s (a+1) % 64)/\rD ((bt s a - 192) * 64+bt s (a+1) % 64)=(List.range 2).map (fun k=>bt s (a+k)) then some ((bt s a - 192) * 64+bt s (a+1) % 64,2) else none:=by
   unfold fst nE; rw [if_neg c1,if_neg d1,if_pos f1,if_neg (by omega)]; rfl
  rw [e2]
  exact qE rfl (qKd (n:=2) (i:=1) (by decide) (by omega) hs (by omega) (qPO (n:=2) (by omega) hs))
 have f1:¬ 192<=bt s a:=by have:¬ ((bt s a:Nat):Int)≥192:=dF f; omega
 refine bS (d:=dI ((a+1:Nat):Int)) (mV (n:=1) (by omega)) ?_
 refine bS wW ?_
 refine bS vT ?_
 refine iC (fun e=>?_) fun e=>?_
 ·have e1:((a+1:Nat):Int) > (s.size:Int):=dT e
  omega
 have e2:fst s a=if l8 (bt s a)/\rD (bt s a)=(List.range 1).map (fun k=>bt s (a+k)) then some (bt s a,1) else none:=by
  unfold fst nE; rw [if_neg c1,if_neg d1,if_neg f1]; rfl
 rw [e2]
 exact qE rfl (qPO (n:=1) (by omega) hs)
theorem qSz {l:List D} {n:Nat} (h:l.length+1<=300000000):TOp.eval EE (.app 3 1 8) [yM 3 1 l,.sl 3 1 [dI ((n:Nat):Int)]]=some (yM 3 1 (l++[dI ((n:Nat):Int)])) :=
 qOb (B:=300000000) (e:=.int .i64) (cB (show 1<=300000000 by decide) fun x hx=>by rw [List.mem_singleton.1 hx]; exact ⟨_,rfl⟩) (by decide) h
theorem qYF {s:ByteArray} (hs:s.size<=1048576):∃ x,qB EE 131 [.leaf (.string s)] (.tup [x,dB (fU s 0)]):=by
 have main:∀ a:Nat,∀ l:List D,l.length+(s.size - a)<=1048576->a<=s.size->∃ d,(∃ x,d=.tup [x,dB (fU s a)])/\qK EE (qB EE) qLN 1 [.leaf (.string s),yM 3 1 l,dI ((a:Nat):Int)] d:=by
  refine qI1 (fun a=>s.size - a) fun a ih=>?_
  intro l hl hal
  refine wE ?_
  refine bS wW ?_
  refine bS zE ?_
  refine iC (fun c=>?_) fun c=>?_
  ·skip
   have c1:a < s.size:=by have:((a:Nat):Int) < (s.size:Int):=dT c; omega
   have hf:=qT2 c1 hs
   cases hq:fst s a with
   | none =>
    rw [hq] at hf
    refine cS hf ?_
    refine bS (yP rfl) ?_
    refine bS (yP rfl) ?_
    refine bS yR ?_
    refine zY (t:=true) rfl ?_
    refine kZ ?_
    exact vO rfl ⟨.nil,by rw [qPs c1 hq]; rfl⟩
   | some q =>
    obtain ⟨p,n⟩:=q
    rw [hq] at hf
    obtain ⟨n1,n2,n3,n4⟩:=qWW hq c1
    refine cS hf ?_
    refine bS (yP rfl) ?_
    refine bS (yP rfl) ?_
    refine bS yR ?_
    refine zY (t:=false) (congrArg (fun q=>dB q) (fD (show ¬ ((n:Nat):Int)=0 by omega))) ?_
    refine oA ?_
    refine bS (jM rfl) ?_
    refine bS (qAL rfl) ?_
    refine bS (d:=yM 3 1 (l++[dI ((p:Nat):Int)])) (qSz (by omega)) ?_
    refine bS (d:=dI ((a+n:Nat):Int)) (mV (by omega)) ?_
    have h2:=ih (a+n) (by omega) (l++[dI ((p:Nat):Int)]) (by rw [List.length_append]; show l.length+1+_<=_; omega) n3
    rw [← (qPr c1 hq).1] at h2
    exact vH rfl h2
  have c1:¬ ((a:Nat):Int) < (s.size:Int):=dF c
  exact vO rfl ⟨yM 3 1 l,by rw [qTI (by omega)]; rfl⟩
 obtain ⟨d,⟨x,rfl⟩,hd⟩:=main 0 [] (by simp; omega) (Nat.zero_le _)
 refine ⟨x,qX4 rfl (qK.step' ?_)⟩
 exact qE rfl hd
theorem qYC {s:ByteArray} (hs:s.size<=1048576):∃ x,qB EE 159 [.leaf (.string s)] (.tup [x,dB (fU s 0)]):=by
 have main:∀ a:Nat,∀ l:List D,l.length+(s.size - a)<=1048576->∃ d,(∃ x,d=.tup [x,dB true])/\qK EE (qB EE) qLJ 1000 [yM 3 1 l,.leaf (.string s),dI ((a:Nat):Int)] d:=by
  refine qI1 (fun a=>s.size - a) fun a ih=>?_
  intro l hl
  refine wE ?_
  refine bS (d:=dB (Nat.ble (a+1) s.size)) (show TOp.eval EE .nok [.leaf (.string s),dI ((a:Nat):Int)]=some (dB (Nat.ble (a+1) s.size)) from by rw [qNF]; rfl) ?_
  refine iC (fun c=>?_) fun c=>?_
  ·skip
   have c1:a+1<=s.size:=lB c
   obtain ⟨d1,d2⟩:=qQw s a
   refine bS (d:=.leaf (.int .i32 ((((Utf8.decode s a).1:Nat):Int)))) (show TOp.eval EE .nch [.leaf (.string s),dI ((a:Nat):Int)]=some (.leaf (.int .i32 (((Utf8.decode s a).1:Nat):Int))) from by rw [qNH]; rfl) ?_
   refine bS (d:=dI ((a+(Utf8.decode s a).2:Nat):Int)) (show TOp.eval EE .nnx [.leaf (.string s),dI ((a:Nat):Int)]=some (dI ((a+(Utf8.decode s a).2:Nat):Int)) from by rw [qNG]; rfl) ?_
   refine bS (qXs d2) ?_
   refine bS (jM rfl) ?_
   refine bS (qAL rfl) ?_
   refine bS (d:=yM 3 1 (l++[dI (((Utf8.decode s a).1:Nat):Int)])) (qSz (by omega)) ?_
   exact vH rfl (ih (a+(Utf8.decode s a).2) (by omega) _ (by rw [List.length_append]; show l.length+1+_<=_; omega))
  exact vO rfl ⟨yM 3 1 l,rfl⟩
 have hv:Go.Lib.validD s.data.toList=fU s 0:=by unfold fU; rw [List.drop_zero]
 by_cases hq:fU s 0=true
 ·obtain ⟨d,⟨x,rfl⟩,hd⟩:=main 0 [] (by simp; omega)
  refine ⟨x,qWa rfl (qK.step' ?_)⟩
  refine cS (qV3 (s:=s) (by omega)) ?_
  refine bS vV ?_
  refine zY (t:=false) (congrArg (fun q=>dB q) (by rw [hv,hq]; rfl)) ?_
  refine oA ?_
  refine bS (jM rfl) ?_
  refine bS wW ?_
  rw [hq]
  exact qE rfl hd
 rw [Bool.not_eq_true] at hq
 refine ⟨.nil,qWa rfl (qK.step' ?_)⟩
 refine cS (qV3 (s:=s) (by omega)) ?_
 refine bS vV ?_
 refine zY (t:=true) (congrArg (fun q=>dB q) (by rw [hv,hq]; rfl)) ?_
 refine kZ ?_
 rw [hq]
 exact vY rfl rfl
end Go.Proofs.YtminhjecpnpaeaaGreatDoor
namespace Go.Proofs.YtminhjecpnpaeaaGreatDoor
open Go Go.Am Go.Proofs Go.Am.Tu
attribute [local irreducible] Go.Am.wp Go.Am.TOp.eval
theorem e7 {b:Bool} (h:(!b)=true):b=false:=by cases b <;> first | rfl | cases h
theorem e8 {b:Bool} (h:(!b)=false):b=true:=by cases b <;> first | rfl | cases h
def mT (p:Nat->Bool) (s:ByteArray) (a:Nat):Bool:=(s.data.toList.drop a).any fun b=>p b.toNat
theorem qJx {s:ByteArray} {i:Nat} (h:i < s.size):s.data.toList[i]? = some (s.get! i):=by
 have hl:i < s.data.toList.length:=by rw [kM]; exact h
 rw [← Go.Lib.getD_get!' s i,List.getD_eq_getElem?_getD,List.getElem?_eq_getElem hl]; rfl
theorem dR {p:Nat->Bool} {s:ByteArray} {a:Nat} (h:s.size<=a):mT p s a=false:=by
 unfold mT; rw [List.drop_of_length_le (by rw [kM]; exact h)]; rfl
theorem qDS {p:Nat->Bool} {s:ByteArray} {a:Nat} (h:a < s.size):mT p s a=(p (bt s a) || mT p s (a+1)):=by
 unfold mT
 have hl:a < s.data.toList.length:=by rw [kM]; exact h
 rw [List.drop_eq_getElem_cons hl,List.any_cons]
 have e:s.data.toList[a]=s.get! a:=by
  have:=qJx h
  rw [List.getElem?_eq_getElem hl] at this
  exact Option.some.inj this
 rw [e]; rfl
theorem gX {p:Nat->Bool} {s:ByteArray} {a:Nat} (h:a < s.size) (e:p (bt s a)=true):mT p s a=true:=by rw [qDS h,e]; rfl
theorem wJ {p:Nat->Bool} {s:ByteArray} {a:Nat} (h:a < s.size) (e:p (bt s a)=false):mT p s a=mT p s (a+1):=by rw [qDS h,e]; rfl
def qCw (n:Nat):Bool:=decide (n < 32∨n=127)
def qSu (n:Nat):Bool:=decide (n=32)
def qBb (n:Nat):Bool:=decide (97<=n/\n<=122)
def cI (n:Nat):Bool:=decide (¬ (97<=n/\n<=122)/\¬ n=45/\¬ n=95/\¬ (48<=n/\n<=57))
def qD9 (s:ByteArray):Bool:=decide (1<=s.size) && decide (s.size<=32)
def qFR (s:ByteArray):Bool:=qD9 s && !mT qCw s 0 && fU s 0
def cH (s:ByteArray):Bool:=!mT qSu s 0 && qFR s
def qBz (s:ByteArray):Bool:=qD9 s && qBb (bt s 0) && !mT cI s 1
def uG (s:ByteArray):D:=.sl 5 1 (s.data.toList.map fun b=>D.leaf (.int .u8 b.toNat))
theorem qGH {s:ByteArray}:(uG s).es.length=s.size:=by
 show (s.data.toList.map _).length=_
 rw [List.length_map,kM]
theorem qN5 {s:ByteArray} (h:s.size<=1048576):TOp.eval EE (.byt 5) [.leaf (.string s)]=some (uG s):=by
 rw [qGp]
 show (bif Nat.ble s.data.toList.length 1000000000 then some (uG s) else none)=_
 rw [bL (by rw [kM]; omega)]; rfl
theorem qJJ {s:ByteArray} {i:Nat} (h:i < s.size):(uG s).es[i]? = some (.leaf (.int .u8 ((bt s i:Nat):Int))):=by
 show (s.data.toList.map _)[i]? = _
 rw [List.getElem?_map,qJx h]; rfl
theorem qJI {s:ByteArray} (h:s.size<=1048576):xL 5 1 (uG s):=.inr ⟨_,rfl,by rw [List.length_map,kM]; exact qX (by omega)⟩
theorem qYD {n:Nat}:qB EE 158 [.leaf (.int .u8 ((n:Nat):Int))] (dB (qCw n)):=by
 refine qX2 rfl (qK.step' ?_)
 refine bS zE ?_
 refine iC (fun q1=>?_) fun q1=>?_
 ·replace q1:=dT q1
  exact qC rfl (congrArg dB (by unfold qCw; first | exact (tD (by omega)).symm | exact decide_eq_decide.2 (by omega)))
 replace q1:=dF q1
 refine bS yR ?_
 exact qC rfl (congrArg dB (by unfold qCw; first | exact (tD (by omega)).symm | exact decide_eq_decide.2 (by omega)))
theorem qYB {s:ByteArray} (hs:s.size<=1048576):∃ n:Int,decide (n≥0)=mT qCw s 0/\qB EE 181 [uG s,.clo (.func 158) [] []] (dI n):=by
 have i_L:=qJI hs
 have hlen:=qGH (s:=s)
 have main:∀ a:Nat,∃ d,(∃ n:Int,d=dI n/\decide (n≥0)=mT qCw s a)/\qK EE (qB EE) qLG 1 [uG s,.clo (.func 158) [] [],dI (((uG s).es.length:Nat):Int),dI ((a:Nat):Int)] d:=by
  refine zR s.size fun a ih=>?_
  refine wE ?_
  refine bS zE ?_
  refine iC (fun c=>?_) fun c=>?_
  ·skip
   have c1:a < s.size:=by have:=dT c; omega
   have e_x:=qJJ c1
   refine bS (vB (s:=((a:Nat):Int)) (by omega) e_x) ?_
   refine bS (z6 (s:=((a:Nat):Int)) i_L (by omega) e_x rfl) ?_
   refine cS qYD ?_
   refine iC (fun e=>?_) fun e=>?_
   ·exact vO rfl ⟨_,rfl,by rw [gX c1 e]; exact tD (by omega)⟩
   refine bS (d:=dI ((a+1:Nat):Int)) (zA (qX (by omega))) ?_
   have q:=ih c1
   rw [← wJ c1 e] at q
   exact vH rfl q
  have c1:=dF c
  exact vO rfl ⟨-1,rfl,by rw [dR (by omega)]; rfl⟩
 obtain ⟨d,⟨n,rfl,hn⟩,hd⟩:=main 0
 refine ⟨n,hn,qX1 rfl (qK.step' ?_)⟩
 refine bS (d:=dI (((uG s).es.length:Nat):Int)) (qL i_L) ?_
 exact qE rfl hd
theorem qYE {s:ByteArray} (hs:s.size<=1048576):qB EE 157 [uG s,.clo (.func 158) [] []] (dB (mT qCw s 0)):=by
 obtain ⟨n,hn,hh⟩:=qYB hs
 refine qX3 rfl (qK.step' ?_)
 refine cS hh ?_
 refine bS wN ?_
 exact qC rfl (congrArg dB hn)
theorem qAD {s:ByteArray}:(s == (⟨#[]⟩:ByteArray))=decide (s.size=0):=by
 by_cases h:s.size=0
 ·rw [tD h]
  refine dP.2 ?_
  apply ByteArray.ext
  exact Array.eq_empty_of_size_eq_zero h
 rw [fD h]
 cases e:(s == (⟨#[]⟩:ByteArray)) with
 | false=>rfl
 | true=>have e:=dP.1 e; subst e; exact absurd rfl h
theorem qYI {s:ByteArray} (hs:s.size<=1048576):qB EE 127 [.leaf (.string s)] (dB (qFR s)):=by
 refine qX8 rfl (qK.step' ?_)
 refine bS dZ ?_
 refine iC (fun c=>?_) fun c=>?_
 ·have c1:s.size=0:=by rw [qAD] at c; exact dT c
  exact qC rfl (congrArg dB (by unfold qFR qD9; rw [fD (by omega:¬ 1<=s.size)]; rfl))
 have c1:¬ s.size=0:=by rw [qAD] at c; exact dF c
 refine bS wW ?_
 refine bS vT ?_
 refine iC (fun d=>?_) fun d=>?_
 ·have d1:(s.size:Int) > 32:=dT d
  exact qC rfl (congrArg dB (by unfold qFR qD9; rw [fD (by omega:¬ s.size<=32),Bool.and_false]; rfl))
 have d1:¬ (s.size:Int) > 32:=dF d
 have hz:qD9 s=true:=by unfold qD9; rw [tD (by omega:1<=s.size),tD (by omega:s.size<=32)]; rfl
 refine bS (qN5 hs) ?_
 refine cS (qYE hs) ?_
 refine iC (fun e=>?_) fun e=>?_
 ·exact qC rfl (congrArg dB (by unfold qFR; rw [e,hz]; rfl))
 obtain ⟨x,hx⟩:=qYC hs
 refine cS hx ?_
 refine bS (yP rfl) ?_
 refine bS (yP rfl) ?_
 exact qC rfl (congrArg dB (by unfold qFR; rw [e,hz]; rfl))
theorem zAb {s:ByteArray} (hs:s.size<=1048576):qB EE 86 [.leaf (.string s)] (dB (qFR s)):=by
 have main:∀ a:Nat,qK EE (qB EE) qRa 1 [.leaf (.string s),dI ((a:Nat):Int)] (dB (qD9 s && !mT qCw s a && fU s 0)):=by
  refine zR s.size fun a ih=>?_
  refine qK.step' ?_
  refine bS wW ?_
  refine bS zE ?_
  refine iC (fun c=>?_) fun c=>?_
  ·skip
   have c1:a < s.size:=by have:((a:Nat):Int) < (s.size:Int):=dT c; omega
   have ih:=ih c1
   refine bS (d:=.leaf (.int .u8 (((bt s (a):Nat):Int)))) (yX (by omega)) ?_
   refine bS zE ?_
   refine iC (fun q2=>?_) fun q2=>?_
   ·replace q2:=dT q2
    first | exact qC rfl (congrArg dB (by rw [gX c1 (by unfold qCw; exact tD (by omega)),Bool.not_true,Bool.and_false,Bool.false_and]))
   replace q2:=dF q2
   refine bS (d:=.leaf (.int .u8 (((bt s (a):Nat):Int)))) (yX (by omega)) ?_
   refine bS yR ?_
   refine iC (fun q3=>?_) fun q3=>?_
   ·replace q3:=dT q3
    first | exact qC rfl (congrArg dB (by rw [gX c1 (by unfold qCw; exact tD (by omega)),Bool.not_true,Bool.and_false,Bool.false_and]))
   replace q3:=dF q3
   refine bS (d:=dI ((a+1:Nat):Int)) (zA (qX (by omega))) ?_
   exact qE rfl (by rw [wJ c1 (by unfold qCw; exact fD (by omega))]; exact ih)
  have c1:¬ ((a:Nat):Int) < (s.size:Int):=dF c
  obtain ⟨x,hx⟩:=qYF hs
  rw [dR (by omega)]
  refine cS hx ?_
  refine bS (yP rfl) ?_
  refine bS (yP rfl) ?_
  refine iC (fun d=>?_) fun d=>?_
  ·skip
   rw [d]
   refine bS wW ?_
   refine bS wN ?_
   refine iC (fun q4=>?_) fun q4=>?_
   ·replace q4:=dT q4
    refine bS wW ?_
    refine bS cT ?_
    exact qC rfl (congrArg dB (by unfold qD9; first | (rw [fD (by omega:¬ 1<=s.size)]; rfl) | (rw [tD (by omega:1<=s.size),Bool.not_false,Bool.and_true,Bool.and_true,Bool.true_and]; exact decide_eq_decide.2 (by omega))))
   replace q4:=dF q4
   exact qC rfl (congrArg dB (by unfold qD9; first | (rw [fD (by omega:¬ 1<=s.size)]; rfl) | (rw [tD (by omega:1<=s.size),Bool.not_false,Bool.and_true,Bool.and_true,Bool.true_and]; exact decide_eq_decide.2 (by omega))))
  rw [d]
  exact qC rfl (congrArg dB (by rw [Bool.and_false]))
 refine qZx rfl (qK.step' ?_)
 exact qE rfl (main 0)
theorem qI9:∀ l:List UInt8,decide (0<=Go.Lib.indexByte l 32)=l.any fun b=>qSu b.toNat
 | []=>rfl
 | b::l=>by
  have ih:=qI9 l
  have hg:=Go.Lib.indexByte_ge l 32
  rw [List.any_cons,← ih,show Go.Lib.indexByte (b::l) 32=(if b == 32 then 0 else if Go.Lib.indexByte l 32 == -1 then -1 else Go.Lib.indexByte l 32+1) from rfl]
  by_cases hb:b=32
  ·subst hb; rfl
  have h1:(b == 32)=false:=by rw [beq_eq_false_iff_ne]; exact hb
  have h2:qSu b.toNat=false:=by
   unfold qSu
   refine fD fun e=>hb ?_
   have:UInt8.ofNat b.toNat=UInt8.ofNat 32:=by rw [e]
   rw [UInt8.ofNat_toNat] at this
   exact this
  rw [h1,h2,Bool.false_or]
  by_cases h3:Go.Lib.indexByte l 32 = -1
  ·rw [h3]; rfl
  have h4:(Go.Lib.indexByte l 32 == -1)=false:=by rw [beq_eq_false_iff_ne]; exact h3
  rw [h4,decide_eq_decide]
  simp only [Bool.false_eq_true,if_false]
  omega
theorem qZl {s:ByteArray} (hs:s.size<=1048576):qB EE 79 [.leaf (.string s)] (dB (cH s)):=by
 have hi:decide (0<=Go.Lib.indexByte s.data.toList 32)=mT qSu s 0:=by rw [qI9]; rfl
 refine qZE rfl (qK.step' ?_)
 refine cS (qYI hs) ?_
 refine iC (fun c=>?_) fun c=>?_
 ·skip
  refine cS (qX7 (s:=s) (c:=32)) ?_
  refine bS vV ?_
  exact qC rfl (congrArg dB (by unfold cH; rw [hi,c,Bool.and_true]))
 exact qC rfl (congrArg dB (by unfold cH; rw [c,Bool.and_false]))
theorem qZk {s:ByteArray} (hs:s.size<=1048576):qB EE 84 [.leaf (.string s)] (dB (cH s)):=by
 have main:∀ a:Nat,qK EE (qB EE) qRg 1 [.leaf (.string s),dI ((a:Nat):Int)] (dB (!mT qSu s a && qFR s)):=by
  refine zR s.size fun a ih=>?_
  refine qK.step' ?_
  refine bS wW ?_
  refine bS zE ?_
  refine iC (fun c=>?_) fun c=>?_
  ·skip
   have c1:a < s.size:=by have:((a:Nat):Int) < (s.size:Int):=dT c; omega
   have ih:=ih c1
   refine bS (d:=.leaf (.int .u8 (((bt s (a):Nat):Int)))) (yX (by omega)) ?_
   refine bS yR ?_
   refine iC (fun q5=>?_) fun q5=>?_
   ·replace q5:=dT q5
    exact qC rfl (congrArg dB (by rw [gX c1 (by unfold qSu; exact tD (by omega)),Bool.not_true,Bool.false_and]))
   replace q5:=dF q5
   refine bS (d:=dI ((a+1:Nat):Int)) (zA (qX (by omega))) ?_
   exact qE rfl (by rw [wJ c1 (by unfold qSu; exact fD (by omega))]; exact ih)
  have c1:¬ ((a:Nat):Int) < (s.size:Int):=dF c
  rw [dR (by omega)]
  refine cS (zAb hs) ?_
  exact qC rfl (congrArg dB (by rw [Bool.not_false,Bool.true_and]))
 refine qZz rfl (qK.step' ?_)
 exact qE rfl (main 0)
def qCT (s:ByteArray) (a:Nat):Bool:=qD9 s && (if a=0 then qBb (bt s 0) && !mT cI s 1 else !mT cI s a)
theorem qTN {s:ByteArray}:qCT s 0=qBz s:=by unfold qCT qBz; rw [if_pos rfl,Bool.and_assoc]
theorem qMT {s:ByteArray} {a:Nat} (h:s.size<=a):qCT s a=qD9 s:=by
 unfold qCT
 by_cases h0:a=0
 ·have:qD9 s=false:=by unfold qD9; rw [fD (by omega:¬ 1<=s.size)]; rfl
  rw [this]; rfl
 rw [if_neg h0,dR h,Bool.not_false,Bool.and_true]
theorem lN {s:ByteArray} {a:Nat} (h:a < s.size) (e:cI (bt s a)=true∨(a=0/\qBb (bt s a)=false)):qCT s a=false:=by
 unfold qCT
 by_cases h0:a=0
 ·subst h0
  have:qBb (bt s 0)=false:=by
   rcases e with e | e
   ·unfold cI at e; unfold qBb
    have:=dT e
    exact fD this.1
   exact e.2
  rw [if_pos rfl,this,Bool.false_and,Bool.and_false]
 rcases e with e | e
 ·rw [if_neg h0,gX h e,Bool.not_true,Bool.and_false]
 exact absurd e.1 h0
theorem bE {s:ByteArray} {a:Nat} (h:a < s.size) (e:cI (bt s a)=false) (e0:a=0->qBb (bt s a)=true):qCT s a=qCT s (a+1):=by
 unfold qCT
 rw [if_neg (Nat.succ_ne_zero a)]
 by_cases h0:a=0
 ·subst h0
  rw [if_pos rfl,e0 rfl,Bool.true_and]
 rw [if_neg h0,wJ h e]
theorem zAe {s:ByteArray} (hs:s.size<=1048576):qB EE 82 [.leaf (.string s)] (dB (qBz s)):=by
 have main:∀ a:Nat,qK EE (qB EE) qRm 1 [.leaf (.string s),dI ((a:Nat):Int)] (dB (qCT s a)):=by
  refine zR s.size fun a ih=>?_
  refine qK.step' ?_
  refine bS wW ?_
  refine bS zE ?_
  refine iC (fun c=>?_) fun c=>?_
  ·skip
   have c1:a < s.size:=by have:((a:Nat):Int) < (s.size:Int):=dT c; omega
   have ih:=ih c1
   have q0:=sR s a
   refine bS (d:=.leaf (.int .u8 (((bt s (a):Nat):Int)))) (yX (by omega)) ?_
   refine bS wN ?_
   refine iC (fun q6=>?_) fun q6=>?_
   ·replace q6:=dT q6
    refine bS (d:=.leaf (.int .u8 (((bt s (a):Nat):Int)))) (yX (by omega)) ?_
    refine bS cT ?_
    refine bS vV ?_
    refine iC (fun q7=>?_) fun q7=>?_
    ·replace q7:=dF (e7 q7)
     refine bS yR ?_
     refine iC (fun q8=>?_) fun q8=>?_
     ·replace q8:=dT q8
      exact qC rfl (congrArg dB (by rw [lN c1 (by unfold cI qBb; first | exact .inl (tD (by omega)) | exact .inr ⟨by omega,fD (by omega)⟩)]))
     replace q8:=dF q8
     refine bS (d:=.leaf (.int .u8 (((bt s (a):Nat):Int)))) (yX (by omega)) ?_
     refine bS wM ?_
     refine iC (fun q9=>?_) fun q9=>?_
     ·replace q9:=dT q9
      refine bS (d:=.leaf (.int .u8 (((bt s (a):Nat):Int)))) (yX (by omega)) ?_
      refine bS wM ?_
      refine iC (fun q10=>?_) fun q10=>?_
      ·replace q10:=dT q10
       refine bS (d:=.leaf (.int .u8 (((bt s (a):Nat):Int)))) (yX (by omega)) ?_
       refine bS zE ?_
       refine iC (fun q11=>?_) fun q11=>?_
       ·replace q11:=dT q11
        exact qC rfl (congrArg dB (by rw [lN c1 (by unfold cI qBb; first | exact .inl (tD (by omega)) | exact .inr ⟨by omega,fD (by omega)⟩)]))
       replace q11:=dF q11
       refine bS (d:=.leaf (.int .u8 (((bt s (a):Nat):Int)))) (yX (by omega)) ?_
       refine bS vT ?_
       refine iC (fun q12=>?_) fun q12=>?_
       ·replace q12:=dT q12
        exact qC rfl (congrArg dB (by rw [lN c1 (by unfold cI qBb; first | exact .inl (tD (by omega)) | exact .inr ⟨by omega,fD (by omega)⟩)]))
       replace q12:=dF q12
       refine bS (d:=dI ((a+1:Nat):Int)) (zA (qX (by omega))) ?_
       exact qE rfl (by rw [bE c1 (by unfold cI; exact fD (by omega)) (by intro h0; unfold qBb; exact tD (by omega))]; exact ih)
      replace q10:=dF q10
      refine bS (d:=dI ((a+1:Nat):Int)) (zA (qX (by omega))) ?_
      exact qE rfl (by rw [bE c1 (by unfold cI; exact fD (by omega)) (by intro h0; unfold qBb; exact tD (by omega))]; exact ih)
     replace q9:=dF q9
     refine bS (d:=dI ((a+1:Nat):Int)) (zA (qX (by omega))) ?_
     exact qE rfl (by rw [bE c1 (by unfold cI; exact fD (by omega)) (by intro h0; unfold qBb; exact tD (by omega))]; exact ih)
    replace q7:=dT (e8 q7)
    refine bS (d:=dI ((a+1:Nat):Int)) (zA (qX (by omega))) ?_
    exact qE rfl (by rw [bE c1 (by unfold cI; exact fD (by omega)) (by intro h0; unfold qBb; exact tD (by omega))]; exact ih)
   replace q6:=dF q6
   refine bS yR ?_
   refine iC (fun q13=>?_) fun q13=>?_
   ·replace q13:=dT q13
    exact qC rfl (congrArg dB (by rw [lN c1 (by unfold cI qBb; first | exact .inl (tD (by omega)) | exact .inr ⟨by omega,fD (by omega)⟩)]))
   replace q13:=dF q13
   refine bS (d:=.leaf (.int .u8 (((bt s (a):Nat):Int)))) (yX (by omega)) ?_
   refine bS wM ?_
   refine iC (fun q14=>?_) fun q14=>?_
   ·replace q14:=dT q14
    refine bS (d:=.leaf (.int .u8 (((bt s (a):Nat):Int)))) (yX (by omega)) ?_
    refine bS wM ?_
    refine iC (fun q15=>?_) fun q15=>?_
    ·replace q15:=dT q15
     refine bS (d:=.leaf (.int .u8 (((bt s (a):Nat):Int)))) (yX (by omega)) ?_
     refine bS zE ?_
     refine iC (fun q16=>?_) fun q16=>?_
     ·replace q16:=dT q16
      exact qC rfl (congrArg dB (by rw [lN c1 (by unfold cI qBb; first | exact .inl (tD (by omega)) | exact .inr ⟨by omega,fD (by omega)⟩)]))
     replace q16:=dF q16
     refine bS (d:=.leaf (.int .u8 (((bt s (a):Nat):Int)))) (yX (by omega)) ?_
     refine bS vT ?_
     refine iC (fun q17=>?_) fun q17=>?_
     ·replace q17:=dT q17
      exact qC rfl (congrArg dB (by rw [lN c1 (by unfold cI qBb; first | exact .inl (tD (by omega)) | exact .inr ⟨by omega,fD (by omega)⟩)]))
     replace q17:=dF q17
     refine bS (d:=dI ((a+1:Nat):Int)) (zA (qX (by omega))) ?_
     exact qE rfl (by rw [bE c1 (by unfold cI; exact fD (by omega)) (by intro h0; unfold qBb; exact tD (by omega))]; exact ih)
    replace q15:=dF q15
    refine bS (d:=dI ((a+1:Nat):Int)) (zA (qX (by omega))) ?_
    exact qE rfl (by rw [bE c1 (by unfold cI; exact fD (by omega)) (by intro h0; unfold qBb; exact tD (by omega))]; exact ih)
   replace q14:=dF q14
   refine bS (d:=dI ((a+1:Nat):Int)) (zA (qX (by omega))) ?_
   exact qE rfl (by rw [bE c1 (by unfold cI; exact fD (by omega)) (by intro h0; unfold qBb; exact tD (by omega))]; exact ih)
  have c1:¬ ((a:Nat):Int) < (s.size:Int):=dF c
  rw [qMT (by omega)]
  refine bS wW ?_
  refine bS wN ?_
  refine iC (fun q18=>?_) fun q18=>?_
  ·replace q18:=dT q18
   refine bS wW ?_
   refine bS cT ?_
   exact qC rfl (congrArg dB (by unfold qD9; first | (rw [fD (by omega:¬ 1<=s.size)]; rfl) | (rw [tD (by omega:1<=s.size),Bool.true_and]; exact decide_eq_decide.2 (by omega))))
  replace q18:=dF q18
  exact qC rfl (congrArg dB (by unfold qD9; first | (rw [fD (by omega:¬ 1<=s.size)]; rfl) | (rw [tD (by omega:1<=s.size),Bool.true_and]; exact decide_eq_decide.2 (by omega))))
 refine qZB rfl (qK.step' ?_)
 rw [← qTN]
 exact qE rfl (main 0)
theorem zAh {s:ByteArray} (hs:s.size<=1048576):qB EE 78 [.leaf (.string s)] (dB (qBz s)):=by
 have i_L:=qJI hs
 have hlen:=qGH (s:=s)
 have main:∀ a:Nat,qK EE (qB EE) qRu 1 [uG s,dI (((uG s).es.length:Nat):Int),dI ((a:Nat):Int)] (dB (!mT cI s a)):=by
  refine zR s.size fun a ih=>?_
  refine qK.step' ?_
  refine bS zE ?_
  refine iC (fun c=>?_) fun c=>?_
  ·skip
   have c1:a < s.size:=by have:=dT c; omega
   have e_x:=qJJ c1
   have ih:=ih c1
   have q0:=sR s a
   refine bS (vB (s:=((a:Nat):Int)) (by omega) e_x) ?_
   refine bS (z6 (s:=((a:Nat):Int)) i_L (by omega) e_x rfl) ?_
   refine bS zE ?_
   refine iC (fun q19=>?_) fun q19=>?_
   ·replace q19:=dT q19
    refine bS zE ?_
    refine iC (fun q20=>?_) fun q20=>?_
    ·replace q20:=dT q20
     refine bS wM ?_
     refine iC (fun q21=>?_) fun q21=>?_
     ·replace q21:=dT q21
      refine bS wM ?_
      refine iC (fun q22=>?_) fun q22=>?_
      ·replace q22:=dT q22
       exact qC rfl (congrArg dB (by rw [gX c1 (by unfold cI; exact tD (by omega))]; rfl))
      replace q22:=dF q22
      refine bS (d:=dI ((a+1:Nat):Int)) (zA (qX (by omega))) ?_
      exact qE rfl (by rw [wJ c1 (by unfold cI; exact fD (by omega))]; exact ih)
     replace q21:=dF q21
     refine bS (d:=dI ((a+1:Nat):Int)) (zA (qX (by omega))) ?_
     exact qE rfl (by rw [wJ c1 (by unfold cI; exact fD (by omega))]; exact ih)
    replace q20:=dF q20
    refine bS vT ?_
    refine iC (fun q23=>?_) fun q23=>?_
    ·replace q23:=dT q23
     refine bS wM ?_
     refine iC (fun q24=>?_) fun q24=>?_
     ·replace q24:=dT q24
      refine bS wM ?_
      refine iC (fun q25=>?_) fun q25=>?_
      ·replace q25:=dT q25
       exact qC rfl (congrArg dB (by rw [gX c1 (by unfold cI; exact tD (by omega))]; rfl))
      replace q25:=dF q25
      refine bS (d:=dI ((a+1:Nat):Int)) (zA (qX (by omega))) ?_
      exact qE rfl (by rw [wJ c1 (by unfold cI; exact fD (by omega))]; exact ih)
     replace q24:=dF q24
     refine bS (d:=dI ((a+1:Nat):Int)) (zA (qX (by omega))) ?_
     exact qE rfl (by rw [wJ c1 (by unfold cI; exact fD (by omega))]; exact ih)
    replace q23:=dF q23
    refine bS (d:=dI ((a+1:Nat):Int)) (zA (qX (by omega))) ?_
    exact qE rfl (by rw [wJ c1 (by unfold cI; exact fD (by omega))]; exact ih)
   replace q19:=dF q19
   refine bS vT ?_
   refine iC (fun q26=>?_) fun q26=>?_
   ·replace q26:=dT q26
    refine bS zE ?_
    refine iC (fun q27=>?_) fun q27=>?_
    ·replace q27:=dT q27
     refine bS wM ?_
     refine iC (fun q28=>?_) fun q28=>?_
     ·replace q28:=dT q28
      refine bS wM ?_
      refine iC (fun q29=>?_) fun q29=>?_
      ·replace q29:=dT q29
       exact qC rfl (congrArg dB (by rw [gX c1 (by unfold cI; exact tD (by omega))]; rfl))
      replace q29:=dF q29
      refine bS (d:=dI ((a+1:Nat):Int)) (zA (qX (by omega))) ?_
      exact qE rfl (by rw [wJ c1 (by unfold cI; exact fD (by omega))]; exact ih)
     replace q28:=dF q28
     refine bS (d:=dI ((a+1:Nat):Int)) (zA (qX (by omega))) ?_
     exact qE rfl (by rw [wJ c1 (by unfold cI; exact fD (by omega))]; exact ih)
    replace q27:=dF q27
    refine bS vT ?_
    refine iC (fun q30=>?_) fun q30=>?_
    ·replace q30:=dT q30
     refine bS wM ?_
     refine iC (fun q31=>?_) fun q31=>?_
     ·replace q31:=dT q31
      refine bS wM ?_
      refine iC (fun q32=>?_) fun q32=>?_
      ·replace q32:=dT q32
       exact qC rfl (congrArg dB (by rw [gX c1 (by unfold cI; exact tD (by omega))]; rfl))
      replace q32:=dF q32
      refine bS (d:=dI ((a+1:Nat):Int)) (zA (qX (by omega))) ?_
      exact qE rfl (by rw [wJ c1 (by unfold cI; exact fD (by omega))]; exact ih)
     replace q31:=dF q31
     refine bS (d:=dI ((a+1:Nat):Int)) (zA (qX (by omega))) ?_
     exact qE rfl (by rw [wJ c1 (by unfold cI; exact fD (by omega))]; exact ih)
    replace q30:=dF q30
    refine bS (d:=dI ((a+1:Nat):Int)) (zA (qX (by omega))) ?_
    exact qE rfl (by rw [wJ c1 (by unfold cI; exact fD (by omega))]; exact ih)
   replace q26:=dF q26
   refine bS (d:=dI ((a+1:Nat):Int)) (zA (qX (by omega))) ?_
   exact qE rfl (by rw [wJ c1 (by unfold cI; exact fD (by omega))]; exact ih)
  have c1:=dF c
  exact qC rfl (congrArg dB (by rw [dR (by omega)]; rfl))
 have q0:=sR s 0
 refine qZF rfl (qK.step' ?_)
 refine bS dZ ?_
 refine iC (fun c=>?_) fun c=>?_
 ·have c1:s.size=0:=by rw [qAD] at c; exact dT c
  exact qC rfl (congrArg dB (by unfold qBz qD9; rw [fD (by omega:¬ 1<=s.size)]; rfl))
 have c1:¬ s.size=0:=by rw [qAD] at c; exact dF c
 refine bS wW ?_
 refine bS vT ?_
 refine iC (fun d=>?_) fun d=>?_
 ·have d1:(s.size:Int) > 32:=dT d
  exact qC rfl (congrArg dB (by unfold qBz qD9; rw [fD (by omega:¬ s.size<=32),Bool.and_false]; rfl))
 have d1:¬ (s.size:Int) > 32:=dF d
 have hz:qD9 s=true:=by unfold qD9; rw [tD (by omega:1<=s.size),tD (by omega:s.size<=32)]; rfl
 refine bS (d:=.leaf (.int .u8 (((bt s 0:Nat):Int)))) (yX (i:=0) (by omega)) ?_
 refine bS zE ?_
 refine iC (fun e=>?_) fun e=>?_
 ·replace e:=dT e
  exact qC rfl (congrArg dB (by unfold qBz qBb; rw [fD (by omega),Bool.and_false]; rfl))
 replace e:=dF e
 refine bS (d:=.leaf (.int .u8 (((bt s 0:Nat):Int)))) (yX (i:=0) (by omega)) ?_
 refine bS vT ?_
 refine iC (fun f=>?_) fun f=>?_
 ·replace f:=dT f
  exact qC rfl (congrArg dB (by unfold qBz qBb; rw [fD (by omega),Bool.and_false]; rfl))
 replace f:=dF f
 have e9:qBz s = !mT cI s 0:=by
  unfold qBz
  rw [hz,show qBb (bt s 0)=true from by unfold qBb; exact tD (by omega),wJ (by omega:0 < s.size) (by unfold cI; exact fD (by omega))]; rfl
 rw [e9]
 refine bS (qN5 hs) ?_
 refine bS (d:=dI (((uG s).es.length:Nat):Int)) (qL i_L) ?_
 exact qE rfl (main 0)
end Go.Proofs.YtminhjecpnpaeaaGreatDoor
namespace Go.Proofs.YtminhjecpnpaeaaGreatDoor
open Go Go.Am Go.Proofs Go.Am.Tu
abbrev uL:Sh:=.sl 3 1 (.int .i64)
abbrev qQY:Sh:=.sl 77 2 (.st [.str,uL])
abbrev zAU:Sh:=.sl 9 1 .str
abbrev qOi:Sh:=.sl 50 1 zAU
theorem qL9 {el sz:Nat} {w:D} {b:Nat} (hw:xL el sz w) (h2:b<=w.es.length):∃ d,TOp.eval EE (.slc el sz false true) [w,dI ((b:Nat):Int)]=some d/\xL el sz d/\d.es=w.es.take b:=by
 rcases hw with rfl | ⟨es,rfl,hc⟩
 ·have hb:b=0:=by simpa [D.es] using h2
  subst hb
  exact ⟨.nil,by rw [tX]; rfl,.inl rfl,rfl⟩
 have h2:b<=es.length:=h2
 refine ⟨.sl el sz (es.take b),?_,.inr ⟨_,rfl,by rw [List.length_take]; omega⟩,rfl⟩
 rw [tX]
 have e1:jN false 0 [dI ((b:Nat):Int)]=some (0,[dI ((b:Nat):Int)]):=rfl
 have e2:jN true es.length [dI ((b:Nat):Int)]=some (b,[]):=rfl
 simp only [e1,e2,Nat.beq_refl,bL h2,bL (Nat.zero_le b),Bool.and_self,cond_true,List.drop_zero,Nat.sub_zero]
theorem qYt {x:D}:TOp.eval EE (.loadp true 1) [.ptr [x] 0]=some (.agg [x]):=rfl
theorem qWs {l:List D} {s:ByteArray} (hs:s.size<=1048576) (h:l.length+1<=300000000):TOp.eval EE (.app 9 1 16) [yM 9 1 l,.sl 9 1 [.leaf (.string s)]]=some (yM 9 1 (l++[.leaf (.string s)])) :=
 qOb (B:=300000000) (e:=.str) (cB (show 1<=300000000 by decide) fun x hx=>by rw [List.mem_singleton.1 hx]; exact ⟨s,rfl,by omega⟩) (by decide) h
def vJ (f:Nat->Option Int) (n i:Nat):Option Int:=(List.range' i (n - i)).findSome? f
theorem yV {f:Nat->Option Int} {n i:Nat} (h:n<=i):vJ f n i=none:=by
 unfold vJ; rw [show n - i=0 by omega]; rfl
theorem qAl {f:Nat->Option Int} {n i:Nat} (h:i < n):vJ f n i=(match f i with
  | some e=>some e
  | none=>vJ f n (i+1)):=by
 unfold vJ
 rw [show n - i=(n - (i+1))+1 by omega,List.range'_succ,List.findSome?_cons]
 cases f i <;> rfl
theorem xQ {f:Nat->Option Int} {n i:Nat} {e:Int} (h:i < n) (he:f i=some e):vJ f n i=some e:=by rw [qAl h,he]
theorem lW {f:Nat->Option Int} {n i:Nat} (h:i < n) (he:f i=none):vJ f n i=vJ f n (i+1):=by rw [qAl h,he]
theorem bV {α:Type} {p:α->Bool} {l:List α} {i:Nat} (h:l.length<=i):(l.drop i).any p=false:=by rw [List.drop_of_length_le h]; rfl
theorem qGP {α:Type} {p:α->Bool} {l:List α} {i:Nat} {x:α} (h:l[i]? = some x):(l.drop i).any p=(p x || (l.drop (i+1)).any p):=by
 have hi:i < l.length:=(gI h).1
 rw [List.drop_eq_getElem_cons hi,List.any_cons,(gI h).2]
theorem bU {α:Type} {p:α->Bool} {l:List α} {i:Nat} {x:α} (h:l[i]? = some x) (e:p x=true):(l.drop i).any p=true:=by rw [qGP h,e]; rfl
theorem iG {α:Type} {p:α->Bool} {l:List α} {i:Nat} {x:α} (h:l[i]? = some x) (e:p x=false):(l.drop i).any p=(l.drop (i+1)).any p:=by rw [qGP h,e]; rfl
def qCL:D->ByteArray
 | .leaf (.string s)=>s
 | _=>⟨#[]⟩
def qHG:D->Int
 | .leaf (.int _ n)=>n
 | _=>0
def qT3:D->ByteArray
 | .agg (x::_)=>qCL x
 | _=>⟨#[]⟩
def qEw (seen:List ByteArray) (s:ByteArray):Bool:=seen.any fun t=>t == s
def qJ7:List D->List ByteArray->Except Int (List ByteArray)
 | [],seen=>.ok seen
 | x::r,seen=>if !cH (qCL x) then .error 3 else if qEw seen (qCL x) then .error 8 else qJ7 r (seen++[qCL x])
def qBC:List D->List ByteArray->Int
 | [],_=>0
 | l::r,seen=>if l.es.length=0 then 4 else match qJ7 l.es seen with
  | .error e=>e
  | .ok s=>qBC r s
def qBl (l r:List D) (seen:List ByteArray):Int:=match qJ7 l seen with
 | .error e=>e
 | .ok s=>qBC r s
def pD (ls:D):Int:=if 100 < ls.es.length then 11 else qBC ls.es []
theorem nF {α:Type} {l:List α} {i:Nat} {x:α} (h:l[i]? = some x):l.drop i=x::l.drop (i+1):=by
 have hi:i < l.length:=(gI h).1
 rw [List.drop_eq_getElem_cons hi]; congr 1; exact (gI h).2
def qKy (seen:List ByteArray):D:=.mp (seen.map fun s=>Value.string s) (seen.map fun _=>dB true)
theorem qI0:qKx EE 165=some (.string,false,[.bool false]):=by kernel_rfl
theorem qBG {s:ByteArray}:∀ (seen:List ByteArray) (i:Nat),aR .string (.string s) (seen.map fun s=>Value.string s) i=some (match seen.findIdx? fun t=>s == t with
  | some k=>some (i+k)
  | none=>none)
 | [],i=>rfl
 | t::r,i=>by
  have ih:=qBG (s:=s) r (i+1)
  have e:Instr.sameNow .string (.string s) (.string t)=some (s == t):=rfl
  show aR .string (.string s) (.string t::r.map fun s=>Value.string s) i=_
  unfold aR
  rw [e,List.findIdx?_cons]
  cases hst:(s == t) with
  | true=>rfl
  | false =>
   show aR .string (.string s) (r.map fun s=>Value.string s) (i+1)=_
   rw [ih]
   cases r.findIdx? fun t=>s == t with
   | none=>rfl
   | some k=>show some (some (i+1+k))=some (some (i+(k+1))); rw [show i+1+k=i+(k+1) by omega]
theorem qJb {seen:List ByteArray} {s:ByteArray}:qEw seen s=(seen.findIdx? fun t=>s == t).isSome:=by
 unfold qEw
 rw [List.findIdx?_isSome]
 congr 1
 funext t
 cases h:(t == s) with
 | true=>rw [dP.1 h]; exact (bP s).symm
 | false =>
  cases h2:(s == t) with
  | false=>rfl
  | true=>rw [dP.1 h2,bP] at h; cases h
theorem qPB {seen:List ByteArray} {s:ByteArray}:TOp.eval EE (.mget 165 false) [qKy seen,.leaf (.string s)]=some (dB (qEw seen s)):=by
 rw [qJo,qJb]
 unfold qIZ
 rw [qI0]
 show (match aR .string (.string s) (seen.map fun s=>Value.string s) 0 with
  | some (some i)=>((seen.map fun _=>dB true)[i]?).map fun d=>d
  | some none=>some (dB false)
  | none=>none)=_
 rw [qBG]
 cases h:seen.findIdx? fun t=>s == t with
 | none=>rfl
 | some k =>
  have hk:k < seen.length:=by
   have:=List.findIdx?_eq_some_iff_getElem.1 h
   exact this.1
  show ((seen.map fun _=>dB true)[0+k]?).map (fun d=>d)=some (dB true)
  rw [Nat.zero_add,List.getElem?_map,List.getElem?_eq_getElem hk]; rfl
theorem qPw {seen:List ByteArray} {s:ByteArray} (h:qEw seen s=false):TOp.eval EE (.mset 165) [qKy seen,.leaf (.string s),dB true]=some (qKy (seen++[s])):=by
 rw [qJb] at h
 rw [qJm]
 unfold qIY
 rw [qI0]
 show (match aR .string (.string s) (seen.map fun s=>Value.string s) 0 with
  | some (some i)=>some (D.mp ((seen.map fun s=>Value.string s).set i (Value.string s)) ((seen.map fun _=>dB true).set i (dB true)))
  | some none=>some (D.mp ((seen.map fun s=>Value.string s)++[Value.string s]) ((seen.map fun _=>dB true)++[dB true]))
  | none=>none)=_
 rw [qBG]
 cases e:seen.findIdx? fun t=>s == t with
 | some k=>rw [e] at h; cases h
 | none =>
  unfold qKy
  rw [List.map_append,List.map_append]; rfl
attribute [local irreducible] Go.Am.wp Go.Am.TOp.eval
theorem qIM {r:List D} {seen:List ByteArray}:qBl [] r seen=qBC r seen:=rfl
theorem qFj {l r:List D} {seen:List ByteArray} {k:Nat} {s:ByteArray} (h:l[k]? = some (.leaf (.string s))) (e:cH s=false):qBl (l.drop k) r seen=3:=by
 rw [nF h]; unfold qBl qJ7; rw [show qCL (.leaf (.string s))=s from rfl,e]; rfl
theorem qDb {l r:List D} {seen:List ByteArray} {k:Nat} {s:ByteArray} (h:l[k]? = some (.leaf (.string s))) (e:cH s=true) (e2:qEw seen s=true):qBl (l.drop k) r seen=8:=by
 rw [nF h]; unfold qBl qJ7; rw [show qCL (.leaf (.string s))=s from rfl,e,e2]; rfl
theorem qFi {l r:List D} {seen:List ByteArray} {k:Nat} {s:ByteArray} (h:l[k]? = some (.leaf (.string s))) (e:cH s=true) (e2:qEw seen s=false):qBl (l.drop k) r seen=qBl (l.drop (k+1)) r (seen++[s]):=by
 rw [nF h]; conv=>lhs; unfold qBl qJ7
 rw [show qCL (.leaf (.string s))=s from rfl,e,e2]; rfl
theorem qSK {ls:List D} {i:Nat} {l:D} {seen:List ByteArray} (h:ls[i]? = some l) (e:l.es.length=0):qBC (ls.drop i) seen=4:=by
 rw [nF h]; unfold qBC; rw [if_pos e]
theorem qSJ {ls:List D} {i:Nat} {l:D} {seen:List ByteArray} (h:ls[i]? = some l) (e:¬ l.es.length=0):qBC (ls.drop i) seen=qBl (l.es.drop 0) (ls.drop (i+1)) seen:=by
 rw [nF h]; conv=>lhs; unfold qBC
 rw [if_neg e]; rfl
theorem zAf {nm us ls:D} (hls:qI 1048576 qOi ls):qB EE 81 [.agg [nm,us,ls]] (dI (pD ls)):=by
 have i_ls:=qD hls
 have main:∀ i:Nat,∀ seen,qK EE (qB EE) qLB 1 [qKy seen,ls,dI ((ls.es.length:Nat):Int),dI ((i:Nat):Int)] (dI (qBC (ls.es.drop i) seen)):=by
  refine zR ls.es.length fun i ih=>?_
  intro seen
  refine qK.step' ?_
  refine bS zE ?_
  refine iC (fun c=>?_) fun c=>?_
  ·skip
   have c1:i < ls.es.length:=by have:=dT c; omega
   have hll:=qJ hls
   obtain ⟨l,e_l⟩:∃ l,ls.es[i]? = some l:=⟨_,List.getElem?_eq_getElem c1⟩
   have h_l:=zH hls e_l
   have i_l:=qD h_l
   have hlen:=qJ h_l
   refine bS (vB (s:=((i:Nat):Int)) (by omega) e_l) ?_
   refine bS (z6 (s:=((i:Nat):Int)) i_ls (by omega) e_l i_l.one) ?_
   refine bS (qL i_l) ?_
   refine bS yR ?_
   refine iC (fun d=>?_) fun d=>?_
   ·have d1:((l.es.length:Nat):Int)=0:=dT d
    rw [qSK e_l (by omega)]
    exact qC rfl rfl
   have d1:¬ ((l.es.length:Nat):Int)=0:=dF d
   have ih:=ih c1
   have inner:∀ k:Nat,∀ seen,qK EE (qB EE) qLB 2 [qKy seen,ls,dI ((ls.es.length:Nat):Int),dI ((i:Nat):Int),l,dI ((l.es.length:Nat):Int),dI ((k:Nat):Int)] (dI (qBl (l.es.drop k) (ls.es.drop (i+1)) seen)):=by
    refine zR l.es.length fun k ihk=>?_
    intro seen
    refine qK.step' ?_
    refine bS zE ?_
    refine iC (fun e=>?_) fun e=>?_
    ·skip
     have e1:k < l.es.length:=by have:=dT e; omega
     obtain ⟨x,e_x⟩:∃ x,l.es[k]? = some x:=⟨_,List.getElem?_eq_getElem e1⟩
     obtain ⟨s,rfl,hs⟩:=(zH h_l e_x:qI _ .str x)
     refine bS (vB (s:=((k:Nat):Int)) (by omega) e_x) ?_
     refine bS (z6 (s:=((k:Nat):Int)) i_l (by omega) e_x rfl) ?_
     refine cS (qZl hs) ?_
     refine bS vV ?_
     refine iC (fun f=>?_) fun f=>?_
     ·rw [qFj e_x (e7 f)]
      exact qC rfl rfl
     have f1:=e8 f
     refine bS qPB ?_
     refine iC (fun g=>?_) fun g=>?_
     ·rw [qDb e_x f1 g]
      exact qC rfl rfl
     refine bS (qPw g) ?_
     refine bS (d:=dI ((k+1:Nat):Int)) (zA (qX (by omega))) ?_
     rw [qFi e_x f1 g]
     exact qE rfl (ihk e1 (seen++[s]))
    have e1:=dF e
    refine bS (d:=dI ((i+1:Nat):Int)) (zA (qX (by omega))) ?_
    rw [List.drop_of_length_le (by omega:l.es.length<=k),qIM]
    exact qE rfl (ih seen)
   rw [qSJ e_l (by omega)]
   refine bS (qL i_l) ?_
   exact qE rfl (inner 0 seen)
  have c1:=dF c
  rw [List.drop_of_length_le (by omega:ls.es.length<=i)]
  exact qC rfl rfl
 refine qZC rfl (qK.step' ?_)
 refine bS (qU rfl) ?_
 refine bS (qA (off:=2) rfl i_ls.one) ?_
 refine bS (qL i_ls) ?_
 refine bS vT ?_
 refine iC (fun c=>?_) fun c=>?_
 ·have c1:((ls.es.length:Nat):Int) > 100:=dT c
  unfold pD
  rw [if_pos (by omega)]
  exact qC rfl rfl
 have c1:¬ ((ls.es.length:Nat):Int) > 100:=dF c
 unfold pD
 rw [if_neg (by omega)]
 refine bS qJn ?_
 refine bS (qA (off:=2) rfl i_ls.one) ?_
 refine bS (qL i_ls) ?_
 exact qE rfl (main 0 [])
end Go.Proofs.YtminhjecpnpaeaaGreatDoor
