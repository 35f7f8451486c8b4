/- The example of chapter 29's rows by the machine. Conditions: none. -/
import Derived.Test.YtnemldklhelbeaaGreatJa
import Derived.Test.YtnemldklhelbeaaGreatOp
import Derived.Test.YtnemldklhelbeaaGreatJg
import Derived.Test.YtnemldklhelbeaaGreatJe
set_option linter.unusedVariables false
set_option linter.unusedSimpArgs false
namespace Go.Proofs.YtnemldklhelbeaaGreat
open Go Go.Am Go.Proofs
theorem qVj:Nat.ble Tryz.prog.globals.size 1000=true:=by kernel_rfl
theorem qFa:((wN Tryz.prog).funcs.get 9).isSome=true:=by kernel_rfl
theorem qI7:isTrue (qIf (wN Tryz.prog) 100000 (.call 9 []) (cI 1000))=true:=by kernel_rfl
theorem qVJ:qA EE 9 [] (dB true):=qIH qLn (Option.isSome_iff_exists.1 qFa) qVj qI7
end Go.Proofs.YtnemldklhelbeaaGreat
namespace Go.Proofs.YtnemldklhelbeaaGreat
open Go Go.Am Go.Proofs Go.Am.Tt
attribute [local irreducible] Go.Am.wp Go.Am.TOp.eval
theorem qDz {f:FuncId} {S:Tt.Spec} (h:pQ (qA EE) f S) (hr:S.rs=[.int .i64]) (hp:S.pre=[]) (hb:Sn.leasts 1048576 S.ss=true) {ds:List D} (hd:jX 1048576 (Sn.shs S.ss) ds):∃ n:Int,qA EE f ds (dI n):=by
 obtain ⟨rs,h1,_,h2⟩:=h ds (gP hb hd) (by rw [hp]; intro q hq; cases hq)
 rw [hr] at h1
 simp only [vN,vG] at h1
 obtain ⟨d,_,rfl,⟨n,rfl⟩,rfl⟩:=h1
 exact ⟨n,h2⟩
theorem qWw {f:FuncId} {S:Tt.Spec} (h:pQ (qA EE) f S) (hr:S.rs=[.bool]) (hp:S.pre=[]) (hb:Sn.leasts 1048576 S.ss=true) {ds:List D} (hd:jX 1048576 (Sn.shs S.ss) ds):∃ b:Bool,qA EE f ds (dB b):=by
 obtain ⟨rs,h1,_,h2⟩:=h ds (gP hb hd) (by rw [hp]; intro q hq; cases hq)
 rw [hr] at h1
 simp only [vN,vG] at h1
 obtain ⟨d,_,rfl,⟨n,rfl⟩,rfl⟩:=h1
 exact ⟨n,h2⟩
abbrev qF4 {s:Sh} {d:D} (h:qE 1048576 s d):jX 1048576 [s] [d]:=zJ h j0
abbrev qSr {s t:Sh} {d e:D} (h:qE 1048576 s d) (k:qE 1048576 t e):jX 1048576 [s,t] [d,e]:=zJ h (zJ k j0)
abbrev qGH:Sh:=.sl 59 8 cJ
abbrev qTl:Sh:=.sl 77 6 qVO
abbrev qRg:Sh:=.sl 73 2 (.st [.str,xT])
abbrev qTk:Sh:=.sl 74 1 (.sl 9 1 .str)
theorem nz {q:Int} (d:decide (¬ q=0)=true):q≠0:=dT d
theorem zz {q:Int} (d:decide (¬ q=0)=false):q=0:=Decidable.not_not.1 (dF d)
def qOf (q1 q2 q3 q4 q5 q6 q7:Int):Int:=if q1≠0 then q1 else if q2≠0 then q2 else if q3≠0 then q3 else if q4≠0 then q4 else if q5≠0 then q5 else if q6≠0 then q6 else q7
theorem qL6 {q1 q2 q3 q4 q5 q6 q7:Int} (h:qOf q1 q2 q3 q4 q5 q6 q7=0):q1=0/\q2=0/\q3=0/\q4=0/\q5=0/\q6=0/\q7=0:=by
 unfold qOf at h
 repeat' split at h
 all_goals omega
theorem qZW {gs nm us lt rs n ws fs l:D} {q1 q2 q3 q4 q5 q6 q7:Int} (hl:l.one=true) (k1:qA EE 31 [.agg [gs]] (dI q1)) (k2:qA EE 32 [.agg [gs],.agg [nm,us,lt]] (dI q2)) (k3:qA EE 33 [.agg [gs,nm,us,lt,rs,n,ws,fs,l]] (dI q3))
  (k4:qA EE 34 [.agg [n,ws,fs]] (dI q4)) (k5:qA EE 35 [.agg [gs],l] (dI q5)) (k6:qA EE 36 [l] (dI q6)) (k7:qA EE 37 [l] (dI q7)) :
  qA EE 11 [.agg [gs,nm,us,lt,rs,n,ws,fs,l]] (dI (qOf q1 q2 q3 q4 q5 q6 q7)):=by
 unfold qOf
 refine qZh rfl (qG.step' ?_)
 refine bS (qI rfl) ?_
 refine bS (xW (off:=0) (size:=1) rfl) ?_
 refine cS k1 ?_
 refine bS zS ?_
 refine iC (fun c1=>?_) fun c1=>?_
 ·rw [if_pos (nz c1)]; exact qD rfl rfl
 rw [if_neg (fun h=>h (zz c1))]
 refine bS (xW (off:=0) (size:=1) rfl) ?_
 refine bS (xW (off:=1) (size:=3) rfl) ?_
 refine cS k2 ?_
 refine bS zS ?_
 refine iC (fun c2=>?_) fun c2=>?_
 ·rw [if_pos (nz c2)]; exact qD rfl rfl
 rw [if_neg (fun h=>h (zz c2))]
 refine cS k3 ?_
 refine bS zS ?_
 refine iC (fun c3=>?_) fun c3=>?_
 ·rw [if_pos (nz c3)]; exact qD rfl rfl
 rw [if_neg (fun h=>h (zz c3))]
 refine bS (xW (off:=5) (size:=3) rfl) ?_
 refine cS k4 ?_
 refine bS zS ?_
 refine iC (fun c4=>?_) fun c4=>?_
 ·rw [if_pos (nz c4)]; exact qD rfl rfl
 rw [if_neg (fun h=>h (zz c4))]
 refine bS (xW (off:=0) (size:=1) rfl) ?_
 refine bS (qB (off:=8) rfl hl) ?_
 refine cS k5 ?_
 refine bS zS ?_
 refine iC (fun c5=>?_) fun c5=>?_
 ·rw [if_pos (nz c5)]; exact qD rfl rfl
 rw [if_neg (fun h=>h (zz c5))]
 refine bS (qB (off:=8) rfl hl) ?_
 refine cS k6 ?_
 refine bS zS ?_
 refine iC (fun c6=>?_) fun c6=>?_
 ·rw [if_pos (nz c6)]; exact qD rfl rfl
 rw [if_neg (fun h=>h (zz c6))]
 refine bS (qB (off:=8) rfl hl) ?_
 refine cS k7 ?_
 exact qD rfl rfl
theorem qZz {gs:D} (hg:qE 1048576 aK gs):∃ q:Int,qA EE 31 [.agg [gs]] (dI q):=qDz (kE mV (f:=31) (S:=qYq.S) (by kernel_rfl)) rfl rfl (by decide) (qF4 (e7 (zJ hg j0)))
theorem qZy {gs nm us lt:D} (hg:qE 1048576 aK gs) (hnm:qE 1048576 .str nm) (hus:qE 1048576 qRg us) (hlt:qE 1048576 qTk lt):∃ q:Int,qA EE 32 [.agg [gs],.agg [nm,us,lt]] (dI q) :=
 qDz (kE mV (f:=32) (S:=qUP) (by kernel_rfl)) rfl rfl (by decide) (qSr (e7 (zJ hg j0)) (e7 (zJ hnm (zJ hus (zJ hlt j0)))))
theorem qZx {n ws fs:D} (hn:qE 1048576 (.int .i64) n) (hw:qE 1048576 qHW ws) (hf:qE 1048576 xT fs):∃ q:Int,qA EE 34 [.agg [n,ws,fs]] (dI q) :=
 qDz (kE mV (f:=34) (S:=qYp.S) (by kernel_rfl)) rfl rfl (by decide) (qF4 (e7 (zJ hn (zJ hw (zJ hf j0)))))
theorem qZw {gs l:D} (hg:qE 1048576 aK gs) (hl:qE 1048576 qGH l):∃ q:Int,qA EE 35 [.agg [gs],l] (dI q) :=
 qDz (kE mV (f:=35) (S:=qYo.S) (by kernel_rfl)) rfl rfl (by decide) (qSr (e7 (zJ hg j0)) hl)
theorem qZv {l:D} (hl:qE 1048576 qGH l):∃ q:Int,qA EE 36 [l] (dI q):=qDz (kE mV (f:=36) (S:=qYn.S) (by kernel_rfl)) rfl rfl (by decide) (qF4 hl)
theorem qZu {l:D} (hl:qE 1048576 qGH l):∃ q:Int,qA EE 37 [l] (dI q):=by
 obtain ⟨rs,h1,_,h2⟩:=(kE mV (f:=37) (S:=qYm.S) (by kernel_rfl)) [l] (gP (B:=1048576) (by decide) (qF4 hl)) (by
  intro q hq
  rcases List.mem_cons.1 hq with rfl | hq
  ·have e1:=qFy (zQ (B':=300000000) (by decide) hl)
   have b_l:=qJ hl
   show f6 l<=(0:Int)+299999999
   omega
  cases hq)
 have h1:vN [.int .i64] rs:=h1
 simp only [vN,vG] at h1
 obtain ⟨d,_,rfl,⟨n,rfl⟩,rfl⟩:=h1
 exact ⟨n,h2⟩
theorem qZt {l:D} (hl:qE 1048576 qGH l):∃ b:Bool,qA EE 38 [l] (dB b):=qWw (kE mV (f:=38) (S:=qYl.S) (by kernel_rfl)) rfl rfl (by decide) (qF4 hl)
theorem qZV {gs nm us lt rs ws fs l:D} {n e:Int} (hg:qE 1048576 aK gs) (hnm:nm.one=true) (hus:qE 1048576 qRg us) (hr:qE 1048576 qTl rs) (hw:qE 1048576 qHW ws) (hf:qE 1048576 xT fs) (hl:qE 1048576 qGH l)
  (k:qA EE 11 [.agg [gs,nm,us,lt,rs,dI n,ws,fs,l]] (dI e)) :
  ∃ b:Bool,qA EE 12 [.agg [gs,nm,us,lt,rs,dI n,ws,fs,l]] (dB b)/\(b=true->e=0/\n<=3/\us.es.length<=10):=by
 have i_gs:=qC hg
 have i_us:=qC hus
 have i_rs:=qC hr
 have i_ws:=qC hw
 have i_fs:=qC hf
 have i_l:=qC hl
 have b_rs:=qJ hr
 obtain ⟨b38,q38⟩:=qZt hl
 have hloop:∃ b:Bool,qG EE (qA EE) qJN 1 [dI ((0:Nat):Int),.agg [gs,nm,us,lt,rs,dI n,ws,fs,l]] (dB b)/\(b=true->e=0):=by
  refine vK (P:=fun i=>∃ b:Bool,qG EE (qA EE) qJN 1 [dI ((i:Nat):Int),.agg [gs,nm,us,lt,rs,dI n,ws,fs,l]] (dB b)/\(b=true->e=0)) rs.es.length ?_ ?_
  ·refine ⟨decide (e=0),qG.step' ?_,fun h=>dT h⟩
   refine bS (qB (off:=4) rfl i_rs.one) ?_
   refine bS (qH i_rs) ?_
   refine bS qK ?_
   refine iC (fun c=>?_) fun c=>?_
   ·have:=vV c; omega
   refine cS k ?_
   refine bS vX ?_
   exact qD rfl rfl
  intro i hi ⟨b,ih,hb⟩
  obtain ⟨x,e_x⟩:=vH hi
  obtain ⟨_,rfl,fr,_,rfl,hfr,to,_,rfl,hto,lf,_,rfl,hlf,rg,_,rfl,hrg,_,_,rfl,⟨bg,rfl⟩,_,_,rfl,⟨en,rfl⟩,rfl⟩:=qN hr e_x
  have i_fr:=qC hfr
  by_cases h8:fr.es.length > 8
  ·refine ⟨false,qG.step' ?_,fun h=>by cases h⟩
   refine bS (qB (off:=4) rfl i_rs.one) ?_
   refine bS (qH i_rs) ?_
   refine bS qK ?_
   refine iC (fun c=>?_) fun c=>?_
   ·skip
    refine bS (qB (off:=4) rfl i_rs.one) ?_
    refine bS (qL (s:=((i:Nat):Int)) (by omega) e_x) ?_
    refine bS (z9 (s:=((i:Nat):Int)) (off:=0) i_rs (by omega) e_x rfl i_fr.one (by decide)) ?_
    refine bS (qH i_fr) ?_
    refine bS zL ?_
    refine iC (fun d=>?_) fun d=>?_
    ·exact qD rfl rfl
    have:=dF d; omega
   have:=zC c; omega
  refine ⟨b,qG.step' ?_,hb⟩
  refine bS (qB (off:=4) rfl i_rs.one) ?_
  refine bS (qH i_rs) ?_
  refine bS qK ?_
  refine iC (fun c=>?_) fun c=>?_
  ·skip
   refine bS (qB (off:=4) rfl i_rs.one) ?_
   refine bS (qL (s:=((i:Nat):Int)) (by omega) e_x) ?_
   refine bS (z9 (s:=((i:Nat):Int)) (off:=0) i_rs (by omega) e_x rfl i_fr.one (by decide)) ?_
   refine bS (qH i_fr) ?_
   refine bS zL ?_
   refine iC (fun d=>?_) fun d=>?_
   ·have:=dT d; omega
   refine bS (d:=dI ((i+1:Nat):Int)) (qP (qM (by omega))) ?_
   exact qF rfl ih
  have:=zC c; omega
 obtain ⟨b,hgo,hb⟩:=hloop
 refine ⟨if gs.es.length > 8∨us.es.length > 10∨rs.es.length > 2∨n > 3∨ws.es.length > 6∨fs.es.length > 3∨b38=false then false else b,qZg rfl (qG.step' ?_),fun h=>?_⟩
 ·refine bS (qI rfl) ?_
  refine bS (qB (off:=0) rfl i_gs.one) ?_
  refine bS (qH i_gs) ?_
  refine bS zL ?_
  refine iC (fun c1=>?_) fun c1=>?_
  ·have:=dT c1
   rw [if_pos (by omega)]; exact qD rfl rfl
  have h1:=dF c1
  refine bS (qB (off:=2) rfl i_us.one) ?_
  refine bS (qH i_us) ?_
  refine bS zL ?_
  refine iC (fun c2=>?_) fun c2=>?_
  ·have:=dT c2
   rw [if_pos (by omega)]; exact qD rfl rfl
  have h2:=dF c2
  refine bS (qB (off:=4) rfl i_rs.one) ?_
  refine bS (qH i_rs) ?_
  refine bS zL ?_
  refine iC (fun c3=>?_) fun c3=>?_
  ·have:=dT c3
   rw [if_pos (by omega)]; exact qD rfl rfl
  have h3:=dF c3
  refine bS (qB (off:=5) rfl rfl) ?_
  refine bS zL ?_
  refine iC (fun c4=>?_) fun c4=>?_
  ·have:=dT c4
   rw [if_pos (by omega)]; exact qD rfl rfl
  have h4:=dF c4
  refine bS (qB (off:=6) rfl i_ws.one) ?_
  refine bS (qH i_ws) ?_
  refine bS zL ?_
  refine iC (fun c5=>?_) fun c5=>?_
  ·have:=dT c5
   rw [if_pos (by omega)]; exact qD rfl rfl
  have h5:=dF c5
  refine bS (qB (off:=7) rfl i_fs.one) ?_
  refine bS (qH i_fs) ?_
  refine bS zL ?_
  refine iC (fun c6=>?_) fun c6=>?_
  ·have:=dT c6
   rw [if_pos (by omega)]; exact qD rfl rfl
  have h6:=dF c6
  refine bS (qB (off:=8) rfl i_l.one) ?_
  refine cS q38 ?_
  refine bS zZ ?_
  refine iC (fun c7=>?_) fun c7=>?_
  ·have h7:b38=false:=by simpa using c7
   rw [if_pos (by simp [h7])]; exact qD rfl rfl
  have h7:b38=true:=by simpa using c7
  subst h7
  rw [if_neg (by simp; omega)]
  exact qF rfl hgo
 split at h
 ·cases h
 rename_i hc
 exact ⟨hb h,by omega,by omega⟩
end Go.Proofs.YtnemldklhelbeaaGreat
