/- The check of an orthography: what both give. Conditions: none. -/
import Derived.Test.YtminhjecpnpaeaaGreatDoorBd
set_option linter.unusedVariables false
set_option linter.unusedSimpArgs false
namespace Go.Proofs.YtminhjecpnpaeaaGreatDoor
open Go Go.Am Go.Proofs Go.Am.Tu
attribute [local irreducible] Go.Am.wp Go.Am.TOp.eval
def qL3 (seen:List ByteArray):List D:=seen.map fun s=>D.leaf (.string s)
def nW (seen:List ByteArray):D:=yM 9 1 (qL3 seen)
theorem qIF {seen:List ByteArray}:(nW seen).es=qL3 seen:=qMX
theorem qMh {seen:List ByteArray}:(nW seen).es.length=seen.length:=by rw [qIF]; exact List.length_map _
theorem qIE {seen:List ByteArray} (h:seen.length<=300000000):xL 9 1 (nW seen):=by
 unfold nW yM
 split
 ·exact .inl rfl
 exact .inr ⟨_,rfl,by unfold qL3; rw [List.length_map]; exact qX (by omega)⟩
theorem zAc {seen:List ByteArray} {s:ByteArray} (hn:seen.length<=300000000):qB EE 85 [nW seen,.leaf (.string s)] (dB (qEw seen s)):=by
 have i_L:=qIE hn
 have hlen:=qMh (seen:=seen)
 have main:∀ i:Nat,qK EE (qB EE) qRd 1 [nW seen,.leaf (.string s),dI ((i:Nat):Int)] (dB ((seen.drop i).any fun t=>t == s)):=by
  refine zR seen.length fun i ih=>?_
  refine qK.step' ?_
  refine bS (d:=dI (((nW seen).es.length:Nat):Int)) (qL i_L) ?_
  refine bS zE ?_
  refine iC (fun c=>?_) fun c=>?_
  ·skip
   have c1:i < seen.length:=by have:=dT c; omega
   obtain ⟨t,e_t⟩:∃ t,seen[i]? = some t:=⟨_,List.getElem?_eq_getElem c1⟩
   have e_x:(nW seen).es[i]? = some (.leaf (.string t)):=by rw [qIF]; unfold qL3; rw [List.getElem?_map,e_t]; rfl
   refine bS (vB (s:=((i:Nat):Int)) (by omega) e_x) ?_
   refine bS (z6 (s:=((i:Nat):Int)) i_L (by omega) e_x rfl) ?_
   refine bS dZ ?_
   refine iC (fun d=>?_) fun d=>?_
   ·rw [bU e_t d]
    exact qC rfl rfl
   refine bS (d:=dI ((i+1:Nat):Int)) (zA (qX (by omega))) ?_
   rw [iG e_t d]
   exact qE rfl (ih c1)
  have c1:=dF c
  rw [bV (by omega)]
  exact qC rfl rfl
 refine qZy rfl (qK.step' ?_)
 exact qE rfl (main 0)
theorem qYe {nm us ls:D} (hls:qI 1048576 qOi ls) (hn:ls.es.length<=100):qK EE (qB EE) cN 2 [.nil,dI 0,.agg [nm,us,ls]] (dI (qBC ls.es [])):=by
 have i_ls:=qD hls
 have main:∀ i:Nat,∀ seen:List ByteArray,seen.length<=i * 1048576->qK EE (qB EE) cN 2 [nW seen,dI ((i:Nat):Int),.agg [nm,us,ls]] (dI (qBC (ls.es.drop i) seen)):=by
  refine zR ls.es.length fun i ih=>?_
  intro seen hseen
  refine qK.step' ?_
  refine bS (qA (off:=2) rfl i_ls.one) ?_
  refine bS (qL i_ls) ?_
  refine bS zE ?_
  refine iC (fun c=>?_) fun c=>?_
  ·skip
   have c1:i < ls.es.length:=by have:=dT c; omega
   obtain ⟨l,e_l⟩:∃ l,ls.es[i]? = some l:=⟨_,List.getElem?_eq_getElem c1⟩
   have h_l:=zH hls e_l
   have i_l:=qD h_l
   have hlen:=qJ h_l
   refine bS (qA (off:=2) rfl i_ls.one) ?_
   refine bS (vB (s:=((i:Nat):Int)) (by omega) e_l) ?_
   refine bS (z6 (s:=((i:Nat):Int)) i_ls (by omega) e_l i_l.one) ?_
   refine bS (qL i_l) ?_
   refine bS yR ?_
   refine iC (fun d=>?_) fun d=>?_
   ·have d1:((l.es.length:Nat):Int)=0:=dT d
    rw [qSK e_l (by omega)]
    exact qC rfl rfl
   have d1:¬ ((l.es.length:Nat):Int)=0:=dF d
   have ih:=ih c1
   have inner:∀ k:Nat,∀ seen:List ByteArray,seen.length<=i * 1048576+k->k<=l.es.length->qK EE (qB EE) cN 3 [nW seen,dI ((i:Nat):Int),dI ((k:Nat):Int),.agg [nm,us,ls]] (dI (qBl (l.es.drop k) (ls.es.drop (i+1)) seen)):=by
    refine zR l.es.length fun k ihk=>?_
    intro seen hseen hkl
    have i_S:=qIE (seen:=seen)
    refine qK.step' ?_
    refine bS (qA (off:=2) rfl i_ls.one) ?_
    refine bS (vB (s:=((i:Nat):Int)) (by omega) e_l) ?_
    refine bS (z6 (s:=((i:Nat):Int)) i_ls (by omega) e_l i_l.one) ?_
    refine bS (qL i_l) ?_
    refine bS zE ?_
    refine iC (fun e=>?_) fun e=>?_
    ·skip
     have e1:k < l.es.length:=by have:=dT e; omega
     obtain ⟨x,e_x⟩:∃ x,l.es[k]? = some x:=⟨_,List.getElem?_eq_getElem e1⟩
     obtain ⟨s,rfl,hs⟩:=(zH h_l e_x:qI _ .str x)
     refine bS (qA (off:=2) rfl i_ls.one) ?_
     refine bS (vB (s:=((i:Nat):Int)) (by omega) e_l) ?_
     refine bS (z6 (s:=((i:Nat):Int)) i_ls (by omega) e_l i_l.one) ?_
     refine bS (vB (s:=((k:Nat):Int)) (by omega) e_x) ?_
     refine bS (z6 (s:=((k:Nat):Int)) i_l (by omega) e_x rfl) ?_
     refine cS (qZk hs) ?_
     refine bS vV ?_
     refine iC (fun f=>?_) fun f=>?_
     ·rw [qFj e_x (e7 f)]
      exact qC rfl rfl
     have f1:=e8 f
     refine cS (d:=dB (qEw seen s)) (zAc (by omega)) ?_
     refine iC (fun g=>?_) fun g=>?_
     ·rw [qDb e_x f1 g]
      exact qC rfl rfl
     refine bS (jM rfl) ?_
     refine bS (qAL rfl) ?_
     refine bS (d:=nW (seen++[s])) (show TOp.eval EE (.app 9 1 16) [nW seen,.sl 9 1 [.leaf (.string s)]]=some (nW (seen++[s])) from by unfold nW qL3; rw [List.map_append]; exact qWs hs (by rw [List.length_map]; omega)) ?_
     refine bS (d:=dI ((k+1:Nat):Int)) (zA (qX (by omega))) ?_
     rw [qFi e_x f1 g]
     exact qE rfl (ihk e1 (seen++[s]) (by rw [List.length_append]; show seen.length+1<=_; omega) (by omega))
    have e1:=dF e
    refine bS (d:=dI ((i+1:Nat):Int)) (zA (qX (by omega))) ?_
    rw [List.drop_of_length_le (by omega:l.es.length<=k),qIM]
    exact qE rfl (ih seen (by omega))
   rw [qSJ e_l (by omega)]
   have q0:seen.length<=i * 1048576+0:=by rw [Nat.add_zero]; exact hseen
   have h0:=inner 0 seen q0 (Nat.zero_le _)
   exact qE rfl h0
  have c1:=dF c
  rw [List.drop_of_length_le (by omega:ls.es.length<=i)]
  exact qC rfl rfl
 exact main 0 [] (by simp)
def qHf (n:Nat) (x:D):Bool:=decide (qHG x < 1∨(n:Int) < qHG x)
def xD (n:Nat) (sg:D) (k:Nat):Bool:=(sg.es.drop k).any (qHf n)
theorem qYG {G:D} {q:Int} (i_G:xL 81 2 G):qB EE 130 [.agg [G],dI q] (dB (!qHf G.es.length (dI q))):=by
 refine qX5 rfl (qK.step' ?_)
 have e:qHG (dI q)=q:=rfl
 refine bS (qU rfl) ?_
 refine bS wN ?_
 refine iC (fun q1=>?_) fun q1=>?_
 ·replace q1:=dT q1
  refine bS (qA (off:=0) rfl i_G.one) ?_
  refine bS (qL i_G) ?_
  refine bS cT ?_
  exact qC rfl (congrArg dB (by unfold qHf; rw [e]; first | (rw [tD (by omega:q < 1∨(G.es.length:Int) < q)]; rfl) | (rw [← decide_not]; exact decide_eq_decide.2 (by omega))))
 replace q1:=dF q1
 exact qC rfl (congrArg dB (by unfold qHf; rw [e]; first | (rw [tD (by omega:q < 1∨(G.es.length:Int) < q)]; rfl) | (rw [← decide_not]; exact decide_eq_decide.2 (by omega))))
theorem qYH {G:D} {q:Int} (i_G:xL 81 2 G):qB EE 129 [dI q,.ptr [G] 0] (dB (qHf G.es.length (dI q))):=by
 refine qX6 rfl (qK.step' ?_)
 refine bS bK ?_
 refine bS qYt ?_
 refine cS (qYG i_G) ?_
 refine bS vV ?_
 exact qC rfl (congrArg dB (Bool.not_not _))
theorem qYL {G S:D} (i_G:xL 81 2 G) (hS:qI 1048576 uL S):∃ n:Int,decide (n≥0)=xD G.es.length S 0/\qB EE 120 [S,.clo (.func 129) [] [.ptr [G] 0]] (dI n):=by
 have i_S:=qD hS
 have main:∀ a:Nat,∃ d,(∃ n:Int,d=dI n/\decide (n≥0)=xD G.es.length S a)/\qK EE (qB EE) qLY 1 [S,.clo (.func 129) [] [.ptr [G] 0],dI ((S.es.length:Nat):Int),dI ((a:Nat):Int)] d:=by
  refine zR S.es.length fun a ih=>?_
  refine wE ?_
  refine bS zE ?_
  refine iC (fun c=>?_) fun c=>?_
  ·skip
   have c1:a < S.es.length:=by have:=dT c; omega
   have hlen:=qJ hS
   obtain ⟨x,e_x⟩:∃ x,S.es[a]? = some x:=⟨_,List.getElem?_eq_getElem c1⟩
   obtain ⟨q,rfl⟩:=(zH hS e_x:qI _ (.int .i64) x)
   refine bS (vB (s:=((a:Nat):Int)) (by omega) e_x) ?_
   refine bS (z6 (s:=((a:Nat):Int)) i_S (by omega) e_x rfl) ?_
   refine cS (qYH i_G) ?_
   refine iC (fun e=>?_) fun e=>?_
   ·exact vO rfl ⟨_,rfl,by unfold xD; rw [bU e_x e]; exact tD (by omega)⟩
   refine bS (d:=dI ((a+1:Nat):Int)) (zA (qX (by omega))) ?_
   have q:=ih c1
   unfold xD at q ⊢
   rw [← iG e_x e] at q
   exact vH rfl q
  have c1:=dF c
  exact vO rfl ⟨-1,rfl,by unfold xD; rw [bV (by omega)]; rfl⟩
 obtain ⟨d,⟨n,rfl,hn⟩,hd⟩:=main 0
 refine ⟨n,hn,qYb rfl (qK.step' ?_)⟩
 refine bS (qL i_S) ?_
 exact qE rfl hd
theorem zAj {G S:D} (i_G:xL 81 2 G) (hS:qI 1048576 uL S):qB EE 66 [S,.clo (.func 129) [] [.ptr [G] 0]] (dB (xD G.es.length S 0)):=by
 have i_S:=qD hS
 obtain ⟨n,hn,hh⟩:=qYL i_G hS
 refine qZL rfl (qK.step' ?_)
 refine cS hh ?_
 refine bS wN ?_
 exact qC rfl (congrArg dB hn)
theorem zAg {G S:D} (i_G:xL 81 2 G) (hS:qI 1048576 uL S) (h1:S.es.length≠0) (h2:S.es.length<=24):qB EE 80 [.agg [G],S] (dI (if xD G.es.length S 0 then 19 else 0)):=by
 have i_S:=qD hS
 refine qZD rfl (qK.step' ?_)
 refine bS (qU rfl) ?_
 refine bS (qL i_S) ?_
 refine bS yR ?_
 refine zY (t:=false) (congrArg (fun q=>dB q) (fD (show ¬ ((S.es.length:Nat):Int)=0 by omega))) ?_
 refine oA ?_
 refine bS (qL i_S) ?_
 refine bS vT ?_
 refine zY (t:=false) (congrArg (fun q=>dB q) (fD (show ¬ ((S.es.length:Nat):Int) > 24 by omega))) ?_
 refine oA ?_
 refine bS sJ ?_
 refine cS (zAj i_G hS) ?_
 refine iC (fun c=>?_) fun c=>?_
 ·rw [c]; exact qC rfl rfl
 rw [c]; exact qC rfl rfl
def eS (g:ByteArray) (l:List D) (j:Nat):Bool:=(l.drop j).any fun v=>qT3 v == g
def wR (nS:Nat) (us:D) (i:Nat):Option Int:=match us.es[i]? with
 | some (.agg [.leaf (.string g),sg])=>if !cH g then some 3 else if eS g (us.es.take i) 0 then some 8 else if sg.es.length=0∨3 < sg.es.length then some 19 else if xD nS sg 0 then some 19 else none
 | _=>none
def pN (nS:Nat) (nm us ls:D):Int:=if !qBz (qCL nm) then 7 else if 100 < us.es.length then 11 else (vJ (wR nS us) us.es.length 0).getD (pD ls)
section
variable {nS:Nat} {us sg:D} {g:ByteArray} {i:Nat} {R:Int}
theorem qOI (h:us.es[i]? = some (.agg [.leaf (.string g),sg])) (e:cH g=false):(vJ (wR nS us) us.es.length i).getD R=3:=by
 have hi:i < us.es.length:=(gI h).1
 rw [xQ hi (e:=3) (by unfold wR; rw [h]; show (if !cH g then some 3 else _)=_; rw [e]; rfl)]; rfl
theorem qLx (h:us.es[i]? = some (.agg [.leaf (.string g),sg])) (e:cH g=true) (e2:eS g (us.es.take i) 0=true):(vJ (wR nS us) us.es.length i).getD R=8:=by
 have hi:i < us.es.length:=(gI h).1
 rw [xQ hi (e:=8) (by unfold wR; rw [h]; show (if !cH g then some 3 else if eS g (us.es.take i) 0 then some 8 else _)=_; rw [e,e2]; rfl)]; rfl
theorem qLy (h:us.es[i]? = some (.agg [.leaf (.string g),sg])) (e:cH g=true) (e2:eS g (us.es.take i) 0=false) (e3:sg.es.length=0∨3 < sg.es.length):(vJ (wR nS us) us.es.length i).getD R=19:=by
 have hi:i < us.es.length:=(gI h).1
 rw [xQ hi (e:=19) (by unfold wR; rw [h]; show (if !cH g then some 3 else if eS g (us.es.take i) 0 then some 8 else if sg.es.length=0∨3 < sg.es.length then some 19 else _)=_; rw [e,e2,if_pos e3]; rfl)]; rfl
theorem qS3 (h:us.es[i]? = some (.agg [.leaf (.string g),sg])) (e:cH g=true) (e2:eS g (us.es.take i) 0=false) (e3:¬ (sg.es.length=0∨3 < sg.es.length)):(vJ (wR nS us) us.es.length i).getD R=if xD nS sg 0 then 19 else (vJ (wR nS us) us.es.length (i+1)).getD R:=by
 have hi:i < us.es.length:=(gI h).1
 have hu:wR nS us i=if xD nS sg 0 then some 19 else none:=by
  unfold wR; rw [h]
  show (if !cH g then some 3 else if eS g (us.es.take i) 0 then some 8 else if sg.es.length=0∨3 < sg.es.length then some 19 else if xD nS sg 0 then some 19 else none)=_
  rw [e,e2,if_neg e3]; rfl
 cases hs:xD nS sg 0 with
 | true=>rw [hs] at hu; rw [xQ hi hu]; rfl
 | false=>rw [hs] at hu; rw [lW hi hu]; rfl
end
theorem zAk {G nm us ls:D} (i_G:xL 81 2 G) (hnm:qI 1048576 .str nm) (hus:qI 1048576 qQY us) (hls:qI 1048576 qOi ls):qB EE 43 [.agg [G],.agg [nm,us,ls]] (dI (pN G.es.length nm us ls)):=by
 obtain ⟨nm,rfl,hnm⟩:=hnm
 have i_us:=qD hus
 have i_ls:=qD hls
 have main:∀ i:Nat,qK EE (qB EE) qLD 1 [us,dI ((us.es.length:Nat):Int),dI ((i:Nat):Int),.agg [G],.agg [.leaf (.string nm),us,ls]] (dI ((vJ (wR G.es.length us) us.es.length i).getD (pD ls))):=by
  refine zR us.es.length fun i ih=>?_
  refine qK.step' ?_
  refine bS zE ?_
  refine iC (fun c=>?_) fun c=>?_
  ·skip
   have c1:i < us.es.length:=by have:=dT c; omega
   have hul:=qJ hus
   have ih:=ih c1
   obtain ⟨u,e_u⟩:∃ u,us.es[i]? = some u:=⟨_,List.getElem?_eq_getElem c1⟩
   have h_u:=zH hus e_u
   simp only [qI,jJ] at h_u
   obtain ⟨_,rfl,_,_,rfl,⟨g,rfl,hg⟩,sg,_,rfl,h_sg,rfl⟩:=h_u
   have h_sg:qI 1048576 uL sg:=by simpa only [qI] using h_sg
   have i_sg:=qD h_sg
   refine bS (vB (s:=((i:Nat):Int)) (by omega) e_u) ?_
   refine bS (gL (s:=((i:Nat):Int)) i_us (by omega) e_u rfl) ?_
   refine bS (qU rfl) ?_
   refine bS (qA (off:=0) rfl rfl) ?_
   refine cS (qZl hg) ?_
   refine bS vV ?_
   refine iC (fun d=>?_) fun d=>?_
   ·rw [qOI e_u (e7 d)]
    exact qC rfl rfl
   have d1:=e8 d
   obtain ⟨pr,e_pr,i_pr,h_pr⟩:=qL9 i_us (b:=i) (by omega)
   have inner:∀ j:Nat,(eS g (us.es.take i) j=eS g (us.es.take i) 0)->qK EE (qB EE) qLD 2 [us,dI ((us.es.length:Nat):Int),dI ((i:Nat):Int),pr,dI ((pr.es.length:Nat):Int),dI ((j:Nat):Int),.agg [G],.agg [.leaf (.string nm),us,ls],.agg [.leaf (.string g),sg]] (dI ((vJ (wR G.es.length us) us.es.length i).getD (pD ls))):=by
    refine zR pr.es.length fun j ihj=>?_
    intro hj
    refine qK.step' ?_
    refine bS zE ?_
    refine iC (fun e=>?_) fun e=>?_
    ·skip
     have e1:j < pr.es.length:=by have:=dT e; omega
     have e0:=e1
     rw [h_pr,List.length_take] at e0
     obtain ⟨v,e_v⟩:∃ v,us.es[j]? = some v:=⟨_,List.getElem?_eq_getElem (by omega)⟩
     have h_v:=zH hus e_v
     simp only [qI,jJ] at h_v
     obtain ⟨_,rfl,_,_,rfl,⟨f,rfl,hf⟩,sf,_,rfl,h_sf,rfl⟩:=h_v
     have h_sf:qI 1048576 uL sf:=by simpa only [qI] using h_sf
     have i_sf:=qD h_sf
     have e_t:(us.es.take i)[j]? = some (.agg [.leaf (.string f),sf]):=by rw [List.getElem?_take,if_pos (by omega)]; exact e_v
     have e_w:pr.es[j]? = some (.agg [.leaf (.string f),sf]):=by rw [h_pr]; exact e_t
     refine bS (vB (s:=((j:Nat):Int)) (by omega) e_w) ?_
     refine bS (gL (s:=((j:Nat):Int)) i_pr (by omega) e_w rfl) ?_
     refine bS (qU rfl) ?_
     refine bS (qA (off:=0) rfl rfl) ?_
     refine bS (qA (off:=0) rfl rfl) ?_
     refine bS dZ ?_
     refine iC (fun k=>?_) fun k=>?_
     ·rw [qLx e_u d1 (by rw [← hj]; exact bU e_t k)]
      exact qC rfl rfl
     refine bS (d:=dI ((j+1:Nat):Int)) (zA (qX (by omega))) ?_
     exact qE rfl (ihj e1 ((iG e_t k).symm.trans hj))
    have e1:=dF e
    have hd:eS g (us.es.take i) 0=false:=by
     rw [← hj]
     exact bV (by rw [← h_pr]; omega)
    refine bS (qA (off:=1) rfl i_sg.one) ?_
    refine bS (qL i_sg) ?_
    refine bS yR ?_
    refine iC (fun k=>?_) fun k=>?_
    ·have k1:((sg.es.length:Nat):Int)=0:=dT k
     rw [qLy e_u d1 hd (.inl (by omega))]
     exact qC rfl rfl
    have k1:¬ ((sg.es.length:Nat):Int)=0:=dF k
    refine bS (qA (off:=1) rfl i_sg.one) ?_
    refine bS (qL i_sg) ?_
    refine bS vT ?_
    refine iC (fun m=>?_) fun m=>?_
    ·have m1:((sg.es.length:Nat):Int) > 3:=dT m
     rw [qLy e_u d1 hd (.inr (by omega))]
     exact qC rfl rfl
    have m1:¬ ((sg.es.length:Nat):Int) > 3:=dF m
    rw [qS3 e_u d1 hd (by omega)]
    refine bS (qA (off:=1) rfl i_sg.one) ?_
    refine cS (d:=dI ((if xD G.es.length sg 0 then 19 else 0))) (zAg i_G h_sg (by omega) (by omega)) ?_
    refine bS wM ?_
    refine iC (fun n=>?_) fun n=>?_
    ·have n1:=dT n
     cases hs:xD G.es.length sg 0 with
     | true=>exact qC rfl rfl
     | false=>rw [hs] at n1; exact absurd rfl n1
    have n1:=dF n
    cases hs:xD G.es.length sg 0 with
    | true=>rw [hs] at n1; exact absurd (by decide) n1
    | false =>
     rw [← hs]
     refine bS (d:=dI ((i+1:Nat):Int)) (zA (qX (by omega))) ?_
     rw [hs]
     exact qE rfl ih
   refine bS (qA (off:=1) rfl i_us.one) ?_
   refine bS e_pr ?_
   refine bS (qL i_pr) ?_
   exact qE rfl (inner 0 rfl)
  have c1:=dF c
  rw [yV (by omega)]
  refine cS (zAf hls) ?_
  exact qC rfl rfl
 refine qZM rfl (qK.step' ?_)
 unfold pN
 rw [show qCL (.leaf (.string nm))=nm from rfl]
 refine bS (qU rfl) ?_
 refine bS (qU rfl) ?_
 refine bS (qA (off:=0) rfl rfl) ?_
 refine cS (zAh hnm) ?_
 refine bS vV ?_
 refine iC (fun c=>?_) fun c=>?_
 ·rw [c]; exact qC rfl rfl
 rw [c]
 refine bS (qA (off:=1) rfl i_us.one) ?_
 refine bS (qL i_us) ?_
 refine bS vT ?_
 refine iC (fun d=>?_) fun d=>?_
 ·have d1:((us.es.length:Nat):Int) > 100:=dT d
  rw [if_pos (by omega:100 < us.es.length)]
  exact qC rfl rfl
 have d1:¬ ((us.es.length:Nat):Int) > 100:=dF d
 rw [if_neg (by omega:¬ 100 < us.es.length)]
 refine bS (qA (off:=1) rfl i_us.one) ?_
 refine bS (qL i_us) ?_
 exact qE rfl (main 0)
end Go.Proofs.YtminhjecpnpaeaaGreatDoor
namespace Go.Proofs.YtminhjecpnpaeaaGreatDoor
open Go Go.Am Go.Proofs Go.Am.Tu
attribute [local irreducible] Go.Am.wp Go.Am.TOp.eval
theorem qYd {G S:D} {g:D} {i0:Nat} (i_G:xL 81 2 G) (hS:qI 1048576 uL S):∀ k:Nat,qK EE (qB EE) qLA 2 [dI ((k:Nat):Int),.agg [G],.agg [g,S]] (dI (if xD G.es.length S k then 19 else 0)):=by
 have i_S:=qD hS
 refine zR S.es.length fun k ih=>?_
 refine qK.step' ?_
 refine bS (qA (off:=1) rfl i_S.one) ?_
 refine bS (qL i_S) ?_
 refine bS zE ?_
 refine iC (fun c=>?_) fun c=>?_
 ·skip
  have c1:k < S.es.length:=by have:=dT c; omega
  have hlen:=qJ hS
  have ih:=ih c1
  obtain ⟨x,e_x⟩:∃ x,S.es[k]? = some x:=⟨_,List.getElem?_eq_getElem c1⟩
  obtain ⟨q,rfl⟩:=(zH hS e_x:qI _ (.int .i64) x)
  have hq:qHG (dI q)=q:=rfl
  have yes:q < 1∨(G.es.length:Int) < q->xD G.es.length S k=true:=fun h=>bU e_x (by unfold qHf; rw [hq]; exact tD h)
  have no:¬ (q < 1∨(G.es.length:Int) < q)->xD G.es.length S k=xD G.es.length S (k+1):=fun h=>iG e_x (by unfold qHf; rw [hq]; exact fD h)
  refine bS (qA (off:=1) rfl i_S.one) ?_
  refine bS (vB (s:=((k:Nat):Int)) (by omega) e_x) ?_
  refine bS (z6 (s:=((k:Nat):Int)) i_S (by omega) e_x rfl) ?_
  refine bS zE ?_
  refine iC (fun q1=>?_) fun q1=>?_
  ·replace q1:=dT q1
   (rw [yes (by omega)]; exact qC rfl rfl)
  replace q1:=dF q1
  refine bS (qA (off:=1) rfl i_S.one) ?_
  refine bS (vB (s:=((k:Nat):Int)) (by omega) e_x) ?_
  refine bS (z6 (s:=((k:Nat):Int)) i_S (by omega) e_x rfl) ?_
  refine bS (qA (off:=0) rfl i_G.one) ?_
  refine bS (qL i_G) ?_
  refine bS vT ?_
  refine iC (fun q2=>?_) fun q2=>?_
  ·replace q2:=dT q2
   (rw [yes (by omega)]; exact qC rfl rfl)
  replace q2:=dF q2
  refine bS (d:=dI ((k+1:Nat):Int)) (zA (qX (by omega))) ?_
  (rw [no (by omega)]; exact qE rfl ih)
 have c1:=dF c
 unfold xD
 rw [bV (by omega)]
 exact qC rfl rfl
theorem qLw {nS:Nat} {us:D} {i:Nat}:wR nS us i≠some 0:=by
 unfold wR
 split
 ·repeat' split
  all_goals simp
 simp
theorem qOH {nS:Nat} {us:D} {i:Nat} {R e:Int} (hi:i < us.es.length) (he:(wR nS us i).getD 0=e) (hne:¬ e=0):(vJ (wR nS us) us.es.length i).getD R=e:=by
 cases h:wR nS us i with
 | none=>rw [h] at he; exact absurd he.symm hne
 | some x=>rw [h] at he; rw [xQ hi h]; exact he
theorem qVi {nS:Nat} {us:D} {i:Nat} {R:Int} (hi:i < us.es.length) (he:(wR nS us i).getD 0=0):(vJ (wR nS us) us.es.length i).getD R=(vJ (wR nS us) us.es.length (i+1)).getD R:=by
 cases h:wR nS us i with
 | none=>rw [lW hi h]
 | some x=>rw [h] at he; exact absurd (by rw [h]; exact congrArg some he) (qLw (nS:=nS) (us:=us) (i:=i))
theorem zAd {G nm us ls:D} {i:Nat} (i_G:xL 81 2 G) (hus:qI 1048576 qQY us) (i_ls:xL 50 1 ls) (hnm:nm.one=true) (c1:i < us.es.length):qB EE 83 [.agg [G],.agg [nm,us,ls],dI ((i:Nat):Int)] (dI ((wR G.es.length us i).getD 0)):=by
 have i_us:=qD hus
 have hul:=qJ hus
 obtain ⟨u,e_u⟩:∃ u,us.es[i]? = some u:=⟨_,List.getElem?_eq_getElem c1⟩
 have h_u:=zH hus e_u
 simp only [qI,jJ] at h_u
 obtain ⟨_,rfl,_,_,rfl,⟨g,rfl,hg⟩,sg,_,rfl,h_sg,rfl⟩:=h_u
 have h_sg:qI 1048576 uL sg:=by simpa only [qI] using h_sg
 have i_sg:=qD h_sg
 have hu:wR G.es.length us i=if !cH g then some 3 else if eS g (us.es.take i) 0 then some 8 else if sg.es.length=0∨3 < sg.es.length then some 19 else if xD G.es.length sg 0 then some 19 else none:=by
  unfold wR; rw [e_u]
 rw [hu]
 refine qZA rfl (qK.step' ?_)
 refine bS (qU rfl) ?_
 refine bS (qU rfl) ?_
 refine bS (qA (off:=1) rfl i_us.one) ?_
 refine bS (vB (s:=((i:Nat):Int)) (by omega) e_u) ?_
 refine bS (gL (s:=((i:Nat):Int)) i_us (by omega) e_u rfl) ?_
 refine bS (qU rfl) ?_
 refine bS (qA (off:=0) rfl rfl) ?_
 refine cS (qZk hg) ?_
 refine bS vV ?_
 refine iC (fun d=>?_) fun d=>?_
 ·rw [d]
  exact qC rfl rfl
 rw [d]
 have inner:∀ j:Nat,(eS g (us.es.take i) j=eS g (us.es.take i) 0)->qK EE (qB EE) qLA 1 [dI ((i:Nat):Int),dI ((j:Nat):Int),.agg [G],.agg [nm,us,ls],.agg [.leaf (.string g),sg]] (dI ((if eS g (us.es.take i) 0 then some 8 else if sg.es.length=0∨3 < sg.es.length then some 19 else if xD G.es.length sg 0 then some 19 else none).getD 0)):=by
  refine zR i fun j ihj=>?_
  intro hj
  refine qK.step' ?_
  refine bS zE ?_
  refine iC (fun e=>?_) fun e=>?_
  ·skip
   have e1:j < i:=by have:=dT e; omega
   obtain ⟨v,e_v⟩:∃ v,us.es[j]? = some v:=⟨_,List.getElem?_eq_getElem (by omega)⟩
   have h_v:=zH hus e_v
   simp only [qI,jJ] at h_v
   obtain ⟨_,rfl,_,_,rfl,⟨f,rfl,hf⟩,sf,_,rfl,h_sf,rfl⟩:=h_v
   have h_sf:qI 1048576 uL sf:=by simpa only [qI] using h_sf
   have i_sf:=qD h_sf
   have e_t:(us.es.take i)[j]? = some (.agg [.leaf (.string f),sf]):=by rw [List.getElem?_take,if_pos (by omega)]; exact e_v
   refine bS (qA (off:=1) rfl i_us.one) ?_
   refine bS (vB (s:=((j:Nat):Int)) (by omega) e_v) ?_
   refine bS (cU (s:=((j:Nat):Int)) (off:=0) i_us (by omega) e_v rfl rfl (by decide)) ?_
   refine bS (qA (off:=0) rfl rfl) ?_
   refine bS dZ ?_
   refine iC (fun k=>?_) fun k=>?_
   ·rw [show eS g (us.es.take i) 0=true by rw [← hj]; exact bU e_t k]
    exact qC rfl rfl
   refine bS (d:=dI ((j+1:Nat):Int)) (zA (qX (by omega))) ?_
   exact qE rfl (ihj e1 ((iG e_t k).symm.trans hj))
  have e1:=dF e
  have hd:eS g (us.es.take i) 0=false:=by
   rw [← hj]
   exact bV (by rw [List.length_take]; omega)
  rw [hd]
  refine bS (qA (off:=1) rfl i_sg.one) ?_
  refine bS (qL i_sg) ?_
  refine bS zE ?_
  refine iC (fun k=>?_) fun k=>?_
  ·have k1:((sg.es.length:Nat):Int) < 1:=dT k
   rw [if_pos (show sg.es.length=0∨3 < sg.es.length by omega)]
   exact qC rfl rfl
  have k1:¬ ((sg.es.length:Nat):Int) < 1:=dF k
  refine bS (qA (off:=1) rfl i_sg.one) ?_
  refine bS (qL i_sg) ?_
  refine bS vT ?_
  refine iC (fun m=>?_) fun m=>?_
  ·have m1:((sg.es.length:Nat):Int) > 3:=dT m
   rw [if_pos (show sg.es.length=0∨3 < sg.es.length by omega)]
   exact qC rfl rfl
  have m1:¬ ((sg.es.length:Nat):Int) > 3:=dF m
  rw [if_neg (show ¬ (sg.es.length=0∨3 < sg.es.length) by omega)]
  have h0:=qYd (g:=.leaf (.string g)) (i0:=i) i_G h_sg 0
  have h1:(if xD G.es.length sg 0 then 19 else 0:Int)=((if xD G.es.length sg 0 then some 19 else none).getD 0:Int):=by
   cases xD G.es.length sg 0 <;> rfl
  rw [h1] at h0
  exact qE rfl h0
 exact qE rfl (inner 0 rfl)
theorem qYy {G nm us ls:D} (i_G:xL 81 2 G) (hnm:qI 1048576 .str nm) (hus:qI 1048576 qQY us) (hls:qI 1048576 qOi ls):qB EE 44 [.agg [G],.agg [nm,us,ls]] (dI (pN G.es.length nm us ls)):=by
 obtain ⟨nm,rfl,hnm⟩:=hnm
 have i_us:=qD hus
 have i_ls:=qD hls
 have hul:=qJ hus
 have main:∀ i:Nat,qK EE (qB EE) cN 1 [dI ((i:Nat):Int),.agg [G],.agg [.leaf (.string nm),us,ls]] (dI ((vJ (wR G.es.length us) us.es.length i).getD (pD ls))):=by
  refine zR us.es.length fun i ih=>?_
  refine qK.step' ?_
  refine bS (qA (off:=1) rfl i_us.one) ?_
  refine bS (qL i_us) ?_
  refine bS zE ?_
  refine iC (fun c=>?_) fun c=>?_
  ·skip
   have c1:i < us.es.length:=by have:=dT c; omega
   have ih:=ih c1
   refine cS (zAd i_G hus i_ls rfl c1) ?_
   refine bS wM ?_
   refine iC (fun d=>?_) fun d=>?_
   ·have d1:=dT d
    rw [qOH c1 rfl d1]
    exact qC rfl rfl
   have d1:=dF d
   rw [qVi c1 (Classical.not_not.1 d1)]
   refine bS (d:=dI ((i+1:Nat):Int)) (zA (qX (by omega))) ?_
   exact qE rfl ih
  have c1:=dF c
  rw [yV (by omega)]
  refine bS (qA (off:=2) rfl i_ls.one) ?_
  refine bS (qL i_ls) ?_
  refine bS vT ?_
  unfold pD
  refine iC (fun d=>?_) fun d=>?_
  ·have d1:((ls.es.length:Nat):Int) > 100:=dT d
   rw [if_pos (by omega:100 < ls.es.length)]
   exact qC rfl rfl
  have d1:¬ ((ls.es.length:Nat):Int) > 100:=dF d
  rw [if_neg (by omega:¬ 100 < ls.es.length)]
  exact qE rfl (qYe hls (by omega))
 refine qXY rfl (qK.step' ?_)
 unfold pN
 rw [show qCL (.leaf (.string nm))=nm from rfl]
 refine bS (qU rfl) ?_
 refine bS (qU rfl) ?_
 refine bS (qA (off:=0) rfl rfl) ?_
 refine cS (zAe hnm) ?_
 refine bS vV ?_
 refine iC (fun c=>?_) fun c=>?_
 ·rw [c]; exact qC rfl rfl
 rw [c]
 refine bS (qA (off:=1) rfl i_us.one) ?_
 refine bS (qL i_us) ?_
 refine bS vT ?_
 refine iC (fun d=>?_) fun d=>?_
 ·have d1:((us.es.length:Nat):Int) > 100:=dT d
  rw [if_pos (by omega:100 < us.es.length)]
  exact qC rfl rfl
 have d1:¬ ((us.es.length:Nat):Int) > 100:=dF d
 rw [if_neg (by omega:¬ 100 < us.es.length)]
 exact qE rfl (main 0)
end Go.Proofs.YtminhjecpnpaeaaGreatDoor
namespace Go.Proofs.YtminhjecpnpaeaaGreatDoor
open Go Go.Am Go.Proofs Go.Am.Tu
theorem oR {E:Env} {cs:List D} {off:Nat} {x:D} (h:cs[off]? = some x) (ho:x.one=true):TOp.eval E (.loadp false 1) [.ptr cs off]=some x:=by
 have e:TOp.eval E (.loadp false 1) [.ptr cs off]=TOp.eval E (.fld false 1 off) [.agg cs]:=rfl
 rw [e]; exact qA h ho
attribute [local irreducible] Go.Am.wp Go.Am.TOp.eval
abbrev qOr:Sh:=.sl 92 3 (.st [.int .i64,.int .i64,.int .i64])
theorem qWf:nO EE.prog 4 92=some [.int .i64,.int .i64,.int .i64]:=by kernel_rfl
theorem qWk:oO EE.prog 92=true:=by kernel_rfl
theorem qWR:EE.prog.eqGuardType EE.prog.depth 92=false:=by kernel_rfl
def qUp (a b c a' b' c':Int):Bool:=decide (a=a') && (decide (b=b') && decide (c=c'))
theorem qS2 {a b:Int}:kD (dI a) (dI b)=decide (a=b):=by
 show (a == b)=_
 by_cases h:a=b
 ·subst h; simp
 rw [fD h,beq_eq_false_iff_ne]; exact h
theorem qNN {x y:Operand} {a b c a' b' c':Int}:TOp.eval EE (.bin .eql 92 x y) [.agg [dI a,dI b,dI c],.agg [dI a',dI b',dI c']]=some (dB (qUp a b c a' b' c')):=by
 rw [nV .eql (.inr rfl) qWf qWk (by decide) qWR rfl (aT (B:=300000000) (qF vP (qF vP (qF vP j7)))) (aT (B:=300000000) (qF vP (qF vP (qF vP j7))))]
 show some (dB (kD (dI a) (dI a') && (kD (dI b) (dI b') && (kD (dI c) (dI c') && true))))=_
 rw [qS2,qS2,qS2,Bool.and_true]; rfl
theorem qJq {a b c a' b' c':Int}:qUp a b c a' b' c'=qUp a' b' c' a b c:=by
 unfold qUp
 rw [decide_eq_decide.2 (show a=a'↔a'=a from eq_comm),decide_eq_decide.2 (show b=b'↔b'=b from eq_comm),decide_eq_decide.2 (show c=c'↔c'=c from eq_comm)]
def qAy (st q:Int):Bool:=decide (q≥0) && decide (q < st)
def iV (a b c:Int):D->Bool
 | .agg [.leaf (.int _ x),.leaf (.int _ y),.leaf (.int _ z)]=>qUp x y z a b c
 | _=>false
def bZ (st:Int) (xs:D) (i:Nat):Option Int:=match xs.es[i]? with
 | some (.agg [.leaf (.int _ a),.leaf (.int _ c),.leaf (.int _ b)])=>if !qAy st a then some 2 else if !qAy st b then some 2 else if c < 1∨20 < c then some 21 else if ((xs.es.take i).drop 0).any (iV a c b) then some 8 else none
 | _=>none
def qFz (fs:D) (i:Nat):Option Int:=match fs.es[i - 1]?,fs.es[i]? with
 | some x,some y=>if qHG x≥qHG y then some 10 else none
 | _,_=>none
def qFm (st:Int) (fs:D) (i:Nat):Option Int:=match fs.es[i]? with
 | some x=>if !qAy st (qHG x) then some 2 else none
 | none=>none
def qUa (st:Int) (fs:D):Int:=(vJ (qFm st fs) fs.es.length 0).getD 0
def qPh (st:Int) (fs:D):Int:=(vJ (qFz fs) fs.es.length 1).getD (qUa st fs)
def qAw (st:Int) (xs fs:D):Int:=if st < 1 then 2 else if 24 < st then 2 else if 200 < xs.es.length then 11 else (vJ (bZ st xs) xs.es.length 0).getD (qPh st fs)
section
variable {st:Int} {xs fs:D} {a b c:Int} {i:Nat} {R:Int}
theorem qFe (h:xs.es[i]? = some (.agg [dI a,dI c,dI b])):bZ st xs i=if !qAy st a then some 2 else if !qAy st b then some 2 else if c < 1∨20 < c then some 21 else if ((xs.es.take i).drop 0).any (iV a c b) then some 8 else none:=by
 unfold bZ; rw [h]
theorem qSs (h:xs.es[i]? = some (.agg [dI a,dI c,dI b])) (e:qAy st a=false):(vJ (bZ st xs) xs.es.length i).getD R=2:=by
 rw [xQ (gI h).1 (e:=2) (by rw [qFe h,e]; rfl)]; rfl
theorem qSr (h:xs.es[i]? = some (.agg [dI a,dI c,dI b])) (e:qAy st a=true) (e2:qAy st b=false):(vJ (bZ st xs) xs.es.length i).getD R=2:=by
 rw [xQ (gI h).1 (e:=2) (by rw [qFe h,e,e2]; rfl)]; rfl
theorem qIz (h:xs.es[i]? = some (.agg [dI a,dI c,dI b])) (e:qAy st a=true) (e2:qAy st b=true) (e3:c < 1∨20 < c):(vJ (bZ st xs) xs.es.length i).getD R=21:=by
 rw [xQ (gI h).1 (e:=21) (by rw [qFe h,e,e2,if_pos e3]; rfl)]; rfl
theorem qSq (h:xs.es[i]? = some (.agg [dI a,dI c,dI b])) (e:qAy st a=true) (e2:qAy st b=true) (e3:¬ (c < 1∨20 < c)) (e4:((xs.es.take i).drop 0).any (iV a c b)=true):(vJ (bZ st xs) xs.es.length i).getD R=8:=by
 rw [xQ (gI h).1 (e:=8) (by rw [qFe h,e,e2,if_neg e3,e4]; rfl)]; rfl
theorem qSt (h:xs.es[i]? = some (.agg [dI a,dI c,dI b])) (e:qAy st a=true) (e2:qAy st b=true) (e3:¬ (c < 1∨20 < c)) (e4:((xs.es.take i).drop 0).any (iV a c b)=false):(vJ (bZ st xs) xs.es.length i).getD R=(vJ (bZ st xs) xs.es.length (i+1)).getD R:=by
 rw [lW (gI h).1 (by rw [qFe h,e,e2,if_neg e3,e4]; rfl)]
theorem qMw {x y:Int} (h0:fs.es[i - 1]? = some (dI x)) (h:fs.es[i]? = some (dI y)) (e:x≥y):(vJ (qFz fs) fs.es.length i).getD R=10:=by
 rw [xQ (gI h).1 (e:=10) (by unfold qFz; rw [h0,h]; exact if_pos e)]; rfl
theorem qSC {x y:Int} (h0:fs.es[i - 1]? = some (dI x)) (h:fs.es[i]? = some (dI y)) (e:¬ x≥y):(vJ (qFz fs) fs.es.length i).getD R=(vJ (qFz fs) fs.es.length (i+1)).getD R:=by
 rw [lW (gI h).1 (by unfold qFz; rw [h0,h]; exact if_neg e)]
theorem qMk {x:Int} (h:fs.es[i]? = some (dI x)) (e:qAy st x=false):(vJ (qFm st fs) fs.es.length i).getD R=2:=by
 rw [xQ (gI h).1 (e:=2) (by unfold qFm; rw [h]; show (if !qAy st x then _ else _)=_; rw [e]; rfl)]; rfl
theorem qSx {x:Int} (h:fs.es[i]? = some (dI x)) (e:qAy st x=true):(vJ (qFm st fs) fs.es.length i).getD R=(vJ (qFm st fs) fs.es.length (i+1)).getD R:=by
 rw [lW (gI h).1 (by unfold qFm; rw [h]; show (if !qAy st x then _ else _)=_; rw [e]; rfl)]
end
theorem qYx {st q:Int} {xs fs:D}:qB EE 75 [dI q,.ptr [dI st,xs,fs] 0] (dB (qAy st q)):=by
 refine qZI rfl (qK.step' ?_)
 refine bS wN ?_
 refine iC (fun c=>?_) fun c=>?_
 ·skip
  refine bS bK ?_
  refine bS (oR (cs:=[dI (st),xs,fs]) (off:=0) rfl rfl) ?_
  refine bS zE ?_
  exact qC rfl (congrArg dB (by unfold qAy; rw [c]; rfl))
 exact qC rfl (congrArg dB (by unfold qAy; rw [c]; rfl))
theorem qYw {st q:Int} {xs fs:D}:qB EE 77 [.agg [dI st,xs,fs],dI q] (dB (qAy st q)):=by
 refine qZG rfl (qK.step' ?_)
 refine bS (qU rfl) ?_
 refine bS wN ?_
 refine iC (fun c=>?_) fun c=>?_
 ·skip
  refine bS (qA (off:=0) rfl rfl) ?_
  refine bS zE ?_
  exact qC rfl (congrArg dB (by unfold qAy; rw [c]; rfl))
 exact qC rfl (congrArg dB (by unfold qAy; rw [c]; rfl))
theorem qYJ {l:D} {a b c:Int} (hl:qI 1048576 qOr l):∃ n:Int,decide (n≥0)=(l.es.drop 0).any (iV a b c)/\qB EE 126 [l,.agg [dI a,dI b,dI c]] (dI n):=by
 have i_l:=qD hl
 have main:∀ i:Nat,∃ d,(∃ n:Int,d=dI n/\decide (n≥0)=(l.es.drop i).any (iV a b c))/\qK EE (qB EE) qLT 1 [l,dI ((l.es.length:Nat):Int),dI ((i:Nat):Int),.agg [dI a,dI b,dI c]] d:=by
  refine zR l.es.length fun i ih=>?_
  refine wE ?_
  refine bS zE ?_
  refine iC (fun r=>?_) fun r=>?_
  ·skip
   have c1:i < l.es.length:=by have:=dT r; omega
   have hlen:=qJ hl
   obtain ⟨x,e_x⟩:∃ x,l.es[i]? = some x:=⟨_,List.getElem?_eq_getElem c1⟩
   have h_x:=zH hl e_x
   simp only [qI,jJ] at h_x
   obtain ⟨_,rfl,_,_,rfl,⟨x,rfl⟩,_,_,rfl,⟨y,rfl⟩,_,_,rfl,⟨z,rfl⟩,rfl⟩:=h_x
   refine bS (vB (s:=((i:Nat):Int)) (by omega) e_x) ?_
   refine bS (gL (s:=((i:Nat):Int)) i_l (by omega) e_x rfl) ?_
   refine bS qNN ?_
   refine iC (fun e=>?_) fun e=>?_
   ·exact vO rfl ⟨_,rfl,by rw [bU e_x (show qUp x y z a b c=true by rw [qJq]; exact e)]; exact tD (by omega)⟩
   refine bS (d:=dI ((i+1:Nat):Int)) (zA (qX (by omega))) ?_
   have q:=ih c1
   rw [← iG e_x (show qUp x y z a b c=false by rw [qJq]; exact e)] at q
   exact vH rfl q
  have c1:=dF r
  exact vO rfl ⟨-1,rfl,by rw [bV (by omega)]; rfl⟩
 obtain ⟨d,⟨n,rfl,hn⟩,hd⟩:=main 0
 refine ⟨n,hn,qX9 rfl (qK.step' ?_)⟩
 refine bS (qU rfl) ?_
 refine bS (qL i_l) ?_
 exact qE rfl hd
theorem zAi {l:D} {a b c:Int} (hl:qI 1048576 qOr l):qB EE 76 [l,.agg [dI a,dI b,dI c]] (dB ((l.es.drop 0).any (iV a b c))):=by
 have i_l:=qD hl
 obtain ⟨n,hn,hh⟩:=qYJ (a:=a) (b:=b) (c:=c) hl
 refine qZH rfl (qK.step' ?_)
 refine bS (qU rfl) ?_
 refine cS hh ?_
 refine bS wN ?_
 exact qC rfl (congrArg dB hn)
theorem qOV {el sz:Nat} {e:Sh} {w d:D} {b:Nat} (hw:qI 1048576 (.sl el sz e) w) (hd:xL el sz d) (he:d.es=w.es.take b):qI 1048576 (.sl el sz e) d:=by
 rcases hd with rfl | ⟨es,rfl,_⟩
 ·exact gS
 have he:es=w.es.take b:=he
 have hl:=qJ hw
 refine cB (by rw [he,List.length_take]; omega) fun x hx=>?_
 rw [he] at hx
 obtain ⟨i,hi⟩:=List.mem_iff_getElem?.1 (List.mem_of_mem_take hx)
 exact zH hw hi
theorem zAn {st:Int} {xs fs:D} (hxs:qI 1048576 qOr xs) (hfs:qI 1048576 uL fs):qB EE 40 [.agg [dI st,xs,fs]] (dI (qAw st xs fs)):=by
 have i_xs:=qD hxs
 have i_fs:=qD hfs
 have hxl:=qJ hxs
 have hfl:=qJ hfs
 have m3:∀ i:Nat,qK EE (qB EE) qIv 3 [.ptr [dI st,xs,fs] 0,fs,dI ((fs.es.length:Nat):Int),dI ((i:Nat):Int)] (dI ((vJ (qFm st fs) fs.es.length i).getD 0)):=by
  refine zR fs.es.length fun i ih=>?_
  refine qK.step' ?_
  refine bS zE ?_
  refine iC (fun c=>?_) fun c=>?_
  ·skip
   have c1:i < fs.es.length:=by have:=dT c; omega
   have ih:=ih c1
   obtain ⟨x,e_x⟩:∃ x,fs.es[i]? = some x:=⟨_,List.getElem?_eq_getElem c1⟩
   obtain ⟨x,rfl⟩:=(zH hfs e_x:qI _ (.int .i64) x)
   refine bS (vB (s:=((i:Nat):Int)) (by omega) e_x) ?_
   refine bS (z6 (s:=((i:Nat):Int)) i_fs (by omega) e_x rfl) ?_
   refine cS qYx ?_
   refine bS vV ?_
   refine iC (fun d=>?_) fun d=>?_
   ·rw [qMk e_x (e7 d)]
    exact qC rfl rfl
   refine bS (d:=dI ((i+1:Nat):Int)) (zA (qX (by omega))) ?_
   rw [qSx e_x (e8 d)]
   exact qE rfl ih
  have c1:=dF c
  rw [yV (by omega)]
  exact qC rfl rfl
 have m2:∀ i:Nat,1<=i->qK EE (qB EE) qIv 2 [.ptr [dI st,xs,fs] 0,dI ((i:Nat):Int)] (dI ((vJ (qFz fs) fs.es.length i).getD (qUa st fs))):=by
  refine zR fs.es.length fun i ih=>?_
  intro h1
  refine qK.step' ?_
  refine bS (oR (cs:=[dI (st),xs,fs]) (off:=2) rfl i_fs.one) ?_
  refine bS (qL i_fs) ?_
  refine bS zE ?_
  refine iC (fun c=>?_) fun c=>?_
  ·skip
   have c1:i < fs.es.length:=by have:=dT c; omega
   have ih:=ih c1 (by omega)
   obtain ⟨y,e_y⟩:∃ y,fs.es[i]? = some y:=⟨_,List.getElem?_eq_getElem c1⟩
   obtain ⟨x,e_x⟩:∃ x,fs.es[i - 1]? = some x:=⟨_,List.getElem?_eq_getElem (by omega)⟩
   obtain ⟨y,rfl⟩:=(zH hfs e_y:qI _ (.int .i64) y)
   obtain ⟨x,rfl⟩:=(zH hfs e_x:qI _ (.int .i64) x)
   have e_z:fs.es[(((i:Nat):Int) - 1).toNat]? = some (dI x):=by rw [show (((i:Nat):Int) - 1).toNat=i - 1 by omega]; exact e_x
   refine bS (oR (cs:=[dI (st),xs,fs]) (off:=2) rfl i_fs.one) ?_
   refine bS (d:=dI (((i:Nat):Int) - 1)) (qBd (by omega)) ?_
   refine bS (vB (s:=((i:Nat):Int) - 1) (by omega) e_z) ?_
   refine bS (z6 (s:=((i:Nat):Int) - 1) i_fs (by omega) e_z rfl) ?_
   refine bS (oR (cs:=[dI (st),xs,fs]) (off:=2) rfl i_fs.one) ?_
   refine bS (vB (s:=((i:Nat):Int)) (by omega) e_y) ?_
   refine bS (z6 (s:=((i:Nat):Int)) i_fs (by omega) e_y rfl) ?_
   refine bS wN ?_
   refine iC (fun d=>?_) fun d=>?_
   ·rw [qMw e_x e_y (dT d)]
    exact qC rfl rfl
   refine bS (d:=dI ((i+1:Nat):Int)) (zA (qX (by omega))) ?_
   rw [qSC e_x e_y (dF d)]
   exact qE rfl ih
  have c1:=dF c
  rw [yV (by omega)]
  refine bS (oR (cs:=[dI (st),xs,fs]) (off:=2) rfl i_fs.one) ?_
  refine bS (qL i_fs) ?_
  exact qE rfl (m3 0)
 have m1:∀ i:Nat,qK EE (qB EE) qIv 1 [.ptr [dI st,xs,fs] 0,xs,dI ((xs.es.length:Nat):Int),dI ((i:Nat):Int)] (dI ((vJ (bZ st xs) xs.es.length i).getD (qPh st fs))):=by
  refine zR xs.es.length fun i ih=>?_
  refine qK.step' ?_
  refine bS zE ?_
  refine iC (fun c=>?_) fun c=>?_
  ·skip
   have c1:i < xs.es.length:=by have:=dT c; omega
   have ih:=ih c1
   obtain ⟨x,e_x⟩:∃ x,xs.es[i]? = some x:=⟨_,List.getElem?_eq_getElem c1⟩
   have h_x:=zH hxs e_x
   simp only [qI,jJ] at h_x
   obtain ⟨_,rfl,_,_,rfl,⟨x,rfl⟩,_,_,rfl,⟨y,rfl⟩,_,_,rfl,⟨z,rfl⟩,rfl⟩:=h_x
   obtain ⟨pr,e_pr,i_pr,h_pr⟩:=qL9 i_xs (b:=i) (by omega)
   refine bS (vB (s:=((i:Nat):Int)) (by omega) e_x) ?_
   refine bS (gL (s:=((i:Nat):Int)) i_xs (by omega) e_x rfl) ?_
   refine bS (qU rfl) ?_
   refine bS (qA (off:=0) rfl rfl) ?_
   refine cS qYx ?_
   refine bS vV ?_
   refine iC (fun d=>?_) fun d=>?_
   ·rw [qSs e_x (e7 d)]
    exact qC rfl rfl
   have d1:=e8 d
   refine bS (qA (off:=2) rfl rfl) ?_
   refine cS qYx ?_
   refine bS vV ?_
   refine iC (fun e=>?_) fun e=>?_
   ·rw [qSr e_x d1 (e7 e)]
    exact qC rfl rfl
   have e1:=e8 e
   refine bS (qA (off:=1) rfl rfl) ?_
   refine bS zE ?_
   refine iC (fun f=>?_) fun f=>?_
   ·have f1:=dT f
    rw [qIz e_x d1 e1 (.inl f1)]
    exact qC rfl rfl
   have f1:=dF f
   refine bS (qA (off:=1) rfl rfl) ?_
   refine bS vT ?_
   refine iC (fun g=>?_) fun g=>?_
   ·have g1:=dT g
    rw [qIz e_x d1 e1 (.inr g1)]
    exact qC rfl rfl
   have g1:=dF g
   refine bS (oR (cs:=[dI (st),xs,fs]) (off:=1) rfl i_xs.one) ?_
   refine bS e_pr ?_
   refine cS (zAi (qOV hxs i_pr h_pr)) ?_
   refine iC (fun k=>?_) fun k=>?_
   ·rw [qSq e_x d1 e1 (by omega) (by rw [← h_pr]; exact k)]
    exact qC rfl rfl
   refine bS (d:=dI ((i+1:Nat):Int)) (zA (qX (by omega))) ?_
   rw [qSt e_x d1 e1 (by omega) (by rw [← h_pr]; exact k)]
   exact qE rfl ih
  have c1:=dF c
  rw [yV (by omega)]
  exact qE rfl (m2 1 (lR _))
 refine qZO rfl (qK.step' ?_)
 unfold qAw
 refine bS (qU rfl) ?_
 refine bS (qA (off:=0) rfl rfl) ?_
 refine bS zE ?_
 refine iC (fun c=>?_) fun c=>?_
 ·rw [if_pos (dT c)]
  exact qC rfl rfl
 rw [if_neg (dF c)]
 refine bS (qA (off:=0) rfl rfl) ?_
 refine bS vT ?_
 refine iC (fun d=>?_) fun d=>?_
 ·rw [if_pos (dT d)]
  exact qC rfl rfl
 rw [if_neg (dF d)]
 refine bS (qA (off:=1) rfl i_xs.one) ?_
 refine bS (qL i_xs) ?_
 refine bS vT ?_
 refine iC (fun e=>?_) fun e=>?_
 ·have e1:=dT e
  rw [if_pos (by omega:200 < xs.es.length)]
  exact qC rfl rfl
 have e1:=dF e
 rw [if_neg (by omega:¬ 200 < xs.es.length)]
 refine bS sJ ?_
 refine bS (oR (cs:=[dI (st),xs,fs]) (off:=1) rfl i_xs.one) ?_
 refine bS (qL i_xs) ?_
 exact qE rfl (m1 0)
theorem zAm {st:Int} {xs fs:D} (hxs:qI 1048576 qOr xs) (hfs:qI 1048576 uL fs):qB EE 41 [.agg [dI st,xs,fs]] (dI (qAw st xs fs)):=by
 have i_xs:=qD hxs
 have i_fs:=qD hfs
 have hxl:=qJ hxs
 have hfl:=qJ hfs
 have m3:∀ i:Nat,qK EE (qB EE) qE5 4 [dI ((i:Nat):Int),.agg [dI st,xs,fs]] (dI ((vJ (qFm st fs) fs.es.length i).getD 0)):=by
  refine zR fs.es.length fun i ih=>?_
  refine qK.step' ?_
  refine bS (qA (off:=2) rfl i_fs.one) ?_
  refine bS (qL i_fs) ?_
  refine bS zE ?_
  refine iC (fun c=>?_) fun c=>?_
  ·skip
   have c1:i < fs.es.length:=by have:=dT c; omega
   have ih:=ih c1
   obtain ⟨x,e_x⟩:∃ x,fs.es[i]? = some x:=⟨_,List.getElem?_eq_getElem c1⟩
   obtain ⟨x,rfl⟩:=(zH hfs e_x:qI _ (.int .i64) x)
   refine bS (qA (off:=2) rfl i_fs.one) ?_
   refine bS (vB (s:=((i:Nat):Int)) (by omega) e_x) ?_
   refine bS (z6 (s:=((i:Nat):Int)) i_fs (by omega) e_x rfl) ?_
   refine cS qYw ?_
   refine bS vV ?_
   refine iC (fun d=>?_) fun d=>?_
   ·rw [qMk e_x (e7 d)]
    exact qC rfl rfl
   refine bS (d:=dI ((i+1:Nat):Int)) (zA (qX (by omega))) ?_
   rw [qSx e_x (e8 d)]
   exact qE rfl ih
  have c1:=dF c
  rw [yV (by omega)]
  exact qC rfl rfl
 have m2:∀ i:Nat,1<=i->qK EE (qB EE) qE5 3 [dI ((i:Nat):Int),.agg [dI st,xs,fs]] (dI ((vJ (qFz fs) fs.es.length i).getD (qUa st fs))):=by
  refine zR fs.es.length fun i ih=>?_
  intro h1
  refine qK.step' ?_
  refine bS (qA (off:=2) rfl i_fs.one) ?_
  refine bS (qL i_fs) ?_
  refine bS zE ?_
  refine iC (fun c=>?_) fun c=>?_
  ·skip
   have c1:i < fs.es.length:=by have:=dT c; omega
   have ih:=ih c1 (by omega)
   obtain ⟨y,e_y⟩:∃ y,fs.es[i]? = some y:=⟨_,List.getElem?_eq_getElem c1⟩
   obtain ⟨x,e_x⟩:∃ x,fs.es[i - 1]? = some x:=⟨_,List.getElem?_eq_getElem (by omega)⟩
   obtain ⟨y,rfl⟩:=(zH hfs e_y:qI _ (.int .i64) y)
   obtain ⟨x,rfl⟩:=(zH hfs e_x:qI _ (.int .i64) x)
   have e_z:fs.es[(((i:Nat):Int) - 1).toNat]? = some (dI x):=by rw [show (((i:Nat):Int) - 1).toNat=i - 1 by omega]; exact e_x
   refine bS (qA (off:=2) rfl i_fs.one) ?_
   refine bS (vB (s:=((i:Nat):Int)) (by omega) e_y) ?_
   refine bS (z6 (s:=((i:Nat):Int)) i_fs (by omega) e_y rfl) ?_
   refine bS (qA (off:=2) rfl i_fs.one) ?_
   refine bS (d:=dI (((i:Nat):Int) - 1)) (qBd (by omega)) ?_
   refine bS (vB (s:=((i:Nat):Int) - 1) (by omega) e_z) ?_
   refine bS (z6 (s:=((i:Nat):Int) - 1) i_fs (by omega) e_z rfl) ?_
   refine bS cT ?_
   refine iC (fun d=>?_) fun d=>?_
   ·have d1:y<=x:=dT d
    rw [qMw e_x e_y d1]
    exact qC rfl rfl
   have d1:¬ y<=x:=dF d
   refine bS (d:=dI ((i+1:Nat):Int)) (zA (qX (by omega))) ?_
   rw [qSC e_x e_y d1]
   exact qE rfl ih
  have c1:=dF c
  rw [yV (by omega)]
  exact qE rfl (m3 0)
 have m1:∀ i:Nat,qK EE (qB EE) qE5 1 [dI ((i:Nat):Int),.agg [dI st,xs,fs]] (dI ((vJ (bZ st xs) xs.es.length i).getD (qPh st fs))):=by
  refine zR xs.es.length fun i ih=>?_
  refine qK.step' ?_
  refine bS (qA (off:=1) rfl i_xs.one) ?_
  refine bS (qL i_xs) ?_
  refine bS zE ?_
  refine iC (fun c=>?_) fun c=>?_
  ·skip
   have c1:i < xs.es.length:=by have:=dT c; omega
   have ih:=ih c1
   obtain ⟨x,e_x⟩:∃ x,xs.es[i]? = some x:=⟨_,List.getElem?_eq_getElem c1⟩
   have h_x:=zH hxs e_x
   simp only [qI,jJ] at h_x
   obtain ⟨_,rfl,_,_,rfl,⟨x,rfl⟩,_,_,rfl,⟨y,rfl⟩,_,_,rfl,⟨z,rfl⟩,rfl⟩:=h_x
   refine bS (qA (off:=1) rfl i_xs.one) ?_
   refine bS (vB (s:=((i:Nat):Int)) (by omega) e_x) ?_
   refine bS (gL (s:=((i:Nat):Int)) i_xs (by omega) e_x rfl) ?_
   refine bS (qU rfl) ?_
   refine bS (qA (off:=0) rfl rfl) ?_
   refine cS qYw ?_
   refine bS vV ?_
   refine iC (fun d=>?_) fun d=>?_
   ·rw [qSs e_x (e7 d)]
    exact qC rfl rfl
   have d1:=e8 d
   refine bS (qA (off:=2) rfl rfl) ?_
   refine cS qYw ?_
   refine bS vV ?_
   refine iC (fun e=>?_) fun e=>?_
   ·rw [qSr e_x d1 (e7 e)]
    exact qC rfl rfl
   have e1:=e8 e
   refine bS (qA (off:=1) rfl rfl) ?_
   refine bS zE ?_
   refine iC (fun f=>?_) fun f=>?_
   ·have f1:=dT f
    rw [qIz e_x d1 e1 (.inl f1)]
    exact qC rfl rfl
   have f1:=dF f
   refine bS (qA (off:=1) rfl rfl) ?_
   refine bS vT ?_
   refine iC (fun g=>?_) fun g=>?_
   ·have g1:=dT g
    rw [qIz e_x d1 e1 (.inr g1)]
    exact qC rfl rfl
   have g1:=dF g
   have inner:∀ j:Nat,∀ v12 v13 v17:D,((xs.es.take i).drop j).any (iV x y z)=((xs.es.take i).drop 0).any (iV x y z)->qK EE (qB EE) qE5 2 [dI ((i:Nat):Int),dI ((j:Nat):Int),.agg [dI st,xs,fs],v12,v13,v17,.agg [dI x,dI y,dI z]] (dI ((vJ (bZ st xs) xs.es.length i).getD (qPh st fs))):=by
    refine zR i fun j ihj=>?_
    intro v12 v13 v17 hj
    refine qK.step' ?_
    refine bS zE ?_
    refine iC (fun k=>?_) fun k=>?_
    ·skip
     have k1:j < i:=by have:=dT k; omega
     obtain ⟨w,e_w⟩:∃ w,xs.es[j]? = some w:=⟨_,List.getElem?_eq_getElem (by omega)⟩
     have h_w:=zH hxs e_w
     simp only [qI,jJ] at h_w
     obtain ⟨_,rfl,_,_,rfl,⟨x',rfl⟩,_,_,rfl,⟨y',rfl⟩,_,_,rfl,⟨z',rfl⟩,rfl⟩:=h_w
     have e_t:(xs.es.take i)[j]? = some (.agg [dI x',dI y',dI z']):=by rw [List.getElem?_take,if_pos (by omega)]; exact e_w
     refine bS (qA (off:=1) rfl i_xs.one) ?_
     refine bS (vB (s:=((j:Nat):Int)) (by omega) e_w) ?_
     refine bS (gL (s:=((j:Nat):Int)) i_xs (by omega) e_w rfl) ?_
     refine bS qNN ?_
     refine iC (fun m=>?_) fun m=>?_
     ·rw [qSq e_x d1 e1 (by omega) (by rw [← hj]; exact bU e_t m)]
      exact qC rfl rfl
     refine bS (d:=dI ((j+1:Nat):Int)) (zA (qX (by omega))) ?_
     exact qE rfl (ihj k1 _ _ _ ((iG e_t m).symm.trans hj))
    have k1:=dF k
    refine bS (d:=dI ((i+1:Nat):Int)) (zA (qX (by omega))) ?_
    rw [qSt e_x d1 e1 (by omega) (by rw [← hj]; exact bV (by rw [List.length_take]; omega))]
    exact qE rfl ih
   exact qE rfl (inner 0 _ _ _ rfl)
  have c1:=dF c
  rw [yV (by omega)]
  exact qE rfl (m2 1 (lR _))
 refine qZN rfl (qK.step' ?_)
 unfold qAw
 refine bS (qU rfl) ?_
 refine bS (qA (off:=0) rfl rfl) ?_
 refine bS zE ?_
 refine iC (fun c=>?_) fun c=>?_
 ·rw [if_pos (dT c)]
  exact qC rfl rfl
 rw [if_neg (dF c)]
 refine bS (qA (off:=0) rfl rfl) ?_
 refine bS vT ?_
 refine iC (fun d=>?_) fun d=>?_
 ·rw [if_pos (dT d)]
  exact qC rfl rfl
 rw [if_neg (dF d)]
 refine bS (qA (off:=1) rfl i_xs.one) ?_
 refine bS (qL i_xs) ?_
 refine bS vT ?_
 refine iC (fun e=>?_) fun e=>?_
 ·have e1:=dT e
  rw [if_pos (by omega:200 < xs.es.length)]
  exact qC rfl rfl
 have e1:=dF e
 rw [if_neg (by omega:¬ 200 < xs.es.length)]
 exact qE rfl (m1 0)
end Go.Proofs.YtminhjecpnpaeaaGreatDoor
namespace Go.Proofs.YtminhjecpnpaeaaGreatDoor
open Go Go.Am Go.Proofs Go.Am.Tu
theorem dS {E:Env} {HS:FuncId->List D->D->Prop} {Q:Res1->Prop} {ρ':List D} {f:FuncId} {m:Go.Am.Mode} {xs:List SV} {r:Tree} {ρ qs ds:List D} (h:HS (Nat.add nK f) (.mode m::qs) (kK ds)) (hx:SV.ds (getD ρ) xs=qs) (hl:ds.length=m.out.sts.length) (hρ:ρ++ds=ρ') (hr:wp E HS Q r ρ'):wp E HS Q (.callM f m xs r) ρ:=by
 simp only [wp]
 exact ⟨ds,by rw [hx]; exact h,hl,by rw [hρ]; exact hr⟩
theorem qPJ {x y z:D}:TOp.eval EE (.loadp true 3) [.ptr [x,y,z] 0]=some (.agg [x,y,z]):=rfl
attribute [local irreducible] Go.Am.wp Go.Am.TOp.eval
def zL:D:=.agg [.nil,.leaf (.string ⟨#[]⟩),.nil,.nil,.nil,dI 0,.nil,.nil,.nil]
def pick (e:Int) (l:D):D:=if e=0 then l else zL
def qFg (e:Int) (l:D):D:=.tup [pick e l,dI e]
theorem qSw {l:D}:qFg 0 l=.tup [l,dI 0]:=by unfold qFg pick; rw [if_pos rfl]
theorem qSv {e:Int} {l:D} (h:¬ e=0):qFg e l=.tup [zL,dI e]:=by unfold qFg pick; rw [if_neg h]
section
variable {x0 x1 x2 x3 x4 x5 x6 x7 x8 xs fs:D} {st:Int}
theorem zAo (o0:x0.one=true) (o1:x1.one=true) (o2:x2.one=true) (o3:x3.one=true) (o4:x4.one=true) (o5:x5.one=true) (o6:x6.one=true) (o7:x7.one=true) (o8:x8.one=true) (hxs:qI 1048576 qOr xs) (hfs:qI 1048576 uL fs) :
  qB EE (Nat.add nK 39) (.mode aK::[.ptr [dI st,xs,fs] 0,.agg [x0,x1,x2,x3,x4,x5,x6,x7,x8]]) (kK [dI (qAw st xs fs),.agg [x0,x1,x2,x3,x4,dI st,xs,fs,x8]]):=by
 have i_xs:=qD hxs
 have i_fs:=qD hfs
 refine qVd (qK.step' ?_) ⟨_,rfl,rfl⟩
 show wp _ _ _ qDY _
 refine bS bK ?_
 refine bS qPJ ?_
 refine bS (qU rfl) ?_
 refine bS (qA (off:=0) rfl o0) ?_
 refine bS (qA (off:=1) rfl o1) ?_
 refine bS (qA (off:=2) rfl o2) ?_
 refine bS (qA (off:=3) rfl o3) ?_
 refine bS (qA (off:=4) rfl o4) ?_
 refine bS (qA (off:=5) rfl o5) ?_
 refine bS (qA (off:=6) rfl o6) ?_
 refine bS (qA (off:=7) rfl o7) ?_
 refine bS (qA (off:=8) rfl o8) ?_
 refine bS (qU rfl) ?_
 refine bS (qA (off:=0) rfl rfl) ?_
 refine bS (qA (off:=1) rfl i_xs.one) ?_
 refine bS (qA (off:=2) rfl i_fs.one) ?_
 refine bS bK ?_
 refine bS qPJ ?_
 refine cS (zAn hxs hfs) ?_
 exact vY rfl rfl
theorem qWQ (o0:x0.one=true) (o1:x1.one=true) (o2:x2.one=true) (o3:x3.one=true) (o4:x4.one=true) (o5:x5.one=true) (o6:x6.one=true) (o7:x7.one=true) (o8:x8.one=true) (hxs:qI 1048576 qOr xs) (hfs:qI 1048576 uL fs) :
  qB EE (Nat.add nK 26) (.mode aM::[.agg [x0,x1,x2,x3,x4,x5,x6,x7,x8],.ptr [dI st,xs,fs] 0]) (kK [pick (qAw st xs fs) (.agg [x0,x1,x2,x3,x4,dI st,xs,fs,x8]),dI (qAw st xs fs)]):=by
 refine qVf (qK.step' ?_) ⟨_,rfl,rfl⟩
 show wp _ _ _ qD2 _
 refine bS (qU rfl) ?_
 refine dS (ρ':=[_,_,_,_,.agg [x0,x1,x2,x3,x4,dI (st),xs,fs,x8]]) (zAo o0 o1 o2 o3 o4 o5 o6 o7 o8 hxs hfs) rfl rfl rfl ?_
 refine bS wM ?_
 refine iC (fun c=>?_) fun c=>?_
 ·have c1:=dT c
  exact vY rfl (by unfold pick; rw [if_neg c1]; rfl)
 have c1:=Classical.not_not.1 (dF c)
 refine bS (qU rfl) ?_
 exact vY rfl (by unfold pick; rw [if_pos c1,c1]; rfl)
theorem zAw (o0:x0.one=true) (o1:x1.one=true) (o2:x2.one=true) (o3:x3.one=true) (o4:x4.one=true) (o5:x5.one=true) (o6:x6.one=true) (o7:x7.one=true) (o8:x8.one=true) (hxs:qI 1048576 qOr xs) (hfs:qI 1048576 uL fs) :
  qB EE 14 [.agg [x0,x1,x2,x3,x4,x5,x6,x7,x8],.agg [dI st,xs,fs]] (qFg (qAw st xs fs) (.agg [x0,x1,x2,x3,x4,dI st,xs,fs,x8])):=by
 have hk:TOp.eval EE (.chk true 9) [pick (qAw st xs fs) (.agg [x0,x1,x2,x3,x4,dI st,xs,fs,x8])]=some (pick (qAw st xs fs) (.agg [x0,x1,x2,x3,x4,dI st,xs,fs,x8])):=by
  unfold pick; split
  ·exact qU rfl
  exact qU rfl
 refine qZX rfl (qK.step' ?_)
 refine bS (qU rfl) ?_
 refine bS (qU rfl) ?_
 refine bS sJ ?_
 refine dS (ρ':=[_,_,_,_,_,_,dI (qAw st xs fs)]) (qWQ o0 o1 o2 o3 o4 o5 o6 o7 o8 hxs hfs) rfl rfl rfl ?_
 refine bS hk ?_
 exact vY rfl rfl
theorem zAv (o0:x0.one=true) (o1:x1.one=true) (o2:x2.one=true) (o3:x3.one=true) (o4:x4.one=true) (o5:x5.one=true) (o6:x6.one=true) (o7:x7.one=true) (o8:x8.one=true) (hxs:qI 1048576 qOr xs) (hfs:qI 1048576 uL fs) :
  qB EE 15 [.agg [x0,x1,x2,x3,x4,x5,x6,x7,x8],.agg [dI st,xs,fs]] (qFg (qAw st xs fs) (.agg [x0,x1,x2,x3,x4,dI st,xs,fs,x8])):=by
 have i_xs:=qD hxs
 have i_fs:=qD hfs
 refine qZW rfl (qK.step' ?_)
 refine bS (qU rfl) ?_
 refine bS (qU rfl) ?_
 refine cS (zAm hxs hfs) ?_
 refine bS wM ?_
 refine iC (fun c=>?_) fun c=>?_
 ·exact vY rfl (by rw [qSv (dT c)]; rfl)
 have c1:=Classical.not_not.1 (dF c)
 refine bS (qU rfl) ?_
 refine bS (qA (off:=0) rfl o0) ?_
 refine bS (qA (off:=1) rfl o1) ?_
 refine bS (qA (off:=2) rfl o2) ?_
 refine bS (qA (off:=3) rfl o3) ?_
 refine bS (qA (off:=4) rfl o4) ?_
 refine bS (qA (off:=5) rfl o5) ?_
 refine bS (qA (off:=6) rfl o6) ?_
 refine bS (qA (off:=7) rfl o7) ?_
 refine bS (qA (off:=8) rfl o8) ?_
 refine bS (qU rfl) ?_
 refine bS (qA (off:=0) rfl rfl) ?_
 refine bS (qA (off:=1) rfl i_xs.one) ?_
 refine bS (qA (off:=2) rfl i_fs.one) ?_
 exact vY rfl (by rw [c1,qSw]; rfl)
end
section
variable {x0 x1 x2 x3 x4 x5 x6 x7 x8 nm us ls:D}
theorem zAl (i_x0:xL 81 2 x0) (o1:x1.one=true) (o2:x2.one=true) (o3:x3.one=true) (o4:x4.one=true) (o5:x5.one=true) (o6:x6.one=true) (o7:x7.one=true) (o8:x8.one=true) (hnm:qI 1048576 .str nm) (hus:qI 1048576 qQY us) (hls:qI 1048576 qOi ls) :
  qB EE (Nat.add nK 42) (.mode aJ::[.ptr [nm,us,ls] 0,.agg [x0,x1,x2,x3,x4,x5,x6,x7,x8]]) (kK [dI (pN x0.es.length nm us ls),.agg [x0,nm,us,ls,x4,x5,x6,x7,x8]]):=by
 have o_nm:nm.one=true:=by obtain ⟨s,rfl,_⟩:=hnm; rfl
 have i_us:=qD hus
 have i_ls:=qD hls
 refine qVc (qK.step' ?_) ⟨_,rfl,rfl⟩
 show wp _ _ _ qDW _
 refine bS bK ?_
 refine bS qPJ ?_
 refine bS (qU rfl) ?_
 refine bS (qA (off:=0) rfl i_x0.one) ?_
 refine bS (qA (off:=1) rfl o1) ?_
 refine bS (qA (off:=2) rfl o2) ?_
 refine bS (qA (off:=3) rfl o3) ?_
 refine bS (qA (off:=4) rfl o4) ?_
 refine bS (qA (off:=5) rfl o5) ?_
 refine bS (qA (off:=6) rfl o6) ?_
 refine bS (qA (off:=7) rfl o7) ?_
 refine bS (qA (off:=8) rfl o8) ?_
 refine bS (qU rfl) ?_
 refine bS (qA (off:=0) rfl o_nm) ?_
 refine bS (qA (off:=1) rfl i_us.one) ?_
 refine bS (qA (off:=2) rfl i_ls.one) ?_
 refine bS bK ?_
 refine bS qPJ ?_
 refine cS (zAk i_x0 hnm hus hls) ?_
 exact vY rfl rfl
theorem qWP (i_x0:xL 81 2 x0) (o1:x1.one=true) (o2:x2.one=true) (o3:x3.one=true) (o4:x4.one=true) (o5:x5.one=true) (o6:x6.one=true) (o7:x7.one=true) (o8:x8.one=true) (hnm:qI 1048576 .str nm) (hus:qI 1048576 qQY us) (hls:qI 1048576 qOi ls) :
  qB EE (Nat.add nK 26) (.mode aL::[.agg [x0,x1,x2,x3,x4,x5,x6,x7,x8],.ptr [nm,us,ls] 0]) (kK [pick (pN x0.es.length nm us ls) (.agg [x0,nm,us,ls,x4,x5,x6,x7,x8]),dI (pN x0.es.length nm us ls)]):=by
 refine qVe (qK.step' ?_) ⟨_,rfl,rfl⟩
 show wp _ _ _ qD0 _
 refine bS (qU rfl) ?_
 refine dS (ρ':=[_,_,_,_,.agg [x0,nm,us,ls,x4,x5,x6,x7,x8]]) (zAl i_x0 o1 o2 o3 o4 o5 o6 o7 o8 hnm hus hls) rfl rfl rfl ?_
 refine bS wM ?_
 refine iC (fun c=>?_) fun c=>?_
 ·have c1:=dT c
  exact vY rfl (by unfold pick; rw [if_neg c1]; rfl)
 have c1:=Classical.not_not.1 (dF c)
 refine bS (qU rfl) ?_
 exact vY rfl (by unfold pick; rw [if_pos c1,c1]; rfl)
theorem zAu (i_x0:xL 81 2 x0) (o1:x1.one=true) (o2:x2.one=true) (o3:x3.one=true) (o4:x4.one=true) (o5:x5.one=true) (o6:x6.one=true) (o7:x7.one=true) (o8:x8.one=true) (hnm:qI 1048576 .str nm) (hus:qI 1048576 qQY us) (hls:qI 1048576 qOi ls) :
  qB EE 16 [.agg [x0,x1,x2,x3,x4,x5,x6,x7,x8],.agg [nm,us,ls]] (qFg (pN x0.es.length nm us ls) (.agg [x0,nm,us,ls,x4,x5,x6,x7,x8])):=by
 have hk:TOp.eval EE (.chk true 9) [pick (pN x0.es.length nm us ls) (.agg [x0,nm,us,ls,x4,x5,x6,x7,x8])]=some (pick (pN x0.es.length nm us ls) (.agg [x0,nm,us,ls,x4,x5,x6,x7,x8])):=by
  unfold pick; split
  ·exact qU rfl
  exact qU rfl
 refine qZV rfl (qK.step' ?_)
 refine bS (qU rfl) ?_
 refine bS (qU rfl) ?_
 refine bS sJ ?_
 refine dS (ρ':=[_,_,_,_,_,_,dI (pN x0.es.length nm us ls)]) (qWP i_x0 o1 o2 o3 o4 o5 o6 o7 o8 hnm hus hls) rfl rfl rfl ?_
 refine bS hk ?_
 exact vY rfl rfl
theorem zAt (i_x0:xL 81 2 x0) (o1:x1.one=true) (o2:x2.one=true) (o3:x3.one=true) (o4:x4.one=true) (o5:x5.one=true) (o6:x6.one=true) (o7:x7.one=true) (o8:x8.one=true) (hnm:qI 1048576 .str nm) (hus:qI 1048576 qQY us) (hls:qI 1048576 qOi ls) :
  qB EE 17 [.agg [x0,x1,x2,x3,x4,x5,x6,x7,x8],.agg [nm,us,ls]] (qFg (pN x0.es.length nm us ls) (.agg [x0,nm,us,ls,x4,x5,x6,x7,x8])):=by
 have o_nm:nm.one=true:=by obtain ⟨s,rfl,_⟩:=hnm; rfl
 have i_us:=qD hus
 have i_ls:=qD hls
 refine qZU rfl (qK.step' ?_)
 refine bS (qU rfl) ?_
 refine bS (qU rfl) ?_
 refine bS (d5 (off:=0) (size:=1) rfl) ?_
 refine cS (qYy i_x0 hnm hus hls) ?_
 refine bS wM ?_
 refine iC (fun c=>?_) fun c=>?_
 ·exact vY rfl (by rw [qSv (dT c)]; rfl)
 have c1:=Classical.not_not.1 (dF c)
 refine bS (qU rfl) ?_
 refine bS (qA (off:=0) rfl i_x0.one) ?_
 refine bS (qA (off:=1) rfl o1) ?_
 refine bS (qA (off:=2) rfl o2) ?_
 refine bS (qA (off:=3) rfl o3) ?_
 refine bS (qA (off:=4) rfl o4) ?_
 refine bS (qA (off:=5) rfl o5) ?_
 refine bS (qA (off:=6) rfl o6) ?_
 refine bS (qA (off:=7) rfl o7) ?_
 refine bS (qA (off:=8) rfl o8) ?_
 refine bS (qU rfl) ?_
 refine bS (qA (off:=0) rfl o_nm) ?_
 refine bS (qA (off:=1) rfl i_us.one) ?_
 refine bS (qA (off:=2) rfl i_ls.one) ?_
 exact vY rfl (by rw [c1,qSw]; rfl)
end
end Go.Proofs.YtminhjecpnpaeaaGreatDoor
