/- awake; which documents the law speaks of; the law. Conditions: none. -/
import Derived.Test.YthhlmoidofecpaaGreatZj
import Derived.Test.YthhlmoidofecpaaGreatOp
import Derived.Test.YthhlmoidofecpaaGreatOr
import Derived.Test.YthhlmoidofecpaaGreatRows
import Derived.ProofKit
import Derived.OpenShut
import Derived.JoinedCond
set_option linter.unusedVariables false
set_option linter.unusedSimpArgs false
namespace Go.Proofs.YthhlmoidofecpaaGreat
open Go Go.Am Go.Proofs Go.Am.Tr
theorem qR8:Nat.ble Tryz.prog.globals.size 1000=true:=by kernel_rfl
theorem qEz:((wJ Tryz.prog).funcs.get 6).isSome=true:=by kernel_rfl
theorem qIc:isTrue (qHl (wJ Tryz.prog) 1000000 (.call 6 []) (kL 1000))=true:=by kernel_rfl
theorem h6:Holds EE 6 [] (dB true):=qHL qHP (Option.isSome_iff_exists.1 qEz) qR8 qIc
abbrev qKY:Sh:=.st [.int .i64,.str,.int .i64,.int .i64,.sl 3 1 (.int .i64),qQH,qSB]
abbrev qSQ:Sh:=.sl 56 7 qKY
def qUx:D->Tr
 | .agg [.leaf (.string s),.leaf (.int .i64 a),.leaf (.int .i64 b),.leaf (.int .i64 c)]=>⟨s,a,b,c⟩
 | _=>zT
def rZ:D->Dc
 | .agg [.leaf (.int .i64 i),_,_,_,_,T,M]=>⟨i,T.es.map qUx,M.es.map qQF⟩
 | _=>⟨0,[],[]⟩
theorem qFe {α:Type} {f:D->α} {g:α->D}:∀ {l:List D},(∀ x∈l,g (f x)=x)->l=(l.map f).map g
 | [],_=>rfl
 | x::l,h=>by rw [List.map_cons,List.map_cons,h x List.mem_cons_self,← qFe fun y hy=>h y (mC _ hy)]
theorem qGv {B el sz:Nat} {e:Sh} {d:D} (h:qS B (.sl el sz e) d):∀ x∈d.es,qS B e x:=fun x hx=>by
 obtain ⟨i,hi⟩:=List.getElem?_of_mem hx
 exact jQ h hi
theorem qCD {d:D} (h:qS 1048576 qKY d):∃ i nm ln dy sp T M,d=.agg [dI i,nm,dI ln,dI dy,sp,T,M]/\nm.one=true/\jA 3 1 sp/\qS 1048576 qQH T/\qS 1048576 qSB M/\T.es=(rZ d).ts.map qCS/\M.es=(rZ d).ns.map kY/\(rZ d).id=i:=by
 obtain ⟨_,rfl,_,_,rfl,⟨i,rfl⟩,nm,_,rfl,hnm,_,_,rfl,⟨ln,rfl⟩,_,_,rfl,⟨dy,rfl⟩,sp,_,rfl,hsp,T,_,rfl,hT,M,_,rfl,hM,rfl⟩:=h
 refine ⟨i,nm,ln,dy,sp,T,M,rfl,?_,qL hsp,hT,hM,?_,?_,rfl⟩
 ·obtain ⟨s,rfl,_⟩:=hnm; rfl
 ·refine qFe (f:=qUx) (g:=qCS) fun x hx=>?_
  obtain ⟨_,rfl,_,_,rfl,⟨s,rfl,_⟩,_,_,rfl,⟨a,rfl⟩,_,_,rfl,⟨b,rfl⟩,_,_,rfl,⟨c,rfl⟩,rfl⟩:=qGv hT x hx
  rfl
 refine qFe (f:=qQF) (g:=kY) fun x hx=>?_
 obtain ⟨_,rfl,_,_,rfl,⟨a,rfl⟩,_,_,rfl,⟨b,rfl⟩,_,_,rfl,⟨c,rfl⟩,_,_,rfl,⟨d,rfl⟩,_,_,rfl,⟨e,rfl⟩,_,_,rfl,⟨f,rfl⟩,_,_,rfl,⟨s,rfl,_⟩,rfl⟩:=qGv hM x hx
 rfl
attribute [local irreducible] Go.Am.wp Go.Am.TOp.eval
theorem qVw:Holds EE 13 [.nil] (dI 0):=by
 have i_Q:jA 82 4 D.nil:=.inl rfl
 refine qU8 rfl (qH.step' ?_)
 refine bS (d:=dI (0)) (qQ i_Q) ?_
 refine qE rfl (qH.step' ?_)
 show wp _ _ _ qIL [.nil,dI (0),dI (0)]
 refine bS qJ ?_
 refine qC (t:=false) (congrArg (fun q=>dB q) (fD (by decide))) ?_
 refine zB ?_
 exact qM rfl rfl
theorem qTE {d:D} (h:qS 1048576 qKY d):∃ b:Bool,Holds EE 14 [d] (dB b)/\(b=true->iI (rZ d)):=by
 obtain ⟨i,nm,ln,dy,sp,T,M,rfl,h_nm,i_sp,hT,hM,eT,eM,_⟩:=qCD h
 exact qVH h_nm i_sp hT eT hM eM
theorem g5 {X : D} {gs : List D} {b12 : Bool} (hX : qS 1048576 qSQ X) (hgs : gs.length = 9) (k12 : Holds EE 12 [.agg gs] (dB b12)) : ∃ b : Bool, Holds EE 5 [.agg gs, X, .nil] (dB b) /\ (b = true -> X.es.length <= 2 /\ ∀ d ∈ X.es, iI (rZ d)) := by
  have i_X := qL hX
  have b_X := qX hX
  have i_Q : jA 82 4 D.nil := .inl rfl
  have loop : ∃ b : Bool, qH EE (Holds EE) qOP 1 [X, dI ((0 : Nat) : Int)] (dB b) /\ (b = true -> ∀ (i : Nat) (d : D), 0 <= i -> X.es[i]? = some d -> iI (rZ d)) := by
    refine wS (P := fun j => ∃ b : Bool, qH EE (Holds EE) qOP 1 [X, dI ((j : Nat) : Int)] (dB b) /\ (b = true -> ∀ (i : Nat) (d : D), j <= i -> X.es[i]? = some d -> iI (rZ d))) X.es.length ?_ ?_
    · refine ⟨true, qH.step' ?_, fun _ i d hi h => ?_⟩
      · show wp _ _ _ qOQ _
        refine bS (qQ i_X) ?_
        refine bS qJ ?_
        refine qC (t := false) (congrArg (fun q => dB q) (fD (by omega))) ?_
        refine zB ?_
        exact qM rfl rfl
      · have := (gI h).1
        omega
    · intro j hj ⟨b, ih, hih⟩
      obtain ⟨d, e_d⟩ := qOB hj
      have hd := jQ hX e_d
      obtain ⟨b14, k14, f14⟩ := qTE hd
      have fin : b14 = true -> b = true -> ∀ (i : Nat) (d' : D), j <= i -> X.es[i]? = some d' -> iI (rZ d') := fun h1 h2 i d' hi h => by
        by_cases hij : i = j
        · subst hij; rw [e_d] at h; cases h; exact f14 h1
        · exact hih h2 i d' (by omega) h
      obtain ⟨di, nm, ln, dy, sp, T, M, rfl, h_nm, i_sp, hT, hM, _, _, _⟩ := qCD hd
      have i_T := qL hT
      have i_M := qL hM
      have hjX : ((j : Nat) : Int) < ((X.es.length : Nat) : Int) := by omega
      cases hb : b14 with
      | false =>
        refine ⟨false, qH.step' ?_, fun h => by cases h⟩
        refine bS (qQ i_X) ?_
        refine bS qJ ?_
        refine qC (t := true) (congrArg (fun q => dB q) (tD hjX)) ?_
        refine zQ ?_
        refine bS (qP (s := ((j : Nat) : Int)) (by omega) e_d) ?_
        refine bS (qZ (s := ((j : Nat) : Int)) i_X (by omega) e_d rfl) ?_
        refine cS k14 ?_
        refine bS v6 ?_
        refine qC (t := true) (congrArg (fun q => dB q) (by rw [hb]; rfl)) ?_
        refine zQ ?_
        exact qM rfl rfl
      | true =>
        have fin := fin hb
        cases j with
        | zero =>
          refine ⟨b, qH.step' ?_, fin⟩
          refine bS (qQ i_X) ?_
          refine bS qJ ?_
          refine qC (t := true) (congrArg (fun q => dB q) (tD hjX)) ?_
          refine zQ ?_
          refine bS (qP (s := ((0 : Nat) : Int)) (by omega) e_d) ?_
          refine bS (qZ (s := ((0 : Nat) : Int)) i_X (by omega) e_d rfl) ?_
          refine cS k14 ?_
          refine bS v6 ?_
          refine qC (t := false) (congrArg (fun q => dB q) (by rw [hb]; rfl)) ?_
          refine zB ?_
          refine bS vQ ?_
          refine qC (t := false) (congrArg (fun q => dB q) (fD (by omega))) ?_
          refine zB ?_
          refine bS (d := dI ((0 + 1 : Nat) : Int)) (qT (n := 0) (by unfold zG; omega)) ?_
          exact qE rfl ih
        | succ p =>
          obtain ⟨d', e_p⟩ := qOB (show p < X.es.length by omega)
          obtain ⟨ei, nm2, ln2, dy2, sp2, T2, M2, rfl, h_nm2, i_sp2, hT2, hM2, _, _, _⟩ := qCD (jQ hX e_p)
          have i_T2 := qL hT2
          have i_M2 := qL hM2
          by_cases hle : di <= ei
          · refine ⟨false, qH.step' ?_, fun h => by cases h⟩
            refine bS (qQ i_X) ?_
            refine bS qJ ?_
            refine qC (t := true) (congrArg (fun q => dB q) (tD hjX)) ?_
            refine zQ ?_
            refine bS (qP (s := ((p + 1 : Nat) : Int)) (by omega) e_d) ?_
            refine bS (qZ (s := ((p + 1 : Nat) : Int)) i_X (by omega) e_d rfl) ?_
            refine cS k14 ?_
            refine bS v6 ?_
            refine qC (t := false) (congrArg (fun q => dB q) (by rw [hb]; rfl)) ?_
            refine zB ?_
            refine bS vQ ?_
            refine qC (t := true) (congrArg (fun q => dB q) (tD (by omega))) ?_
            refine zQ ?_
            refine bS (qP (s := ((p + 1 : Nat) : Int)) (by omega) e_d) ?_
            refine bS (zI (s := ((p + 1 : Nat) : Int)) (off := 0) i_X (by omega) e_d rfl rfl (by decide)) ?_
            refine bS (d := dI ((p : Nat) : Int)) (qIX (by unfold zG; omega)) ?_
            refine bS (qP (s := ((p : Nat) : Int)) (by omega) e_p) ?_
            refine bS (zI (s := ((p : Nat) : Int)) (off := 0) i_X (by omega) e_p rfl rfl (by decide)) ?_
            refine bS wY ?_
            refine qC (t := true) (congrArg (fun q => dB q) (tD hle)) ?_
            refine zQ ?_
            exact qM rfl rfl
          · refine ⟨b, qH.step' ?_, fin⟩
            refine bS (qQ i_X) ?_
            refine bS qJ ?_
            refine qC (t := true) (congrArg (fun q => dB q) (tD hjX)) ?_
            refine zQ ?_
            refine bS (qP (s := ((p + 1 : Nat) : Int)) (by omega) e_d) ?_
            refine bS (qZ (s := ((p + 1 : Nat) : Int)) i_X (by omega) e_d rfl) ?_
            refine cS k14 ?_
            refine bS v6 ?_
            refine qC (t := false) (congrArg (fun q => dB q) (by rw [hb]; rfl)) ?_
            refine zB ?_
            refine bS vQ ?_
            refine qC (t := true) (congrArg (fun q => dB q) (tD (by omega))) ?_
            refine zQ ?_
            refine bS (qP (s := ((p + 1 : Nat) : Int)) (by omega) e_d) ?_
            refine bS (zI (s := ((p + 1 : Nat) : Int)) (off := 0) i_X (by omega) e_d rfl rfl (by decide)) ?_
            refine bS (d := dI ((p : Nat) : Int)) (qIX (by unfold zG; omega)) ?_
            refine bS (qP (s := ((p : Nat) : Int)) (by omega) e_p) ?_
            refine bS (zI (s := ((p : Nat) : Int)) (off := 0) i_X (by omega) e_p rfl rfl (by decide)) ?_
            refine bS wY ?_
            refine qC (t := false) (congrArg (fun q => dB q) (fD hle)) ?_
            refine zB ?_
            refine bS (d := dI ((p + 1 + 1 : Nat) : Int)) (qT (qO (by omega))) ?_
            exact qE rfl ih
  obtain ⟨b, kl, fl⟩ := loop
  by_cases h2 : (2 : Int) < ((X.es.length : Nat) : Int)
  · refine ⟨false, u5 rfl (qH.step' ?_), fun h => by cases h⟩
    refine bS (qI hgs) ?_
    refine bS (qQ i_X) ?_
    refine bS vQ ?_
    refine qC (t := true) (congrArg (fun q => dB q) (tD h2)) ?_
    refine zQ ?_
    exact qM rfl rfl
  · cases hb : b12 with
    | false =>
      refine ⟨false, u5 rfl (qH.step' ?_), fun h => by cases h⟩
      refine bS (qI hgs) ?_
      refine bS (qQ i_X) ?_
      refine bS vQ ?_
      refine qC (t := false) (congrArg (fun q => dB q) (fD h2)) ?_
      refine zB ?_
      refine bS (d := dI (0)) (qQ i_Q) ?_
      refine bS vQ ?_
      refine qC (t := false) (congrArg (fun q => dB q) (fD (by decide))) ?_
      refine zB ?_
      refine cS k12 ?_
      refine bS v6 ?_
      refine qC (t := true) (congrArg (fun q => dB q) (by rw [hb]; rfl)) ?_
      refine zQ ?_
      exact qM rfl rfl
    | true =>
      refine ⟨b, u5 rfl (qH.step' ?_), fun h => ⟨by omega, fun d hd => by obtain ⟨i, hi⟩ := List.getElem?_of_mem hd; exact fl h i d (Nat.zero_le _) hi⟩⟩
      refine bS (qI hgs) ?_
      refine bS (qQ i_X) ?_
      refine bS vQ ?_
      refine qC (t := false) (congrArg (fun q => dB q) (fD h2)) ?_
      refine zB ?_
      refine bS (d := dI (0)) (qQ i_Q) ?_
      refine bS vQ ?_
      refine qC (t := false) (congrArg (fun q => dB q) (fD (by decide))) ?_
      refine zB ?_
      refine cS k12 ?_
      refine bS v6 ?_
      refine qC (t := false) (congrArg (fun q => dB q) (by rw [hb]; rfl)) ?_
      refine zB ?_
      refine cS qVw ?_
      refine bS zR ?_
      refine qC (t := false) (congrArg (fun q => dB q) (fD (fun h => h rfl))) ?_
      refine zB ?_
      exact qE rfl kl
theorem qTu {X:D} {r1 r2:Int} (hX:qS 1048576 qSQ X):Holds EE 3 [X,.agg [dI r1,dI r2]] (dB true):=by
 have i_X:=qL hX
 obtain ⟨Y,Z,gs,b12,hgs,k4,k12⟩:=h4
 obtain ⟨b,k5,f5⟩:=g5 hX hgs k12
 refine u3 rfl (qH.step' ?_)
 refine bS (qI rfl) ?_
 refine cS k4 ?_
 refine bS (vP rfl) ?_
 refine bS (vP rfl) ?_
 refine bS (vP rfl) ?_
 refine bS (qI hgs) ?_
 refine cS k5 ?_
 refine bS v6 ?_
 cases hb:b with
 | false =>
  refine qC (t:=true) rfl ?_
  refine zQ ?_
  refine cS h6 ?_
  exact qM rfl rfl
 | true =>
  obtain ⟨h2,hg⟩:=f5 hb
  have hcs:(X.es.map rZ).length<=2:=by rw [List.length_map]; exact h2
  have hc:∀ c∈X.es.map rZ,iI c:=fun c hcm=>by
   obtain ⟨d,hd,rfl⟩:=List.mem_map.1 hcm
   exact hg d hd
  have hR:qBS X (X.es.map rZ):=by
   refine ⟨i_X,(List.length_map _).symm,fun i c h=>?_⟩
   rw [List.getElem?_map] at h
   cases hd:X.es[i]? with
   | none=>rw [hd] at h; cases h
   | some d =>
    rw [hd] at h
    cases h
    obtain ⟨di,nm,ln,dy,sp,T,M,e,h_nm,i_sp,hT,hM,eT,eM,ei⟩:=qCD (jQ hX hd)
    exact ⟨d,rfl,nm,ln,dy,sp,T,M,by rw [ei]; exact e,h_nm,i_sp.one,qL hT,eT,qL hM,eM⟩
  have hF:∀ c∈X.es.map rZ,vV c.ts c.ns/\c.ts.length<=7:=fun c hcm=>⟨(hc c hcm).1,by have:=(hc c hcm).2.1; omega⟩
  generalize X.es.map rZ=cs at *
  have hw:(cs.flatMap (wP jI 7)).length<=1000:=by
   have key:∀ l:List Dc,(∀ c∈l,(wP jI 7 c).length<=14)->(l.flatMap (wP jI 7)).length<=l.length * 14:=by
    intro l
    induction l with
    | nil=>intro _; exact Nat.zero_le _
    | cons c l ih =>
     intro h
     have h1:=h c List.mem_cons_self
     have h2:=ih fun x hx=>h x (mC _ hx)
     rw [List.flatMap_cons,List.length_append,List.length_cons]; omega
   have:=key cs fun c hcm=>qEL (hc c hcm)
   omega
  have k7:=h7 (r1:=r1) (r2:=r2) hR hc hcs hw
  have k8:=h8 (r1:=r1) (r2:=r2) hR hc hcs
  have k10:=qVy hR hc hcs hw
  have k11:=qVx hR hc hcs
  rw [Go.Am.Tr.qOp aU hF] at k7
  have hwe:=qM6 (k:=7) aU hF
  have hwl:((cs.flatMap (wR 7)).map toR).length<=1000:=by rw [List.length_map,← hwe,List.length_map]; exact hw
  rw [hwe] at k10
  have k9:=h9 (l:=(cs.flatMap (wR 7)).map toR) (K:=zC 24 2 ((cs.flatMap (wR 7)).map toR)) gF (qBq (by omega)) (fun x hx=>by
   obtain ⟨p,_,rfl⟩:=List.mem_map.1 hx; exact ⟨p,rfl⟩) hwl
  have o1:(zC 24 2 ((cs.flatMap (wR 7)).map toR)).one=true:=qPE
  generalize zC 24 2 ((cs.flatMap (wR 7)).map toR)=K at *
  unfold qRy at k7 k8
  generalize (qK8 cs (r1,r2)).getD .empty=st at *
  generalize (qK8 cs (r1,r2)).isSome=bs at *
  refine qC (t:=false) rfl ?_
  refine zB ?_
  refine cS k7 ?_
  refine bS (vP rfl) ?_
  refine bS (vP rfl) ?_
  refine cS k8 ?_
  refine bS (vP rfl) ?_
  refine bS (vP rfl) ?_
  refine cS k10 ?_
  refine cS k11 ?_
  refine cS k9 ?_
  refine qC (t:=true) rfl ?_
  refine zQ ?_
  refine bS (qSd st) ?_
  refine qC (t:=true) rfl ?_
  refine zQ ?_
  refine bS (qVJ bs bs) ?_
  refine iC (fun f=>?_) fun f=>?_
  ·skip
   refine cS h6 ?_
   exact qM rfl rfl
  cases bs <;> cases f
end Go.Proofs.YthhlmoidofecpaaGreat
namespace Go.Proofs.YthhlmoidofecpaaGreat
open Go Go.Am Go.Proofs
namespace recheckWords
mutual
theorem qCL {H:Type}:∀ d:DataW H,j6 d<=Rows.uptoBulk d
 | .lit l=>by cases l <;> simp [j6,Rows.uptoBulk]
 | .nil=>by simp [j6,Rows.uptoBulk]
 | .ptr d=>by have:=qCL d; simp only [j6,Rows.uptoBulk]; omega
 | .slice a b=>by have:=m9 a; have:=m9 b; simp only [j6,Rows.uptoBulk]; omega
 | .agg a=>by have:=m9 a; simp only [j6,Rows.uptoBulk]; omega
 | .iface _ d=>by have:=qCL d; simp only [j6,Rows.uptoBulk]; omega
 | .map _=>by simp only [j6,Rows.uptoBulk]; omega
 | .held _=>by simp [j6,Rows.uptoBulk]
theorem m9 {H:Type}:∀ l:List (DataW H),wW l<=Rows.uptoBulkAll l
 | []=>lR _
 | d::l=>by have:=qCL d; have:=m9 l; simp only [wW,Rows.uptoBulkAll]; omega
end
theorem qPe:iE Tryz.prog 100 Tryz.f3.params.toList=some [qSQ,.st [.int .i64,.int .i64]]:=by kernel_rfl
theorem qMe (ds:List D) (h:j5 1048576 [qSQ,.st [.int .i64,.int .i64]] ds):Holds EE 3 ds (dB true):=by
 simp only [j5] at h
 obtain ⟨p,r,rfl,hp,q,r',rfl,hq,rfl⟩:=h
 obtain ⟨_,rfl,_,_,rfl,⟨r1,rfl⟩,_,_,rfl,⟨r2,rfl⟩,rfl⟩:=hq
 exact qTu hp
theorem qLO:EE.prog=Tryz.prog:=rfl
theorem qRI (t:TypeId) (ti:TI) (h:EE.types.get t=some ti):ti.size=Tryz.prog.cellsOf t:=qEZ he h
theorem qMd {H:Type} {enc:TypeId × Value->H} {W:World} {args:List Value} {ds:List (DataW H)} {p:List MemPlace}
  (hA:DataW.TrodAll enc Tryz.prog W 0 (fun _=>true) true Tryz.f3.params.toList args ds p)
  (hok:∀ (j:Nat) t v,Tryz.f3.params.toList[j]? = some t->args[j]? = some v->Value.okWide Tryz.prog W .any 0 t v) (hB:wW ds<=1048576) :
  Calls Tryz.prog 3 ⟨args⟩ W fun e w'=>e=.returned (.bool true)/\Kept W w':=by
 have h1:=qPe
 have h2:=qRI
 have h3:=qLO
 have h4:=qMe
 generalize hts:Tryz.f3.params.toList=ts at *
 generalize hP:Tryz.prog=P at *
 exact qFn (E:=EE) h3 h2 h1 h4 hA hok hB
open Go.ChangeShapes Go.WideShapes Go.ChangeAt Go.RowKit
theorem own:ownKnob Tryz.prog.godebug=none:=by kernel_rfl
theorem qTv:laidOutB Tryz.prog=true:=by kernel_rfl
theorem qTr:mapsRowed Tryz.prog=true:=by kernel_rfl
theorem full:∀ t e,t < Tryz.prog.types.size->Tryz.prog.underlying t=some (.slice e)->0 < Tryz.prog.cellsOf e:=slices_full_of Tryz.prog (by kernel_rfl)
theorem qLN:∀ t∈Tryz.f3.params.toList,t < Tryz.prog.types.size:=by
 have h:(Tryz.f3.params.toList.all fun t=>Nat.blt t Tryz.prog.types.size)=true:=by kernel_rfl
 intro t ht
 exact lB (List.all_eq_true.1 h t ht)
set_option maxRecDepth 100000 in
theorem qPL (os:Os) (started:os.Started) (H:Type) (enc:TypeId × Value->H) (F:Stop.Interp) :
  ReturnsInHanded {} Tryz.checked os 3 .any ((Rows.OpenSpec.upto Rows.recheckWordsSpec).pre6 enc Tryz.prog Tryz.f3 Rows.recheckWordsUptoRow.domain false) (((Rows.OpenSpec.upto Rows.recheckWordsSpec).at F).post enc Tryz.prog Tryz.f3 false true false false):=by
 refine returnsInHanded_of_cond (C:=Tryz.checked) (s:=Rows.OpenSpec.upto Rows.recheckWordsSpec) (k:=Rows.uptoSmall) rfl own started (by kernel_rfl) Tryz.func3
  (OpenSpec.witness (enc:=enc) (C:=Tryz.checked) (s:=Rows.OpenSpec.upto Rows.recheckWordsSpec) (k:=Rows.uptoSmall) rfl false ⟨#[],#[.slice none 0 0,.agg #[.int .i64 0,.int .i64 0]],[]⟩ 8 (by kernel_rfl) (by kernel_rfl) (by kernel_rfl)
   (x:=([.nil,.agg [.lit (.int .i64 0),.lit (.int .i64 0)]],[],[])) (by kernel_rfl) rfl (by kernel_rfl)) ?_
 intro W base args ds gs kU hval0 hW _ hk0 _
 have hval:∀ (j:Nat) t v,Tryz.f3.params[j]? = some t->args[j]? = some v->Value.okWide Tryz.prog W .any base t v:=hval0
 have hW':=hW
 obtain ⟨p,q,hA0,hV,rfl,hfz,hnd⟩:=hW
 have hA:DataW.TrodAll enc Tryz.prog W 0 (fun _=>true) true Tryz.f3.params.toList args.toList ds p:=hA0
 have hAll:=hA
 rw [Tryz.params3] at hA
 obtain ⟨v0,vs0,d0,ds0,p0,q0,hargs,rfl,rfl,h0,r0⟩:=trodAll_cons hA
 obtain ⟨v1,vs1,d1,ds1,p1,q1,rfl,rfl,rfl,h1,r1⟩:=trodAll_cons r0
 obtain ⟨rfl,rfl,rfl⟩:=trodAll_nil r1
 obtain rfl:args = #[v0,v1]:=by cases args; simp_all
 obtain ⟨rfl,rfl⟩:=trodVars_none hV
 have hB:wW [d0,d1]<=1048576:=lT (m9 _) (dT hk0)
 have hcall:Calls Tryz.prog 3 #[v0,v1] W fun e w'=>e=.returned (.bool true)/\Kept W w' :=
  qMd hAll (fun j t v e1 e2=>show Value.okWide Tryz.prog W .any 0 t v from hval j t v (by simpa using e1) (by simpa using e2)) hB
 refine hcall.mono fun e W' ⟨he,hk⟩=>?_
 subst he
 exact ⟨_,rfl,qB9 (pv:=[]) hW' (fun _ _ _=>trodAll_cons_mk (shut_bool Tryz.underlying4 _) trodAll_mk0) (fun sp hsp=>qAN qTv qTr full qLN hAll hk (fun p hp=>hsp p (List.mem_append_left _ hp))) (fun _ _=>rfl) rfl hk
  (ok_one (by kernel_rfl) rfl (okWide_bool_mk Tryz.underlying4 _))⟩
end recheckWords
end Go.Proofs.YthhlmoidofecpaaGreat
