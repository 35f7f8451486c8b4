/- Spelled by the reference, and the law of SurfaceForms over data of bounded length. Conditions: none. -/
import Derived.Test.YtnemldklhelbeaaGreatJl
import Derived.Test.YtnemldklhelbeaaGreatJe
import Derived.Test.YtnemldklhelbeaaGreatKa
import Derived.Test.YtnemldklhelbeaaGreatKc
import Derived.Test.YtnemldklhelbeaaGreatOr
import Derived.Test.YtnemldklhelbeaaGreatRows
import Derived.ProofKit
import Derived.OpenShut
import Derived.JoinedCond
set_option linter.unusedVariables false
set_option linter.unusedSimpArgs false
namespace Go.Proofs.YtnemldklhelbeaaGreat
open Go Go.Am Go.Proofs
attribute [local irreducible] Go.Am.wp Go.Am.TOp.eval
section
variable {gs nm us lt rs ws fs l ps fm:D} {n fe:Int}
theorem qUT (hl:l.one=true) (hp:ps.one=true) (hf:fm.one=true) (hfe:fe≠0) (k15:qA EE 15 [.agg [gs,nm,us,lt,rs,dI n,ws,fs,l],.agg [ps]] (.tup [fm,dI fe])):qA EE 17 [.agg [gs,nm,us,lt,rs,dI n,ws,fs,l],.agg [ps]] (.tup [.leaf (.string ⟨#[]⟩),dI fe]):=by
 refine qXT rfl (qG.step' ?_)
 refine bS (qI rfl) ?_
 refine bS (qI rfl) ?_
 refine cS k15 ?_
 refine bS (zF rfl) ?_
 refine bS (zF rfl) ?_
 refine bS zS ?_
 refine iC (fun c=>?_) fun c=>?_
 ·exact zW rfl rfl
 exact absurd (zz c) hfe
theorem qUS {s:ByteArray} {p e:Int} (hl:l.one=true) (hp:ps.one=true) (hf:fm.one=true) (k15:qA EE 15 [.agg [gs,nm,us,lt,rs,dI n,ws,fs,l],.agg [ps]] (.tup [fm,dI 0])) (k42:qA EE 42 [.agg [nm,us,lt],fm] (.tup [.leaf (.string s),dI p,dI e])) :
  qA EE 17 [.agg [gs,nm,us,lt,rs,dI n,ws,fs,l],.agg [ps]] (.tup [.leaf (.string s),dI e]):=by
 refine qXT rfl (qG.step' ?_)
 refine bS (qI rfl) ?_
 refine bS (qI rfl) ?_
 refine cS k15 ?_
 refine bS (zF rfl) ?_
 refine bS (zF rfl) ?_
 refine bS zS ?_
 refine iC (fun c=>?_) fun c=>?_
 ·exact absurd rfl (nz c)
 refine bS (xW (off:=1) (size:=3) rfl) ?_
 refine cS k42 ?_
 refine bS (zF rfl) ?_
 refine bS (zF rfl) ?_
 refine bS (zF rfl) ?_
 exact zW rfl rfl
end
theorem qU2 {rs:D} (h:∀ r∈rs.es,qFN r):∀ r∈rs.es,qVX r:=by
 intro r hr
 have:=h r hr
 unfold qFN at this
 unfold qVX
 split at this
 ·exact this.1
 exact this.elim
theorem qW2 {g a:D} (h_g:qE 1048576 qXL g) (h_a:qE 1048576 (.st [qJg]) a) (hw:qA EE 9 [] (dB true)):qA EE 4 [g,a] (dB true):=by
 obtain ⟨ps,rfl,hp⟩:∃ ps,a=.agg [ps]/\qE 300000000 qJg ps:=by
  obtain ⟨_,rfl,ps,_,rfl,hp,rfl⟩:=zQ (B':=300000000) (by decide) h_a
  exact ⟨ps,rfl,hp⟩
 obtain ⟨_,rfl,gs,_,rfl,hg,nm,_,rfl,hnm,us,_,rfl,hus,lt,_,rfl,hlt,rs,_,rfl,hr,_,_,rfl,⟨n,rfl⟩,ws,_,rfl,hws,fs,_,rfl,hfs,l,_,rfl,hl,rfl⟩:=h_g
 have hnm1:nm.one=true:=by obtain ⟨s,rfl,_⟩:=hnm; rfl
 have i_l:=qC hl
 have i_ps:=qC hp
 have i_us:=qC hus
 have i_lt:=qC hlt
 obtain ⟨q1,k1⟩:=qZz hg
 obtain ⟨q2,k2,f2⟩:=qZQ hg hnm hus hlt
 obtain ⟨q3,k3,f3⟩:=qWS (nm:=nm) (us:=us) (lt:=lt) (n:=dI n) (ws:=ws) (fs:=fs) (l:=l) hg hr
 obtain ⟨q4,k4,f4⟩:=qWR (n:=n) hws hfs
 obtain ⟨q5,k5,f5⟩:=qWQ hg hl
 obtain ⟨q6,k6⟩:=qZv hl
 obtain ⟨q7,k7⟩:=qZu hl
 obtain ⟨b,kL,hb⟩:=qZV (n:=n) hg hnm1 hus hr hws hfs hl (qZW i_l.one k1 k2 k3 k4 k5 k6 k7)
 have kF:=qZU hp
 refine u4 rfl (qG.step' ?_)
 refine bS (qI rfl) ?_
 refine bS (qI rfl) ?_
 refine cS kL ?_
 refine bS zZ ?_
 refine iC (fun c1=>?_) fun c1=>?_
 ·skip
  refine cS hw ?_
  exact qD rfl rfl
 have hbt:b=true:=by simpa using c1
 have hall:=qL6 (hb hbt).1
 have hok2:=f3 hall.2.2.1
 have hok:=qU2 hok2
 have hoku:=f2 hall.2.1
 have hnet:=f4 hall.2.2.2.1
 have hent:=f5 hall.2.2.2.2.1
 have hn3:=(hb hbt).2.1
 refine cS kF ?_
 refine bS zZ ?_
 refine iC (fun c2=>?_) fun c2=>?_
 ·skip
  refine cS hw ?_
  exact qD rfl rfl
 have hn:ps.es.length<=20:=by
  have:decide (ps.es.length<=20)=true:=by simpa using c2
  exact dT this
 have hg3:=zQ (B':=300000000) (by decide) hg
 have hr3:=zQ (B':=300000000) (by decide) hr
 have hw3:=zQ (B':=300000000) (by decide) hws
 have hf3:=zQ (B':=300000000) (by decide) hfs
 have hB:=qDj hl hn
 have hlas:=iL (gs:=gs) rs.es hB
 obtain ⟨N,hN⟩:∃ N:Nat,n=(N:Int):=⟨n.toNat,by omega⟩
 have hN1:1<=N:=by omega
 have hN3:N<=3:=by omega
 rw [hN] at hnet
 have kFm:=qZT (gs:=gs) (c1:=nm) (c2:=us) (c3:=lt) (n:=dI n) hg3 hr3 hok rfl hw3 hf3 hl hp hn
 have kRf:=qWU (gs:=gs) (c1:=nm) (c2:=us) (c3:=lt) hg3 hr3 hok2 hN1 hN3 hw3 hf3 hnet.2.1 hnet.2.2 hl hent hp hn
 have kRi:=qYb (c0:=gs) (c1:=nm) (c2:=us) (c3:=lt) (c4:=rs) (n:=dI n) rfl hw3 hf3 hl hp hn
 have kRr:=qUR (c0:=gs) (c1:=nm) (c2:=us) (c3:=lt) (c4:=rs) hN1 hN3 hw3 hf3 hnet.2.1 hnet.2.2 hl hent hp hn
 rw [← hN] at kRf kRr
 have hfmB:qE 300000000 xT (qBF gs rs l ws fs ps).1:=by
  unfold qBF
  split
  ·exact wZ
  split
  ·exact wZ
  exact hlas.1
 generalize hF1:(qBF gs rs l ws fs ps).1=fm at *
 generalize hF2:(qBF gs rs l ws fs ps).2=fe at *
 generalize hF3:qFF l ws fs ps=r at *
 have i_fm:=qC hfmB
 have qVe:=qZS hfmB hfmB
 rw [qHC rfl] at qVe
 obtain ⟨s,x,k16,k17⟩:∃ (s:ByteArray) (x:Int),qA EE 16 [.agg [gs,nm,us,lt,rs,dI n,ws,fs,l],.agg [ps]] (.tup [.leaf (.string s),dI x])/\qA EE 17 [.agg [gs,nm,us,lt,rs,dI n,ws,fs,l],.agg [ps]] (.tup [.leaf (.string s),dI x]):=by
  by_cases hfe:fe=0
  ·rw [hfe] at kFm kRf
   have k25:=qWT hnm hus hlt hfmB hoku
   have k42:=qWO hnm hus hlt hfmB hoku
   obtain ⟨s,p,e,hs⟩:=qH9 us fm
   rw [hs] at k25 k42
   exact ⟨s,e,qXf i_l.one i_ps.one i_fm.one kFm k25,qUS i_l.one i_ps.one i_fm.one kRf k42⟩
  exact ⟨_,fe,qXg i_l.one i_ps.one i_fm.one hfe kFm,qUT i_l.one i_ps.one i_fm.one hfe kRf⟩
 refine cS kFm ?_
 refine bS (zF rfl) ?_
 refine bS (zF rfl) ?_
 refine cS kRf ?_
 refine bS (zF rfl) ?_
 refine bS (zF rfl) ?_
 refine cS k16 ?_
 refine bS (zF rfl) ?_
 refine bS (zF rfl) ?_
 refine cS k17 ?_
 refine bS (zF rfl) ?_
 refine bS (zF rfl) ?_
 refine cS kRi ?_
 refine cS kRr ?_
 refine bS vX ?_
 refine iC (fun c3=>?_) fun c3=>?_
 ·skip
  refine cS qVe ?_
  refine jJ (t:=true) rfl ?_
  refine lM ?_
  refine bS vX ?_
  refine iC (fun c4=>?_) fun c4=>?_
  ·skip
   refine bS qCE ?_
   refine iC (fun c5=>?_) fun c5=>?_
   ·skip
    refine bS vX ?_
    refine iC (fun c6=>?_) fun c6=>?_
    ·skip
     refine cS hw ?_
     exact qD rfl rfl
    exact absurd rfl (dF c6)
   rw [zAi] at c5; cases c5
  exact absurd rfl (dF c4)
 exact absurd rfl (dF c3)
end Go.Proofs.YtnemldklhelbeaaGreat
namespace Go.Proofs.YtnemldklhelbeaaGreat
open Go Go.Am Go.Proofs
namespace surfaceForms
mutual
theorem qDg {H:Type}:∀ d:DataW H,xI d<=Rows.uptoBulk d
 | .lit l=>by cases l <;> simp [xI,Rows.uptoBulk]
 | .nil=>by simp [xI,Rows.uptoBulk]
 | .ptr d=>by have:=qDg d; simp only [xI,Rows.uptoBulk]; omega
 | .slice a b=>by have:=lZ a; have:=lZ b; simp only [xI,Rows.uptoBulk]; omega
 | .agg a=>by have:=lZ a; simp only [xI,Rows.uptoBulk]; omega
 | .iface _ d=>by have:=qDg d; simp only [xI,Rows.uptoBulk]; omega
 | .map _=>by simp only [xI,Rows.uptoBulk]; omega
 | .held _=>by simp [xI,Rows.uptoBulk]
theorem lZ {H:Type}:∀ l:List (DataW H),wX l<=Rows.uptoBulkAll l
 | []=>zT _
 | d::l=>by have:=qDg d; have:=lZ l; simp only [wX,Rows.uptoBulkAll]; omega
end
theorem qRJ:aH Tryz.prog 100 Tryz.f4.params.toList=some [qXL,.st [qJg]]:=by kernel_rfl
theorem qNG (ds:List D) (h:jX 1048576 [qXL,.st [qJg]] ds):qA EE 4 ds (dB true):=by
 simp only [jX] at h
 obtain ⟨p,r,rfl,hp,q,r',rfl,hq,rfl⟩:=h
 exact qW2 (by simpa only [qE,jX] using hp) (by simpa only [qE,jX] using hq) qVJ
theorem qNg:EE.prog=Tryz.prog:=rfl
theorem qUO (t:TypeId) (ti:TI) (h:EE.types.get t=some ti):ti.size=Tryz.prog.cellsOf t:=qFz he h
theorem qNF {H:Type} {enc:TypeId × Value->H} {W:World} {args:List Value} {ds:List (DataW H)} {p:List MemPlace}
  (hA:DataW.TrodAll enc Tryz.prog W 0 (fun _=>true) true Tryz.f4.params.toList args ds p)
  (hok:∀ (j:Nat) t v,Tryz.f4.params.toList[j]? = some t->args[j]? = some v->Value.okWide Tryz.prog W .any 0 t v) (hB:wX ds<=1048576) :
  Calls Tryz.prog 4 ⟨args⟩ W fun e w'=>e=.returned (.bool true)/\Kept W w':=by
 have h1:=qRJ
 have h2:=qUO
 have h3:=qNg
 have h4:=qNG
 generalize hts:Tryz.f4.params.toList=ts at *
 generalize hP:Tryz.prog=P at *
 exact qFY (E:=EE) h3 h2 h1 h4 hA hok hB
open Go.ChangeShapes Go.WideShapes Go.ChangeAt Go.RowKit
theorem own:ownKnob Tryz.prog.godebug=none:=by kernel_rfl
theorem qW3:laidOutB Tryz.prog=true:=by kernel_rfl
theorem qW1:mapsRowed Tryz.prog=true:=by kernel_rfl
theorem full:∀ t e,t < Tryz.prog.types.size->Tryz.prog.underlying t=some (.slice e)->0 < Tryz.prog.cellsOf e:=slices_full_of Tryz.prog (by kernel_rfl)
theorem qZm:∀ t∈Tryz.f4.params.toList,t < Tryz.prog.types.size:=by
 have h:(Tryz.f4.params.toList.all fun t=>Nat.blt t Tryz.prog.types.size)=true:=by kernel_rfl
 intro t ht
 exact lB (List.all_eq_true.1 h t ht)
def qSL:Value:=.agg #[.slice none 0 0,.string ⟨#[]⟩,.slice none 0 0,.slice none 0 0,.slice none 0 0,.int .i64 0,.slice none 0 0,.slice none 0 0,.slice none 0 0]
def qN5 {H:Type}:DataW H:=.agg [.agg [.nil],.agg [.lit (.string []),.nil,.nil],.nil,.agg [.lit (.int .i64 0),.nil,.nil],.nil]
set_option maxRecDepth 100000 in
theorem qSi (os:Os) (started:os.Started) (H:Type) (enc:TypeId × Value->H) (F:Stop.Interp) :
  ReturnsInHanded {} Tryz.checked os 4 .any ((Rows.OpenSpec.upto Rows.surfaceFormsSpec).pre6 enc Tryz.prog Tryz.f4 Rows.surfaceFormsUptoRow.domain false) (((Rows.OpenSpec.upto Rows.surfaceFormsSpec).at F).post enc Tryz.prog Tryz.f4 false true false false):=by
 refine returnsInHanded_of_cond (C:=Tryz.checked) (s:=Rows.OpenSpec.upto Rows.surfaceFormsSpec) (k:=Rows.uptoSmall) rfl own started (by kernel_rfl) Tryz.func4
  (OpenSpec.witness (enc:=enc) (C:=Tryz.checked) (s:=Rows.OpenSpec.upto Rows.surfaceFormsSpec) (k:=Rows.uptoSmall) rfl false ⟨#[],#[qSL,.agg #[.slice none 0 0]],[]⟩ 8 (by kernel_rfl) (by kernel_rfl) (by kernel_rfl)
   (x:=([qN5,.agg [.nil]],[],[])) (by kernel_rfl) rfl (by kernel_rfl)) ?_
 intro W base args ds gs gC hval0 hW _ hk0 _
 have hval:∀ (j:Nat) t v,Tryz.f4.params[j]? = some t->args[j]? = some v->Value.okWide Tryz.prog W .any base t v:=hval0
 have hW':=hW
 obtain ⟨p,q,hA0,hV,rfl,hfz,hnd⟩:=hW
 have hA:DataW.TrodAll enc Tryz.prog W 0 (fun _=>true) true Tryz.f4.params.toList args.toList ds p:=hA0
 have hAll:=hA
 rw [Tryz.params4] at hA
 obtain ⟨v0,vs0,d0,ds0,p0,q0,hargs,rfl,rfl,h0,r0⟩:=trodAll_cons hA
 obtain ⟨v1,vs1,d1,ds1,p1,q1,rfl,rfl,rfl,h1,r1⟩:=trodAll_cons r0
 obtain ⟨rfl,rfl,rfl⟩:=trodAll_nil r1
 obtain rfl:args = #[v0,v1]:=by cases args; simp_all
 obtain ⟨rfl,rfl⟩:=trodVars_none hV
 have hB:wX [d0,d1]<=1048576:=lT (lZ _) (dT hk0)
 have hcall:Calls Tryz.prog 4 #[v0,v1] W fun e w'=>e=.returned (.bool true)/\Kept W w' :=
  qNF hAll (fun j t v e1 e2=>show Value.okWide Tryz.prog W .any 0 t v from hval j t v (by simpa using e1) (by simpa using e2)) hB
 refine hcall.mono fun e W' ⟨he,hk⟩=>?_
 subst he
 exact ⟨_,rfl,qCM (pv:=[]) hW' (fun _ _ _=>trodAll_cons_mk (shut_bool Tryz.underlying4 _) trodAll_mk0) (fun sp hsp=>qBu qW3 qW1 full qZm hAll hk (fun p hp=>hsp p (List.mem_append_left _ hp))) (fun _ _=>rfl) rfl hk
  (ok_one (by kernel_rfl) rfl (okWide_bool_mk Tryz.underlying4 _))⟩
end surfaceForms
end Go.Proofs.YtnemldklhelbeaaGreat
namespace Go.Proofs.YtnemldklhelbeaaGreat
open Go Go.Proofs
namespace surfaceForms
theorem qU4 : Tryz.prog.funcNamed "langdoc/langdoclaw29.SurfaceForms" = some 4 := by kernel_rfl
theorem facts:joinedFacts Tryz.pinned.checked.prog 4 Tryz.f4 (Rows.OpenSpec.upto Rows.surfaceFormsSpec).bare Rows.surfaceFormsUptoRow=true:=by kernel_rfl
end surfaceForms
end Go.Proofs.YtnemldklhelbeaaGreat
