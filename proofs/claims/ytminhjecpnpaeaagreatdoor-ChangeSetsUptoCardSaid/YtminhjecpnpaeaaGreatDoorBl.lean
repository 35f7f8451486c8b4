/- What the row says of the tables of unicode/utf8, in the abstract heap's words. Conditions: none. -/
import Derived.Test.YtminhjecpnpaeaaGreatDoorBc
import Derived.Lib.LaidU8T
import Derived.Test.YtminhjecpnpaeaaGreatDoorBk
import Derived.Test.YtminhjecpnpaeaaGreatDoorOr
import Derived.Test.YtminhjecpnpaeaaGreatDoorTie
import Derived.Test.YtminhjecpnpaeaaGreatDoorCards
import Derived.ProofKit
import Derived.LaidMore
import Derived.Lay
import Derived.SevenTiedAt
import Derived.OpenShut
import Derived.JoinedCond
import Derived.MakeChecks
import Derived.Stop.Joined
import Derived.Deep.DeepHandedRow
set_option linter.unusedVariables false
set_option linter.unusedSimpArgs false
namespace Go.Proofs.YtminhjecpnpaeaaGreatDoor
open Go Go.Am Go.Proofs Go.RowKit Go.Lib
theorem qJG {w:World} {b i:Nat} {v:Value} (h:w.cell? ⟨b,i,none⟩=some v):∃ ccs cel fz,w.heap[b]? = some (.cells ccs cel fz)/\ccs[i]? = some v:=by
 unfold World.cell? at h
 cases hb:w.heap[b]? with
 | none=>rw [hb] at h; cases h
 | some o =>
  rw [hb] at h
  cases o with
  | cells ccs cel fz=>exact ⟨ccs,cel,fz,rfl,by simpa using h⟩
  | _=>cases h
theorem qPX {E:Env} {b el rt:Nat} {cs:List Value} {ow:Bool} (h:jR b E.laid=some ⟨.cells cs el,rt,ow⟩):(qBS E b).off=0/\(qBS E b).ext=cs.length/\∀ ti,E.types.get el=some ti->(qBS E b).sz=ti.size:=by
 unfold qBS
 rw [h]
 exact ⟨rfl,rfl,fun ti h2=>by simp only [h2]⟩
theorem qIy {E:Env} {w:World} {b n:Nat} {cs:List Value} (hn:cs.length=n+1) (hg:jR b E.laid=some ⟨.cells cs 5,0,false⟩)
  (hc:∀ i v,cs[i]? = some v->w.cell? ⟨b,i,none⟩=some v/\qQ v=true/\vK v=true) (σ:zZ):∃ o,w.heap[b]? = some o/\oT E σ (qBS E b) false (.cells cs 5) o:=by
 have hl:n < cs.length:=by omega
 obtain ⟨g1,g2,g3⟩:=qPX hg
 obtain ⟨ccs,cel,fz,h1,h2⟩:=qJG (hc n _ (List.getElem?_eq_getElem hl)).1
 refine ⟨_,h1,?_⟩
 simp only [oT]
 rw [g1,g2]
 refine ⟨(fun h=>by cases h),?_,lR _,g3,fun i v hi=>?_⟩
 ·have:=(Array.getElem?_eq_some_iff.1 h2).1
  omega
 obtain ⟨k1,k2,k3⟩:=hc i v hi
 obtain ⟨ccs',cel',fz',h3,h4⟩:=qJG k1
 rw [h1] at h3
 cases h3
 refine ⟨k2,v,?_,.leaf k3⟩
 rw [Nat.zero_add]; exact h4
theorem aQ:EE.laid=qD8:=by unfold EE; rfl
theorem qUb:qSN.length=256:=by simp [qSN]
theorem qUY:qQW.length=32:=by simp [qQW]
theorem qWU:jR 0 EE.laid=some ⟨.cells qSN 5,0,false⟩:=by rw [aQ]; unfold qD8 jR; exact if_pos rfl
theorem qWT:jR 1 EE.laid=some ⟨.cells qQW 5,0,false⟩:=by
 rw [aQ]
 unfold qD8 jR
 rw [if_neg (by decide:¬ 1=0)]
 unfold jR
 exact if_pos rfl
theorem qTf {w:World} (hT:Utf8Tabs 0 1 w):TabOK EE EE.prog.globals.size w:=by
 have hs:=qNk
 refine ⟨by rw [aQ]; decide,?_,?_⟩
 ·rw [aQ]
  intro p hp
  simp only [qD8,List.mem_cons,List.mem_nil_iff,or_false] at hp
  rcases hp with rfl | rfl
  ·exact ⟨by omega,lR _,rfl⟩
  exact ⟨by omega,Nat.zero_le _,rfl⟩
 rw [aQ]
 intro p hp σ
 simp only [qD8,List.mem_cons,List.mem_nil_iff,or_false] at hp
 rcases hp with rfl | rfl
 ·refine qIy (n:=255) qUb qWU (fun i v hi=>?_) σ
  simp only [qSN,List.getElem?_map] at hi
  cases hr:(List.range 256)[i]? with
  | none=>rw [hr] at hi; cases hi
  | some c =>
   have hlt:i < 256:=by have:=(gI hr).1; simpa using this
   rw [List.getElem?_range hlt] at hr
   cases hr
   rw [List.getElem?_range hlt] at hi
   cases hi
   exact ⟨hT.1 i hlt,rfl,rfl⟩
 refine qIy (n:=31) qUY qWT (fun i v hi=>?_) σ
 simp only [qQW,List.getElem?_map] at hi
 cases hr:(List.range 32)[i]? with
 | none=>rw [hr] at hi; cases hi
 | some c =>
  have hlt:i < 32:=by have:=(gI hr).1; simpa using this
  rw [List.getElem?_range hlt] at hr
  cases hr
  rw [List.getElem?_range hlt] at hi
  cases hi
  refine ⟨?_,rfl,rfl⟩
  show w.cell? ⟨1,i,none⟩=some (.int .u8 ((if i % 2=0 then accLo (i / 2) else accHi (i / 2):Nat):Int))
  by_cases e:i % 2=0
  ·rw [if_pos e]
   have:=(hT.2 (i / 2) (by omega)).1
   rw [show 2 * (i / 2)=i by omega] at this
   exact this
  rw [if_neg e]
  have:=(hT.2 (i / 2) (by omega)).2
  rw [show 2 * (i / 2)+1=i by omega] at this
  exact this
theorem qW0:U8Extra Tryz.prog qBD:=⟨by kernel_rfl,by kernel_rfl,by kernel_rfl,by kernel_rfl,by kernel_rfl,by kernel_rfl,by kernel_rfl⟩
theorem qTg {w : World} (h3 : VarReads Tryz.prog w "unicode/utf8.first" firstData) (h4 : VarReads Tryz.prog w "unicode/utf8.acceptRanges" acceptData) : TabOK EE EE.prog.globals.size w :=
 qTf (utf8Tabs_of_readsT (U8Types.of196 qM8) qW0 h3 h4)
end Go.Proofs.YtminhjecpnpaeaaGreatDoor
namespace Go.Proofs.YtminhjecpnpaeaaGreatDoor
open Go Go.Am Go.Proofs
mutual
theorem qEQ {H:Type}:∀ d:DataW H,xU d<=Rows.uptoBulk d
 | .lit l=>by cases l <;> simp [xU,Rows.uptoBulk]
 | .nil=>by simp [xU,Rows.uptoBulk]
 | .ptr d=>by have:=qEQ d; simp only [xU,Rows.uptoBulk]; omega
 | .slice a b=>by have:=dO a; have:=dO b; simp only [xU,Rows.uptoBulk]; omega
 | .agg a=>by have:=dO a; simp only [xU,Rows.uptoBulk]; omega
 | .iface _ d=>by have:=qEQ d; simp only [xU,Rows.uptoBulk]; omega
 | .map _=>by simp only [xU,Rows.uptoBulk]; omega
 | .held _=>by simp [xU,Rows.uptoBulk]
theorem dO {H:Type}:∀ l:List (DataW H),kF l<=Rows.uptoBulkAll l
 | []=>lR _
 | d::l=>by have:=qEQ d; have:=dO l; simp only [kF,Rows.uptoBulkAll]; omega
end
abbrev qY8:Sh:=.st [.int .i64,qOr,uL]
abbrev qY7:Sh:=.st [.str,qQY,qOi]
theorem qTs:uJ Tryz.prog 100 Tryz.f4.params.toList=some [qGZ,qY8,qY7]:=by kernel_rfl
theorem qPL (ds:List D) (h:jJ 1048576 [qGZ,qY8,qY7] ds):qB EE 4 ds (dB true):=by
 simp only [jJ] at h
 obtain ⟨p,r,rfl,hp,q,r',rfl,hq,o,r'',rfl,ho,rfl⟩:=h
 simp only [qY8,qY7,qI,jJ] at hq ho
 obtain ⟨_,rfl,_,_,rfl,⟨st,rfl⟩,xs,_,rfl,hxs,fs,_,rfl,hfs,rfl⟩:=hq
 obtain ⟨_,rfl,nm,_,rfl,hnm,us,_,rfl,hus,ls,_,rfl,hls,rfl⟩:=ho
 exact h4 (by simpa only [qI,jJ] using hp) (by simpa only [qI,jJ] using hxs) (by simpa only [qI,jJ] using hfs) (by simpa only [qI,jJ] using hnm) (by simpa only [qI,jJ] using hus) (by simpa only [qI,jJ] using hls) qXA
theorem qO9:EE.prog=Tryz.prog:=by unfold EE; rfl
theorem qWm (t:TypeId) (ti:TI) (h:EE.types.get t=some ti):ti.size=Tryz.prog.cellsOf t:=qHd he h
theorem qPK {H:Type} {enc:TypeId × Value->H} {W:World} {args:List Value} {ds:List (DataW H)} {p:List MemPlace}
  (hA:DataW.TrodAll enc Tryz.prog W 0 (fun _=>true) true Tryz.f4.params.toList args ds p)
  (hok:∀ (j:Nat) t v,Tryz.f4.params.toList[j]? = some t->args[j]? = some v->Value.okWide Tryz.prog W .any 0 t v) (hB:kF ds<=1048576) (hT:TabOK EE EE.prog.globals.size W) :
  Calls Tryz.prog 4 ⟨args⟩ W fun e w'=>e=.returned (.bool true)/\Kept W w':=by
 have h1:=qTs
 have h2:=qWm
 have h3:=qO9
 have h4:=qPL
 generalize hts:Tryz.f4.params.toList=ts at *
 generalize hP:Tryz.prog=P at *
 exact qHD (E:=EE) h3 h2 h1 h4 hA hok hB hT
open Go.ChangeShapes Go.WideShapes Go.ChangeAt Go.RowKit
namespace changeSets
theorem own:ownKnob Tryz.prog.godebug=none:=by kernel_rfl
theorem laid:laidOutB Tryz.prog=true:=by kernel_rfl
theorem qYs:mapsRowed Tryz.prog=true:=by kernel_rfl
theorem full:∀ t e,t < Tryz.prog.types.size->Tryz.prog.underlying t=some (.slice e)->0 < Tryz.prog.cellsOf e:=slices_full_of Tryz.prog (by kernel_rfl)
theorem qZ5:∀ t∈Tryz.f4.params.toList,t < Tryz.prog.types.size:=by
 have h:(Tryz.f4.params.toList.all fun t=>Nat.blt t Tryz.prog.types.size)=true:=by kernel_rfl
 intro t ht
 exact lB (List.all_eq_true.1 h t ht)
def empty:Value:=.agg #[.slice none 0 0,.string ⟨#[]⟩,.slice none 0 0,.slice none 0 0,.slice none 0 0,.int .i64 0,.slice none 0 0,.slice none 0 0,.slice none 0 0]
def qEI:Value:=.agg #[.int .i64 0,.slice none 0 0,.slice none 0 0]
def qEH:Value:=.agg #[.string ⟨#[]⟩,.slice none 0 0,.slice none 0 0]
def qUv {H:Type}:DataW H:=.agg [.agg [.nil],.agg [.lit (.string []),.nil,.nil],.nil,.agg [.lit (.int .i64 0),.nil,.nil],.nil]
def qQt {H:Type}:DataW H:=.agg [.lit (.int .i64 0),.nil,.nil]
def qQs {H:Type}:DataW H:=.agg [.lit (.string []),.nil,.nil]
abbrev lv : List (String × DataW Unit) := [("unicode/utf8.acceptRanges", Rows.laid_unicode_utf8_acceptRanges), ("unicode/utf8.first", Rows.laid_unicode_utf8_first)]
theorem qNa (os:Os):laidMet Tryz.prog Rows.changeSetsUptoRow.laid ((World.laidAll Tryz.prog os lv).forCall (fun _ _=>0) ⟨#[],#[empty,qEI,qEH],[]⟩).memory :=
 laidMet_laidAll (laid:=lv) _ (by kernel_rfl) (by kernel_rfl)
theorem qWp (os:Os) {H:Type} (enc:TypeId × Value->H):∃ places,DataW.whole enc Tryz.prog ((World.laidAll Tryz.prog os lv).forCall (fun _ _=>0) ⟨#[],#[empty,qEI,qEH],[]⟩).memory Tryz.f4.params.toList Rows.changeSetsSpec.vars false #[empty,qEI,qEH].toList 8=some ([qUv,qQt,qQs],[],places) :=
 ⟨[],by kernel_rfl⟩
theorem qNw:Rows.laid_unicode_utf8_first=Go.Lib.firstData:=by kernel_rfl
theorem qUX:(Rows.laid_unicode_utf8_acceptRanges:DataW Unit)=Go.Lib.acceptData:=by kernel_rfl
theorem qNv : ("unicode/utf8.first", Rows.laid_unicode_utf8_first) ∈ Rows.changeSetsUptoRow.laid := mC _ List.mem_cons_self
theorem qUW : ("unicode/utf8.acceptRanges", (Rows.laid_unicode_utf8_acceptRanges : DataW Unit)) ∈ Rows.changeSetsUptoRow.laid := List.mem_cons_self
set_option maxRecDepth 100000 in
theorem qTU (os:Os) (started:os.Started) (H:Type) (enc:TypeId × Value->H) (F:Stop.Interp) :
  ReturnsInHanded {} Tryz.checked os 4 .any ((Rows.OpenSpec.upto Rows.changeSetsSpec).preRow enc Tryz.prog Tryz.f4 Rows.changeSetsUptoRow.domain false Rows.changeSetsUptoRow.laid) (((Rows.OpenSpec.upto Rows.changeSetsSpec).at F).post enc Tryz.prog Tryz.f4 false true false false):=by
 obtain ⟨places,hx⟩:=qWp os enc
 refine returnsInHanded_of_row (C:=Tryz.checked) (s:=Rows.OpenSpec.upto Rows.changeSetsSpec) own started (by kernel_rfl) Tryz.func4
  (witness_row_at (enc:=enc) (C:=Tryz.checked) false (World.laidAll Tryz.prog os lv) #[empty,qEI,qEH] (World.laidAll_os _ _ _) (by kernel_rfl) (by kernel_rfl) (by kernel_rfl)
   (OpenSpec.preRow_of_cond 8 hx (by kernel_rfl) (fun k hk=>by cases hk; kernel_rfl) (by kernel_rfl) (qNa os))) ?_
 intro W base args ds gs oS hval0 hW _ hk0 _ hlaid _ _
 have hval:∀ (j:Nat) t v,Tryz.f4.params[j]? = some t->args[j]? = some v->Value.okWide Tryz.prog W .any base t v:=hval0
 have hW':=hW
 obtain ⟨p,q,hA0,hV,rfl,hfz,hnd⟩:=hW
 have hA:DataW.TrodAll enc Tryz.prog W 0 (fun _=>true) true Tryz.f4.params.toList args.toList ds p:=hA0
 have hAll:=hA
 rw [Tryz.params4] at hA
 obtain ⟨v0,vs0,d0,ds0,p0,q0,hargs,rfl,rfl,h0,r0⟩:=trodAll_cons hA
 obtain ⟨v1,vs1,d1,ds1,p1,q1,rfl,rfl,rfl,h1,r1⟩:=trodAll_cons r0
 obtain ⟨v2,vs2,d2,ds2,p2,q2,rfl,rfl,rfl,h2,r2⟩:=trodAll_cons r1
 obtain ⟨rfl,rfl,rfl⟩:=trodAll_nil r2
 obtain rfl:args = #[v0,v1,v2]:=by cases args; simp_all
 obtain ⟨rfl,rfl⟩:=trodVars_none hV
 have hk1:=hk0 _ rfl
 have hB:kF [d0,d1,d2]<=1048576:=lT (dO _) (dT hk1)
 rw [Go.MakeChecks.laidMetH_plain _ _ _ (by kernel_rfl)] at hlaid
 have hT:TabOK EE EE.prog.globals.size W:=by
  obtain ⟨ps,hlv,_⟩:=hlaid
  exact qTg (by rw [← qNw]; exact Go.Lib.LaidVars_reads hlv _ _ qNv) (by rw [← qUX]; exact Go.Lib.LaidVars_reads hlv _ _ qUW)
 have hcall:Calls Tryz.prog 4 #[v0,v1,v2] W fun e w'=>e=.returned (.bool true)/\Kept W w' :=
  qPK hAll (fun j t v e1 e2=>show Value.okWide Tryz.prog W .any 0 t v from hval j t v (by simpa using e1) (by simpa using e2)) hB hT
 refine hcall.mono fun e W' ⟨he,hk⟩=>?_
 subst he
 exact ⟨_,rfl,qEk (pv:=[]) hW' (fun _ _ _=>trodAll_cons_mk (shut_bool Tryz.underlying4 _) trodAll_mk0) (fun sp hsp=>qCI laid qYs full qZ5 hAll hk (fun p hp=>hsp p (List.mem_append_left _ hp))) (fun _ _=>rfl) rfl hk
  (ok_one (by kernel_rfl) rfl (okWide_bool_mk Tryz.underlying4 _))⟩
end changeSets
end Go.Proofs.YtminhjecpnpaeaaGreatDoor
