/- The builder of texts, in the seat's program. Conditions: none. -/
import Derived.Test.YtnemldklhelbeaaGreatJa
import Derived.Test.YtnemldklhelbeaaGreatSx7
set_option linter.unusedVariables false
set_option linter.unusedSimpArgs false
namespace Go.Proofs.YtnemldklhelbeaaGreat
open Go Go.Am Go.Proofs
def BB:Bld:=⟨51,52,110,108,5,9,1⟩
theorem bfF:(isFld EE 110 0 107 0,isFld EE 110 1 108 1,isCell EE 107,isCell EE 108,isPtr EE 107 110,isUns EE 172,hasSize EE 110 2,(EE.funcs.get 107).isNone)=(true,true,true,true,true,true,true,true):=by kernel_rfl
theorem fl0:isFld EE 110 0 107 0=true:=(Prod.mk.inj bfF).1
theorem fl1:isFld EE 110 1 108 1=true:=(Prod.mk.inj (Prod.mk.inj bfF).2).1
theorem ce7:isCell EE 107=true:=(Prod.mk.inj (Prod.mk.inj (Prod.mk.inj bfF).2).2).1
theorem ce8:isCell EE 108=true:=(Prod.mk.inj (Prod.mk.inj (Prod.mk.inj (Prod.mk.inj bfF).2).2).2).1
theorem pt7:isPtr EE 107 110=true:=(Prod.mk.inj (Prod.mk.inj (Prod.mk.inj (Prod.mk.inj (Prod.mk.inj bfF).2).2).2).2).1
theorem un2:isUns EE 172=true:=(Prod.mk.inj (Prod.mk.inj (Prod.mk.inj (Prod.mk.inj (Prod.mk.inj (Prod.mk.inj bfF).2).2).2).2).2).1
theorem sz2:hasSize EE 110 2=true:=(Prod.mk.inj (Prod.mk.inj (Prod.mk.inj (Prod.mk.inj (Prod.mk.inj (Prod.mk.inj (Prod.mk.inj bfF).2).2).2).2).2).2).1
theorem no7:EE.funcs.get 107=none:=Option.isNone_iff_eq_none.1 (Prod.mk.inj (Prod.mk.inj (Prod.mk.inj (Prod.mk.inj (Prod.mk.inj (Prod.mk.inj (Prod.mk.inj bfF).2).2).2).2).2).2).2
theorem nm7:(Tryz.f107.name == nameNoEscape && Tryz.f107.body.isNone && (Extern.findNext Tryz.f107).isNone)=true:=by kernel_rfl
theorem bfR:(nr Tryz.f51,nr Tryz.f52,nr Tryz.f90)=(false,false,false):=by kernel_rfl
theorem x51:EE.funcs.get 51=some Tryz.f51:=envFunc (c:=bodyOf Tryz.f51) Tryz.func51 rfl (Prod.mk.inj bfR).1
theorem x52:EE.funcs.get 52=some Tryz.f52:=envFunc (c:=bodyOf Tryz.f52) Tryz.func52 rfl (Prod.mk.inj (Prod.mk.inj bfR).2).1
theorem x90:EE.funcs.get 90=some Tryz.f90:=envFunc (c:=bodyOf Tryz.f90) Tryz.func90 rfl (Prod.mk.inj (Prod.mk.inj bfR).2).2
theorem bn0 {x y:Operand}:binA EE .eql 107 x y (.pointer none) (.pointer none)=some (.bool true):=by
 have h:binA EE .eql 107 (.const (.int .i64 0)) (.const (.int .i64 0)) (.pointer none) (.pointer none)=some (.bool true):=by kernel_rfl
 exact h
section
variable {fr':Fr} {t:T Value} {o:Oper} {H H1 H':AH} {n d i:Nat} {v:Value} {all:Array Oper} {os:List Oper}
theorem k_op (hx:ExecX EE ⟨n,false,t⟩ o H v H1) (hg:o.guard=none) (ho:o.dst=some d) (hn:Nat.ble (d+1) n=true) (h:OpsX EE all false os (i+1) ⟨n,false,t.put d (some v)⟩ H1 fr' H'):OpsX EE all false (o::os) i ⟨n,false,t⟩ H fr' H' :=
 OpsX.cons (by simp only [wantedA,hg]) hx (by simp only [putA,ho,hn,cond_true]) h
theorem k_st (hx:ExecX EE ⟨n,false,t⟩ o H v H1) (hg:o.guard=none) (ho:o.dst=none) (h:OpsX EE all false os (i+1) ⟨n,false,t⟩ H1 fr' H'):OpsX EE all false (o::os) i ⟨n,false,t⟩ H fr' H' :=
 OpsX.cons (by simp only [wantedA,hg]) hx (by simp only [putA,ho]) h
def itH (H:AH):Nat→AH
 | 0=>H
 | n+1=>restoreH (itH H n) (hideH (itH H n) []) []
theorem it_b (H:AH):∀ k,(itH H k).blocks=H.blocks
 | 0=>rfl
 | k+1=>it_b H k
theorem it_n (H:AH):∀ k,(itH H k).next=H.next
 | 0=>rfl
 | k+1=>it_n H k
theorem it_l (H:AH):∀ k,Nat.min H.low H.next≤(itH H k).low
 | 0=>Nat.min_le_left _ _
 | k+1=>Nat.le_min.2 ⟨it_l H k,by show _≤(itH H k).next; rw [it_n]; exact Nat.min_le_right _ _⟩
def dropH (H:AH) (B r:Nat):AH:=restoreH H { blocks:=(hideH H []).blocks.put B none,next:=(hideH H []).next,low:=Nat.min (hideH H []).low r } []
theorem drop_b (H:AH) (B r:Nat):(dropH H B r).blocks=H.blocks.put B none:=rfl
theorem drop_n (H:AH) (B r:Nat):(dropH H B r).next=H.next:=rfl
theorem drop_l (H:AH) (B r:Nat):(dropH H B r).low=Nat.min H.low (Nat.min H.next r):=rfl
theorem fin52 (H:AH) (B r k j:Nat):(itH (dropH (itH H k) B r) j).blocks=H.blocks.put B none∧(itH (dropH (itH H k) B r) j).next=H.next∧Nat.min (Nat.min H.low H.next) r≤(itH (dropH (itH H k) B r) j).low:=by
 refine ⟨by rw [it_b,drop_b,it_b],by rw [it_n,drop_n,it_n],Nat.le_trans ?_ (it_l _ _)⟩
 rw [drop_l,drop_n,it_n]
 have h1:=it_l H k
 exact Nat.le_min.2 ⟨Nat.le_min.2 ⟨Nat.le_trans (Nat.min_le_left _ _) h1,Nat.le_min.2 ⟨Nat.le_trans (Nat.min_le_left _ _) (Nat.min_le_right _ _),Nat.min_le_right _ _⟩⟩,Nat.le_trans (Nat.min_le_left _ _) (Nat.min_le_right _ _)⟩
theorem gb {b k:Nat} {x:Option ABlk} (h:H.blocks.get b=x):(hideH (itH H k) []).blocks.get b=x:=by
 show (itH H k).blocks.get b=x
 rw [it_b,h]
theorem k_dr {k:Nat} (hx:aop EE ⟨n,false,t⟩ o (hideH (itH H k) [])=some (.val v,hideH (itH H k) [])) (hg:o.guard=none) (ho:o.dst=some d) (hn:Nat.ble (d+1) n=true) (h:OpsX EE all true os (i+1) ⟨n,false,t.put d (some v)⟩ (itH H (k+1)) fr' H'):OpsX EE all true (o::os) i ⟨n,false,t⟩ (itH H k) fr' H' :=
 OpsX.consD (by simp only [wantedA,hg]) (.of_val (Nat.le_refl _) hx) (.inl (Nat.le_refl _)) (by simp only [putA,ho,hn,cond_true]) h
theorem k_df (hx:ExecX EE ⟨n,false,t⟩ o (hideH H []) v H1) (hf:fences all.toList i=true) (hg:o.guard=none) (ho:o.dst=some d) (hn:Nat.ble (d+1) n=true) (h:OpsX EE all true os (i+1) ⟨n,false,t.put d (some v)⟩ (itH (restoreH H H1 []) 0) fr' H'):OpsX EE all true (o::os) i ⟨n,false,t⟩ H fr' H' :=
 OpsX.consD (by simp only [wantedA,hg]) hx (.inr hf) (by simp only [putA,ho,hn,cond_true]) h
end
theorem of_write {fr:Fr} {o:Oper} {H:AH} {b:Nat} {k:ABlk} {x:AObj} (h:aop EE fr o H=some (.skip,H.write b k x)):ExecX EE fr o H (.tuple #[]) (H.write b k x):=.of_skip (Nat.le_refl _) h
theorem nt_self {b:Nat}:NoTup (self b):=fun _ h=>by cases h
theorem nt_sl {a:Option Addr} {n c:Nat}:NoTup (.slice a n c):=fun _ h=>by cases h
theorem bfS:(EE.types.get 9).map (·.desc)=some .string:=by kernel_rfl
theorem bfB:(match EE.types.get 108,EE.types.get 158,EE.types.get 5 with
  | some { desc:=.slice 5,.. },some { desc:=.pointer 5,.. },some e=>Nat.beq e.size 1 && Nat.beq e.bytes 1 && e.zero.isSome
  | _,_,_=>false)=true:=by kernel_rfl
theorem bst9:∃ xi,EE.types.get 9=some xi∧xi.desc=.string:=by
 have h:=bfS
 cases h1:EE.types.get 9 with
 | none=>rw [h1] at h; cases h
 | some xi =>
  rw [h1] at h
  exact ⟨xi,rfl,Option.some.inj h⟩
theorem bty8:(∃ sz bt z ag,EE.types.get 108=some ⟨.slice 5,sz,bt,z,ag⟩)∧(∃ sz bt z ag,EE.types.get 158=some ⟨.pointer 5,sz,bt,z,ag⟩)∧∃ e z,EE.types.get 5=some e∧e.size=1∧e.bytes=1∧e.zero=some z:=by
 have h:=bfB
 split at h
 ·
  rename_i a1 a2 a3 a4 b1 b2 b3 b4 e h1 h2 h3
  simp only [Bool.and_eq_true] at h
  obtain ⟨z,hz⟩:=Option.isSome_iff_exists.1 h.2
  exact ⟨⟨_,_,_,_,h1⟩,⟨_,_,_,_,h2⟩,e,z,h3,Nat.eq_of_beq_eq_true h.1.1,Nat.eq_of_beq_eq_true h.1.2,hz⟩
 ·
  cases h
section
variable {H:AH} {b rt:Nat} {p s:Value}
theorem c90n (hb:H.blocks.get b=some ⟨.cells [.pointer none,s] 110,rt,true⟩):CallOK EE 90 [self b] H (.tuple ⟨[]⟩) (H.write b ⟨.cells [.pointer none,s] 110,rt,true⟩ (.cells [self b,s] 110)):=by
 refine CodeX.call (fn:=Tryz.f90) (c:=bodyOf Tryz.f90) (e:=.normal) (fr':=?fr) he x90 rfl ?h (.inl rfl) ?r
 case h =>
  show CodeX EE _ ⟨20,false,T.ofList .leaf 0 [self b]⟩ H _ _ _
  refine CodeX.seq (fr1:=?f) (H1:=?H) ?a ?b
  case a =>
   refine CodeX.region he ?_
   refine k_op (.of_val (Nat.le_refl _) (ax_move rfl rfl)) rfl rfl rfl ?_
   refine k_op (.of_val (Nat.le_refl _) (ax_nil rfl rfl)) rfl rfl rfl ?_
   refine k_op (.of_val (Nat.le_refl _) (ax_fld fl0 rfl rfl)) rfl rfl rfl ?_
   refine k_op (.of_val (Nat.le_refl _) (ax_load ce7 rfl rfl hb rfl)) rfl rfl rfl ?_
   refine k_op (.of_val (Nat.le_refl _) (ax_bin rfl rfl rfl bn0)) rfl rfl rfl ?_
   exact .nil
  case b =>
   refine CodeX.condT he rfl ?_
   refine CodeX.region he ?_
   refine k_op (.of_val (Nat.le_refl _) (ax_move rfl rfl)) rfl rfl rfl ?_
   refine k_op (.of_val (Nat.le_refl _) (ax_move rfl rfl)) rfl rfl rfl ?_
   refine k_op (.of_val (Nat.le_refl _) (ax_view1 pt7 un2 rfl rfl hb)) rfl rfl rfl ?_
   refine k_op (.of_val (Nat.le_refl _) (ax_row no7 Tryz.func107 nm7 rfl rfl rfl rfl)) rfl rfl rfl ?_
   refine k_op (.of_val (Nat.le_refl _) (ax_view2 un2 pt7 sz2 rfl rfl hb)) rfl rfl rfl ?_
   refine k_op (.of_val (Nat.le_refl _) (ax_nil rfl rfl)) rfl rfl rfl ?_
   refine k_op (.of_val (Nat.le_refl _) (ax_fld fl0 rfl rfl)) rfl rfl rfl ?_
   refine k_st (of_write (ax_store ce7 rfl rfl rfl (nt_self (b:=b)) rfl hb rfl)) rfl rfl ?_
   exact .nil
 case r=>rfl
theorem c90s (hb:H.blocks.get b=some ⟨.cells [self b,s] 110,rt,true⟩):CallOK EE 90 [self b] H (.tuple ⟨[]⟩) H:=by
 refine CodeX.call (fn:=Tryz.f90) (c:=bodyOf Tryz.f90) (e:=.normal) (fr':=?fr) he x90 rfl ?h (.inl rfl) ?r
 case h =>
  show CodeX EE _ ⟨20,false,T.ofList .leaf 0 [self b]⟩ H _ _ _
  refine CodeX.seq (fr1:=?f) (H1:=?H) ?a ?b
  case a =>
   refine CodeX.region he ?_
   refine k_op (.of_val (Nat.le_refl _) (ax_move rfl rfl)) rfl rfl rfl ?_
   refine k_op (.of_val (Nat.le_refl _) (ax_nil rfl rfl)) rfl rfl rfl ?_
   refine k_op (.of_val (Nat.le_refl _) (ax_fld fl0 rfl rfl)) rfl rfl rfl ?_
   refine k_op (.of_val (Nat.le_refl _) (ax_load ce7 rfl rfl hb rfl)) rfl rfl rfl ?_
   refine k_op (.of_val (Nat.le_refl _) (ax_bin rfl rfl rfl (bin_nil pt7))) rfl rfl rfl ?_
   exact .nil
  case b =>
   refine CodeX.condF he rfl ?_
   refine CodeX.seq (fr1:=?f2) (H1:=?H2) ?c ?d
   case c =>
    refine CodeX.region he ?_
    refine k_op (.of_val (Nat.le_refl _) (ax_move rfl rfl)) rfl rfl rfl ?_
    refine k_op (.of_val (Nat.le_refl _) (ax_nil rfl rfl)) rfl rfl rfl ?_
    refine k_op (.of_val (Nat.le_refl _) (ax_fld fl0 rfl rfl)) rfl rfl rfl ?_
    refine k_op (.of_val (Nat.le_refl _) (ax_load ce7 rfl rfl hb rfl)) rfl rfl rfl ?_
    refine k_op (.of_val (Nat.le_refl _) (ax_move rfl rfl)) rfl rfl rfl ?_
    refine k_op (.of_val (Nat.le_refl _) (ax_bin rfl rfl rfl (bin_self pt7))) rfl rfl rfl ?_
    exact .nil
   case d =>
    refine CodeX.condF he rfl ?_
    exact .skip
 case r=>rfl
theorem c51 {x:ByteArray} {Hx:AH} {v:Value} {H2:AH} (hc:CallOK EE 90 [self b] H (.tuple ⟨[]⟩) Hx) (hn0:Hx.next=H.next) (hb:Hx.up.blocks.get b=some ⟨.cells [self b,s] 110,rt,true⟩) (ha:appendA EE Hx.up [108,9] s (.string x)=some (.val v,H2))
  (hk:H2.blocks.get b=some ⟨.cells [self b,s] 110,rt,true⟩) (hn:Hx.up.next≤H2.next) (hnt:NoTup v) (hcl:v.cells.toList=[v]) :
  CallOK EE 51 [self b,.string x] H (.tuple ⟨[goInt x.size,.nilIface]⟩) (H2.write b ⟨.cells [self b,s] 110,rt,true⟩ (.cells [self b,v] 110)):=by
 obtain ⟨xi,h91,h92⟩:=bst9
 have hl:∀ Hz,lenB EE Hz (9::[]) (.string x)=some (goInt x.size):=fun Hz=>by simp only [lenB,h91,h92]
 refine CodeX.call (fn:=Tryz.f51) (c:=bodyOf Tryz.f51) (e:=.ret) (fr':=?fr) he x51 rfl ?h (.inr rfl) ?r
 case h =>
  show CodeX EE _ ⟨19,false,T.ofList .leaf 0 [self b,.string x]⟩ H _ _ _
  refine CodeX.seq (fr1:=?f) (H1:=?H) ?a ?b
  case a =>
   refine CodeX.region he ?_
   refine k_op (.of_val (Nat.le_refl _) (ax_assign rfl rfl)) rfl rfl rfl ?_
   refine k_op (.of_val (Nat.le_refl _) (ax_assign rfl rfl)) rfl rfl rfl ?_
   exact .nil
  case b =>
   refine CodeX.seq (fr1:=?f2) (H1:=?H2) ?c ?d
   case c =>
    refine CodeX.region he ?_
    refine k_op (.of_val (Nat.le_refl _) (ax_move rfl rfl)) rfl rfl rfl ?_
    refine k_op (.of_call (ax_call x90 rfl rfl rfl rfl) hc.raise (by show H.next < Hx.next+1; omega)) rfl rfl rfl ?_
    exact .nil
   case d =>
    refine CodeX.seq (fr1:=?f3) (H1:=?H3) ?e ?g
    case e =>
     refine CodeX.region he ?_
     refine k_op (.of_val (Nat.le_refl _) (ax_move rfl rfl)) rfl rfl rfl ?_
     refine k_op (.of_val (Nat.le_refl _) (ax_move rfl rfl)) rfl rfl rfl ?_
     refine k_op (.of_val (Nat.le_refl _) (ax_nil rfl rfl)) rfl rfl rfl ?_
     refine k_op (.of_val (Nat.le_refl _) (ax_fld fl1 rfl rfl)) rfl rfl rfl ?_
     refine k_op (.of_val (Nat.le_refl _) (ax_load ce8 rfl rfl hb rfl)) rfl rfl rfl ?_
     refine k_op (.of_val (Nat.le_refl _) (ax_move rfl rfl)) rfl rfl rfl ?_
     refine k_op (.of_val hn (ax_app rfl rfl rfl rfl ha)) rfl rfl rfl ?_
     refine k_op (.of_val (Nat.le_refl _) (ax_nil rfl rfl)) rfl rfl rfl ?_
     refine k_op (.of_val (Nat.le_refl _) (ax_fld fl1 rfl rfl)) rfl rfl rfl ?_
     refine k_st (of_write (ax_store ce8 rfl rfl rfl hnt hcl hk rfl)) rfl rfl ?_
     exact .nil
    case g =>
     refine CodeX.seq (fr1:=?f4) (H1:=?H4) ?i ?j
     case i =>
      refine CodeX.region he ?_
      refine k_op (.of_val (Nat.le_refl _) (ax_move rfl rfl)) rfl rfl rfl ?_
      refine k_op (.of_val (Nat.le_refl _) (ax_len rfl rfl rfl rfl (hl _))) rfl rfl rfl ?_
      refine k_op (.of_val (Nat.le_refl _) (ax_assign rfl rfl)) rfl rfl rfl ?_
      refine k_op (.of_val (Nat.le_refl _) (ax_assign rfl rfl)) rfl rfl rfl ?_
      exact .nil
     case j=>exact .ret
 case r=>rfl
theorem us1 {Hz:AH} {B1 n r:Nat} {cs vs:List Value} {l:List UInt8} (h1:1≤n) (h2:n≤1000000000) (hB:Hz.blocks.get B1=some ⟨.cells cs 5,r,true⟩) (ht:take? cs n=some vs) (hl:bytesA vs=some l) :
  unsafeStringA EE Hz (158::[3]) (.pointer (some ⟨B1,0,none⟩)) (goInt n)=some (.val (.string ⟨⟨l⟩⟩),{ blocks:=Hz.blocks.put B1 none,next:=Hz.next,low:=Nat.min Hz.low r }):=by
 obtain ⟨_,⟨sz,bt,z,ag,h15⟩,e,z',h5,h6,_⟩:=bty8
 obtain ⟨m,rfl⟩:∃ m,n=m+1:=⟨n - 1,by omega⟩
 have hle:Nat.ble (m+1) 1000000000=true:=Nat.ble_eq_true_of_le h2
 have hb:Nat.beq 5 5=true:=rfl
 have hb1:Nat.beq 1 1=true:=rfl
 have hn:nat? (goInt ((m+1:Nat):Int))=some (m+1):=rfl
 unfold unsafeStringA
 simp only [hn,hB,bytesTyped,h15,h5,h6,hb,hb1,hle,Bool.and_self,cond_true,List.drop_zero,ht,hl,Option.map_some]
theorem c52n (hb:H.blocks.get b=some ⟨.cells [p,.slice none 0 0] 110,rt,true⟩) :
  ∃ Hx:AH,CallOK EE 52 [self b] H (.string .empty) Hx∧Hx.blocks=H.blocks∧Hx.next=H.next∧Nat.min H.low H.next≤Hx.low:=by
 obtain ⟨⟨sz,bt,z,ag,h81⟩,_⟩:=bty8
 have hl:∀ Hz,lenB EE Hz (108::[]) (.slice none 0 0)=some (goInt 0):=fun Hz=>by simp only [lenB,h81]; rfl
 refine ⟨?Hx,?call,?r⟩
 case call =>
  refine CodeX.call (fn:=Tryz.f52) (c:=bodyOf Tryz.f52) (e:=.ret) (fr':=?fr) he x52 rfl ?h (.inr rfl) ?r2
  case h =>
   show CodeX EE _ ⟨14,false,T.ofList .leaf 0 [self b]⟩ H _ _ _
   refine CodeX.seq (fr1:=?f) (H1:=?H) ?a ?b
   case a =>
    refine CodeX.region he ?_
    refine k_op (.of_val (Nat.le_refl _) (ax_assign rfl rfl)) rfl rfl rfl ?_
    exact .nil
   case b =>
    refine CodeX.seq (fr1:=?f2) (H1:=?H2) ?c ?d
    case c =>
     refine CodeX.region he ?_
     show OpsX EE _ true _ _ _ (itH H 0) _ _
     refine k_dr (ax_move rfl rfl) rfl rfl rfl ?_
     refine k_dr (ax_nil rfl rfl) rfl rfl rfl ?_
     refine k_dr (ax_fld fl1 rfl rfl) rfl rfl rfl ?_
     refine k_dr (ax_load ce8 rfl rfl (gb (hb)) rfl) rfl rfl rfl ?_
     refine k_dr (ax_data rfl rfl rfl (.inl ⟨_,_,rfl,rfl⟩)) rfl rfl rfl ?_
     refine k_dr (ax_move rfl rfl) rfl rfl rfl ?_
     refine k_dr (ax_nil rfl rfl) rfl rfl rfl ?_
     refine k_dr (ax_fld fl1 rfl rfl) rfl rfl rfl ?_
     refine k_dr (ax_load ce8 rfl rfl (gb (hb)) rfl) rfl rfl rfl ?_
     refine k_dr (ax_len rfl rfl rfl rfl (hl _)) rfl rfl rfl ?_
     refine k_dr (ax_str rfl rfl rfl rfl rfl) rfl rfl rfl ?_
     refine k_dr (ax_assign rfl rfl) rfl rfl rfl ?_
     exact .nil
    case d=>exact .ret
  case r2=>rfl
 case r =>
  exact ⟨it_b _ _,it_n _ _,it_l _ _⟩
theorem c52s {B1 n cap r:Nat} {cs vs:List Value} {l:List UInt8} (hb:H.blocks.get b=some ⟨.cells [p,.slice (some ⟨B1,0,none⟩) n cap] 110,rt,true⟩)
  (h1:1≤n) (h2:n≤1000000000) (hB:H.blocks.get B1=some ⟨.cells cs 5,r,true⟩) (ht:take? cs n=some vs) (hbl:bytesA vs=some l) :
  ∃ Hx:AH,CallOK EE 52 [self b] H (.string ⟨⟨l⟩⟩) Hx∧Hx.blocks=H.blocks.put B1 none∧Hx.next=H.next∧Nat.min (Nat.min H.low H.next) r≤Hx.low:=by
 obtain ⟨⟨sz,bt,z,ag,h81⟩,_⟩:=bty8
 have hl:∀ Hz,lenB EE Hz (108::[]) (.slice (some ⟨B1,0,none⟩) n cap)=some (goInt n):=fun Hz=>by simp only [lenB,h81]
 refine ⟨?Hx,?call,?r⟩
 case call =>
  refine CodeX.call (fn:=Tryz.f52) (c:=bodyOf Tryz.f52) (e:=.ret) (fr':=?fr) he x52 rfl ?h (.inr rfl) ?r2
  case h =>
   show CodeX EE _ ⟨14,false,T.ofList .leaf 0 [self b]⟩ H _ _ _
   refine CodeX.seq (fr1:=?f) (H1:=?H) ?a ?b
   case a =>
    refine CodeX.region he ?_
    refine k_op (.of_val (Nat.le_refl _) (ax_assign rfl rfl)) rfl rfl rfl ?_
    exact .nil
   case b =>
    refine CodeX.seq (fr1:=?f2) (H1:=?H2) ?c ?d
    case c =>
     refine CodeX.region he ?_
     show OpsX EE _ true _ _ _ (itH H 0) _ _
     refine k_dr (ax_move rfl rfl) rfl rfl rfl ?_
     refine k_dr (ax_nil rfl rfl) rfl rfl rfl ?_
     refine k_dr (ax_fld fl1 rfl rfl) rfl rfl rfl ?_
     refine k_dr (ax_load ce8 rfl rfl (gb (hb)) rfl) rfl rfl rfl ?_
     refine k_dr (ax_data rfl rfl rfl (.inr ⟨_,_,_,rfl,h1,rfl⟩)) rfl rfl rfl ?_
     refine k_dr (ax_move rfl rfl) rfl rfl rfl ?_
     refine k_dr (ax_nil rfl rfl) rfl rfl rfl ?_
     refine k_dr (ax_fld fl1 rfl rfl) rfl rfl rfl ?_
     refine k_dr (ax_load ce8 rfl rfl (gb (hb)) rfl) rfl rfl rfl ?_
     refine k_dr (ax_len rfl rfl rfl rfl (hl _)) rfl rfl rfl ?_
     refine k_df (.of_val ?n (ax_str rfl rfl rfl rfl (us1 h1 h2 (gb hB) ht hbl))) (by decide +kernel) rfl rfl rfl ?_
     case n=>exact Nat.le_refl _
     refine k_dr (ax_assign rfl rfl) rfl rfl rfl ?_
     exact .nil
    case d=>exact .ret
  case r2=>rfl
 case r =>
  exact fin52 H B1 r 10 1
theorem hB:BldOK EE BB where
 wf:=⟨_,x51⟩
 sf:=⟨_,x52⟩
 tb:=by
  obtain ⟨⟨_,_,_,_,h⟩,_⟩:=bty8
  simp only [BB,isSlice,h]
 te:=by
  obtain ⟨_,_,e,z,h1,h2,h3,h4⟩:=bty8
  exact ⟨e,z,h1,h2,h3,h4⟩
 ts:=bst9
 wr:=by
  intro H b rt p s x H1 v H2 h1 h2 h3 h4 h5 ⟨a,l,c,hv⟩
  subst hv
  rcases h2 with ⟨rfl,rfl⟩ | ⟨rfl,rfl⟩
  ·
   exact c51 (c90n h1) rfl (by show (AH.write _ _ _ _).blocks.get _=_; rw [AH.get_write,if_pos rfl]) h3 h4 h5 nt_sl rfl
  ·
   exact c51 (c90s h1) rfl h1 h3 h4 h5 nt_sl rfl
 s0:=fun h=>c52n h
 s1:=fun h a b c d e=>c52s h a b c d e
end
end Go.Proofs.YtnemldklhelbeaaGreat
namespace Go.Proofs.YtnemldklhelbeaaGreat
open Go Go.Am Go.Proofs
def u60P:Nat→Pat
 | 1=>⟨[⟨.pure,false⟩,⟨.pure,true⟩,⟨.pure,false⟩,⟨.pure,false⟩,⟨.pure,false⟩],[(2,.v 0),(3,.loc 0 0),(4,.loc 1 0),(7,.loc 2 0),(8,.v 1)],[some (.whole (.v 2) 1),some (.whole (.v 3) 3),some (.whole (.v 4) 2)],[]⟩
 | 2=>⟨[⟨.pure,true⟩,⟨.pure,false⟩,⟨.pure,false⟩],[(3,.loc 0 0),(7,.loc 2 0),(9,.v 0)],[some (.whole (.v 1) 1),none,some (.whole (.v 2) 2)],[]⟩
 | _=>⟨[],[],[],[]⟩
def u60T0:Tree :=
 .bind (.chk true 1) [.v 0] <|
 .bind (.chk true 3) [.v 1] <|
 fl' 1 4 <|
 ir' 5 2 <|
 .bind (.elem 2 true 2 0) [.v 5,.v 2] <|
 .bind (.chk true 2) [.v 7] <|
 fl' 0 8 <|
 .call (.fn 61) [.v 9] 1 <|
 .bind (.un .not 4) [.v 10] <|
 it' 11 (
  rk' 3) (
  .jump 1 [.v 2,k' 0,.v 3,.v 4,.v 8])
def u60T1:Tree :=
 bt' .lss 19 20 1 0 <|
 it' 5 (
  fl' 1 3 <|
  ir' 6 1 <|
  el' 2 0 6 1 <|
  fl' 0 4 <|
  .bind (.bin .eql 9 (.tmp 29) (.tmp 31)) [.v 8,.v 9] <|
  it' 10 (
   rk' 8) (
   bk' .add 22 1 1 <|
   .jump 1 [.v 0,.v 11,.v 2,.v 3,.v 4])) (
  fl' 1 4 <|
  ln' 6 <|
  bk' .lss 35 1 7 <|
  it' 8 (
   rk' 19) (
   fl' 1 4 <|
   ln' 9 <|
   bk' .gtr 40 3 10 <|
   it' 11 (
    rk' 19) (
    .jump 2 [k' 0,.v 2,.v 4])))
def u60T2:Tree :=
 fl' 1 2 <|
 ln' 3 <|
 bt' .lss 43 46 0 4 <|
 it' 5 (
  fl' 1 2 <|
  ir' 6 0 <|
  el' 1 0 6 0 <|
  bk' .lss 54 1 8 <|
  it' 9 (
   rk' 19) (
   fl' 1 2 <|
   ir' 10 0 <|
   el' 1 0 10 0 <|
   fl' 0 1 <|
   ln' 13 <|
   bt' .gtr 61 64 12 14 <|
   it' 15 (
    rk' 19) (
    bk' .add 48 1 0 <|
    .jump 2 [.v 16,.v 1,.v 2]))) (
  rk' 0)
def u60Ts:Nat→Tree
 | 0=>u60T0
 | 1=>u60T1
 | 2=>u60T2
 | _=>.fail
theorem allO:(rt Tryz.f60 3 u60P,
 hd Tryz.f60 3 u60P,
 nr Tryz.f60) =
 (u60T0,[(1,u60T1),(2,u60T2)],false):=by kernel_rfl
theorem u60 {ds:List D} {d:D} (hn:ds.length=3) (h:Goes EE (Holds EE) u60Ts 0 ds d):Holds EE 60 ds d :=
 hu Tryz.func60 rfl ((Prod.mk.inj allO).1) ((Prod.mk.inj (nx1 allO)).1) ((nx1 (nx1 allO))) (tabC rfl <| tabC rfl <| tabN) hn h
end Go.Proofs.YtnemldklhelbeaaGreat
namespace Go.Proofs.YtnemldklhelbeaaGreat
open Go Go.Am Go.Proofs
def u7P:Nat→Pat
 | _=>⟨[],[],[],[]⟩
def u7T0:Tree :=
 .bind (.chk true 9) [.v 0] <|
 .bind (.chk true 1) [.v 1] <|
 .call (.fn 12) [.v 2] 1 <|
 .bind (.un .not 4) [.v 4] <|
 it' 5 (
  .call (.fn 9) [] 1 <|
  .ret [.v 6]) (
  .call (.fn 13) [.v 3] 1 <|
  .bind (.un .not 4) [.v 6] <|
  it' 7 (
   .call (.fn 9) [] 1 <|
   .ret [.v 8]) (
   .call (.fn 14) [.v 2,.v 3] 0 <|
   .bind (.ext 0) [.v 8] <|
   .bind (.ext 1) [.v 8] <|
   .call (.fn 16) [.v 2,.v 3] 2 <|
   .bind (.ext 0) [.v 11] <|
   .bind (.ext 1) [.v 11] <|
   .bind (.bin .neq 39 (.tmp 36) (K' 0)) [.v 10,k' 0] <|
   it' 14 (
    .bind (.bin .eql 39 (.tmp 38) (.tmp 39)) [.v 13,.v 10] <|
    it' 15 (
     .bind (.bin .eql 9 (.tmp 42) (.const (.string ⟨#[]⟩))) [.v 12,.c (.string ⟨#[]⟩)] <|
     it' 16 (
      .call (.fn 9) [] 1 <|
      .ret [.v 17]) (
      rb' false)) (
     rb' false)) (
    .bind (.fld true 3 1) [.v 2] <|
    .call (.fn 25) [.v 15,.v 9] 2 <|
    .bind (.ext 0) [.v 16] <|
    .bind (.ext 1) [.v 16] <|
    .bind (.ext 2) [.v 16] <|
    .bind (.fld true 3 1) [.v 2] <|
    .call (.fn 26) [.v 20,.v 12] 0 <|
    .bind (.ext 0) [.v 21] <|
    .bind (.ext 1) [.v 21] <|
    .bind (.ext 2) [.v 21] <|
    .bind (.bin .eql 9 (.tmp 64) (.tmp 65)) [.v 12,.v 17] <|
    it' 25 (
     .bind (.bin .eql 39 (.tmp 68) (.tmp 69)) [.v 13,.v 19] <|
     it' 26 (
      .bind (.fld true 3 1) [.v 2] <|
      .call (.fn 27) [.v 27,.v 9] 1 <|
      .bind (.un .not 4) [.v 28] <|
      it' 29 (
       .call (.fn 9) [] 1 <|
       .ret [.v 30]) (
       .bind (.bin .eql 39 (.tmp 79) (K' 0)) [.v 24,k' 0] <|
       it' 30 (
        .call (.fn 20) [.v 22,.v 9] 1 <|
        it' 31 (
         .call (.fn 9) [] 1 <|
         .ret [.v 32]) (
         rb' false)) (
        rb' false))) (
      rb' false)) (
     rb' false))))
def u7Ts:Nat→Tree
 | 0=>u7T0
 | _=>.fail
def u16P:Nat→Pat
 | _=>⟨[],[],[],[]⟩
def u16T0:Tree :=
 .bind (.chk true 9) [.v 0] <|
 .bind (.chk true 1) [.v 1] <|
 .call (.fn 14) [.v 2,.v 3] 0 <|
 .bind (.ext 0) [.v 4] <|
 .bind (.ext 1) [.v 4] <|
 .bind (.bin .neq 39 (.tmp 16) (K' 0)) [.v 6,k' 0] <|
 it' 7 (
  .ret [.c (.string ⟨#[]⟩),.v 6]) (
  .bind (.fld true 3 1) [.v 2] <|
  .call (.fn 25) [.v 8,.v 5] 2 <|
  .bind (.ext 0) [.v 9] <|
  .bind (.ext 1) [.v 9] <|
  .bind (.ext 2) [.v 9] <|
  .ret [.v 10,.v 12])
def u16Ts:Nat→Tree
 | 0=>u16T0
 | _=>.fail
def u50P:Nat→Pat
 | 1=>⟨[⟨.pure,false⟩,⟨.pure,true⟩,⟨.pure,true⟩,⟨.pure,true⟩,⟨.pure,true⟩,⟨.pure,false⟩],[(1,.v 0),(2,.loc 0 0),(5,.v 1),(9,.v 2),(10,.v 3),(11,.v 4)],[some (.whole (.v 5) 3)],[]⟩
 | _=>⟨[],[],[],[]⟩
def u50T0:Tree :=
 .bind (.chk true 3) [.v 0] <|
 fl' 1 2 <|
 ln' 3 <|
 .jump 1 [.v 1,.c (.int .i64 (-1)),.v 3,.v 4,k' 0,.v 2]
def u50T1:Tree :=
 bt' .lss 11 10 4 3 <|
 it' 6 (
  ir' 2 4 <|
  .bind (.elem 2 true 2 0) [.v 2,.v 4] <|
  .bind (.chk true 2) [.v 8] <|
  fl' 1 9 <|
  ln' 10 <|
  ln' 0 <|
  bt' .gtr 18 20 11 12 <|
  it' 13 (
   bk' .add 11 1 4 <|
   .jump 1 [.v 0,.v 1,.v 2,.v 3,.v 14,.v 5]) (
   fl' 1 9 <|
   fl' 1 9 <|
   ln' 15 <|
   .bind (.slc 3 1 false true) [.v 0,.v 16] <|
   .call (.fn 54) [.v 14,.v 17] 1 <|
   .bind (.un .not 4) [.v 18] <|
   it' 19 (
    bk' .add 11 1 4 <|
    .jump 1 [.v 0,.v 1,.v 2,.v 3,.v 20,.v 5]) (
    bk' .lss 33 0 1 <|
    it' 20 (
     bk' .add 11 1 4 <|
     .jump 1 [.v 0,.v 4,.v 2,.v 3,.v 21,.v 5]) (
     fl' 1 9 <|
     ln' 21 <|
     fl' 1 5 <|
     ir' 23 1 <|
     el' 2 1 23 1 <|
     ln' 25 <|
     bt' .gtr 38 45 22 26 <|
     it' 27 (
      bk' .add 11 1 4 <|
      .jump 1 [.v 0,.v 4,.v 2,.v 3,.v 28,.v 5]) (
      bk' .add 11 1 4 <|
      .jump 1 [.v 0,.v 1,.v 2,.v 3,.v 28,.v 5]))))) (
  .ret [.v 1])
def u50Ts:Nat→Tree
 | 0=>u50T0
 | 1=>u50T1
 | _=>.fail
def u54P:Nat→Pat
 | 1=>⟨[⟨.pure,false⟩,⟨.pure,false⟩,⟨.pure,true⟩,⟨.pure,true⟩],[(0,.v 0),(1,.v 1),(12,.v 2),(13,.v 3)],[],[]⟩
 | _=>⟨[],[],[],[]⟩
def u54T0:Tree :=
 ln' 0 <|
 ln' 1 <|
 bt' .neq 7 9 2 3 <|
 it' 4 (
  rb' false) (
  ln' 0 <|
  .jump 1 [.v 0,.v 1,.v 5,k' 0])
def u54T1:Tree :=
 bt' .lss 13 12 3 2 <|
 it' 4 (
  ir' 0 3 <|
  el' 1 0 0 3 <|
  ir' 1 3 <|
  el' 1 0 1 3 <|
  bt' .neq 19 23 6 8 <|
  it' 9 (
   rb' false) (
   bk' .add 13 1 3 <|
   .jump 1 [.v 0,.v 1,.v 2,.v 10])) (
  rb' true)
def u54Ts:Nat→Tree
 | 0=>u54T0
 | 1=>u54T1
 | _=>.fail
def u25P:Nat→Pat
 | 1=>⟨[⟨.pure,false⟩,⟨.pure,true⟩,⟨.pure,false⟩,⟨.fresh,true⟩],[(1,.v 0),(2,.loc 0 0),(7,.loc 1 0),(8,.v 1)],[some (.whole (.v 2) 3),some (.tcells 110 [.v 3])],[]⟩
 | _=>⟨[],[],[],[]⟩
def u25T0:Tree :=
 .bind (.chk true 3) [.v 0] <|
 ln' 1 <|
 bk' .eql 11 0 3 <|
 it' 4 (
  .ret [.c (.string ⟨#[]⟩),k' 0,k' 4]) (
  ln' 1 <|
  bk' .gtr 14 24 5 <|
  it' 6 (
   .ret [.c (.string ⟨#[]⟩),k' 0,k' 5]) (
   .jump 1 [.v 1,k' 0,.v 2,.c (.slice none 0 0)]))
def u25T1:Tree :=
 ln' 0 <|
 bt' .lss 16 18 1 4 <|
 it' 5 (
  .bind (.slc 3 1 true false) [.v 0,.v 1] <|
  .call (.fn 50) [.v 2,.v 6] 1 <|
  bk' .lss 25 0 7 <|
  it' 8 (
   .ret [.c (.string ⟨#[]⟩),.v 1,k' 20]) (
   fl' 1 2 <|
   ir' 9 7 <|
   el' 2 0 9 7 <|
   .bind (.len true) [.v 11] <|
   .bind (.apps 5 1) [.v 3,.v 11] <|
   fl' 1 2 <|
   ir' 14 7 <|
   el' 2 1 14 7 <|
   ln' 16 <|
   bt' .add 35 42 1 17 <|
   .jump 1 [.v 0,.v 18,.v 2,.v 13])) (
  .bind (.bld 5) [.v 3] <|
  .ret [.v 6,k' 0,k' 0])
def u25Ts:Nat→Tree
 | 0=>u25T0
 | 1=>u25T1
 | _=>.fail
noncomputable def u25Z:Nat→Nat:=fun _=>Nat.max Tryz.f25.ntmps 2
def u26P:Nat→Pat
 | 1=>⟨[⟨.fresh,true⟩,⟨.pure,false⟩,⟨.pure,true⟩,⟨.pure,true⟩,⟨.pure,false⟩],[(2,.loc 0 0),(9,.v 0),(25,.v 1),(26,.v 2),(27,.v 3)],[some (.whole (.v 4) 3)],[]⟩
 | _=>⟨[],[],[],[]⟩
def u26T0:Tree :=
 .bind (.chk true 3) [.v 0] <|
 .bind (.bin .eql 9 (.tmp 12) (.const (.string ⟨#[]⟩))) [.v 1,.c (.string ⟨#[]⟩)] <|
 it' 3 (
  .ret [.c (.slice none 0 0),k' 0,k' 4]) (
  .call (.fn 53) [.v 2,.v 1] 0 <|
  .bind (.ext 0) [.v 4] <|
  .bind (.ext 1) [.v 4] <|
  .bind (.len true) [.v 1] <|
  bt' .lss 20 22 6 7 <|
  it' 8 (
   .ret [.c (.slice none 0 0),.v 6,k' 20]) (
   ln' 5 <|
   .jump 1 [.c (.slice none 0 0),.v 5,.v 9,k' 0,.v 2]))
def u26T1:Tree :=
 bt' .lss 27 26 3 2 <|
 it' 5 (
  ir' 1 3 <|
  el' 1 0 1 3 <|
  fl' 1 4 <|
  ir' 8 7 <|
  el' 2 1 8 7 <|
  .bind (.app 3 1 8) [.v 0,.v 10] <|
  bk' .add 27 1 3 <|
  .jump 1 [.v 11,.v 1,.v 2,.v 12,.v 4]) (
  ln' 0 <|
  bk' .gtr 41 24 6 <|
  it' 7 (
   .ret [.c (.slice none 0 0),k' 0,k' 5]) (
   .ret [.v 0,k' 0,k' 0]))
def u26Ts:Nat→Tree
 | 0=>u26T0
 | 1=>u26T1
 | _=>.fail
def u27P:Nat→Pat
 | _=>⟨[],[],[],[]⟩
def u27T0:Tree :=
 .bind (.chk true 3) [.v 0] <|
 .call (.fn 25) [.v 2,.v 1] 2 <|
 .bind (.ext 0) [.v 3] <|
 .bind (.ext 1) [.v 3] <|
 .bind (.ext 2) [.v 3] <|
 .bind (.bin .neq 39 (.tmp 18) (K' 0)) [.v 6,k' 0] <|
 it' 7 (
  rb' false) (
  .call (.fn 26) [.v 2,.v 4] 0 <|
  .bind (.ext 0) [.v 8] <|
  .bind (.ext 1) [.v 8] <|
  .bind (.ext 2) [.v 8] <|
  .bind (.bin .eql 39 (.tmp 27) (K' 0)) [.v 11,k' 0] <|
  it' 12 (
   .call (.fn 54) [.v 9,.v 1] 1 <|
   .ret [.v 13]) (
   rb' false))
def u27Ts:Nat→Tree
 | 0=>u27T0
 | _=>.fail
def u53P:Nat→Pat
 | 1=>⟨[⟨.pure,false⟩,⟨.pure,true⟩,⟨.pure,true⟩,⟨.pure,true⟩,⟨.pure,true⟩,⟨.pure,false⟩],[(1,.v 0),(2,.loc 0 0),(6,.v 1),(15,.v 2),(16,.v 3),(17,.v 4)],[some (.whole (.v 5) 3)],[]⟩
 | 2=>⟨[⟨.pure,false⟩,⟨.pure,true⟩,⟨.fresh,true⟩,⟨.pure,true⟩,⟨.pure,false⟩],[(1,.v 0),(2,.loc 0 0),(6,.v 1),(9,.v 2),(10,.v 3)],[some (.whole (.v 4) 3)],[]⟩
 | 3=>⟨[⟨.pure,false⟩,⟨.pure,true⟩,⟨.fresh,true⟩,⟨.pure,true⟩,⟨.pure,true⟩,⟨.pure,false⟩],[(1,.v 0),(2,.loc 0 0),(6,.v 1),(9,.v 2),(10,.v 3),(11,.v 4)],[some (.whole (.v 5) 3)],[]⟩
 | 4=>⟨[⟨.pure,false⟩,⟨.pure,true⟩,⟨.fresh,true⟩,⟨.pure,true⟩,⟨.pure,true⟩,⟨.pure,true⟩,⟨.pure,true⟩,⟨.pure,true⟩,⟨.pure,false⟩],[(1,.v 0),(2,.loc 0 0),(6,.v 1),(9,.v 2),(10,.v 3),(11,.v 4),(42,.v 5),(43,.v 6),(44,.v 7)],[some (.whole (.v 8) 3)],[]⟩
 | _=>⟨[],[],[],[]⟩
def u53T0:Tree :=
 .bind (.chk true 3) [.v 0] <|
 fl' 1 2 <|
 ln' 3 <|
 .jump 1 [.v 1,k' 0,.v 3,.v 4,k' 0,.v 2]
def u53T1:Tree :=
 bt' .lss 17 16 4 3 <|
 it' 6 (
  ir' 2 4 <|
  .bind (.elem 2 true 2 0) [.v 2,.v 4] <|
  .bind (.chk true 2) [.v 8] <|
  fl' 0 9 <|
  .bind (.len true) [.v 10] <|
  .bind (.mm true) [.v 1,.v 11] <|
  bk' .add 17 1 4 <|
  .jump 1 [.v 0,.v 12,.v 2,.v 3,.v 13,.v 5]) (
  .jump 2 [.v 0,.v 1,.c (.slice none 0 0),k' 0,.v 5])
def u53T2:Tree :=
 .bind (.len true) [.v 0] <|
 bt' .lss 27 29 3 5 <|
 it' 6 (
  .bind (.len true) [.v 0] <|
  bt' .sub 33 34 7 3 <|
  .bind (.mm false) [.v 1,.v 8] <|
  .jump 3 [.v 0,.v 1,.v 2,.v 3,.v 9,.v 4]) (
  .ret [.v 2,.v 3])
def u53T3:Tree :=
 bk' .gtr 37 0 4 <|
 it' 6 (
  fl' 1 5 <|
  ln' 7 <|
  .jump 4 [.v 0,.v 1,.v 2,.v 3,.v 4,.v 7,.v 8,k' 0,.v 5]) (
  .ret [.v 2,.v 3])
def u53T4:Tree :=
 bt' .lss 44 43 7 6 <|
 it' 9 (
  ir' 5 7 <|
  .bind (.elem 2 true 2 0) [.v 5,.v 7] <|
  .bind (.chk true 2) [.v 11] <|
  fl' 0 12 <|
  bt' .add 53 54 3 4 <|
  .bind (.sub true true) [.v 0,.v 3,.v 14] <|
  .bind (.bin .eql 9 (.tmp 50) (.tmp 56)) [.v 13,.v 15] <|
  it' 16 (
   .bind (.chk false 1) [.v 7] <|
   .bind (.lit 3 1) [.v 7] <|
   .bind (.app 3 1 8) [.v 2,.v 18] <|
   bt' .add 62 63 3 4 <|
   .jump 2 [.v 0,.v 1,.v 19,.v 20,.v 8]) (
   bk' .add 44 1 7 <|
   .jump 4 [.v 0,.v 1,.v 2,.v 3,.v 4,.v 5,.v 6,.v 17,.v 8])) (
  bk' .sub 39 1 4 <|
  .jump 3 [.v 0,.v 1,.v 2,.v 3,.v 10,.v 8])
def u53Ts:Nat→Tree
 | 0=>u53T0
 | 1=>u53T1
 | 2=>u53T2
 | 3=>u53T3
 | 4=>u53T4
 | _=>.fail
theorem allS3:(rt Tryz.f7 2 u7P,
 hd Tryz.f7 2 u7P,
 nr Tryz.f7,
 rt Tryz.f16 2 u16P,
 hd Tryz.f16 2 u16P,
 nr Tryz.f16,
 rt Tryz.f50 2 u50P,
 hd Tryz.f50 2 u50P,
 nr Tryz.f50,
 rt Tryz.f54 2 u54P,
 hd Tryz.f54 2 u54P,
 nr Tryz.f54,
 sxH EE (fun k S=>jumpS (u25Z k) (u25P k) k S) (opB EE BB) noRG 1 (bodyOf Tryz.f25) (startS 2 (Nat.max Tryz.f25.ntmps 2)) (endK EE Tryz.f25.results.toList),
 headsH EE (fun k=>(u25P k).st (u25Z k)) (fun k S=>jumpS (u25Z k) (u25P k) k S) (opB EE BB) noRG (fun _ _ _ _=>[]) 1 (bodyOf Tryz.f25) (endK EE Tryz.f25.results.toList),
 nr Tryz.f25,
 rt Tryz.f26 2 u26P,
 hd Tryz.f26 2 u26P,
 nr Tryz.f26,
 rt Tryz.f27 2 u27P,
 hd Tryz.f27 2 u27P,
 nr Tryz.f27,
 rt Tryz.f53 2 u53P,
 hd Tryz.f53 2 u53P,
 nr Tryz.f53) =
 (u7T0,[],false,u16T0,[],false,u50T0,[(1,u50T1)],false,u54T0,[(1,u54T1)],false,u25T0,[(1,u25T1)],false,u26T0,[(1,u26T1)],false,u27T0,[],false,u53T0,[(1,u53T1),(2,u53T2),(3,u53T3),(4,u53T4)],false):=by kernel_rfl
theorem u7 {ds:List D} {d:D} (hn:ds.length=2) (h:Goes EE (Holds EE) u7Ts 0 ds d):Holds EE 7 ds d :=
 hu Tryz.func7 rfl ((Prod.mk.inj allS3).1) ((Prod.mk.inj (nx1 allS3)).1) ((Prod.mk.inj (nx1 (nx1 allS3))).1) (tabN) hn h
theorem u16 {ds:List D} {d:D} (hn:ds.length=2) (h:Goes EE (Holds EE) u16Ts 0 ds d):Holds EE 16 ds d :=
 hu Tryz.func16 rfl ((Prod.mk.inj (nx1 (nx1 (nx1 allS3)))).1) ((Prod.mk.inj (nx4 allS3)).1) ((Prod.mk.inj (nx1 (nx4 allS3))).1) (tabN) hn h
theorem u50 {ds:List D} {d:D} (hn:ds.length=2) (h:Goes EE (Holds EE) u50Ts 0 ds d):Holds EE 50 ds d :=
 hu Tryz.func50 rfl ((Prod.mk.inj (nx1 (nx1 (nx4 allS3)))).1) ((Prod.mk.inj (nx1 (nx1 (nx1 (nx4 allS3))))).1) ((Prod.mk.inj (nx4 (nx4 allS3))).1) (tabC rfl <| tabN) hn h
theorem u54 {ds:List D} {d:D} (hn:ds.length=2) (h:Goes EE (Holds EE) u54Ts 0 ds d):Holds EE 54 ds d :=
 hu Tryz.func54 rfl ((Prod.mk.inj (nx1 (nx4 (nx4 allS3)))).1) ((Prod.mk.inj (nx1 (nx1 (nx4 (nx4 allS3))))).1) ((Prod.mk.inj (nx1 (nx1 (nx1 (nx4 (nx4 allS3)))))).1) (tabC rfl <| tabN) hn h
theorem u25 {ds:List D} {d:D} (hn:ds.length=2) (h:Goes EE (Holds EE) u25Ts 0 ds d):Holds EE 25 ds d :=
 holdsB_of (B:=BB) (pats:=u25P) (szs:=u25Z) he hB (envFunc (c:=bodyOf Tryz.f25) Tryz.func25 rfl ((Prod.mk.inj (nx1 (nx1 (nx4 (nx4 (nx4 allS3)))))).1)) (c:=bodyOf Tryz.f25) rfl hn ((Prod.mk.inj (nx4 (nx4 (nx4 allS3)))).1) (by rw [(Prod.mk.inj (nx1 (nx4 (nx4 (nx4 allS3))))).1]; exact tabC rfl <| tabN) h
theorem u26 {ds:List D} {d:D} (hn:ds.length=2) (h:Goes EE (Holds EE) u26Ts 0 ds d):Holds EE 26 ds d :=
 hu Tryz.func26 rfl ((Prod.mk.inj (nx1 (nx1 (nx1 (nx4 (nx4 (nx4 allS3))))))).1) ((Prod.mk.inj (nx16 allS3)).1) ((Prod.mk.inj (nx1 (nx16 allS3))).1) (tabC rfl <| tabN) hn h
theorem u27 {ds:List D} {d:D} (hn:ds.length=2) (h:Goes EE (Holds EE) u27Ts 0 ds d):Holds EE 27 ds d :=
 hu Tryz.func27 rfl ((Prod.mk.inj (nx1 (nx1 (nx16 allS3)))).1) ((Prod.mk.inj (nx1 (nx1 (nx1 (nx16 allS3))))).1) ((Prod.mk.inj (nx4 (nx16 allS3))).1) (tabN) hn h
theorem u53 {ds:List D} {d:D} (hn:ds.length=2) (h:Goes EE (Holds EE) u53Ts 0 ds d):Holds EE 53 ds d :=
 hu Tryz.func53 rfl ((Prod.mk.inj (nx1 (nx4 (nx16 allS3)))).1) ((Prod.mk.inj (nx1 (nx1 (nx4 (nx16 allS3))))).1) ((nx1 (nx1 (nx1 (nx4 (nx16 allS3)))))) (tabC rfl <| tabC rfl <| tabC rfl <| tabC rfl <| tabN) hn h
end Go.Proofs.YtnemldklhelbeaaGreat
namespace Go.Proofs.YtnemldklhelbeaaGreat
open Go Go.Am Go.Proofs
def y20P:Nat→Pat
 | 1=>⟨[⟨.pure,false⟩,⟨.pure,false⟩,⟨.pure,true⟩,⟨.pure,true⟩],[(0,.v 0),(1,.v 1),(12,.v 2),(13,.v 3)],[],[]⟩
 | _=>⟨[],[],[],[]⟩
def y20T0:Tree :=
 ln' 0 <|
 ln' 1 <|
 bt' .neq 7 9 2 3 <|
 it' 4 (
  rb' false) (
  ln' 0 <|
  .jump 1 [.v 0,.v 1,.v 5,k' 0])
def y20T1:Tree :=
 bt' .lss 13 12 3 2 <|
 it' 4 (
  ir' 0 3 <|
  el' 1 0 0 3 <|
  ir' 1 3 <|
  el' 1 0 1 3 <|
  bt' .neq 19 23 6 8 <|
  it' 9 (
   rb' false) (
   bk' .add 13 1 3 <|
   .jump 1 [.v 0,.v 1,.v 2,.v 10])) (
  rb' true)
def y20Ts:Nat→Tree
 | 0=>y20T0
 | 1=>y20T1
 | _=>.fail
theorem allZ:(rt Tryz.f20 2 y20P,
 hd Tryz.f20 2 y20P,
 nr Tryz.f20) =
 (y20T0,[(1,y20T1)],false):=by kernel_rfl
theorem y20 {ds:List D} {d:D} (hn:ds.length=2) (h:Goes EE (Holds EE) y20Ts 0 ds d):Holds EE 20 ds d :=
 hu Tryz.func20 rfl ((Prod.mk.inj allZ).1) ((Prod.mk.inj (nx1 allZ)).1) ((nx1 (nx1 allZ))) (tabC rfl <| tabN) hn h
end Go.Proofs.YtnemldklhelbeaaGreat
