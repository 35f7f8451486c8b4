/- The builder of texts, in the seat's program. Conditions: none. -/
import Derived.Test.YtnemldklhelbeaaGreatJa
import Derived.Test.YtnemldklhelbeaaGreatSx7
set_option linter.unusedVariables false
set_option linter.unusedSimpArgs false
namespace Go.Proofs.YtnemldklhelbeaaGreat
open Go Go.Am Go.Proofs
def BB:Bld:=⟨51,52,110,108,5,9,1⟩
theorem qRf:(qAn EE 110 0 107 0,qAn EE 110 1 108 1,lN EE 107,lN EE 108,isPtr EE 107 110,qB8 EE 172,tL EE 110 2,(EE.funcs.get 107).isNone)=(true,true,true,true,true,true,true,true):=by kernel_rfl
theorem qV2:qAn EE 110 0 107 0=true:=(pI qRf).1
theorem qXo:qAn EE 110 1 108 1=true:=(pI (pI qRf).2).1
theorem qV4:lN EE 107=true:=(pI (pI (pI qRf).2).2).1
theorem qXy:lN EE 108=true:=(pI (pI (pI (pI qRf).2).2).2).1
theorem qVV:isPtr EE 107 110=true:=(pI (pI (pI (pI (pI qRf).2).2).2).2).1
theorem qXO:qB8 EE 172=true:=(pI (pI (pI (pI (pI (pI qRf).2).2).2).2).2).1
theorem qDC:tL EE 110 2=true:=(pI (pI (pI (pI (pI (pI (pI qRf).2).2).2).2).2).2).1
theorem qZp:EE.funcs.get 107=none:=Option.isNone_iff_eq_none.1 (pI (pI (pI (pI (pI (pI (pI qRf).2).2).2).2).2).2).2
theorem qZq:(Tryz.f107.name == xK && Tryz.f107.body.isNone && (Extern.findNext Tryz.f107).isNone)=true:=by kernel_rfl
theorem qXI:(nr Tryz.f51,nr Tryz.f52,nr Tryz.f90)=(false,false,false):=by kernel_rfl
theorem qXN:EE.funcs.get 51=some Tryz.f51:=yI (c:=vP Tryz.f51) Tryz.func51 rfl (pI qXI).1
theorem qWa:EE.funcs.get 52=some Tryz.f52:=yI (c:=vP Tryz.f52) Tryz.func52 rfl (pI (pI qXI).2).1
theorem qV9:EE.funcs.get 90=some Tryz.f90:=yI (c:=vP Tryz.f90) Tryz.func90 rfl (pI (pI qXI).2).2
theorem zAf {x y:Operand}:yE EE .eql 107 x y (.pointer none) (.pointer none)=some (.bool true):=by
 have h:yE EE .eql 107 (.const (.int .i64 0)) (.const (.int .i64 0)) (.pointer none) (.pointer none)=some (.bool true):=by kernel_rfl
 exact h
section
variable {fr':Fr} {t:T Value} {o:Oper} {H H1 H':AH} {n d i:Nat} {v:Value} {all:Array Oper} {os:List Oper}
theorem qSl (hx:kW EE ⟨n,false,t⟩ o H v H1) (hg:o.guard=none) (ho:o.dst=some d) (hn:Nat.ble (d+1) n=true) (h:kV EE all false os (i+1) ⟨n,false,t.put d (some v)⟩ H1 fr' H'):kV EE all false (o::os) i ⟨n,false,t⟩ H fr' H' :=
 kV.cons (by simp only [jS,hg]) hx (by simp only [wR,ho,hn,cond_true]) h
theorem qW4 (hx:kW EE ⟨n,false,t⟩ o H v H1) (hg:o.guard=none) (ho:o.dst=none) (h:kV EE all false os (i+1) ⟨n,false,t⟩ H1 fr' H'):kV EE all false (o::os) i ⟨n,false,t⟩ H fr' H' :=
 kV.cons (by simp only [jS,hg]) hx (by simp only [wR,ho]) h
def qBE (H:AH):Nat->AH
 | 0=>H
 | n+1=>xA (qBE H n) (vW (qBE H n) []) []
theorem qLh (H:AH):∀ k,(qBE H k).blocks=H.blocks
 | 0=>rfl
 | k+1=>qLh H k
theorem qIE (H:AH):∀ k,(qBE H k).next=H.next
 | 0=>rfl
 | k+1=>qIE H k
theorem qNI (H:AH):∀ k,Nat.min H.low H.next<=(qBE H k).low
 | 0=>Nat.min_le_left _ _
 | k+1=>Nat.le_min.2 ⟨qNI H k,by show _<=(qBE H k).next; rw [qIE]; exact Nat.min_le_right _ _⟩
def qCo (H:AH) (B r:Nat):AH:=xA H { blocks:=(vW H []).blocks.put B none,next:=(vW H []).next,low:=Nat.min (vW H []).low r } []
theorem qSP (H:AH) (B r:Nat):(qCo H B r).blocks=H.blocks.put B none:=rfl
theorem qLR (H:AH) (B r:Nat):(qCo H B r).next=H.next:=rfl
theorem qSO (H:AH) (B r:Nat):(qCo H B r).low=Nat.min H.low (Nat.min H.next r):=rfl
theorem qVo (H:AH) (B r k j:Nat):(qBE (qCo (qBE H k) B r) j).blocks=H.blocks.put B none/\(qBE (qCo (qBE H k) B r) j).next=H.next/\Nat.min (Nat.min H.low H.next) r<=(qBE (qCo (qBE H k) B r) j).low:=by
 refine ⟨by rw [qLh,qSP,qLh],by rw [qIE,qLR,qIE],lT ?_ (qNI _ _)⟩
 rw [qSO,qLR,qIE]
 have h1:=qNI H k
 exact Nat.le_min.2 ⟨Nat.le_min.2 ⟨lT (Nat.min_le_left _ _) h1,Nat.le_min.2 ⟨lT (Nat.min_le_left _ _) (Nat.min_le_right _ _),Nat.min_le_right _ _⟩⟩,lT (Nat.min_le_left _ _) (Nat.min_le_right _ _)⟩
theorem gb {b k:Nat} {x:Option ABlk} (h:H.blocks.get b=x):(vW (qBE H k) []).blocks.get b=x:=by
 show (qBE H k).blocks.get b=x
 rw [qLh,h]
theorem qW5 {k:Nat} (hx:vZ EE ⟨n,false,t⟩ o (vW (qBE H k) [])=some (.val v,vW (qBE H k) [])) (hg:o.guard=none) (ho:o.dst=some d) (hn:Nat.ble (d+1) n=true) (h:kV EE all true os (i+1) ⟨n,false,t.put d (some v)⟩ (qBE H (k+1)) fr' H'):kV EE all true (o::os) i ⟨n,false,t⟩ (qBE H k) fr' H' :=
 kV.consD (by simp only [jS,hg]) (.of_val (zT _) hx) (.inl (zT _)) (by simp only [wR,ho,hn,cond_true]) h
theorem qW6 (hx:kW EE ⟨n,false,t⟩ o (vW H []) v H1) (hf:xY all.toList i=true) (hg:o.guard=none) (ho:o.dst=some d) (hn:Nat.ble (d+1) n=true) (h:kV EE all true os (i+1) ⟨n,false,t.put d (some v)⟩ (qBE (xA H H1 []) 0) fr' H'):kV EE all true (o::os) i ⟨n,false,t⟩ H fr' H' :=
 kV.consD (by simp only [jS,hg]) hx (.inr hf) (by simp only [wR,ho,hn,cond_true]) h
end
theorem qK0 {fr:Fr} {o:Oper} {H:AH} {b:Nat} {k:ABlk} {x:AObj} (h:vZ EE fr o H=some (.skip,H.write b k x)):kW EE fr o H (.tuple #[]) (H.write b k x):=.of_skip (zT _) h
theorem qNs {b:Nat}:oH (jY b):=fun _ h=>by cases h
theorem qQ4 {a:Option Addr} {n c:Nat}:oH (.slice a n c):=fun _ h=>by cases h
theorem zAg:(EE.types.get 9).map (·.desc)=some .string:=by kernel_rfl
theorem zAh:(match EE.types.get 108,EE.types.get 158,EE.types.get 5 with
  | some { desc:=.slice 5,.. },some { desc:=.pointer 5,.. },some e=>Nat.beq e.size 1 && Nat.beq e.bytes 1 && e.zero.isSome
  | _,_,_=>false)=true:=by kernel_rfl
theorem qVG:∃ xi,EE.types.get 9=some xi/\xi.desc=.string:=by
 have h:=zAg
 cases h1:EE.types.get 9 with
 | none=>rw [h1] at h; cases h
 | some xi =>
  rw [h1] at h
  exact ⟨xi,rfl,Option.some.inj h⟩
theorem qMd:(∃ sz bt z ag,EE.types.get 108=some ⟨.slice 5,sz,bt,z,ag⟩)/\(∃ sz bt z ag,EE.types.get 158=some ⟨.pointer 5,sz,bt,z,ag⟩)/\∃ e z,EE.types.get 5=some e/\e.size=1/\e.bytes=1/\e.zero=some z:=by
 have h:=zAh
 split at h
 ·rename_i a1 a2 a3 a4 b1 b2 b3 b4 e h1 h2 h3
  simp only [aE] at h
  obtain ⟨z,hz⟩:=Option.isSome_iff_exists.1 h.2
  exact ⟨⟨_,_,_,_,h1⟩,⟨_,_,_,_,h2⟩,e,z,h3,vU h.1.1,vU h.1.2,hz⟩
 cases h
section
variable {H:AH} {b rt:Nat} {p s:Value}
theorem qXC (hb:H.blocks.get b=some ⟨.cells [.pointer none,s] 110,rt,true⟩):v7 EE 90 [jY b] H (.tuple ⟨[]⟩) (H.write b ⟨.cells [.pointer none,s] 110,rt,true⟩ (.cells [jY b,s] 110)):=by
 refine qW.call (fn:=Tryz.f90) (c:=vP Tryz.f90) (e:=.normal) (fr':=?fr) he qV9 rfl ?h (.inl rfl) ?r
 case h =>
  show qW EE _ ⟨20,false,T.ofList .leaf 0 [jY b]⟩ H _ _ _
  refine qW.seq (fr1:=?f) (H1:=?H) ?a ?b
  case a =>
   refine qW.region he ?_
   refine qSl (.of_val (zT _) (yJ rfl rfl)) rfl rfl rfl ?_
   refine qSl (.of_val (zT _) (dK rfl rfl)) rfl rfl rfl ?_
   refine qSl (.of_val (zT _) (dL qV2 rfl rfl)) rfl rfl rfl ?_
   refine qSl (.of_val (zT _) (fP qV4 rfl rfl hb rfl)) rfl rfl rfl ?_
   refine qSl (.of_val (zT _) (qGx rfl rfl rfl zAf)) rfl rfl rfl ?_
   exact .nil
  case b =>
   refine qW.condT he rfl ?_
   refine qW.region he ?_
   refine qSl (.of_val (zT _) (yJ rfl rfl)) rfl rfl rfl ?_
   refine qSl (.of_val (zT _) (yJ rfl rfl)) rfl rfl rfl ?_
   refine qSl (.of_val (zT _) (qMn qVV qXO rfl rfl hb)) rfl rfl rfl ?_
   refine qSl (.of_val (zT _) (qS4 qZp Tryz.func107 qZq rfl rfl rfl rfl)) rfl rfl rfl ?_
   refine qSl (.of_val (zT _) (qMm qXO qVV qDC rfl rfl hb)) rfl rfl rfl ?_
   refine qSl (.of_val (zT _) (dK rfl rfl)) rfl rfl rfl ?_
   refine qSl (.of_val (zT _) (dL qV2 rfl rfl)) rfl rfl rfl ?_
   refine qW4 (qK0 (qE9 qV4 rfl rfl rfl (qNs (b:=b)) rfl hb rfl)) rfl rfl ?_
   exact .nil
 case r=>rfl
theorem qXB (hb:H.blocks.get b=some ⟨.cells [jY b,s] 110,rt,true⟩):v7 EE 90 [jY b] H (.tuple ⟨[]⟩) H:=by
 refine qW.call (fn:=Tryz.f90) (c:=vP Tryz.f90) (e:=.normal) (fr':=?fr) he qV9 rfl ?h (.inl rfl) ?r
 case h =>
  show qW EE _ ⟨20,false,T.ofList .leaf 0 [jY b]⟩ H _ _ _
  refine qW.seq (fr1:=?f) (H1:=?H) ?a ?b
  case a =>
   refine qW.region he ?_
   refine qSl (.of_val (zT _) (yJ rfl rfl)) rfl rfl rfl ?_
   refine qSl (.of_val (zT _) (dK rfl rfl)) rfl rfl rfl ?_
   refine qSl (.of_val (zT _) (dL qV2 rfl rfl)) rfl rfl rfl ?_
   refine qSl (.of_val (zT _) (fP qV4 rfl rfl hb rfl)) rfl rfl rfl ?_
   refine qSl (.of_val (zT _) (qGx rfl rfl rfl (qOq qVV))) rfl rfl rfl ?_
   exact .nil
  case b =>
   refine qW.condF he rfl ?_
   refine qW.seq (fr1:=?f2) (H1:=?H2) ?c ?d
   case c =>
    refine qW.region he ?_
    refine qSl (.of_val (zT _) (yJ rfl rfl)) rfl rfl rfl ?_
    refine qSl (.of_val (zT _) (dK rfl rfl)) rfl rfl rfl ?_
    refine qSl (.of_val (zT _) (dL qV2 rfl rfl)) rfl rfl rfl ?_
    refine qSl (.of_val (zT _) (fP qV4 rfl rfl hb rfl)) rfl rfl rfl ?_
    refine qSl (.of_val (zT _) (yJ rfl rfl)) rfl rfl rfl ?_
    refine qSl (.of_val (zT _) (qGx rfl rfl rfl (qMj qVV))) rfl rfl rfl ?_
    exact .nil
   case d =>
    refine qW.condF he rfl ?_
    exact .skip
 case r=>rfl
theorem qYt {x:ByteArray} {Hx:AH} {v:Value} {H2:AH} (hc:v7 EE 90 [jY b] H (.tuple ⟨[]⟩) Hx) (hn0:Hx.next=H.next) (hb:Hx.up.blocks.get b=some ⟨.cells [jY b,s] 110,rt,true⟩) (ha:v8 EE Hx.up [108,9] s (.string x)=some (.val v,H2))
  (hk:H2.blocks.get b=some ⟨.cells [jY b,s] 110,rt,true⟩) (hn:Hx.up.next<=H2.next) (hnt:oH v) (hcl:v.cells.toList=[v]) :
  v7 EE 51 [jY b,.string x] H (.tuple ⟨[goInt x.size,.nilIface]⟩) (H2.write b ⟨.cells [jY b,s] 110,rt,true⟩ (.cells [jY b,v] 110)):=by
 obtain ⟨xi,h91,h92⟩:=qVG
 have hl:∀ Hz,eZ EE Hz (9::[]) (.string x)=some (goInt x.size):=fun Hz=>by simp only [eZ,h91,h92]
 refine qW.call (fn:=Tryz.f51) (c:=vP Tryz.f51) (e:=.ret) (fr':=?fr) he qXN rfl ?h (.inr rfl) ?r
 case h =>
  show qW EE _ ⟨19,false,T.ofList .leaf 0 [jY b,.string x]⟩ H _ _ _
  refine qW.seq (fr1:=?f) (H1:=?H) ?a ?b
  case a =>
   refine qW.region he ?_
   refine qSl (.of_val (zT _) (yZ rfl rfl)) rfl rfl rfl ?_
   refine qSl (.of_val (zT _) (yZ rfl rfl)) rfl rfl rfl ?_
   exact .nil
  case b =>
   refine qW.seq (fr1:=?f2) (H1:=?H2) ?c ?d
   case c =>
    refine qW.region he ?_
    refine qSl (.of_val (zT _) (yJ rfl rfl)) rfl rfl rfl ?_
    refine qSl (.of_call (qOt qV9 rfl rfl rfl rfl) hc.raise (by show H.next < Hx.next+1; omega)) rfl rfl rfl ?_
    exact .nil
   case d =>
    refine qW.seq (fr1:=?f3) (H1:=?H3) ?e ?g
    case e =>
     refine qW.region he ?_
     refine qSl (.of_val (zT _) (yJ rfl rfl)) rfl rfl rfl ?_
     refine qSl (.of_val (zT _) (yJ rfl rfl)) rfl rfl rfl ?_
     refine qSl (.of_val (zT _) (dK rfl rfl)) rfl rfl rfl ?_
     refine qSl (.of_val (zT _) (dL qXo rfl rfl)) rfl rfl rfl ?_
     refine qSl (.of_val (zT _) (fP qXy rfl rfl hb rfl)) rfl rfl rfl ?_
     refine qSl (.of_val (zT _) (yJ rfl rfl)) rfl rfl rfl ?_
     refine qSl (.of_val hn (qS5 rfl rfl rfl rfl ha)) rfl rfl rfl ?_
     refine qSl (.of_val (zT _) (dK rfl rfl)) rfl rfl rfl ?_
     refine qSl (.of_val (zT _) (dL qXo rfl rfl)) rfl rfl rfl ?_
     refine qW4 (qK0 (qE9 qXy rfl rfl rfl hnt hcl hk rfl)) rfl rfl ?_
     exact .nil
    case g =>
     refine qW.seq (fr1:=?f4) (H1:=?H4) ?i ?j
     case i =>
      refine qW.region he ?_
      refine qSl (.of_val (zT _) (yJ rfl rfl)) rfl rfl rfl ?_
      refine qSl (.of_val (zT _) (qGw rfl rfl rfl rfl (hl _))) rfl rfl rfl ?_
      refine qSl (.of_val (zT _) (yZ rfl rfl)) rfl rfl rfl ?_
      refine qSl (.of_val (zT _) (yZ rfl rfl)) rfl rfl rfl ?_
      exact .nil
     case j=>exact .ret
 case r=>rfl
theorem qYw {Hz:AH} {B1 n r:Nat} {cs vs:List Value} {l:List UInt8} (h1:1<=n) (h2:n<=1000000000) (hB:Hz.blocks.get B1=some ⟨.cells cs 5,r,true⟩) (ht:take? cs n=some vs) (hl:xH vs=some l) :
  jI EE Hz (158::[3]) (.pointer (some ⟨B1,0,none⟩)) (goInt n)=some (.val (.string ⟨⟨l⟩⟩),{ blocks:=Hz.blocks.put B1 none,next:=Hz.next,low:=Nat.min Hz.low r }):=by
 obtain ⟨_,⟨sz,bt,z,ag,h15⟩,e,z',h5,h6,_⟩:=qMd
 obtain ⟨m,rfl⟩:∃ m,n=m+1:=⟨n - 1,by omega⟩
 have hle:Nat.ble (m+1) 1000000000=true:=bL h2
 have hb:Nat.beq 5 5=true:=rfl
 have hb1:Nat.beq 1 1=true:=rfl
 have hn:nat? (goInt ((m+1:Nat):Int))=some (m+1):=rfl
 unfold jI
 simp only [hn,hB,dH,h15,h5,h6,hb,hb1,hle,Bool.and_self,cond_true,List.drop_zero,ht,hl,Option.map_some]
theorem qXE (hb:H.blocks.get b=some ⟨.cells [p,.slice none 0 0] 110,rt,true⟩) :
  ∃ Hx:AH,v7 EE 52 [jY b] H (.string .empty) Hx/\Hx.blocks=H.blocks/\Hx.next=H.next/\Nat.min H.low H.next<=Hx.low:=by
 obtain ⟨⟨sz,bt,z,ag,h81⟩,_⟩:=qMd
 have hl:∀ Hz,eZ EE Hz (108::[]) (.slice none 0 0)=some (goInt 0):=fun Hz=>by simp only [eZ,h81]; rfl
 refine ⟨?Hx,?call,?r⟩
 case call =>
  refine qW.call (fn:=Tryz.f52) (c:=vP Tryz.f52) (e:=.ret) (fr':=?fr) he qWa rfl ?h (.inr rfl) ?r2
  case h =>
   show qW EE _ ⟨14,false,T.ofList .leaf 0 [jY b]⟩ H _ _ _
   refine qW.seq (fr1:=?f) (H1:=?H) ?a ?b
   case a =>
    refine qW.region he ?_
    refine qSl (.of_val (zT _) (yZ rfl rfl)) rfl rfl rfl ?_
    exact .nil
   case b =>
    refine qW.seq (fr1:=?f2) (H1:=?H2) ?c ?d
    case c =>
     refine qW.region he ?_
     show kV EE _ true _ _ _ (qBE H 0) _ _
     refine qW5 (yJ rfl rfl) rfl rfl rfl ?_
     refine qW5 (dK rfl rfl) rfl rfl rfl ?_
     refine qW5 (dL qXo rfl rfl) rfl rfl rfl ?_
     refine qW5 (fP qXy rfl rfl (gb (hb)) rfl) rfl rfl rfl ?_
     refine qW5 (qHR rfl rfl rfl (.inl ⟨_,_,rfl,rfl⟩)) rfl rfl rfl ?_
     refine qW5 (yJ rfl rfl) rfl rfl rfl ?_
     refine qW5 (dK rfl rfl) rfl rfl rfl ?_
     refine qW5 (dL qXo rfl rfl) rfl rfl rfl ?_
     refine qW5 (fP qXy rfl rfl (gb (hb)) rfl) rfl rfl rfl ?_
     refine qW5 (qGw rfl rfl rfl rfl (hl _)) rfl rfl rfl ?_
     refine qW5 (qMo rfl rfl rfl rfl rfl) rfl rfl rfl ?_
     refine qW5 (yZ rfl rfl) rfl rfl rfl ?_
     exact .nil
    case d=>exact .ret
  case r2=>rfl
 case r =>
  exact ⟨qLh _ _,qIE _ _,qNI _ _⟩
theorem qXD {B1 n cap r:Nat} {cs vs:List Value} {l:List UInt8} (hb:H.blocks.get b=some ⟨.cells [p,.slice (some ⟨B1,0,none⟩) n cap] 110,rt,true⟩)
  (h1:1<=n) (h2:n<=1000000000) (hB:H.blocks.get B1=some ⟨.cells cs 5,r,true⟩) (ht:take? cs n=some vs) (hbl:xH vs=some l) :
  ∃ Hx:AH,v7 EE 52 [jY b] H (.string ⟨⟨l⟩⟩) Hx/\Hx.blocks=H.blocks.put B1 none/\Hx.next=H.next/\Nat.min (Nat.min H.low H.next) r<=Hx.low:=by
 obtain ⟨⟨sz,bt,z,ag,h81⟩,_⟩:=qMd
 have hl:∀ Hz,eZ EE Hz (108::[]) (.slice (some ⟨B1,0,none⟩) n cap)=some (goInt n):=fun Hz=>by simp only [eZ,h81]
 refine ⟨?Hx,?call,?r⟩
 case call =>
  refine qW.call (fn:=Tryz.f52) (c:=vP Tryz.f52) (e:=.ret) (fr':=?fr) he qWa rfl ?h (.inr rfl) ?r2
  case h =>
   show qW EE _ ⟨14,false,T.ofList .leaf 0 [jY b]⟩ H _ _ _
   refine qW.seq (fr1:=?f) (H1:=?H) ?a ?b
   case a =>
    refine qW.region he ?_
    refine qSl (.of_val (zT _) (yZ rfl rfl)) rfl rfl rfl ?_
    exact .nil
   case b =>
    refine qW.seq (fr1:=?f2) (H1:=?H2) ?c ?d
    case c =>
     refine qW.region he ?_
     show kV EE _ true _ _ _ (qBE H 0) _ _
     refine qW5 (yJ rfl rfl) rfl rfl rfl ?_
     refine qW5 (dK rfl rfl) rfl rfl rfl ?_
     refine qW5 (dL qXo rfl rfl) rfl rfl rfl ?_
     refine qW5 (fP qXy rfl rfl (gb (hb)) rfl) rfl rfl rfl ?_
     refine qW5 (qHR rfl rfl rfl (.inr ⟨_,_,_,rfl,h1,rfl⟩)) rfl rfl rfl ?_
     refine qW5 (yJ rfl rfl) rfl rfl rfl ?_
     refine qW5 (dK rfl rfl) rfl rfl rfl ?_
     refine qW5 (dL qXo rfl rfl) rfl rfl rfl ?_
     refine qW5 (fP qXy rfl rfl (gb (hb)) rfl) rfl rfl rfl ?_
     refine qW5 (qGw rfl rfl rfl rfl (hl _)) rfl rfl rfl ?_
     refine qW6 (.of_val ?n (qMo rfl rfl rfl rfl (qYw h1 h2 (gb hB) ht hbl))) (by decide +kernel) rfl rfl rfl ?_
     case n=>exact zT _
     refine qW5 (yZ rfl rfl) rfl rfl rfl ?_
     exact .nil
    case d=>exact .ret
  case r2=>rfl
 case r =>
  exact qVo H B1 r 10 1
theorem hB:BldOK EE BB where
 wf:=⟨_,qXN⟩
 sf:=⟨_,qWa⟩
 tb:=by
  obtain ⟨⟨_,_,_,_,h⟩,_⟩:=qMd
  simp only [BB,yH,h]
 te:=by
  obtain ⟨_,_,e,z,h1,h2,h3,h4⟩:=qMd
  exact ⟨e,z,h1,h2,h3,h4⟩
 ts:=qVG
 wr:=by
  intro H b rt p s x H1 v H2 h1 h2 h3 h4 h5 ⟨a,l,c,hv⟩
  subst hv
  rcases h2 with ⟨rfl,rfl⟩ | ⟨rfl,rfl⟩
  ·exact qYt (qXC h1) rfl (by show (AH.write _ _ _ _).blocks.get _=_; rw [AH.get_write,if_pos rfl]) h3 h4 h5 qQ4 rfl
  exact qYt (qXB h1) rfl h1 h3 h4 h5 qQ4 rfl
 s0:=fun h=>qXE h
 s1:=fun h a b c d e=>qXD h a b c d e
end
end Go.Proofs.YtnemldklhelbeaaGreat
namespace Go.Proofs.YtnemldklhelbeaaGreat
open Go Go.Am Go.Proofs
def qT4:Nat->Pat
 | 1=>⟨[⟨.pure,false⟩,⟨.pure,true⟩,⟨.pure,false⟩,⟨.pure,false⟩,⟨.pure,false⟩],[(2,.v 0),(3,.loc 0 0),(4,.loc 1 0),(7,.loc 2 0),(8,.v 1)],[some (.whole (.v 2) 1),some (.whole (.v 3) 3),some (.whole (.v 4) 2)],[]⟩
 | 2=>⟨[⟨.pure,true⟩,⟨.pure,false⟩,⟨.pure,false⟩],[(3,.loc 0 0),(7,.loc 2 0),(9,.v 0)],[some (.whole (.v 1) 1),none,some (.whole (.v 2) 2)],[]⟩
 | _=>⟨[],[],[],[]⟩
def qPF:Tree :=
 jN 1 0 <|
 jN 3 1 <|
 zK 1 4 <|
 jQ 5 2 <|
 .bind (.elem 2 true 2 0) [.v 5,.v 2] <|
 jN 2 7 <|
 zK 0 8 <|
 jM 61 [.v 9] 1 <|
 .bind (.un .not 4) [.v 10] <|
 qZ 11 (
  wP 3) (
  .jump 1 [.v 2,k' 0,.v 3,.v 4,.v 8])
def qPE:Tree :=
 jF .lss 19 20 1 0 <|
 qZ 5 (
  zK 1 3 <|
  jQ 6 1 <|
  vL 2 0 6 1 <|
  zK 0 4 <|
  .bind (.bin .eql 9 (.tmp 29) (.tmp 31)) [.v 8,.v 9] <|
  qZ 10 (
   wP 8) (
   vC .add 22 1 1 <|
   .jump 1 [.v 0,.v 11,.v 2,.v 3,.v 4])) (
  zK 1 4 <|
  v4 6 <|
  vC .lss 35 1 7 <|
  qZ 8 (
   wP 19) (
   zK 1 4 <|
   v4 9 <|
   vC .gtr 40 3 10 <|
   qZ 11 (
    wP 19) (
    .jump 2 [k' 0,.v 2,.v 4])))
def qPD:Tree :=
 zK 1 2 <|
 v4 3 <|
 jF .lss 43 46 0 4 <|
 qZ 5 (
  zK 1 2 <|
  jQ 6 0 <|
  vL 1 0 6 0 <|
  vC .lss 54 1 8 <|
  qZ 9 (
   wP 19) (
   zK 1 2 <|
   jQ 10 0 <|
   vL 1 0 10 0 <|
   zK 0 1 <|
   v4 13 <|
   jF .gtr 61 64 12 14 <|
   qZ 15 (
    wP 19) (
    vC .add 48 1 0 <|
    .jump 2 [.v 16,.v 1,.v 2]))) (
  wP 0)
def qJC:Nat->Tree
 | 0=>qPF
 | 1=>qPE
 | 2=>qPD
 | _=>.fail
theorem qTf:(rt Tryz.f60 3 qT4,
 hd Tryz.f60 3 qT4,
 nr Tryz.f60) =
 (qPF,[(1,qPE),(2,qPD)],false):=by kernel_rfl
theorem qYU {ds:List D} {d:D} (hn:ds.length=3) (h:qG EE (qA EE) qJC 0 ds d):qA EE 60 ds d :=
 hu Tryz.func60 rfl ((pI qTf).1) ((pI (vS qTf)).1) ((vS (vS qTf))) (jG rfl <| jG rfl <| vO) hn h
end Go.Proofs.YtnemldklhelbeaaGreat
namespace Go.Proofs.YtnemldklhelbeaaGreat
open Go Go.Am Go.Proofs
def qUz:Nat->Pat
 | _=>⟨[],[],[],[]⟩
def qQA:Tree :=
 jN 9 0 <|
 jN 1 1 <|
 jM 14 [.v 2,.v 3] 0 <|
 mR 0 4 <|
 mR 1 4 <|
 .bind (.bin .neq 39 (.tmp 16) (K' 0)) [.v 6,k' 0] <|
 qZ 7 (
  .ret [.c (.string ⟨#[]⟩),.v 6]) (
  .bind (.fld true 3 1) [.v 2] <|
  jM 25 [.v 8,.v 5] 2 <|
  mR 0 9 <|
  mR 1 9 <|
  mR 2 9 <|
  .ret [.v 10,.v 12])
def qUy:Nat->Tree
 | 0=>qQA
 | _=>.fail
def qT6:Nat->Pat
 | 1=>⟨[⟨.pure,false⟩,⟨.pure,true⟩,⟨.pure,true⟩,⟨.pure,true⟩,⟨.pure,true⟩,⟨.pure,false⟩],[(1,.v 0),(2,.loc 0 0),(5,.v 1),(9,.v 2),(10,.v 3),(11,.v 4)],[some (.whole (.v 5) 3)],[]⟩
 | _=>⟨[],[],[],[]⟩
def qPL:Tree :=
 jN 3 0 <|
 zK 1 2 <|
 v4 3 <|
 .jump 1 [.v 1,.c (.int .i64 (-1)),.v 3,.v 4,k' 0,.v 2]
def qPK:Tree :=
 jF .lss 11 10 4 3 <|
 qZ 6 (
  jQ 2 4 <|
  .bind (.elem 2 true 2 0) [.v 2,.v 4] <|
  jN 2 8 <|
  zK 1 9 <|
  v4 10 <|
  v4 0 <|
  jF .gtr 18 20 11 12 <|
  qZ 13 (
   vC .add 11 1 4 <|
   .jump 1 [.v 0,.v 1,.v 2,.v 3,.v 14,.v 5]) (
   zK 1 9 <|
   zK 1 9 <|
   v4 15 <|
   .bind (.slc 3 1 false true) [.v 0,.v 16] <|
   jM 54 [.v 14,.v 17] 1 <|
   .bind (.un .not 4) [.v 18] <|
   qZ 19 (
    vC .add 11 1 4 <|
    .jump 1 [.v 0,.v 1,.v 2,.v 3,.v 20,.v 5]) (
    vC .lss 33 0 1 <|
    qZ 20 (
     vC .add 11 1 4 <|
     .jump 1 [.v 0,.v 4,.v 2,.v 3,.v 21,.v 5]) (
     zK 1 9 <|
     v4 21 <|
     zK 1 5 <|
     jQ 23 1 <|
     vL 2 1 23 1 <|
     v4 25 <|
     jF .gtr 38 45 22 26 <|
     qZ 27 (
      vC .add 11 1 4 <|
      .jump 1 [.v 0,.v 4,.v 2,.v 3,.v 28,.v 5]) (
      vC .add 11 1 4 <|
      .jump 1 [.v 0,.v 1,.v 2,.v 3,.v 28,.v 5]))))) (
  .ret [.v 1])
def qPJ:Nat->Tree
 | 0=>qPL
 | 1=>qPK
 | _=>.fail
def qT5:Nat->Pat
 | 1=>⟨[⟨.pure,false⟩,⟨.pure,false⟩,⟨.pure,true⟩,⟨.pure,true⟩],[(0,.v 0),(1,.v 1),(12,.v 2),(13,.v 3)],[],[]⟩
 | _=>⟨[],[],[],[]⟩
def qPI:Tree :=
 v4 0 <|
 v4 1 <|
 jF .neq 7 9 2 3 <|
 qZ 4 (
  gM false) (
  v4 0 <|
  .jump 1 [.v 0,.v 1,.v 5,k' 0])
def qPH:Tree :=
 jF .lss 13 12 3 2 <|
 qZ 4 (
  jQ 0 3 <|
  vL 1 0 0 3 <|
  jQ 1 3 <|
  vL 1 0 1 3 <|
  jF .neq 19 23 6 8 <|
  qZ 9 (
   gM false) (
   vC .add 13 1 3 <|
   .jump 1 [.v 0,.v 1,.v 2,.v 10])) (
  gM true)
def qPG:Nat->Tree
 | 0=>qPI
 | 1=>qPH
 | _=>.fail
def qMT:Nat->Pat
 | 1=>⟨[⟨.pure,false⟩,⟨.pure,true⟩,⟨.pure,false⟩,⟨.fresh,true⟩],[(1,.v 0),(2,.loc 0 0),(7,.loc 1 0),(8,.v 1)],[some (.whole (.v 2) 3),some (.tcells 110 [.v 3])],[]⟩
 | _=>⟨[],[],[],[]⟩
def qQm:Tree :=
 jN 3 0 <|
 v4 1 <|
 vC .eql 11 0 3 <|
 qZ 4 (
  .ret [.c (.string ⟨#[]⟩),k' 0,k' 4]) (
  v4 1 <|
  vC .gtr 14 24 5 <|
  qZ 6 (
   .ret [.c (.string ⟨#[]⟩),k' 0,k' 5]) (
   .jump 1 [.v 1,k' 0,.v 2,.c (.slice none 0 0)]))
def qQl:Tree :=
 v4 0 <|
 jF .lss 16 18 1 4 <|
 qZ 5 (
  .bind (.slc 3 1 true false) [.v 0,.v 1] <|
  jM 50 [.v 2,.v 6] 1 <|
  vC .lss 25 0 7 <|
  qZ 8 (
   .ret [.c (.string ⟨#[]⟩),.v 1,k' 20]) (
   zK 1 2 <|
   jQ 9 7 <|
   vL 2 0 9 7 <|
   .bind (.len true) [.v 11] <|
   .bind (.apps 5 1) [.v 3,.v 11] <|
   zK 1 2 <|
   jQ 14 7 <|
   vL 2 1 14 7 <|
   v4 16 <|
   jF .add 35 42 1 17 <|
   .jump 1 [.v 0,.v 18,.v 2,.v 13])) (
  .bind (.bld 5) [.v 3] <|
  .ret [.v 6,k' 0,k' 0])
def qQk:Nat->Tree
 | 0=>qQm
 | 1=>qQl
 | _=>.fail
noncomputable def qMS:Nat->Nat:=fun _=>Nat.max Tryz.f25.ntmps 2
theorem qCw:(rt Tryz.f16 2 qUz,
 hd Tryz.f16 2 qUz,
 nr Tryz.f16,
 rt Tryz.f50 2 qT6,
 hd Tryz.f50 2 qT6,
 nr Tryz.f50,
 rt Tryz.f54 2 qT5,
 hd Tryz.f54 2 qT5,
 nr Tryz.f54,
 s9 EE (fun k S=>j6 (qMS k) (qMT k) k S) (qQ3 EE BB) sV 1 (vP Tryz.f25) (wI 2 (Nat.max Tryz.f25.ntmps 2)) (nP EE Tryz.f25.results.toList),
 jW EE (fun k=>(qMT k).st (qMS k)) (fun k S=>j6 (qMS k) (qMT k) k S) (qQ3 EE BB) sV (fun _ _ _ _=>[]) 1 (vP Tryz.f25) (nP EE Tryz.f25.results.toList),
 nr Tryz.f25) =
 (qQA,[],false,qPL,[(1,qPK)],false,qPI,[(1,qPH)],false,qQm,[(1,qQl)],false):=by kernel_rfl
theorem qXU {ds:List D} {d:D} (hn:ds.length=2) (h:qG EE (qA EE) qUy 0 ds d):qA EE 16 ds d :=
 hv Tryz.func16 rfl qCw (vO) hn h
theorem qYW {ds:List D} {d:D} (hn:ds.length=2) (h:qG EE (qA EE) qPJ 0 ds d):qA EE 50 ds d :=
 hv Tryz.func50 rfl (vS (vS (vS qCw))) (jG rfl <| vO) hn h
theorem qYV {ds:List D} {d:D} (hn:ds.length=2) (h:qG EE (qA EE) qPG 0 ds d):qA EE 54 ds d :=
 hv Tryz.func54 rfl (vS (vS (jC qCw))) (jG rfl <| vO) hn h
theorem qY7 {ds:List D} {d:D} (hn:ds.length=2) (h:qG EE (qA EE) qQk 0 ds d):qA EE 25 ds d :=
 qIJ (B:=BB) (pats:=qMT) (szs:=qMS) he hB (yI (c:=vP Tryz.f25) Tryz.func25 rfl ((vS (vS (vS (jC (jC qCw))))))) (c:=vP Tryz.f25) rfl hn ((pI (vS (jC (jC qCw)))).1) (by rw [(pI (vS (vS (jC (jC qCw))))).1]; exact jG rfl <| vO) h
end Go.Proofs.YtnemldklhelbeaaGreat
namespace Go.Proofs.YtnemldklhelbeaaGreat
open Go Go.Am Go.Proofs
def qTw:Nat->Pat
 | 1=>⟨[⟨.pure,false⟩,⟨.pure,false⟩,⟨.pure,true⟩,⟨.pure,true⟩],[(0,.v 0),(1,.v 1),(12,.v 2),(13,.v 3)],[],[]⟩
 | _=>⟨[],[],[],[]⟩
def qJp:Tree :=
 v4 0 <|
 v4 1 <|
 jF .neq 7 9 2 3 <|
 qZ 4 (
  gM false) (
  v4 0 <|
  .jump 1 [.v 0,.v 1,.v 5,k' 0])
def qJo:Tree :=
 jF .lss 13 12 3 2 <|
 qZ 4 (
  jQ 0 3 <|
  vL 1 0 0 3 <|
  jQ 1 3 <|
  vL 1 0 1 3 <|
  jF .neq 19 23 6 8 <|
  qZ 9 (
   gM false) (
   vC .add 13 1 3 <|
   .jump 1 [.v 0,.v 1,.v 2,.v 10])) (
  gM true)
def qOK:Nat->Tree
 | 0=>qJp
 | 1=>qJo
 | _=>.fail
theorem qTc:(rt Tryz.f20 2 qTw,
 hd Tryz.f20 2 qTw,
 nr Tryz.f20) =
 (qJp,[(1,qJo)],false):=by kernel_rfl
theorem qV8 {ds:List D} {d:D} (hn:ds.length=2) (h:qG EE (qA EE) qOK 0 ds d):qA EE 20 ds d :=
 hu Tryz.func20 rfl ((pI qTc).1) ((pI (vS qTc)).1) ((vS (vS qTc))) (jG rfl <| vO) hn h
end Go.Proofs.YtnemldklhelbeaaGreat
