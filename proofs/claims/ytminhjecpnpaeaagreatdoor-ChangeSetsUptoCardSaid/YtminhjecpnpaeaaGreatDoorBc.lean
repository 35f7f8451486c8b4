/- Texts in UTF-8: what the reference finds at a place is what the model's decoder finds. Conditions: none. -/
import Derived.Test.YtminhjecpnpaeaaGreatDoorUv
import Derived.Lib.DecodeN
import Derived.Lib.TrimUEq
import Derived.Lib.ValidLaws
import Derived.Test.YtminhjecpnpaeaaGreatDoorBb
import Derived.Test.YtminhjecpnpaeaaGreatDoorBa
import Derived.Test.YtminhjecpnpaeaaGreatDoorSx5
import Derived.Test.YtminhjecpnpaeaaGreatDoorOp
import Derived.Shelf.Unicode.ValidAny
import Derived.Shelf.Strings.Search3
set_option linter.unusedVariables false
set_option linter.unusedSimpArgs false
namespace Go.Am.Tu
open Go Go.Lib
def rD (p:Nat):List Nat:=if p < 128 then [p] else if p < 2048 then [192+p / 64,128+p % 64] else if p < 65536 then [224+p / 4096,128+p / 64 % 64,128+p % 64] else [240+p / 262144,128+p / 4096 % 64,128+p / 64 % 64,128+p % 64]
def l8 (p:Nat):Prop:=p<=1114111/\(p < 55296∨57343 < p)
instance (p:Nat):Decidable (l8 p):=by unfold l8; infer_instance
def nE (n b0 b1 b2 b3:Nat):Option (Nat × Nat) :=
 if 240<=b0 then (if n < 4 then none else if l8 ((((b0 - 240) * 64+b1 % 64) * 64+b2 % 64) * 64+b3 % 64)/\rD ((((b0 - 240) * 64+b1 % 64) * 64+b2 % 64) * 64+b3 % 64)=[b0,b1,b2,b3] then some ((((b0 - 240) * 64+b1 % 64) * 64+b2 % 64) * 64+b3 % 64,4) else none)
 else if 224<=b0 then (if n < 3 then none else if l8 (((b0 - 224) * 64+b1 % 64) * 64+b2 % 64)/\rD (((b0 - 224) * 64+b1 % 64) * 64+b2 % 64)=[b0,b1,b2] then some (((b0 - 224) * 64+b1 % 64) * 64+b2 % 64,3) else none)
 else if 192<=b0 then (if n < 2 then none else if l8 ((b0 - 192) * 64+b1 % 64)/\rD ((b0 - 192) * 64+b1 % 64)=[b0,b1] then some ((b0 - 192) * 64+b1 % 64,2) else none)
 else (if l8 b0/\rD b0=[b0] then some (b0,1) else none)
set_option maxRecDepth 100000 in
set_option maxHeartbeats 8000000 in
theorem qKK (n b0 b1 b2 b3:Nat) (hn:1<=n) (h0:b0 < 256) (h1:b1 < 256) (h2:b2 < 256) (h3:b3 < 256):nE n b0 b1 b2 b3=if decodeN n b0 b1 b2 b3=(65533,1) then none else some (decodeN n b0 b1 b2 b3):=by
 unfold nE decodeN rD l8
 repeat' split
 all_goals first
  | rfl
  | (exfalso; simp_all; omega)
  | (exfalso; simp_all; done)
  | (simp_all; omega)
end Go.Am.Tu
namespace Go.Am.Tu
open Go Go.Lib
def bt (s:ByteArray) (i:Nat):Nat:=(s.get! i).toNat
theorem sR (s:ByteArray) (i:Nat):bt s i < 256:=(s.get! i).toNat_lt
def fst (s:ByteArray) (i:Nat):Option (Nat × Nat):=nE (s.size - i) (bt s i) (bt s (i+1)) (bt s (i+2)) (bt s (i+3))
def fU (s:ByteArray) (i:Nat):Bool:=validD (s.data.toList.drop i)
theorem qJd {s:ByteArray} {i:Nat} (h:i < s.size):fst s i=if Utf8.decode s i=(65533,1) then none else some (Utf8.decode s i):=by
 rw [decode_at]
 exact qKK _ _ _ _ _ (by omega) (sR s i) (sR s _) (sR s _) (sR s _)
theorem qWW {s:ByteArray} {i p n:Nat} (h:fst s i=some (p,n)) (hi:i < s.size):1<=n/\n<=4/\i+n<=s.size/\p<=1114111:=by
 unfold fst nE at h
 repeat' split at h
 all_goals first
  | cases h; done
  | skip
 all_goals
  simp only [oI,Prod.mk.injEq] at h
  rename_i hs
  unfold l8 at hs
  omega
theorem kM (s:ByteArray):s.data.toList.length=s.size:=Array.length_toList
theorem qTI {s:ByteArray} {i:Nat} (h:s.size<=i):fU s i=true:=by
 unfold fU
 rw [List.drop_of_length_le (by rw [kM]; exact h)]
 rfl
theorem qJu {s:ByteArray} {i:Nat} (h:i < s.size):s.data.toList.drop i≠[]:=by
 intro e
 have:=congrArg List.length e
 rw [List.length_drop,kM] at this
 simp at this
 omega
theorem qPs {s:ByteArray} {i:Nat} (h:i < s.size) (e:fst s i=none):fU s i=false:=by
 unfold fU
 rw [validD_step _ (qJu h),decodeL_drop]
 rw [qJd h] at e
 split at e
 ·rename_i e1
  rw [e1,if_pos ⟨rfl,rfl⟩]
 cases e
theorem qPr {s:ByteArray} {i p n:Nat} (h:i < s.size) (e:fst s i=some (p,n)):fU s i=fU s (i+n)/\Utf8.decode s i=(p,n):=by
 rw [qJd h] at e
 split at e
 ·cases e
 rename_i e1
 have e2:Utf8.decode s i=(p,n):=Option.some.inj e
 refine ⟨?_,e2⟩
 unfold fU
 rw [validD_step _ (qJu h),decodeL_drop,if_neg (fun hh=>e1 (Prod.ext hh.1 hh.2)),e2,List.drop_drop]
theorem qQw (s:ByteArray) (i:Nat):1<=(Utf8.decode s i).2/\(Utf8.decode s i).1<=1114111:=by
 rw [decode_at]
 have h0:=(s.get! i).toNat_lt
 unfold decodeN
 repeat' split
 all_goals simp_all
 all_goals omega
end Go.Am.Tu
namespace Go.Proofs.YtminhjecpnpaeaaGreatDoor
open Go Go.Am Go.Proofs Go.Am.Tu
section
variable {E:Env}
theorem mV {t:TypeId} {x y:Operand} {m n:Nat} (h:m+n<=4000000000):TOp.eval E (.bin .add t x y) [dI ((m:Nat):Int),dI ((n:Nat):Int)]=some (dI ((m+n:Nat):Int)):=by
 rw [kG (by omega)]; rfl
theorem qTm {t:TypeId} {x y:Operand} {m n:Nat} (h:n<=m) (hm:m<=4000000000):TOp.eval E (.bin .sub t x y) [dI ((m:Nat):Int),dI ((n:Nat):Int)]=some (dI ((m - n:Nat):Int)):=by
 rw [qBd (by omega)]; congr 3; omega
theorem qYp {t:TypeId} {x y:Operand} {m n:Nat} (h:m * n<=4000000000):TOp.eval E (.bin .mul t x y) [dI ((m:Nat):Int),dI ((n:Nat):Int)]=some (dI ((m * n:Nat):Int)):=by
 have e:((m * n:Nat):Int)=(m:Int) * (n:Int):=Int.natCast_mul m n
 rw [dY,← e,uP (by omega) (by omega)]
end
theorem qWq {t:TypeId} {x y:Operand} {m:Int}:TOp.eval EE (.bin .quo t x y) [dI m,dI 64]=some (dI (IntKind.i64.wrap (m.tdiv 64))):=by rw [bN]; rfl
theorem qO7 {t:TypeId} {x y:Operand} {m:Int}:TOp.eval EE (.bin .quo t x y) [dI m,dI 4096]=some (dI (IntKind.i64.wrap (m.tdiv 4096))):=by rw [bN]; rfl
theorem qKe {t:TypeId} {x y:Operand} {m:Int}:TOp.eval EE (.bin .quo t x y) [dI m,dI 262144]=some (dI (IntKind.i64.wrap (m.tdiv 262144))):=by rw [bN]; rfl
theorem qWn {t:TypeId} {x y:Operand} {m:Int}:TOp.eval EE (.bin .rem t x y) [dI m,dI 64]=some (dI (m.tmod 64)):=by rw [bN]; rfl
theorem qHk {t:TypeId} {x y:Operand} {m:Nat} (h:m<=4000000000):TOp.eval EE (.bin .quo t x y) [dI ((m:Nat):Int),dI 64]=some (dI ((m / 64:Nat):Int)):=by
 rw [qWq,Int.tdiv_eq_ediv_of_nonneg (by omega),uP (by omega) (by omega)]; rfl
theorem qFt {t:TypeId} {x y:Operand} {m:Nat} (h:m<=4000000000):TOp.eval EE (.bin .quo t x y) [dI ((m:Nat):Int),dI 4096]=some (dI ((m / 4096:Nat):Int)):=by
 rw [qO7,Int.tdiv_eq_ediv_of_nonneg (by omega),uP (by omega) (by omega)]; rfl
theorem qHl {t:TypeId} {x y:Operand} {m:Nat} (h:m<=4000000000):TOp.eval EE (.bin .quo t x y) [dI ((m:Nat):Int),dI 262144]=some (dI ((m / 262144:Nat):Int)):=by
 rw [qKe,Int.tdiv_eq_ediv_of_nonneg (by omega),uP (by omega) (by omega)]; rfl
theorem fQ {t:TypeId} {x y:Operand} {m:Nat}:TOp.eval EE (.bin .rem t x y) [dI ((m:Nat):Int),dI 64]=some (dI ((m % 64:Nat):Int)):=by
 rw [qWn,Int.tmod_eq_emod_of_nonneg (by omega)]; rfl
theorem qXr (n:Int) (h0:0<=n) (h1:n < 256):TOp.eval EE (.conv 5 3) [.leaf (.int .u8 n)]=some (dI n):=by
 have e:TOp.eval EE (.conv 5 3) [.leaf (.int .u8 n)]=some (dI (IntKind.i64.wrap n)):=by kernel_rfl
 rw [e,uP (by omega) (by omega)]
theorem qSY {n:Nat} (h:n < 256):IntKind.u8.wrap (n:Int)=(n:Int):=by
 have e:IntKind.u8.wrap (n:Int)=(n:Int) % 256:=by simp [IntKind.wrap,IntKind.signed,IntKind.bits]
 rw [e]; omega
theorem qCX {n:Nat} (h:n < 256):TOp.eval EE (.conv 3 5) [dI ((n:Nat):Int)]=some (.leaf (.int .u8 ((n:Nat):Int))):=by
 have e:∀ m:Int,TOp.eval EE (.conv 3 5) [dI m]=some (.leaf (.int .u8 (IntKind.u8.wrap m))):=by intro m; kernel_rfl
 rw [e,qSY h]
theorem qXs {n:Nat} (h:n<=1114111):TOp.eval EE (.conv 21 3) [.leaf (.int .i32 ((n:Nat):Int))]=some (dI ((n:Nat):Int)):=by
 have e:∀ m:Int,TOp.eval EE (.conv 21 3) [.leaf (.int .i32 m)]=some (dI (IntKind.i64.wrap m)):=by intro m; kernel_rfl
 rw [e,uP (by omega) (by omega)]
theorem yX {s:ByteArray} {i:Nat} (h:i < s.size):TOp.eval EE .chr [.leaf (.string s),dI ((i:Nat):Int)]=some (.leaf (.int .u8 ((bt s i:Nat):Int))):=by
 rw [qH0]
 have hl:i < s.data.toList.length:=by rw [kM]; exact h
 have e:s.data.toList[i]? = some (s.get! i):=by
  rw [← Go.Lib.getD_get!' s i,List.getD_eq_getElem?_getD,List.getElem?_eq_getElem hl]; rfl
 show (s.data.toList[i]?).map (fun (b:UInt8)=>D.leaf (.int .u8 b.toNat))=_
 rw [e]; rfl
theorem qUI {l:List Nat}:pT (l.map fun n=>D.leaf (.int .u8 ((n:Nat):Int)))=some (l.map UInt8.ofNat):=by
 induction l with
 | nil=>rfl
 | cons x r ih =>
  show (pT (r.map fun n=>D.leaf (.int .u8 ((n:Nat):Int)))).map (UInt8.ofNat ((x:Int)).toNat :: ·)=_
  rw [ih]; rfl
def qL2 (l:List Nat):ByteArray:=⟨⟨l.map UInt8.ofNat⟩⟩
theorem qAT {l:List Nat}:TOp.eval EE .bstr [.sl 5 1 (l.map fun n=>D.leaf (.int .u8 ((n:Nat):Int)))]=some (.leaf (.string (qL2 l))):=by
 rw [qHX]
 show (pT (l.map fun n=>D.leaf (.int .u8 ((n:Nat):Int)))).map (fun l=>D.leaf (.string ⟨⟨l⟩⟩))=_
 rw [qUI]; rfl
theorem qHz {l:List Nat} (h:l.length<=4):TOp.eval EE (.lit 5 1) (l.map fun n=>D.leaf (.int .u8 ((n:Nat):Int)))=some (.sl 5 1 (l.map fun n=>D.leaf (.int .u8 ((n:Nat):Int)))):=by
 match l,h with
 | [],_=>rfl
 | [_],_=>rfl
 | [_,_],_=>rfl
 | [_,_,_],_=>rfl
 | [_,_,_,_],_=>rfl
 | _::_::_::_::_::_,h=>simp at h
attribute [local irreducible] Go.Am.wp Go.Am.TOp.eval
theorem qYA {p:Nat}:qB EE 185 [dI ((p:Nat):Int)] (dB (decide (l8 p))):=by
 refine qX0 rfl (qK.step' ?_)
 refine bS wN ?_
 refine iC (fun a=>?_) fun a=>?_
 ·skip
  refine bS cT ?_
  refine iC (fun b=>?_) fun b=>?_
  ·skip
   refine bS zE ?_
   refine iC (fun c=>?_) fun c=>?_
   ·exact qC rfl (congrArg dB (by
     have b1:(p:Int)<=1114111:=dT b
     have c1:(p:Int) < 55296:=dT c
     exact (tD (show l8 p from ⟨by omega,.inl (by omega)⟩)).symm))
   refine bS vT ?_
   exact qC rfl (congrArg dB (by
    have b1:(p:Int)<=1114111:=dT b
    have c1:¬ (p:Int) < 55296:=dF c
    exact decide_eq_decide.2 (by unfold l8; omega)))
  exact qC rfl (congrArg dB (by
    have b1:¬ (p:Int)<=1114111:=dF b
    exact (fD (show ¬ l8 p from fun h=>by have:=h.1; omega)).symm))
 exact absurd (Int.natCast_nonneg p) (dF a)
theorem qYz {p:Nat} (hp:p<=1114111):qB EE 186 [dI ((p:Nat):Int)] (.leaf (.string (qL2 (rD p)))):=by
 refine qXZ rfl (qK.step' ?_)
 refine bS zE ?_
 refine iC (fun a=>?_) fun a=>?_
 ·skip
  have a1:(p:Int) < 128:=dT a
  rw [show rD p=[p] by unfold rD; rw [if_pos (by omega)]]
  refine bS (d:=.leaf (.int .u8 (((p:Nat):Int)))) (qCX (by omega)) ?_
  refine bS (jM rfl) ?_
  refine bS (qAL rfl) ?_
  refine bS (qAT (l:=[p])) ?_
  exact qC rfl rfl
 have a1:¬ (p:Int) < 128:=dF a
 refine bS zE ?_
 refine iC (fun b=>?_) fun b=>?_
 ·skip
  have b1:(p:Int) < 2048:=dT b
  rw [show rD p=[192+p / 64,128+p % 64] by unfold rD; rw [if_neg (by omega),if_pos (by omega)]]
  refine bS (d:=dI ((p / 64:Nat):Int)) (qHk (by omega)) ?_
  refine bS (d:=dI ((192+p / 64:Nat):Int)) (mV (m:=192) (by omega)) ?_
  refine bS (d:=.leaf (.int .u8 (((192+p / 64:Nat):Int)))) (qCX (by omega)) ?_
  refine bS fQ ?_
  refine bS (d:=dI ((128+p % 64:Nat):Int)) (mV (m:=128) (by omega)) ?_
  refine bS (d:=.leaf (.int .u8 (((128+p % 64:Nat):Int)))) (qCX (by omega)) ?_
  refine bS (jM rfl) ?_
  refine bS (jM rfl) ?_
  refine bS (d:=.sl 5 1 ([192+p / 64,128+p % 64].map fun n=>D.leaf (.int .u8 ((n:Nat):Int)))) (qHz (l:=[192+p / 64,128+p % 64]) (by simp)) ?_
  refine bS qAT ?_
  exact qC rfl rfl
 have b1:¬ (p:Int) < 2048:=dF b
 refine bS zE ?_
 refine iC (fun c=>?_) fun c=>?_
 ·skip
  have c1:(p:Int) < 65536:=dT c
  rw [show rD p=[224+p / 4096,128+p / 64 % 64,128+p % 64] by unfold rD; rw [if_neg (by omega),if_neg (by omega),if_pos (by omega)]]
  refine bS (d:=dI ((p / 4096:Nat):Int)) (qFt (by omega)) ?_
  refine bS (d:=dI ((224+p / 4096:Nat):Int)) (mV (m:=224) (by omega)) ?_
  refine bS (d:=.leaf (.int .u8 (((224+p / 4096:Nat):Int)))) (qCX (by omega)) ?_
  refine bS (d:=dI ((p / 64:Nat):Int)) (qHk (by omega)) ?_
  refine bS fQ ?_
  refine bS (d:=dI ((128+p / 64 % 64:Nat):Int)) (mV (m:=128) (by omega)) ?_
  refine bS (d:=.leaf (.int .u8 (((128+p / 64 % 64:Nat):Int)))) (qCX (by omega)) ?_
  refine bS fQ ?_
  refine bS (d:=dI ((128+p % 64:Nat):Int)) (mV (m:=128) (by omega)) ?_
  refine bS (d:=.leaf (.int .u8 (((128+p % 64:Nat):Int)))) (qCX (by omega)) ?_
  refine bS (jM rfl) ?_
  refine bS (jM rfl) ?_
  refine bS (jM rfl) ?_
  refine bS (d:=.sl 5 1 ([224+p / 4096,128+p / 64 % 64,128+p % 64].map fun n=>D.leaf (.int .u8 ((n:Nat):Int)))) (qHz (l:=[224+p / 4096,128+p / 64 % 64,128+p % 64]) (by simp)) ?_
  refine bS qAT ?_
  exact qC rfl rfl
 have c1:¬ (p:Int) < 65536:=dF c
 rw [show rD p=[240+p / 262144,128+p / 4096 % 64,128+p / 64 % 64,128+p % 64] by unfold rD; rw [if_neg (by omega),if_neg (by omega),if_neg (by omega)]]
 refine bS (d:=dI ((p / 262144:Nat):Int)) (qHl (by omega)) ?_
 refine bS (d:=dI ((240+p / 262144:Nat):Int)) (mV (m:=240) (by omega)) ?_
 refine bS (d:=.leaf (.int .u8 (((240+p / 262144:Nat):Int)))) (qCX (by omega)) ?_
 refine bS (d:=dI ((p / 4096:Nat):Int)) (qFt (by omega)) ?_
 refine bS fQ ?_
 refine bS (d:=dI ((128+p / 4096 % 64:Nat):Int)) (mV (m:=128) (by omega)) ?_
 refine bS (d:=.leaf (.int .u8 (((128+p / 4096 % 64:Nat):Int)))) (qCX (by omega)) ?_
 refine bS (d:=dI ((p / 64:Nat):Int)) (qHk (by omega)) ?_
 refine bS fQ ?_
 refine bS (d:=dI ((128+p / 64 % 64:Nat):Int)) (mV (m:=128) (by omega)) ?_
 refine bS (d:=.leaf (.int .u8 (((128+p / 64 % 64:Nat):Int)))) (qCX (by omega)) ?_
 refine bS fQ ?_
 refine bS (d:=dI ((128+p % 64:Nat):Int)) (mV (m:=128) (by omega)) ?_
 refine bS (d:=.leaf (.int .u8 (((128+p % 64:Nat):Int)))) (qCX (by omega)) ?_
 refine bS (jM rfl) ?_
 refine bS (jM rfl) ?_
 refine bS (jM rfl) ?_
 refine bS (jM rfl) ?_
 refine bS (d:=.sl 5 1 ([240+p / 262144,128+p / 4096 % 64,128+p / 64 % 64,128+p % 64].map fun n=>D.leaf (.int .u8 ((n:Nat):Int)))) (qHz (l:=[240+p / 262144,128+p / 4096 % 64,128+p / 64 % 64,128+p % 64]) (by simp)) ?_
 refine bS qAT ?_
 exact qC rfl rfl
end Go.Proofs.YtminhjecpnpaeaaGreatDoor
namespace Go.Proofs.YtminhjecpnpaeaaGreatDoor
open Go Go.Am Go.Proofs Go.RowKit
def qHC:Go.Shelf.Ren:=⟨fun | 144=>128 | 143=>160 | 219=>184 | 217=>217 | 225=>218 | 224=>219 | 267=>220 | 266=>238 | 314=>239 | n=>n,fun | 9=>9 | 4=>4 | 3=>3 | 5=>5 | 46=>218 | 146=>269 | 51=>210 | n=>n,fun | 1=>2 | n=>n⟩
theorem qTX:Go.Proofs.Lays.n144 Tryz.prog qHC:={
 mixed:=by kernel_rfl,
 f143:=Tryz.func160.trans (congrArg some (by kernel_rfl)),
 f144:=Tryz.func128.trans (congrArg some (by kernel_rfl)),
 f217:=Tryz.func217.trans (congrArg some (by kernel_rfl)),
 f219:=Tryz.func184.trans (congrArg some (by kernel_rfl)),
 f224:=Tryz.func219.trans (congrArg some (by kernel_rfl)),
 f225:=Tryz.func218.trans (congrArg some (by kernel_rfl)),
 f266:=Tryz.func238.trans (congrArg some (by kernel_rfl)),
 f267:=Tryz.func220.trans (congrArg some (by kernel_rfl)),
 f314:=Tryz.func239.trans (congrArg some (by kernel_rfl)),
 t3:=Tryz.underlying3,
 a3:=Tryz.isAgg3,
 z3:=Tryz.sizeOf3,
 v3:=Tryz.zeroValue3,
 t4:=Tryz.underlying4,
 a4:=Tryz.isAgg4,
 z4:=Tryz.sizeOf4,
 v4:=Tryz.zeroValue4,
 t5:=Tryz.underlying5,
 a5:=Tryz.isAgg5,
 z5:=Tryz.sizeOf5,
 v5:=Tryz.zeroValue5,
 t9:=Tryz.underlying9,
 a9:=Tryz.isAgg9,
 z9:=Tryz.sizeOf9,
 v9:=Tryz.zeroValue9,
 t46:=Tryz.underlying218,
 a46:=Tryz.isAgg218,
 z46:=Tryz.sizeOf218,
 v46:=Tryz.zeroValue218,
 t51:=Tryz.underlying210,
 a51:=Tryz.isAgg210,
 z51:=Tryz.sizeOf210,
 v51:=Tryz.zeroValue210,
 t146:=Tryz.underlying269,
 a146:=Tryz.isAgg269,
 z146:=Tryz.sizeOf269,
 v146:=Tryz.zeroValue269,
 g1:=by kernel_rfl }
def qBD:Go.Shelf.Ren:=⟨fun | 196=>182 | 259=>215 | n=>n,fun | 9=>9 | 4=>4 | 3=>3 | 5=>5 | 12=>12 | 119=>250 | 0=>0 | 46=>218 | 139=>253 | 138=>252 | 53=>248 | n=>n,fun | 3=>0 | 4=>1 | n=>n⟩
theorem qM8:Go.Proofs.Lays.n196 Tryz.prog qBD:={
 mixed:=by kernel_rfl,
 f196:=Tryz.func182.trans (congrArg some (by kernel_rfl)),
 f259:=Tryz.func215.trans (congrArg some (by kernel_rfl)),
 t0:=Tryz.underlying0,
 a0:=Tryz.isAgg0,
 z0:=Tryz.sizeOf0,
 v0:=Tryz.zeroValue0,
 t3:=Tryz.underlying3,
 a3:=Tryz.isAgg3,
 z3:=Tryz.sizeOf3,
 v3:=Tryz.zeroValue3,
 t4:=Tryz.underlying4,
 a4:=Tryz.isAgg4,
 z4:=Tryz.sizeOf4,
 v4:=Tryz.zeroValue4,
 t5:=Tryz.underlying5,
 a5:=Tryz.isAgg5,
 z5:=Tryz.sizeOf5,
 v5:=Tryz.zeroValue5,
 t9:=Tryz.underlying9,
 a9:=Tryz.isAgg9,
 z9:=Tryz.sizeOf9,
 v9:=Tryz.zeroValue9,
 t12:=Tryz.underlying12,
 a12:=Tryz.isAgg12,
 z12:=Tryz.sizeOf12,
 v12:=Tryz.zeroValue12,
 t46:=Tryz.underlying218,
 a46:=Tryz.isAgg218,
 z46:=Tryz.sizeOf218,
 v46:=Tryz.zeroValue218,
 t53:=Tryz.underlying248,
 a53:=Tryz.isAgg248,
 z53:=Tryz.sizeOf248,
 v53:=Tryz.zeroValue248,
 t119:=Tryz.underlying250,
 a119:=Tryz.isAgg250,
 z119:=Tryz.sizeOf250,
 t138:=Tryz.underlying252,
 a138:=Tryz.isAgg252,
 z138:=Tryz.sizeOf252,
 v138:=Tryz.zeroValue252,
 t139:=Tryz.underlying253,
 a139:=Tryz.isAgg253,
 z139:=Tryz.sizeOf253,
 v139:=Tryz.zeroValue253,
 g3:=by kernel_rfl,
 g4:=by kernel_rfl }
theorem qWK {σ:zZ} {v v':Value} (h:VR σ v v') (hl:gC v=true):v'=v:=by
 cases h <;> first | rfl | simp [gC] at hl
theorem fX {σ:zZ} {H:AH} {w:World} {b:Nat} {cs:List Value} {el rt:Nat} (hr:HR EE σ H w) (hb:H.blocks.get b=some ⟨.cells cs el,rt,false⟩) (hlt:b < EE.prog.globals.size) :
  ∀ i v,cs[i]? = some v->gC v=true->w.cell? ⟨b,i,none⟩=some v:=by
 intro i v hi hd
 obtain ⟨L,h1,h2,h3⟩:=hr.glob b hlt
 obtain ⟨o,h4,h5⟩:=hr.objs b _ L hb h1
 cases o with
 | cells ccs cel fz =>
  simp only [oT] at h5
  obtain ⟨_,v',h6,h7⟩:=h5.2.2.2.2 i v hi
  rw [h3,Nat.zero_add] at h6
  rw [h2] at h4
  simp only [World.cell?,h4]
  rw [h6,qWK h7 hd]
  rfl
 | _=>simp only [oT] at h5
theorem qNk:2<=EE.prog.globals.size:=by
 unfold EE
 exact (by kernel_rfl:Nat.ble 2 Tryz.prog.globals.size=true) |> lB
theorem qJV {σ:zZ} {H:AH} {w:World} {g:zG} (hr:HR EE σ H w) (hg:zG.le g H.blocks.get) (hl:qGV EE g):Lib.Utf8Tabs 0 1 w:=by
 have h0:H.blocks.get 0=some ⟨.cells qSN 5,0,false⟩:=hg _ _ (hl (0,⟨.cells qSN 5,0,false⟩) (by unfold EE; exact List.mem_cons_self))
 have h1:H.blocks.get 1=some ⟨.cells qQW 5,0,false⟩:=hg _ _ (hl (1,⟨.cells qQW 5,0,false⟩) (by unfold EE; exact mC _ List.mem_cons_self))
 have hs:=qNk
 refine ⟨fun c hc=>fX hr h0 (by omega) c _ ?_ rfl,fun i hi=>⟨fX hr h1 (by omega) (2 * i) _ ?_ rfl,fX hr h1 (by omega) (2 * i+1) _ ?_ rfl⟩⟩
 ·simp [qSN,hc]
 ·have:2 * i < 32:=by omega
  have e:2 * i % 2=0:=by omega
  have e2:2 * i / 2=i:=by omega
  simp [qQW,this]
 have:2 * i+1 < 32:=by omega
 have e:¬ (2 * i+1) % 2=0:=by omega
 have e2:(2 * i+1) / 2=i:=by omega
 simp [qQW,this,e,e2]
theorem qIf {w w':World} (h:Below w.heap.size w w'):Kept w w':=⟨h.size,h.block,h.tape,h.os,h.output⟩
theorem qV3 {s:ByteArray} (hs:s.size<=9223372036854775807):qB EE 182 [.leaf (.string s)] (dB (Go.Lib.validD s.data.toList)):=by
 refine .inl ⟨by decide,⟨_,yW (c:=jG Tryz.f182) Tryz.func182 rfl (by kernel_rfl)⟩,fun H g args hwf hg hl hd=>?_⟩
 cases hd with
 | cons h1 h2 =>
  cases h2
  cases h1
  refine ⟨.bool _,{ H with next:=H.next+1 },g,?_,Nat.lt_succ_self _,fun b k hb=>⟨(hwf b k hb).1,Nat.lt_succ_of_lt (hwf b k hb).2⟩,fun _ _=>rfl,Nat.min_le_left _ _,zG.le_refl _,hg,fun _ _=>rfl,.leaf rfl⟩
  intro σ w args' hr hv _
  cases hv with
  | cons v1 v2 =>
   cases v2
   cases v1
   refine (Any.utf8_ValidString qM8 s w hs (qJV hr hg hl)).mono fun e w' ⟨h1,h2⟩=>⟨σ,.bool _,h1,.leaf rfl,qA8 hr (qIf h2) (by unfold EE; exact List.cons_ne_nil _ _)⟩
theorem qX7 {s:ByteArray} {c:UInt8}:qB EE 128 [.leaf (.string s),.leaf (.string ⟨#[c]⟩)] (dB (decide (0<=Go.Lib.indexByte s.data.toList c))):=by
 refine .inl ⟨by decide,⟨_,yW (c:=jG Tryz.f128) Tryz.func128 rfl (by kernel_rfl)⟩,fun H g args hwf hg hl hd=>?_⟩
 cases hd with
 | cons h1 h2 =>
  cases h2 with
  | cons h2 h3 =>
  cases h3
  cases h1
  cases h2
  refine ⟨.bool _,{ H with next:=H.next+1 },g,?_,Nat.lt_succ_self _,fun b k hb=>⟨(hwf b k hb).1,Nat.lt_succ_of_lt (hwf b k hb).2⟩,fun _ _=>rfl,Nat.min_le_left _ _,zG.le_refl _,hg,fun _ _=>rfl,.leaf rfl⟩
  intro σ w args' hr hv _
  cases hv with
  | cons v1 v2 =>
   cases v2 with
   | cons v2 v3 =>
   cases v3
   cases v1
   cases v2
   refine (Any.strings_Contains_one qTX s c w).mono fun e w' ⟨h1,h2⟩=>⟨σ,.bool _,h1,.leaf rfl,?_⟩
   subst h2
   exact qA8 hr (Kept.refl _) (by unfold EE; exact List.cons_ne_nil _ _)
end Go.Proofs.YtminhjecpnpaeaaGreatDoor
