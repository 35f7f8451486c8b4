/- Copies of languages are the languages; whether one is light. Conditions: none. -/
import Derived.Test.YtminhjecpnpaeaaGreatDoorBf
import Derived.Test.YtminhjecpnpaeaaGreatDoorBi
import Derived.Test.YtminhjecpnpaeaaGreatDoorBj
import Derived.Test.YtminhjecpnpaeaaGreatDoorBe
import Derived.Test.YtminhjecpnpaeaaGreatDoorBa
import Derived.Test.YtminhjecpnpaeaaGreatDoorOp
import Derived.Test.YtminhjecpnpaeaaGreatDoorAm7
set_option linter.unusedVariables false
set_option linter.unusedSimpArgs false
namespace Go.Proofs.YtminhjecpnpaeaaGreatDoor
open Go Go.Am Go.Proofs Go.Am.Tt Lt
attribute [local irreducible] Go.Am.wp Go.Am.TOp.eval
variable {B:Nat}
theorem yK {el sz jA sz':Nat} {e:Sh} {d:D} (h:qI B (.sl el sz e) d):qI B (.sl jA sz' e) (wB jA sz' d) :=
 cB (qJ h) fun x hx=>by
  obtain ⟨i,hi⟩:=List.mem_iff_getElem?.1 hx
  exact zH h hi
theorem bH {el sz jA sz':Nat} {e e':Sh} {d:D} {f:D->D} (h:qI B (.sl el sz e) d) (hf:∀ x,qI B e x->qI B e' (f x)):qI B (.sl jA sz' e') (.sl jA sz' (d.es.map f)) :=
 cB (by rw [List.length_map]; exact qJ h) fun x hx=>by
  obtain ⟨y,hy,rfl⟩:=List.mem_map.1 hx
  obtain ⟨i,hi⟩:=List.mem_iff_getElem?.1 hy
  exact hf y (zH h hi)
theorem bM {el sz jA sz':Nat} {e:Sh} {d:D} {f:D->D} (h:qI 1048576 (.sl el sz e) d) (hf:∀ x,qI 1048576 e x->fG x (f x)):fG d (.sl jA sz' (d.es.map f)) :=
 qQn (qD h) fun x hx=>by
  obtain ⟨i,hi⟩:=List.mem_iff_getElem?.1 hx
  exact hf x (zH h hi)
theorem yL {el sz jA sz':Nat} {e:Sh} {d:D} (h:qI 1048576 (.sl el sz e) d):fG d (wB jA sz' d):=qQo (qD h)
theorem qEN {x:D} (h:qI 1048576 qXF x):qI 1048576 qXF (qGY x)/\fG x (qGY x):=by
 obtain ⟨_,rfl,_,_,rfl,⟨y0,rfl⟩,y1,_,rfl,k1,_,_,rfl,⟨y2,rfl⟩,y3,_,rfl,k3,_,_,rfl,⟨y4,rfl⟩,y5,_,rfl,k5,y6,_,rfl,k6,y7,_,rfl,k7,rfl⟩:=h
 exact ⟨dJ (qF vP (qF (yK k1) (qF vP (qF (bH k3 fun x hx=>yK hx) (qF vP (qF (yK k5) (qF (yK k6) (qF (yK k7) j7)))))))),
  .agg ⟨.refl _,yL k1,.refl _,bM k3 fun x hx=>yL hx,.refl _,yL k5,yL k6,yL k7,trivial⟩⟩
theorem qEL {x:D} (h:qI 1048576 qOh x):qI 1048576 qOh (qGX x)/\fG x (qGX x):=by
 obtain ⟨_,rfl,_,_,rfl,⟨y0,rfl,hy⟩,y1,_,rfl,k1,rfl⟩:=h
 exact ⟨dJ (qF (mR hy) (qF (yK k1) j7)),.agg ⟨.refl _,yL k1,trivial⟩⟩
theorem qEM {x:D} (h:qI 1048576 qXE x):qI 1048576 qXE (qJy x)/\fG x (qJy x):=by
 obtain ⟨_,rfl,y0,_,rfl,k0,y1,_,rfl,k1,y2,_,rfl,k2,y3,_,rfl,k3,_,_,rfl,⟨y4,rfl⟩,_,_,rfl,⟨y5,rfl⟩,rfl⟩:=h
 exact ⟨dJ (qF (yK k0) (qF (yK k1) (qF (yK k2) (qF (yK k3) (qF qAP (qF qAP j7)))))),.agg ⟨yL k0,yL k1,yL k2,yL k3,.refl _,.refl _,trivial⟩⟩
theorem qQx {g:D} (h:qI 1048576 qGZ g):qB EE 9 [g] (qXt g)/\vA qGZ (qXt g)/\fG g (qXt g):=by
 obtain ⟨_,rfl,x0,_,rfl,k0,_,_,rfl,⟨s1,rfl,hs1⟩,x2,_,rfl,k2,x3,_,rfl,k3,x4,_,rfl,k4,_,_,rfl,⟨x5,rfl⟩,x6,_,rfl,k6,x7,_,rfl,k7,x8,_,rfl,k8,rfl⟩:=h
 refine ⟨g9 k0 k2 k3 k4 k6 k7 k8,eH (B:=1048576) ?_,?_⟩
 ·exact dJ (qF (yK k0) (qF (mR hs1) (qF (bH k2 fun x hx=>(qEL hx).1) (qF (bH k3 fun x hx=>yK hx) (qF (bH k4 fun x hx=>(qEM hx).1) (qF vP (qF (yK k6) (qF (yK k7) (qF (bH k8 fun x hx=>(qEN hx).1) j7)))))))))
 exact .agg ⟨yL k0,.refl _,bM k2 fun x hx=>(qEL hx).2,bM k3 fun x hx=>yL hx,bM k4 fun x hx=>(qEM hx).2,.refl _,yL k6,yL k7,bM k8 fun x hx=>(qEN hx).2,trivial⟩
theorem qUS {g:D} (h:qI 1048576 qGZ g):∃ cs,g=.agg cs/\cs.length=9:=by
 obtain ⟨_,rfl,x0,_,rfl,h_0,x1,_,rfl,h_1,x2,_,rfl,h_2,x3,_,rfl,h_3,x4,_,rfl,h_4,x5,_,rfl,h_5,x6,_,rfl,h_6,x7,_,rfl,h_7,x8,_,rfl,h_8,rfl⟩:=h
 exact ⟨_,rfl,rfl⟩
theorem qOW {B el sz:Nat} {e:Sh} {d:D} (h:qI B (.sl el sz e) d):fI d=(d.es.length:Int):=by
 simp only [qI] at h
 rcases h with rfl | ⟨es,rfl,_⟩ <;> rfl
theorem qM5 {g:D} (h:qI 1048576 qGZ g):∃ t,qB EE 6 [g] (dB t):=by
 have h0:=h
 obtain ⟨_,rfl,x0,_,rfl,h_0,x1,_,rfl,h_1,x2,_,rfl,h_2,x3,_,rfl,h_3,x4,_,rfl,h_4,x5,_,rfl,h_5,x6,_,rfl,h_6,x7,_,rfl,h_7,x8,_,rfl,h_8,rfl⟩:=h
 have hv:fI x8=(x8.es.length:Int):=qOW h_8
 have hl:=qJ h_8
 obtain ⟨rs,h1,_,h2⟩:=qWI [_] (dK (B:=1048576) (ss:=e6.S.ss) rfl (qF h0 j7)) (by
  intro q hq
  rcases List.mem_cons.1 hq with rfl | hq
  ·show fI x8<=(0:Int)+299999999; omega
  cases hq)
 have h1:vW [.bool] rs:=h1
 simp only [vW,vI] at h1
 obtain ⟨d,_,rfl,⟨t,rfl⟩,rfl⟩:=h1
 exact ⟨t,h2⟩
theorem qIH {a b:D} (ha:vA qGZ a) (hb:vA qGZ b) (e:fG b a):qB EE 13 [a,b] (dB true):=by
 have k:=zAx ha hb
 rw [(e b).1,qCa hb] at k
 exact k
end Go.Proofs.YtminhjecpnpaeaaGreatDoor
namespace Go.Proofs.YtminhjecpnpaeaaGreatDoor
open Go Go.Am Go.Proofs
attribute [local irreducible] Go.Am.wp Go.Am.TOp.eval
theorem qFY:vA qGZ zL:=eH (B:=1048576) (dJ (qF gS (qF (mR (by decide)) (qF gS (qF gS (qF gS (qF vP (qF gS (qF gS (qF gS j7))))))))))
theorem qIR {e:Int} {a b:D} (ha:vA qGZ a) (hb:vA qGZ b) (h:fG b a):qB EE 13 [pick e a,pick e b] (dB true):=by
 unfold pick
 split
 ·exact qIH ha hb h
 exact qIH qFY qFY (.refl _)
theorem aC {e:Int} {l:List D} (h:l.length=9):TOp.eval EE (.chk true 9) [pick e (.agg l)]=some (pick e (.agg l)):=by
 unfold pick; split
 ·exact qU h
 exact qU rfl
theorem qSO {e:Int} {x y:Operand}:TOp.eval EE (.bin .eql 43 x y) [dI e,dI e]=some (dB true):=by
 rw [yR,tD rfl]
theorem qYc {g g' A1 B1 A2 B2:D} {st:Int} {xs fs nm us ls:D} {e1 e2:Int} (c9:qB EE 9 [g] g') (wg:TOp.eval EE (.chk true 9) [g]=some g)
  (k14:qB EE 14 [g',.agg [dI st,xs,fs]] (.tup [A1,dI e1])) (k15:qB EE 15 [g,.agg [dI st,xs,fs]] (.tup [B1,dI e1]))
  (k16:qB EE 16 [g',.agg [nm,us,ls]] (.tup [A2,dI e2])) (k17:qB EE 17 [g,.agg [nm,us,ls]] (.tup [B2,dI e2]))
  (wA1:TOp.eval EE (.chk true 9) [A1]=some A1) (wB1:TOp.eval EE (.chk true 9) [B1]=some B1) (wA2:TOp.eval EE (.chk true 9) [A2]=some A2) (wB2:TOp.eval EE (.chk true 9) [B2]=some B2)
  (s1:qB EE 13 [A1,B1] (dB true)) (s2:qB EE 13 [A2,B2] (dB true)) (hw:qB EE 7 [] (dB true)) (hls:qI 1048576 qOi ls) :
  ∀ i:Nat,qK EE (qB EE) qS4 1 [dI ((i:Nat):Int),g,.agg [dI st,xs,fs],.agg [nm,us,ls]] (dB true):=by
 have i_ls:=qD hls
 have hll:=qJ hls
 refine zR ls.es.length fun i ih=>?_
 refine qK.step' ?_
 refine bS (qA (off:=2) rfl i_ls.one) ?_
 refine bS (qL i_ls) ?_
 refine bS zE ?_
 refine iC (fun c=>?_) fun c=>?_
 ·skip
  have c1:i < ls.es.length:=by have:=dT c; omega
  have ih:=ih c1
  obtain ⟨l,e_l⟩:∃ l,ls.es[i]? = some l:=⟨_,List.getElem?_eq_getElem c1⟩
  have i_l:=qD (zH hls e_l)
  refine bS (qA (off:=2) rfl i_ls.one) ?_
  refine bS (vB (s:=((i:Nat):Int)) (by omega) e_l) ?_
  refine bS (z6 (s:=((i:Nat):Int)) i_ls (by omega) e_l i_l.one) ?_
  refine bS (qL i_l) ?_
  refine bS vT ?_
  refine iC (fun d=>?_) fun d=>?_
  ·skip
   refine cS hw ?_
   exact qC rfl rfl
  refine bS (d:=dI ((i+1:Nat):Int)) (zA (qX (by omega))) ?_
  exact qE rfl ih
 refine cS c9 ?_
 refine cS k14 ?_
 refine bS (yP rfl) ?_
 refine bS (yP rfl) ?_
 refine bS wA1 ?_
 refine cS k15 ?_
 refine bS (yP rfl) ?_
 refine bS (yP rfl) ?_
 refine bS wB1 ?_
 refine cS c9 ?_
 refine cS k16 ?_
 refine bS (yP rfl) ?_
 refine bS (yP rfl) ?_
 refine bS wA2 ?_
 refine cS k17 ?_
 refine bS (yP rfl) ?_
 refine bS (yP rfl) ?_
 refine bS wB2 ?_
 refine cS s1 ?_
 refine zY (t:=true) rfl ?_
 refine kZ ?_
 refine bS qSO ?_
 refine zY (t:=true) rfl ?_
 refine kZ ?_
 refine cS s2 ?_
 refine zY (t:=true) rfl ?_
 refine kZ ?_
 refine bS qSO ?_
 refine zY (t:=true) rfl ?_
 refine kZ ?_
 refine cS hw ?_
 exact qC rfl rfl
theorem h4 {g : D} {st : Int} {xs fs nm us ls : D} (hg : qI 1048576 qGZ g) (hxs : qI 1048576 qOr xs) (hfs : qI 1048576 uL fs) (hnm : qI 1048576 .str nm) (hus : qI 1048576 qQY us) (hls : qI 1048576 qOi ls) (hw : qB EE 7 [] (dB true)) :
    qB EE 4 [g, .agg [dI st, xs, fs], .agg [nm, us, ls]] (dB true) := by
  obtain ⟨b, hl⟩ := qM5 hg
  obtain ⟨c9, _, _⟩ := qQx hg
  have i_xs := qD hxs
  have i_fs := qD hfs
  have i_us := qD hus
  have i_ls := qD hls
  have o_nm : nm.one = true := by obtain ⟨s, rfl, _⟩ := hnm; rfl
  have T1 : ∀ i : Nat, qK EE (qB EE) qS4 1 [dI ((i : Nat) : Int), g, .agg [dI st, xs, fs], .agg [nm, us, ls]] (dB true) := by
    have hg0 := hg
    obtain ⟨_, rfl, x0, _, rfl, k0, _, _, rfl, ⟨s1, rfl, hs1⟩, x2, _, rfl, k2, x3, _, rfl, k3, x4, _, rfl, k4, _, _, rfl, ⟨x5, rfl⟩, x6, _, rfl, k6, x7, _, rfl, k7, x8, _, rfl, k8, rfl⟩ := hg
    have o0 := (qD k0).one; have o2 := (qD k2).one; have o3 := (qD k3).one; have o4 := (qD k4).one; have o6 := (qD k6).one; have o7 := (qD k7).one; have o8 := (qD k8).one
    have b0 : qI 1048576 (.sl 81 2 (.st [.str, .int .i64])) (wB 81 2 x0) := yK k0
    have v0 : fG x0 (wB 81 2 x0) := yL k0
    have b2 : qI 1048576 (.sl 77 2 qOh) (.sl 77 2 (x2.es.map qGX)) := bH k2 fun x hx => (qEL hx).1
    have v2 : fG x2 (.sl 77 2 (x2.es.map qGX)) := bM k2 fun x hx => (qEL hx).2
    have b3 : qI 1048576 (.sl 50 1 (.sl 9 1 .str)) (.sl 50 1 (x3.es.map (wB 9 1))) := bH k3 fun x hx => yK hx
    have v3 : fG x3 (.sl 50 1 (x3.es.map (wB 9 1))) := bM k3 fun x hx => yL hx
    have b4 : qI 1048576 (.sl 39 6 qXE) (.sl 39 6 (x4.es.map qJy)) := bH k4 fun x hx => (qEM hx).1
    have v4 : fG x4 (.sl 39 6 (x4.es.map qJy)) := bM k4 fun x hx => (qEM hx).2
    have b6 : qI 1048576 (.sl 92 3 (.st [.int .i64, .int .i64, .int .i64])) (wB 92 3 x6) := yK k6
    have v6 : fG x6 (wB 92 3 x6) := yL k6
    have b7 : qI 1048576 uL (wB 3 1 x7) := yK k7
    have v7 : fG x7 (wB 3 1 x7) := yL k7
    have b8 : qI 1048576 (.sl 64 8 qXF) (.sl 64 8 (x8.es.map qGY)) := bH k8 fun x hx => (qEN hx).1
    have v8 : fG x8 (.sl 64 8 (x8.es.map qGY)) := bM k8 fun x hx => (qEN hx).2
    have len0 : (wB 81 2 x0).es.length = x0.es.length := rfl
    have sA : vA qGZ (.agg [wB 81 2 x0, .leaf (.string s1), .sl 77 2 (x2.es.map qGX), .sl 50 1 (x3.es.map (wB 9 1)), .sl 39 6 (x4.es.map qJy), dI st, xs, fs, .sl 64 8 (x8.es.map qGY)]) := eH (B := 1048576) (dJ (qF b0 (qF (mR hs1) (qF b2 (qF b3 (qF b4 (qF vP (qF hxs (qF hfs (qF b8 j7))))))))))
    have sB : vA qGZ (.agg [x0, .leaf (.string s1), x2, x3, x4, dI st, xs, fs, x8]) := eH (B := 1048576) (dJ (qF k0 (qF (mR hs1) (qF k2 (qF k3 (qF k4 (qF vP (qF hxs (qF hfs (qF k8 j7))))))))))
    have vAB : fG (.agg [x0, .leaf (.string s1), x2, x3, x4, dI st, xs, fs, x8]) (.agg [wB 81 2 x0, .leaf (.string s1), .sl 77 2 (x2.es.map qGX), .sl 50 1 (x3.es.map (wB 9 1)), .sl 39 6 (x4.es.map qJy), dI st, xs, fs, .sl 64 8 (x8.es.map qGY)]) := .agg ⟨v0, .refl _, v2, v3, v4, .refl _, .refl _, .refl _, v8, trivial⟩
    have sC : vA qGZ (.agg [wB 81 2 x0, nm, us, ls, .sl 39 6 (x4.es.map qJy), dI x5, wB 92 3 x6, wB 3 1 x7, .sl 64 8 (x8.es.map qGY)]) := eH (B := 1048576) (dJ (qF b0 (qF hnm (qF hus (qF hls (qF b4 (qF vP (qF b6 (qF b7 (qF b8 j7))))))))))
    have sD : vA qGZ (.agg [x0, nm, us, ls, x4, dI x5, x6, x7, x8]) := eH (B := 1048576) (dJ (qF k0 (qF hnm (qF hus (qF hls (qF k4 (qF vP (qF k6 (qF k7 (qF k8 j7))))))))))
    have vCD : fG (.agg [x0, nm, us, ls, x4, dI x5, x6, x7, x8]) (.agg [wB 81 2 x0, nm, us, ls, .sl 39 6 (x4.es.map qJy), dI x5, wB 92 3 x6, wB 3 1 x7, .sl 64 8 (x8.es.map qGY)]) := .agg ⟨v0, .refl _, .refl _, .refl _, v4, .refl _, v6, v7, v8, trivial⟩
    exact qYc c9 (qU rfl) (zAw rfl rfl rfl rfl rfl rfl rfl rfl rfl hxs hfs) (zAv o0 rfl o2 o3 o4 rfl o6 o7 o8 hxs hfs)
      (zAu (qD b0) rfl rfl rfl rfl rfl rfl rfl rfl hnm hus hls) (zAt (qD k0) rfl o2 o3 o4 rfl o6 o7 o8 hnm hus hls)
      (aC rfl) (aC rfl) (aC rfl) (aC rfl) (qIR sA sB vAB) (qIR sC sD vCD) hw hls
  have wg : TOp.eval EE (.chk true 9) [g] = some g := by obtain ⟨cs, rfl, hl9⟩ := qUS hg; exact qU hl9
  refine u4 rfl (qK.step' ?_)
  refine bS wg ?_
  refine bS (qU rfl) ?_
  refine bS (qU rfl) ?_
  refine bS (qA (off := 1) rfl i_xs.one) ?_
  refine bS (qL i_xs) ?_
  refine bS vT ?_
  refine iC (fun a=>?_) fun a=>?_
  · skip
    refine cS hw ?_
    exact qC rfl rfl
  · skip
    refine bS (qA (off := 2) rfl i_fs.one) ?_
    refine bS (qL i_fs) ?_
    refine bS vT ?_
    refine iC (fun c=>?_) fun c=>?_
    · skip
      refine cS hw ?_
      exact qC rfl rfl
    · skip
      refine bS (qA (off := 1) rfl i_us.one) ?_
      refine bS (qL i_us) ?_
      refine bS vT ?_
      refine iC (fun d=>?_) fun d=>?_
      · skip
        refine cS hw ?_
        exact qC rfl rfl
      · skip
        refine bS (qA (off := 2) rfl i_ls.one) ?_
        refine bS (qL i_ls) ?_
        refine bS vT ?_
        refine iC (fun e=>?_) fun e=>?_
        · skip
          refine cS hw ?_
          exact qC rfl rfl
        · skip
          refine cS hl ?_
          refine bS vV ?_
          refine iC (fun f=>?_) fun f=>?_
          · skip
            refine cS hw ?_
            exact qC rfl rfl
          · exact qE rfl (T1 0)
end Go.Proofs.YtminhjecpnpaeaaGreatDoor
namespace Go.Proofs.YtminhjecpnpaeaaGreatDoor
open Go Go.Am Go.Proofs
theorem qZ4:qM9 (qKV Tryz.prog) Tryz.f7.results.toList (qMj (qKV Tryz.prog) 100000 (.code (jG Tryz.f7) ⟨Nat.max Tryz.f7.ntmps 0,false,.leaf⟩) (qAh 1000))=true:=by kernel_rfl
theorem qWV:Nat.ble Tryz.prog.globals.size 1000=true:=by kernel_rfl
theorem qZj:EOk (qKV Tryz.prog):=qQp qWS qWo
theorem qTd:(qKV Tryz.prog).funcs.get 7=some Tryz.f7:=by kernel_rfl
theorem qXz:Tryz.f7.body=some (jG Tryz.f7):=by kernel_rfl
theorem qXA:qB EE 7 [] (dB true):=by
 refine qEv ⟨_,yW (c:=jG Tryz.f7) Tryz.func7 rfl (by kernel_rfl)⟩ fun w=>?_
 obtain ⟨fr2,H2,s3,n3,r3⟩:=qPM qZj qZ4
 exact qGz (E:=qKV Tryz.prog) rfl rfl qWV (qHo qZj qTd qXz s3 n3 r3) w
end Go.Proofs.YtminhjecpnpaeaaGreatDoor
