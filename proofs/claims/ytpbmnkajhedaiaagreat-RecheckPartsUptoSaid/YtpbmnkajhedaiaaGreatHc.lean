/- slices.SortStableFunc over few notes: by the library's insertion sort. Conditions: none. -/
import Derived.Test.YtpbmnkajhedaiaaGreatHb
import Derived.Test.YtpbmnkajhedaiaaGreatSp
import Derived.Shelf.SlSortCmp.InsertionK
import Derived.Shelf.GgSortFunc.Small
set_option linter.all false
namespace Go.Proofs.YtpbmnkajhedaiaaGreat
open Go Go.Am Go.Proofs Go.Shelf Go.RowKit Go.Lib Go.Sort Go.Am.Tr
def qCe:Go.Shelf.Ren:=⟨λ|20=>189|n=>n,λ|24=>106|22=>61|3=>3|25=>209|4=>4|0=>0|n=>n,λn=>n⟩
theorem qWX:SlLaysF0.n20 Tryz.prog qCe:={
 mixed:=by kernel_rfl,
 f20:=⟨Tryz.f189.name,by decide,Tryz.func189.trans (congrArg some (by kernel_rfl))⟩,
 t0:=Tryz.underlying0,
 a0:=Tryz.isAgg0,
 z0:=Tryz.sizeOf0,
 v0:=Tryz.zeroValue0,
 t3:=Tryz.underlying3,
 a3:=Tryz.isAgg3,
 z3:=Tryz.sizeOf3,
 v3:=Tryz.zeroValue3,
 t4:=Tryz.underlying4,
 a4:=Tryz.isAgg4,
 z4:=Tryz.sizeOf4,
 v4:=Tryz.zeroValue4,
 t22:=Tryz.underlying61,
 a22:=Tryz.isAgg61,
 z22:=Tryz.sizeOf61,
 v22:=Tryz.zeroValue61,
 t25:=Tryz.underlying209,
 a25:=Tryz.isAgg209,
 z25:=Tryz.sizeOf209,
 v25:=Tryz.zeroValue209}
section
variable{α:Type}[Inhabited α]
set_option maxHeartbeats 2000000 in
set_option maxRecDepth 100000 in
theorem qZu(k:Nat)(aE:∀w,(isAgg 106).run Tryz.prog w=.ok true w)(zE:∀w,(Go.sizeOf 106).run Tryz.prog w=.ok k w)(enc:α->List Value)(hk:∀x,(enc x).length=k)(h1:∀x,∀v∈enc x,v.oneCell'=true)(cf:α->α->Int)(g:Nat)(cb:Array Value)(blk off cap:Nat)(d:Array α)(w:World)(eg:∀args w,(callFunc g args).run Tryz.prog w=.ok (.enter g args) w)(hcmp:CmpLays Tryz.prog g cb enc k cf blk off d.size w)(hH:HoldsK enc k w blk off d)(hblk:blk<w.heap.size)(h20:d.size<20):Calls Tryz.prog 165 #[.slice (some ⟨blk,off,none⟩) d.size cap,.int .i64 d.size,.func (.func g) #[] cb] w λe w'=>e=.returned (.tuple #[])/\∃n os,w'=sortWorldK enc k w blk off n (Sort.insertionSort (ltOf cf) d 0 d.size) os:=by
 have e189:∀args w,(callFunc 189 args).run Tryz.prog w=.ok (.enter 189 args) w:=enters_of Tryz.func189 (by kernel_rfl) rfl;have hi:=AnyQ.insertionSortCmpFunc (P:=Tryz.prog) (ρ:=qCe) qWX k aE zE enc hk h1 cf g cb blk off cap 0 d.size d w eg hcmp hH hblk (Nat.zero_le _) (vE _) (by omega);have hi:Calls Tryz.prog 189 #[.slice (some ⟨blk,off,none⟩) d.size cap,.int .i64 0,.int .i64 d.size,.func (.func g) #[] cb] w λe w'=>e=.returned (.tuple #[])/\∃n os,w'=sortWorldK enc k w blk off n (Sort.insertionSort (ltOf cf) d 0 d.size) os:=hi;clear hH hcmp hk h1
 go_enter Tryz.func165,Tryz.ntmps165
 have h20a:¬((20:Int)<=(d.size:Int)):=by omega
 have h20b:¬((20:Int)<(d.size:Int)):=by omega
 go_wp2
 refine wp_loop_rounds 1 ?_;rw[rounds_succ]
 go_wp2_with (go_at_fn 189;refine hi.mono ?_;rintro e w' ⟨rfl,n,os,rfl⟩)
 refine wp_loop_rounds 1 ?_;rw[rounds_succ]
 go_wp2
 go_end0
 exact⟨rfl,n,os,rfl⟩
set_option maxHeartbeats 2000000 in
set_option maxRecDepth 100000 in
theorem qZv(k:Nat)(aE:∀w,(isAgg 106).run Tryz.prog w=.ok true w)(zE:∀w,(Go.sizeOf 106).run Tryz.prog w=.ok k w)(enc:α->List Value)(hk:∀x,(enc x).length=k)(h1:∀x,∀v∈enc x,v.oneCell'=true)(cf:α->α->Int)(g:Nat)(cb:Array Value)(blk off cap:Nat)(d:Array α)(w:World)(eg:∀args w,(callFunc g args).run Tryz.prog w=.ok (.enter g args) w)(hcmp:CmpLays Tryz.prog g cb enc k cf blk off d.size w)(hH:HoldsK enc k w blk off d)(hblk:blk<w.heap.size)(h20:d.size<20):Calls Tryz.prog 128 #[.slice (some ⟨blk,off,none⟩) d.size cap,.func (.func g) #[] cb] w λe w'=>e=.returned (.tuple #[])/\∃n os,w'=sortWorldK enc k w blk off n (Sort.insertionSort (ltOf cf) d 0 d.size) os:=by
 have e165:∀args w,(callFunc 165 args).run Tryz.prog w=.ok (.enter 165 args) w:=enters_of Tryz.func165 (by kernel_rfl) rfl;have hi:=qZu k aE zE enc hk h1 cf g cb blk off cap d w eg hcmp hH hblk h20;clear hH hcmp hk h1
 go_enter Tryz.func128,Tryz.ntmps128
 go_wp2_with (go_at_fn 165;refine hi.mono ?_;rintro e w' ⟨rfl,n,os,rfl⟩)
 go_end0
 exact⟨rfl,n,os,rfl⟩
end
set_option maxHeartbeats 2000000 in
set_option maxRecDepth 100000 in
theorem qVP(p:Option Addr)(cap:Nat)(f:Value)(w:World):Calls Tryz.prog 189 #[.slice p 0 cap,.int .i64 0,.int .i64 0,f] w λe w'=>e=.returned (.tuple #[])/\w'=w:=by
 go_enter Tryz.func189,Tryz.ntmps189
 go_wp2
 refine wp_loop_rounds 1 ?_;rw[rounds_succ]
 go_wp2
 go_end0
 exact⟨rfl,rfl⟩
set_option maxHeartbeats 2000000 in
set_option maxRecDepth 100000 in
theorem qVQ(p:Option Addr)(cap:Nat)(f:Value)(w:World):Calls Tryz.prog 165 #[.slice p 0 cap,.int .i64 0,f] w λe w'=>e=.returned (.tuple #[])/\w'=w:=by
 have e189:∀args w,(callFunc 189 args).run Tryz.prog w=.ok (.enter 189 args) w:=enters_of Tryz.func189 (by kernel_rfl) rfl;have hi:=qVP p cap f w
 go_enter Tryz.func165,Tryz.ntmps165
 go_wp2
 refine wp_loop_rounds 1 ?_;rw[rounds_succ]
 go_wp2_with (go_at_fn 189;refine hi.mono ?_;rintro e w' ⟨rfl,rfl⟩)
 refine wp_loop_rounds 1 ?_;rw[rounds_succ]
 go_wp2
 go_end0
 exact⟨rfl,rfl⟩
set_option maxHeartbeats 2000000 in
set_option maxRecDepth 100000 in
theorem qVR(p:Option Addr)(cap:Nat)(f:Value)(w:World):Calls Tryz.prog 128 #[.slice p 0 cap,f] w λe w'=>e=.returned (.tuple #[])/\w'=w:=by
 have e165:∀args w,(callFunc 165 args).run Tryz.prog w=.ok (.enter 165 args) w:=enters_of Tryz.func165 (by kernel_rfl) rfl;have hi:=qVQ p cap f w
 go_enter Tryz.func128,Tryz.ntmps128
 go_wp2_with (go_at_fn 165;refine hi.mono ?_;rintro e w' ⟨rfl,rfl⟩)
 go_end0
 exact⟨rfl,rfl⟩
theorem qCm{α:Type}[Inhabited α]{lt:α->α->Bool}(a:Nat):∀(j:Nat) (d:Array α),(insInner lt a j d).size=d.size
 |0,d=>by unfold insInner;rfl
 |j+1,d=>by
  unfold insInner;split
  ·rw[qCm a j,swp_size]
  rfl
theorem qB1{α:Type}[Inhabited α]{lt:α->α->Bool}(a b:Nat):∀(n i:Nat) (d:Array α),b-i=n->(insOuter lt a b i d).size=d.size
 |0,i,d,h=>by rw[insOuter,if_neg (by omega)]
 |n+1,i,d,h=>by rw[insOuter,if_pos (by omega),qB1 a b n (i+1) _ (by omega),qCm]
noncomputable def qLN(d:Array Nt):Array Nt:=Sort.insertionSort (ltOf qRF) d 0 d.size
theorem qEf(d:Array Nt):(qLN d).size=d.size:=by unfold qLN Sort.insertionSort;exact qB1 0 d.size _ _ d rfl
noncomputable def j0(l:List Nt):List Nt:=(qLN l.toArray).toList
theorem aW(l:List Nt):(j0 l).length=l.length:=by unfold j0;rw[Array.length_toList,qEf];simp
def qDB(n:Nt):List Value:=[.int .i64 n.id,.int .i64 n.ti,.int .i64 n.pa,.int .i64 n.fr,.int .i64 n.to,.int .i64 n.rk,.string n.tx]
def PN:D->Bool
 |.agg [.leaf (.int .i64 _),.leaf (.int .i64 _),.leaf (.int .i64 _),.leaf (.int .i64 _),.leaf (.int .i64 _),.leaf (.int .i64 _),.leaf (.string _)]=>true
 |_=>false
def qYc:D->Nt
 |.agg [.leaf (.int .i64 a),.leaf (.int .i64 b),.leaf (.int .i64 c),.leaf (.int .i64 d),.leaf (.int .i64 e),.leaf (.int .i64 f),.leaf (.string s)]=>⟨a,b,c,d,e,f,s⟩
 |_=>zN
theorem qWd:RowOK 7 qDB mO qYc PN where
 to e h:=by
  unfold PN at h
  split at h
  ·rfl
  cases h
 ok _:=rfl
 fr _:=rfl
 cells _:=rfl
 len _:=rfl
 leaf a v hv:=by
  unfold qDB at hv
  simp only[List.mem_cons,List.not_mem_nil,or_false]at hv
  rcases hv with rfl|rfl|rfl|rfl|rfl|rfl|rfl<;>exact⟨rfl,rfl⟩
theorem qYp(σ:vH)(a:Nt):VR σ (.agg ⟨qDB a⟩) (.agg ⟨qDB a⟩):=
 .agg (.cons (.leaf rfl) (.cons (.leaf rfl) (.cons (.leaf rfl) (.cons (.leaf rfl) (.cons (.leaf rfl) (.cons (.leaf rfl) (.cons (.leaf rfl) .nil))))))) rfl
theorem zFs(g:zG)(a:Nt):DR g (mO a) (.agg ⟨qDB a⟩):=
 .agg (.cons (.leaf rfl) (.cons (.leaf rfl) (.cons (.leaf rfl) (.cons (.leaf rfl) (.cons (.leaf rfl) (.cons (.leaf rfl) (.cons (.leaf rfl) .nil))))))) rfl
theorem qXD(blk off size:Nat)(w:World):CmpLays Tryz.prog 129 #[] qDB 7 qRF blk off size w:=by intro m os j _ x y;have h:=qIH (E:=EE) (zC6 (a:=x) (b:=y)) (azq :=[.agg ⟨qDB x⟩,.agg ⟨qDB y⟩]) (λg=>.cons (zFs g x) (.cons (zFs g y) .nil)) (λσ=>.cons (qYp σ x) (.cons (qYp σ y) .nil)) rfl (Go.Proofs.sortWorldK qDB 7 w blk off m j os);exact h.mono λe w' ⟨i,c⟩=>⟨i,qLM c⟩
theorem zAw:∀h w,(callFunc 129 h).run Tryz.prog w=.ok (.enter 129 h) w:=enters_of Tryz.func129 (by kernel_rfl) rfl
theorem zBK:EE.funcs.get 128=some Tryz.f128:=yE (c:=vJ Tryz.f128) Tryz.func128 rfl (by kernel_rfl)
noncomputable def SN:List D->Option D:=s6 19 106 7 PN (qQL mO qYc qLN)
theorem qZL:LstOK EE ⟨128,some 129,false,SN⟩ 106 7 PN (qQL mO qYc qLN) 19:=
 qIx qWd ⟨_,zBK⟩ qEf (by decide) (by decide) (λp cap w=>qVR p cap _ w) λblk off cap d w b h y=>
  qZv 7 Tryz.isAgg106 Tryz.sizeOf106 qDB (λ_=>rfl) (λx v hv=>(qWd.leaf x v hv).2) qRF 129 #[] blk off cap d w zAw (qXD _ _ _ w) b h (by omega)
noncomputable def LL:List Lst:=[⟨128,some 129,false,SN⟩]
def GG:List Gro:=[]
theorem hL:qX5 EE LL GG:=by
 refine⟨λY h=>?_,λY h=>?_⟩
 ·rw[List.mem_singleton.1 h];exact⟨_,_,_,_,_,qZL⟩
 cases h
end Go.Proofs.YtpbmnkajhedaiaaGreat
namespace Go.Proofs.YtpbmnkajhedaiaaGreat
open Go Go.Am Go.Proofs
def qQY:Nat->Pat
 |1=>⟨[⟨.pure,false⟩,⟨.pure,false⟩,⟨.fresh,true⟩,⟨.pure,true⟩,⟨.pure,true⟩,⟨.pure,true⟩,⟨.pure,false⟩],[(1,.v 0),(2,.v 1),(3,.loc 0 0),(7,.v 2),(14,.v 3),(15,.v 4),(16,.v 5)],[some (.whole (.v 6) 7)],[]⟩
 |2=>⟨[⟨.fresh,true⟩,⟨.fresh,true⟩,⟨.pure,true⟩,⟨.pure,true⟩],[(10,.v 0),(48,.v 1),(49,.v 2),(50,.v 3)],[],[]⟩
 |_=>⟨[],[],[],[]⟩
noncomputable def qTw:Tree:=
 jQ 7 0 <|
 zM 6 3 <|
 xL 4 <|
 .jump 1 [.v 1,.v 2,.c (.slice none 0 0),.v 4,.v 5,k' 0,.v 3]
noncomputable def qTv:Tree:=
 j8 .lss 16 15 5 4 <|
 zC 7 (
  wC 3 5 <|
  .bind (.elem 7 true 7 0) [.v 3,.v 5] <|
  jQ 7 9 <|
  zM 1 10 <|
  j8 .eql 21 22 11 1 <|
  zC 12 (
   zM 2 10 <|
   j8 .eql 26 27 13 0 <|
   zC 14 (
    vM .geq 31 0 1 <|
    zC 15 (
     zM 5 6 <|
     xL 16 <|
     j8 .lss 35 38 1 17 <|
     zC 18 (
      jQ 7 10 <|
      .bind (.lit 106 7) [.v 10] <|
      .bind (.app 106 7 64) [.v 2,.v 20] <|
      vM .add 16 1 5 <|
      .jump 1 [.v 0,.v 1,.v 21,.v 3,.v 4,.v 22,.v 6]) (
      vM .add 16 1 5 <|
      .jump 1 [.v 0,.v 1,.v 2,.v 3,.v 4,.v 19,.v 6])) (
     vM .add 16 1 5 <|
     .jump 1 [.v 0,.v 1,.v 2,.v 3,.v 4,.v 16,.v 6])) (
    vM .add 16 1 5 <|
    .jump 1 [.v 0,.v 1,.v 2,.v 3,.v 4,.v 15,.v 6])) (
   vM .add 16 1 5 <|
   .jump 1 [.v 0,.v 1,.v 2,.v 3,.v 4,.v 13,.v 6])) (
  .bind (.lib SN) [.v 2] <|
  xL 8 <|
  .jump 2 [.c (.slice none 0 0),.v 8,.v 9,k' 0])
noncomputable def qTu:Tree:=
 j8 .lss 50 49 3 2 <|
 zC 4 (
  wC 1 3 <|
  .bind (.elem 7 true 7 0) [.v 1,.v 3] <|
  jQ 7 6 <|
  zM 0 7 <|
  qKN 8 <|
  .bind (.lit 3 1) [.v 8] <|
  .bind (.app 3 1 8) [.v 0,.v 10] <|
  vM .add 50 1 3 <|
  .jump 2 [.v 11,.v 1,.v 2,.v 12]) (
  .ret [.v 0])
noncomputable def qJy:Nat->Tree
 |0=>qTw
 |1=>qTv
 |2=>qTu
 |_=>.fail
noncomputable def qQX:Nat->Nat:=λ_=>Nat.max Tryz.f79.ntmps 3
theorem qQC:(qAY EE (λk S=>jI (qQX k) (qQY k) k S) (qUP EE LL GG) qAZ 1 (vJ Tryz.f79) (yL 3 (Nat.max Tryz.f79.ntmps 3)) (mK EE Tryz.f79.results.toList),
 j5 EE (λk=>(qQY k).st (qQX k)) (λk S=>jI (qQX k) (qQY k) k S) (qUP EE LL GG) qAZ (λ_ _ _ _=>[]) 1 (vJ Tryz.f79) (mK EE Tryz.f79.results.toList),
 nr Tryz.f79) =
 (qTw,[(1,qTv),(2,qTu)],false):=by kernel_rfl
theorem zFz{ds:List D}{d:D}(x:ds.length=3)(h:qE EE (Holds EE) qJy 0 ds d):Holds EE 79 ds d:=
 qLR (Ls:=LL) (Gs:=GG) (pats:=qQY) (szs:=qQX) he hL (yE (c:=vJ Tryz.f79) Tryz.func79 rfl ((jN (jN qQC)))) (c:=vJ Tryz.f79) rfl x ((pI qQC).1) (by rw[(pI (jN qQC)).1];exact xE rfl<|xE rfl<|jR) h
end Go.Proofs.YtpbmnkajhedaiaaGreat
