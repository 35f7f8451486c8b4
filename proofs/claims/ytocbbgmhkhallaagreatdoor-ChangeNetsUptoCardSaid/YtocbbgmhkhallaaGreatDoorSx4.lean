/- Regions whose order is drawn: runs in the text's order, carried over. Conditions: none. -/
import Derived.Test.YtocbbgmhkhallaaGreatDoorSx5
set_option linter.unusedVariables false
set_option linter.unusedSimpArgs false
namespace Go.Am
open Go
abbrev gb:=@List.getElem?_range
abbrev gm:=@List.length_range
abbrev ja:=@Nat.lt_succ_of_le
abbrev jb:=@Nat.le_succ_of_le
structure Heq (N:Nat) (H H2:AH):Prop where
 get:∀b,H2.blocks.get b=H.blocks.get b
 next:H2.next=H.next
 low:∀L,L<=N->L<=H.low->L<=H2.low
 le:N<=H.next
variable{H:AH}{i:Nat}{os:LB}{t:LN}{ts:List (Nat×Nat)}{v:LQ}
section
variable{E:Env}{ih:Cmd->AH->xM}{fr:Fr}{o:Oper}{N:Nat}
theorem qHO{x:LG}{H1:AH}(h:jH E fr o H=one H x)(he:yM E ih fr o H=some (v,H1)):x=some v/\H1=H:=by
 cases x with
 |none=>simp only[yM,jA,h,one,Option.map_none]at he;cases he
 |some u=>simp only[yM,jA,h,one,aj,oI,dk]at he;exact⟨by rw[he.1],he.2.symm⟩
theorem qEV{all:LB}{H2:AH}(h:jA E ih fr o (vI H2 (qV all i ts))=some (v,vI H2 (qV all i ts)))(y:Heq N H H2):∃j,pH E ih ts all i fr o H2=some (v,j)/\Heq N H j:=by
 refine⟨jV H2 (vI H2 (qV all i ts)) (qV all i ts),?_,?_,y.next,?_,y.le⟩
 ·have l:Nat.ble H2.next (vI H2 (qV all i ts)).low=true:=bL (vP _);have p:(qV all i ts).all (λb=>Nat.blt b H2.next||Nat.ble (vI H2 (qV all i ts)).next b)=true:=by
   rw[al];intro b _;show(Nat.blt b H2.next||Nat.ble H2.next b)=true;by_cases q:b<H2.next
   ·have:Nat.blt b H2.next=true:=bL q;rw[this,fj]
   have:Nat.ble H2.next b=true:=bL (by omega);rw[this,gz]
  simp only[pH,h,l,p,fj,cj,ai]
 ·intro b;show(yV _ _ _).get b=_;rw[wS];show(if _ then H2.blocks.get b else(lW H2.blocks _).get b)=_;rw[yZ];split<;>exact y.get b
 intro L l p;refine dv.2 ⟨y.low L l p,?_⟩;show L<=H2.next;rw[y.next];exact lT l y.le
theorem qMc{H2:AH}{b:Nat}{p:Option Nat}(h:H2.blocks.get b=H.blocks.get b):gM E H2 t (.pointer (some ⟨b,i,p⟩))=gM E H t (.pointer (some ⟨b,i,p⟩)):=by
 unfold gM;cases E.types.get t with
 |none=>rfl
 |some y=>cases p with
  |none=>simp only[AH.lj,h]
  |some _=>rfl
theorem rP{all:LF}{draw:Bool}{ts:List (Nat×Nat)}{a:Tmp}:∀(os:LB) (i:Nat) {fr fr':Fr} {H H':AH},zY E ih all draw ts os i fr H=some (fr',H')->os.all (lP a)=true->fr'.t.get a=fr.t.get a
 | [],i,fr,fr',H,H',h,_=>by simp only[zY,oI,dk]at h;rw[h.1]
 | o::os,i,fr,fr',H,H',h,l=>by
  simp only[eo,aE]at l;have j:∀{y:Fr} {v:LQ},yI fr o.dst v=some y->y.t.get a=fr.t.get a:=by
   intro y v j;have hd:=l.1;unfold yI at j;unfold lP at hd;split at j
   ·rename_i d q;rw[q]at hd;simp only[fy]at hd;cases r:Nat.ble (d+1) fr.sz with
    |false=>rw[r]at j;cases j
    |true=>rw[r]at j;simp only[ai,oI]at j;subst j;show(fr.t.put d (some v)).get a=_;rw[T.ch,bf];intro e;subst e;rw[bj]at hd;cases hd
   grind
  simp only[zY]at h;split at h
  ·cases h
  ·split at h
   ·rename_i y p;rw[rP os (i+1) h l.2,j p]
   cases h
  split at h
  ·cases h
  split at h
  ·cases h
  rename_i y p;rw[rP os (i+1) h l.2,j p]
def qFF(v:LG):Option Nat:=match v with
 |some (.pointer (some ⟨b,_,_⟩))=>some b
 |_=>none
def qQ1(v:LG):Option Nat:=match v with
 |some (.slice (some ⟨b,_,none⟩) (_+1) _)=>some b
 |_=>none
def l9(fr':Fr)(ts:List (Nat×Nat))(all:LB)(i:Nat)(o:Oper)(os:LB):Prop:=match o.op with
 |.load _ (.tmp a)=>(o::os).all (lP a)=true/\∀B,qFF (fr'.t.get a)=some B->B∉qV all i ts
 |.alloc _=>∃d,o.dst=some d/\os.all (lP d)=true/\∀B,qFF (fr'.t.get d)=some B->B∉qV all i ts
 |.store _ (.tmp a) _=>qV all i ts=[]/\(o::os).all (lP a)=true/\∀B,qFF (fr'.t.get a)=some B->(i,B)∈ts
 |.buildSlice _ n _=>1<=n/\∃d,o.dst=some d/\os.all (lP d)=true/\∀B,qQ1 (fr'.t.get d)=some B->B∉qV all i ts
 |op=>qG3 op=true
def qJT(fr':Fr)(ts:List (Nat×Nat))(all:LB):Nat->LB->Prop
 |_,[]=>True
 |i,o::os=>l9 fr' ts all i o os/\qJT fr' ts all (i+1) os
theorem qPZ{all:LB}{H2:AH}{f:LH}{y:AObj}(z:∀H,jH E fr o H=some (.val (f H.next),H.new y))(u:H.next∉qV all i ts)(h:Heq N H H2):∃l,pH E ih ts all i fr o H2=some (f H.next,l)/\Heq N (H.new y) l:=by
 have q:jA E ih fr o (vI H2 (qV all i ts))=some (f H.next,(vI H2 (qV all i ts)).new y):=by simp only[jA,z];show some (f H2.next,_)=_;rw[h.next]
 refine⟨jV H2 ((vI H2 (qV all i ts)).new y) (qV all i ts),?_,?_,?_,?_,jb h.le⟩
 ·have p:Nat.ble H2.next ((vI H2 (qV all i ts)).new y).low=true:=bL (vP _);have r:(qV all i ts).all (λb=>Nat.blt b H2.next||Nat.ble ((vI H2 (qV all i ts)).new y).next b)=true:=by
   rw[al];intro b j;show(Nat.blt b H2.next||Nat.ble (Nat.succ H2.next) b)=true;have w:b≠H2.next:=by rw[h.next];intro e;subst e;exact u j
   by_cases j:b<H2.next
   ·have:Nat.blt b H2.next=true:=bL j;rw[this,fj]
   have:Nat.ble (Nat.succ H2.next) b=true:=bL (by omega);rw[this,gz]
  simp only[pH,q,p,r,fj,cj,ai]
 ·intro b;show(yV _ _ _).get b=(H.blocks.put H.next _).get b;rw[wS,T.ch];show(if _ then H2.blocks.get b else((lW H2.blocks _).put H2.next _).get b)=_;rw[T.ch,yZ,h.next];by_cases j:b∈qV all i ts
  ·rw[bo j,bf (λe:b=H.next=>u (by rw[←e];exact j)),h.get]
  rw[bf j];by_cases e:b=H.next
  ·rw[bo e,bo e];show some (⟨y,H2.next,true⟩:ABlk)=some ⟨y,H.next,true⟩;rw[h.next]
  rw[bf e,bf e,bf j,h.get]
 ·show Nat.succ H2.next=Nat.succ H.next;rw[h.next]
 intro L p r;refine dv.2 ⟨h.low L p r,?_⟩;show L<=H2.next;rw[h.next];exact lT p h.le
theorem qSU{n:Nat}{ps:Array (Nat×LM)}{H1:AH}(A:o.op=.buildSlice t n ps)(he:yM E ih fr o H=some (v,H1)):∃(c:Nat) (j:AObj),(∀H,jH E fr o H=some (.val (.slice (some ⟨H.next,0,none⟩) n c),H.new j))/\v=.slice (some ⟨H.next,0,none⟩) n c/\H1=H.new j:=by
 have r:∃(c:Nat) (j:AObj),∀H,jH E fr o H=some (.val (.slice (some ⟨H.next,0,none⟩) n c),H.new j):=by
  have y:(∀H,jH E fr o H=none)->False:=λh=>by simp only[yM,jA,h]at he;cases he
  cases w:parts? E fr ps.toList with
  |none=>exact(y λH=>by simp only[jH,A,w]).elim
  | some l=>
   have h:∀H,jH E fr o H=yN E H t n l:=λH=>by simp only[jH,A,w]
   unfold yN at h;split at h;case h_2=>exact(y h).elim
   split at h;case h_2=>exact(y h).elim
   rename_i sz _ z _ _;cases u:(Nat.beq z.length sz&&Nat.ble (Nat.mul n (Nat.succ sz)) 1000000)with
   |false=>exact(y λH=>by rw[h,u];rfl).elim
   |true=>
    cases p:eI (xX z n) l (λi=>some (Nat.mul i sz,sz))with
    |none=>exact(y λH=>by rw[h,u,p];rfl).elim
    |some q=>exact⟨_,_,λH=>by rw[h,u,p];rfl⟩
 obtain⟨c,j,h⟩:=r;simp only[yM,jA,h,oI,dk]at he;exact⟨c,j,h,he.1.symm,he.2.symm⟩
theorem qSG{all:LF}{X fr':Fr}{H1 H' H2:AH}(he:yM E ih fr o H=some (v,H1))(w:yI fr o.dst v=some X)(hr:zY E ih all false [] os (i+1) X H1=some (fr',H'))(h:l9 fr' ts all.toList i o os)(q:Heq N H H2):∃I,pH E ih ts all.toList i fr o H2=some (v,I)/\Heq N H1 I:=by
 have pure:qG3 o.op=true->∃I,pH E ih ts all.toList i fr o H2=some (v,I)/\Heq N H1 I:=by intro W;obtain⟨x,P⟩:=qEp (E:=E) (fr:=fr) W;obtain⟨rfl,rfl⟩:=qHO (P H) he;exact qEV (by simp only[jA,P,one,aj]) q
 have O:∀a,(o::os).all (lP a)=true->fr'.t.get a=fr.t.get a:=by
  intro a C;have h0:zY E ih all false [] (o::os) i fr H=some (fr',H')∨True:=.inr trivial;have A:=C;simp only[eo,aE]at A;have R:=rP os (i+1) hr A.2;rw[R];have hd:=A.1;unfold yI at w;unfold lP at hd;split at w
  ·rename_i d hd';rw[hd']at hd;simp only[fy]at hd;cases B:Nat.ble (d+1) fr.sz with
   |false=>rw[B]at w;cases w
   |true=>rw[B]at w;simp only[ai,oI]at w;subst w;show(fr.t.put d (some v)).get a=_;rw[T.ch,bf];intro e;subst e;rw[bj]at hd;cases hd
  grind
 cases l:o.op with
 | load t a=>
  cases a with
  | tmp a=>
   unfold l9 at h;rw[l]at h;simp only at h;obtain⟨G,F⟩:=h;have W:=O a G;rw[W]at F;cases hv:fr.t.get a with
   |none=>
    have C:jH E fr o H=none:=by simp only[jH,l,ev,hv]
    simp only[yM,jA,C]at he;cases he
   | some u=>
    have A:∀H,jH E fr o H=one H (gM E H t u):=λH=>by simp only[jH,l,ev,hv]
    obtain⟨P,hH⟩:=qHO (A H) he;subst hH;rw[hv]at F;have hu:∃b j p,u=.pointer (some ⟨b,j,p⟩):=by
     unfold gM at P;split at P
     ·rename_i b j _;exact⟨b,j,none,rfl⟩
     cases P
    obtain⟨b,j,p,rfl⟩:=hu;refine qEV ?_ q;have hg:(vI H2 (qV all.toList i ts)).blocks.get b=H1.blocks.get b:=by show(lW H2.blocks _).get b=_;rw[yZ,bf (F b rfl)];exact q.get b
    simp only[jA,A,qMc (E:=E) (t:=t) (i:=j) (p:=p) hg,P,one,aj]
  |const _=>exfalso;unfold l9 at h;rw[l]at h;cases h
  |global _=>exfalso;unfold l9 at h;rw[l]at h;cases h
  |func _=>exfalso;unfold l9 at h;rw[l]at h;cases h
 | alloc t=>
  unfold l9 at h;rw[l]at h;simp only at h;obtain⟨d,hd,G,F⟩:=h;have U:∃z,∀H,jH E fr o H=some (.val (.pointer (some ⟨H.next,0,none⟩)),H.new (.cells z t)):=by
   cases U:E.types.get t with
   |none=>
    have C:jH E fr o H=none:=by simp only[jH,l,U]
    simp only[yM,jA,C]at he;cases he
   | some ti=>
    obtain⟨a1,a2,a3,z,a5⟩:=ti;cases z with
    |none=>
     have C:jH E fr o H=none:=by simp only[jH,l,U]
     simp only[yM,jA,C]at he;cases he
    |some z=>exact⟨z,λH=>by simp only[jH,l,U]⟩
  obtain⟨z,C⟩:=U
  ·skip;have e1:v=.pointer (some ⟨H.next,0,none⟩)/\H1=H.new (.cells z t):=by simp only[yM,jA,C,oI,dk]at he;exact⟨he.1.symm,he.2.symm⟩
   obtain⟨rfl,rfl⟩:=e1;have Z:H.next∉qV all.toList i ts:=by
    have R:=rP os (i+1) hr G;refine F _ ?_;rw[R];rw[hd]at w;simp only[yI]at w;cases B:Nat.ble (d+1) fr.sz with
    |false=>rw[B]at w;cases w
    |true=>rw[B]at w;simp only[ai,oI]at w;subst w;show qFF ((fr.t.put d _).get d)=_;rw[T.ch,bo rfl];rfl
   have M:jA E ih fr o (vI H2 (qV all.toList i ts))=some (.pointer (some ⟨H.next,0,none⟩),(vI H2 (qV all.toList i ts)).new (.cells z t)):=by simp only[jA,C];show some (Value.pointer (some ⟨H2.next,0,none⟩),_)=_;rw[q.next]
   refine⟨jV H2 ((vI H2 (qV all.toList i ts)).new (.cells z t)) (qV all.toList i ts),?_,?_,?_,?_,jb q.le⟩
   ·have G:Nat.ble H2.next ((vI H2 (qV all.toList i ts)).new (.cells z t)).low=true:=bL (vP _);have F:(qV all.toList i ts).all (λb=>Nat.blt b H2.next||Nat.ble ((vI H2 (qV all.toList i ts)).new (.cells z t)).next b)=true:=by
     rw[al];intro b B;show(Nat.blt b H2.next||Nat.ble (Nat.succ H2.next) b)=true;have hne:b≠H2.next:=by rw[q.next];intro e;subst e;exact Z B
     by_cases B:b<H2.next
     ·have:Nat.blt b H2.next=true:=bL B;rw[this,fj]
     have:Nat.ble (Nat.succ H2.next) b=true:=bL (by omega);rw[this,gz]
    simp only[pH,M,G,F,fj,cj,ai]
   ·intro b;show(yV _ _ _).get b=(H.blocks.put H.next _).get b;rw[wS,T.ch];show(if _ then H2.blocks.get b else((lW H2.blocks _).put H2.next _).get b)=_;rw[T.ch,yZ,q.next];by_cases B:b∈qV all.toList i ts
    ·rw[bo B,bf (λe:b=H.next=>Z (by rw[←e];exact B)),q.get]
    rw[bf B];by_cases e:b=H.next
    ·rw[bo e,bo e];show some (⟨AObj.cells z t,H2.next,true⟩:ABlk)=some ⟨.cells z t,H.next,true⟩;rw[q.next]
    rw[bf e,bf e,bf B,q.get]
   ·show Nat.succ H2.next=Nat.succ H.next;rw[q.next]
   intro L G F;refine dv.2 ⟨q.low L G F,?_⟩;show L<=H2.next;rw[q.next];exact lT G q.le
 | store t a x=>
  cases a with
  | tmp a=>
   unfold l9 at h;rw[l]at h;simp only at h;obtain⟨hW,G,F⟩:=h;have W:=O a G;rw[W]at F;cases hv:fr.t.get a with
   |none=>
    have C:jH E fr o H=none:=by simp only[jH,l,ev,hv]
    simp only[yM,jA,C]at he;cases he
   | some u=>
    cases hy:ev E fr x with
    |none=>
     have C:jH E fr o H=none:=by simp only[jH,l,hv,hy,show ev E fr (.tmp a)=fr.t.get a from rfl]
     simp only[yM,jA,C]at he;cases he
    | some y=>
     have hty:∀cs,y≠.tuple cs:=by
      intro cs e;subst e;have C:jH E fr o H=none:=by simp only[jH,l,hv,hy,show ev E fr (.tmp a)=fr.t.get a from rfl]
      simp only[yM,jA,C]at he;cases he
     have A:∀H,jH E fr o H=(kN E H t u y).map λH'=>(.skip,H'):=λH=>by simp only[jH,l,hv,hy,show ev E fr (.tmp a)=fr.t.get a from rfl]
     cases hs:kN E H t u y with
     |none=>simp only[yM,jA,A,hs,Option.map_none]at he;cases he
     | some Hs=>
      simp only[yM,jA,A,hs,aj,oI,dk]at he;obtain⟨rfl,rfl⟩:=he;rw[hv]at F;unfold kN at hs;split at hs;case h_2=>cases hs
      rename_i ti b j hti;simp only at hs;cases hl:Nat.beq y.cells.toList.length ti.size with
      |false=>rw[hl]at hs;cases hs
      | true=>
       rw[hl]at hs;simp only[ai,AH.kR]at hs;split at hs;case h_2=>cases hs
       rename_i cs el r B;cases bO:xG cs j y.cells.toList with
       |none=>rw[bO]at hs;cases hs
       | some cs'=>
        rw[bO]at hs;simp only[aj,oI]at hs;subst hs;have hb2:(vI H2 []).blocks.get b=some ⟨.cells cs el,r,true⟩:=by show H2.blocks.get b=_;rw[q.get,B]
        have M:jA E ih fr o (vI H2 (qV all.toList i ts))=some (.tuple #[],(vI H2 []).write b ⟨.cells cs el,r,true⟩ (.cells cs' el)):=by
         rw[hW];have hsa:kN E (vI H2 []) t (.pointer (some ⟨b,j,none⟩)) y=some ((vI H2 []).write b ⟨.cells cs el,r,true⟩ (.cells cs' el)):=by simp only[kN,hti,hl,ai,AH.kR,hb2,bO,aj]
         simp only[jA,A,hsa,aj]
        have V:=F b rfl;have hst:ts.any (λt=>Nat.beq t.1 i&&wI fr o t.2)=true:=by rw[ke];refine⟨_,V,?_⟩;simp only[bj,ep,wI,l,hv]
        refine⟨jV H2 ((vI H2 []).write b ⟨.cells cs el,r,true⟩ (.cells cs' el)) [],?_,?_,q.next,?_,q.le⟩
        ·rw[hW]at M;simp only[pH,hW,M,hst,kc,fj,ep,gz,iu,cj,ai]
        ·intro c;show((H2.blocks).put b _).get c=(H.blocks.put b _).get c;rw[T.ch,T.ch,q.get]
        intro L G F;have h3:L<=Nat.min H.low r:=F;have h4:=dv.1 h3;refine dv.2 ⟨q.low L G h4.1,?_⟩;show L<=Nat.min H2.next r;refine dv.2 ⟨?_,h4.2⟩;rw[q.next];exact lT G q.le
  |const _=>exfalso;unfold l9 at h;rw[l]at h;cases h
  |global _=>exfalso;unfold l9 at h;rw[l]at h;cases h
  |func _=>exfalso;unfold l9 at h;rw[l]at h;cases h
 | buildSlice t n ps=>
  unfold l9 at h;rw[l]at h;simp only at h;obtain⟨hn1,d,hd,G,F⟩:=h;obtain⟨c,ob,C,rfl,rfl⟩:=qSU l he;have Z:H.next∉qV all.toList i ts:=by
   have R:=rP os (i+1) hr G;refine F _ ?_;rw[R];rw[hd]at w;simp only[yI]at w;cases B:Nat.ble (d+1) fr.sz with
   |false=>rw[B]at w;cases w
   |true=>rw[B]at w;simp only[ai,oI]at w;subst w;show qQ1 ((fr.t.put d _).get d)=_;rw[T.ch,bo rfl];obtain⟨m,rfl⟩:∃m,n=m+1:=⟨n-1,by omega⟩;rfl
  exact qPZ (f:=λb=>.slice (some ⟨b,0,none⟩) n c) C Z q
 |move _=>exact pure (by rw[l];rfl)
 |assign _=>exact pure (by rw[l];rfl)
 |pick _ _ _=>exact pure (by rw[l];rfl)
 |nilCheck _=>exact pure (by rw[l];rfl)
 |binOp _ _ _ _ _=>exact pure (by rw[l];rfl)
 |unOp _ _ _=>exact pure (by rw[l];rfl)
 |fieldAddr _ _ _=>exact pure (by rw[l];rfl)
 |indexAddr _ _ _=>exact pure (by rw[l];rfl)
 |extract _ _=>exact pure (by rw[l];rfl)
 |build _ _=>exact pure (by rw[l];rfl)
 |_=>exfalso;unfold l9 at h;rw[l]at h;cases h
theorem qDb{ts:List (Nat×Nat)}{all:LF}{fr':Fr}{H':AH}:∀(os:LB) (i:Nat) {fr:Fr} {H H2:AH},zY E ih all false [] os i fr H=some (fr',H')->qJT fr' ts all.toList i os->Heq N H H2->
  ∃y,zY E ih all true ts os i fr H2=some (fr',y)/\Heq N H' y
 | [],i,fr,H,H2,h,_,j=>by
  simp only[zY,oI,dk]at h
  obtain⟨rfl,rfl⟩:=h
  exact⟨H2,rfl,j⟩
 | o::os,i,fr,H,H2,h,u,j=>by
  simp only[zY]at h
  split at h
  ·cases h
  ·rename_i r
   split at h
   ·rename_i w l
    obtain⟨y,q,p⟩:=qDb os (i+1) h u.2 j
    exact⟨y,by simp only[zY,r,l,q],p⟩
   cases h
  rename_i r
  simp only[bc]at h
  split at h
  ·cases h
  rename_i v H1 B
  split at h
  ·cases h
  rename_i w l
  obtain⟨C,q,p⟩:=qSG B l h u.1 j
  obtain⟨y,A,z⟩:=qDb os (i+1) h u.2 p
  exact⟨y,by simp only[zY,r,ai,q,l,A],z⟩
end
variable{k:Nat}{ops:LF}{x:LM}{κ:St->Tree}
section
variable{E:Env}{n0:Lim}{H0:AH}{g0:zR}{S:St}{ρ:LR}{ve:LH}{lb:LI}{g:zR}{fr:Fr}{H H2:AH}{Q:Res1->Prop}{o:Oper}
theorem qCI(all:LB)(i:Nat)(f:LI):∀ts:List (Nat×Nat),qV all i (ts.map λq=>(q.1,f q.2))=(qV all i ts).map f
 | []=>rfl
 |(j,b)::ts=>by simp only[fa,qV,qCI all i f ts];grind
theorem qJ6{a:Tmp}{b off:Nat}{t:LN}{x:LM}(hs:S.af.get a=some (.loc b off)):∀(os:LB) (i k:Nat) (o:Oper),os[k]? = some o->o.op=.store t (.tmp a) x->(i+k,b)∈qBn S os i
 | [],_,_,_,h,_=>by simp at h
 |p::os,i,0,o,h,y=>by simp only[dq,oI]at h;subst h;simp only[qBn,y,hs,fx];exact aq
 |p::os,i,k+1,o,h,y=>by have:=qJ6 hs os (i+1) k o (by simpa using h) y;rw[show i+1+k=i+(k+1) by omega]at this;unfold qBn;grind
theorem qGM{all:LB}{b i:Nat}:∀(os:LB) (k:Nat),(∀o∈os,∀t a x,o.op=.store t a x->∃d b off y,a=.tmp d/\S.af.get d=some (.loc b off)/\S.ae[b]? = some (some y))->(i,b)∈qBn S os k->S.live b
 | [],_,_,h=>by cases h
 | o::os,k,j,h=>by
  have ih:=qGM (all:=all) (b:=b) (i:=i) os (k+1) (λo l=>j o (mC _ l));cases l:o.op with
  |store t a x=>
   obtain⟨d,q,off,y,rfl,hd,p⟩:=j o aq t a x l;simp only[qBn,l,hd]at h;rcases bl.1 h with h|h
   ·cases h;exact⟨y,p⟩
   exact ih h
  |_=>simp only[qBn,l]at h;exact ih h
theorem aS{all:LB}{i b:Nat}:∀ts:List (Nat×Nat),b∈qV all i ts->∃j,(j,b)∈ts
 | [],h=>by cases h
 | (j,c)::ts,h=>by
  simp only[qV]at h;cases y:(Nat.beq j i||rO (kS all) j i)with
  |true=>rw[y]at h;obtain⟨l,p⟩:=aS ts h;grind
  |false=>
   rw[y]at h;rcases bl.1 h with rfl|h
   ·grind
   obtain⟨l,p⟩:=aS ts h;grind
theorem cN{α:Type}{x:Option (Option α)}(h:(x.getD none).isSome=true):∃y,x=some (some y):=by rcases x with _|_|y;all_goals grind
theorem qBZ{j:LC}{a:LM}(h:aC S o os j=true)(l:o.op=.store t a x):∃d b off y,a=.tmp d/\S.af.get d=some (.loc b off)/\S.ae[b]? = some (some y)/\j=[]/\(o::os).all (lP d)=true:=by
 unfold aC at h;rw[l]at h;cases a with
 |tmp a=>
  simp only[aE]at h;obtain⟨⟨u,r⟩,h3⟩:=h;split at h3
  ·rename_i b off q;obtain⟨y,p⟩:=cN h3;grind
  cases h3
 |_=>cases h
theorem qAT{all:LB}:∀(os:LB) (i:Nat),lF S all os i=true->∀o∈os,∀t a x,o.op=.store t a x->∃d b off y,a=.tmp d/\S.af.get d=some (.loc b off)/\S.ae[b]? = some (some y)
 | [],_,_,_,h=>by cases h
 |p::os,i,h,o,l=>by
  simp only[lF,aE]at h;intro t a x j;rcases bl.1 l with rfl|l
  ·obtain⟨d,b,off,y,u,r,q,_⟩:=qBZ h.1 j;grind
  exact qAT os (i+1) h.2 o l t a x j
def qTa(ve:LH)(lb:LI)(g:zR)(s i:SV):Prop:=∀sz off B,qFF (some (qCk (s.val ve lb) (i.val ve lb) sz off))=some B->∃k,g B=some k
theorem zAH{s i:SV}{e:D}(h:SM n0 S ρ ve lb g H)(z:wT S s=true)(F:wT S i=true)(he:rT (s.d (getD ρ)) (i.d (getD ρ))=some e):qTa ve lb g s i:=by
 intro sz off B j;have q:=j6 h z;have r:=j6 h F;unfold rT at he;split at he;case h_2=>cases he
 rename_i n y;have p:∃k,i.val ve lb=.int k (.ofNat n):=by
  unfold natD at y;split at y
  ·rename_i k m A;cases y;rw[A]at r;exact⟨k,r.de.1⟩
  cases y
 obtain⟨k,C⟩:=p;rw[C]at j;generalize s.d (getD ρ)=L at q he;generalize s.val ve lb=I at q j;cases q<;>first|(simp[D.es]at he;done)|skip
 rename_i el es b o l c u rt cs vs own G O hv R w U M P;simp only[qCk,qFF,oI]at j;subst j;exact⟨_,G⟩
theorem qH4:∀(l:List (SV×SV)) {S:St} {ρ:LR} {ve:LH} {κ:St->Tree},SR E n0 H0 g0 S ρ ve lb g fr H->(∀q∈l,q.1.bd S.n S.ae.length/\q.2.bd S.n S.ae.length)->wp E (qA E) Q (qH5 l S κ) ρ->
  ∃S' ρ' j,SR E n0 H0 g0 S' ρ' j lb g fr H/\wp E (qA E) Q (κ S') ρ'/\∀q∈l,qTa ve lb g q.1 q.2
 | [],S,ρ,ve,κ,h,_,y=>⟨S,ρ,ve,h,y,λ_ h=>(by cases h)⟩
 |(s,i)::r,S,ρ,ve,κ,h,w,y=>by
  simp only[qH5]at y
  obtain⟨u,y⟩:=jQ y
  simp only[aE]at u
  simp only[wp]at y
  split at y
  case h_2=>cases y
  rename_i d hd
  simp only[SV.ds,qC6,aa]at hd
  obtain⟨e,he,rfl⟩:=hd
  have C:=h.new (k:=.pure) (o:=true) (by simp) (d:=.leaf (.bool true)) (v:=.bool true) ⟨λ_=>rfl,.leaf rfl⟩
  have ex:ExtS S ρ ve g (S.new .pure true) (ρ++[.leaf (.bool true)]) (cJ ve S.n (.bool true)) g:=yE h.len
  obtain⟨S',ρ',j,B,A,z⟩:=qH4 r C (λq p=>⟨ex.bd (w q (mC _ p)).1,ex.bd (w q (mC _ p)).2⟩) y
  refine⟨S',ρ',j,B,A,λq p=>?_⟩
  rcases bl.1 p with rfl|p
  ·exact zAH h.toSM u.1 u.2 he
  have:=z q p
  have b:=w q (mC _ p)
  unfold qTa at this ⊢
  rw[ex.val b.1,ex.val b.2]at this
  exact this
theorem tI(h:SR E n0 H0 g0 S ρ ve lb g fr H):∀(os:LB),∀q∈tJ S os,q.1.bd S.n S.ae.length/\q.2.bd S.n S.ae.length
 | [],_,y=>by cases y
 | o::os,q,y=>by
  unfold tJ at y;split at y
  ·split at y
   ·rename_i k i _ _ j;rcases bl.1 y with rfl|y
    ·exact(h.af _ _ j).1
    exact tI h os q y
   exact tI h os q y
  exact tI h os q y
theorem qEq{t:LN}{a:Tmp}{k sz off:Nat}{i:SV}(hs:S.af.get a=some (.ptr (.v k) i sz off)):∀(os:LB) {o:Oper},o∈os->o.op=.load t (.tmp a)->(.v k,i)∈tJ S os
 | [],_,h,_=>by cases h
 |p::os,o,h,y=>by
  rcases bl.1 h with rfl|h
  ·simp only[tJ,y,hs];exact aq
  have:=qEq hs os h y;unfold tJ;grind
theorem cG(h:SR E n0 H0 g0 S ρ ve lb g fr H):∀(os:LB),∀q∈eN S os,q.1.bd S.n S.ae.length/\q.2.bd S.n S.ae.length
 | [],_,y=>by cases y
 | o::os,q,y=>by
  unfold eN at y;split at y
  ·split at y
   ·split at y
    ·rename_i k j;rw[cond_eq_ite]at y;split at y
     ·rcases bl.1 y with rfl|y
      ·exact⟨(h.af _ _ j).1,trivial⟩
      exact cG h os q y
     exact cG h os q y
    exact cG h os q y
   exact cG h os q y
  exact cG h os q y
theorem qOn(h:SR E n0 H0 g0 S ρ ve lb g fr H)(os:LB):∀q∈qG4 S os,q.1.bd S.n S.ae.length/\q.2.bd S.n S.ae.length:=λq y=>
 (bh.1 y).elim (tI h os q) (cG h os q)
theorem qLR{a:Tmp}{sz off:Nat}{i:SV}(y:S.af.get a=some (.ptr (.v k) i sz off))(os:LB){o:Oper}(h:o∈os)(j:o.op=.load t (.tmp a)):(.v k,i)∈qG4 S os:=dz _ (qEq y os h j)
theorem qEB{t:LN}{n k:Nat}{ps:Array (Nat×LM)}{d:Tmp}(hs:S.af.get d=some (.v k))(j:S.lh k=true):∀(os:LB) {o:Oper},o∈os->o.op=.buildSlice t n ps->o.dst=some d->(.v k,.c (.int .i64 0))∈eN S os
 | [],_,h,_,_=>by cases h
 |p::os,o,h,y,hd=>by
  rcases bl.1 h with rfl|h
  ·simp only[eN,y,hd,hs,j,ai];exact aq
  have:=qEB hs j os h y hd;unfold eN;grind
theorem qGN{all:LB}(O:∀q∈qG4 S all,qTa ve lb g q.1 q.2)(h:SR E n0 H0 g0 S ρ ve lb g fr H)(L:lF S all all 0=true):∀(os:LB) (i:Nat),(∀k o,os[k]? = some o->all[i+k]? = some o)->lF S all os i=true->qJT fr ((qBn S all 0).map λq=>(q.1,lb q.2)) all i os
 | [],_,_,_=>trivial
 | o::os,i,Z,ht=>by
  simp only[lF,aE]at ht;refine⟨?_,qGN O h L os (i+1) (λk p hk=>by have:=Z (k+1) p (by simpa using hk);rw[show i+1+k=i+(k+1) by omega];exact this) ht.2⟩;have M:=qAT all 0 L;have w:∀{b},b∈qV all i (qBn S all 0)->S.live b:=λ{b} hb=>by obtain⟨j,hj⟩:=aS _ hb;exact qGM (all:=all) all 0 M hj
  have I:∀{bs:LC} {b c:Nat},bs.all (λc=>!(Nat.beq c b))=true->c∈bs->c≠b:=by intro bs b c h F e;have:=al.1 h c F;subst e;simp at this
  have r:=ht.1;unfold l9;rw[qCI];cases G:o.op with
  |store t a x=>obtain⟨d,b,off,y,rfl,hs,X,hb,hd⟩:=qBZ r G;refine⟨by rw[hb];rfl,hd,λB u=>?_⟩;have hv:=(h.af d _ hs).2;simp only[SV.val]at hv;rw[hv]at u;simp only[qFF,oI]at u;subst u;have U:=qJ6 hs all 0 i o (by have:=Z 0 o rfl;simpa using this) G;grind
  | load t a=>
   unfold aC at r;rw[G]at r;cases a with
   | tmp a=>
    simp only[aE]at r;refine⟨r.1,λB u U=>?_⟩;obtain⟨c,F,rfl⟩:=dy.1 U;have A:=r.2;split at A
    ·rename_i b off hs;have hv:=(h.af a _ hs).2;simp only[SV.val]at hv;rw[hv]at u;simp only[qFF,oI]at u;simp only[aE]at A;obtain⟨y,X⟩:=cN A.2;exact I A.1 F (h.km c b (w F) ⟨y,X⟩ u.symm)
    ·rename_i k x1 x2 x3 hs;have hv:=(h.af a _ hs).2;simp only[SV.val]at hv;rw[hv]at u;have C:o∈all:=by have:=Z 0 o rfl;exact be this
     obtain⟨kk,P⟩:=O _ (qLR hs all C G) _ _ _ u;have z:=h.ei c (w F);rw[P]at z;cases z
    cases A
   |const _=>cases r
   |global _=>cases r
   |func _=>cases r
  |alloc t=>
   unfold aC at r;rw[G]at r;simp only at r ⊢;split at r;case h_2=>cases r
   rename_i d hd;simp only[aE]at r;refine⟨d,hd,r.1,λB u U=>?_⟩;obtain⟨c,F,rfl⟩:=dy.1 U;have A:=r.2;split at A
   ·rename_i b off hs;have hv:=(h.af d _ hs).2;simp only[SV.val]at hv;rw[hv]at u;simp only[qFF,oI]at u;simp only[aE]at A;obtain⟨y,X⟩:=cN A.2;exact I A.1 F (h.km c b (w F) ⟨y,X⟩ u.symm)
   cases A
  | buildSlice t n ps=>
   unfold aC at r;rw[G]at r;simp only[aE]at r ⊢;obtain⟨hn,r⟩:=r;split at r;case h_2=>cases r
   rename_i d hd;simp only[aE]at r;refine⟨oA hn,d,hd,r.1,λB u U=>?_⟩;obtain⟨c,F,rfl⟩:=dy.1 U;have A:=r.2;split at A;case h_2=>cases A
   rename_i k hs;have hv:=(h.af d _ hs).2;simp only[SV.val]at hv;rw[hv]at u;rcases dt _ _▸A with hf|hp
   ·obtain⟨of,M⟩:=zT.1 hf;have W:bM g H.blocks.get n0 (getD ρ k) (ve k):=(h.vars k _ M).2;rcases W with(⟨W,_⟩|⟨_,ad,W⟩)|⟨B2,l,cs,vs,el,rt,sz,es,qo⟩|⟨B2,es,ck,rt,ks,dd,qo⟩
    rotate_left 3
    ·rw[qo.v]at u;cases u
    ·rw[W]at u;cases u
    ·rw[W]at u;obtain⟨b1,b2,b3⟩:=ad;cases b3<;>cases u
    have V:=h.hU c k (w F) hf;rw[qo.v]at u V;cases l with
    |zero=>cases u
    |succ l=>simp only[qQ1,oI]at u;exact V (by simp[jW,u])
   have C:o∈all:=by have:=Z 0 o rfl;exact be this
   have hPG:=O _ (ee _ (qEB hs hp all C G hd)) 0 0;have hpv:∃kk,g (lb c)=some kk:=by
    refine hPG (lb c) ?_;simp only[SV.val];unfold qQ1 at u;split at u
    ·rename_i b x2 l2 c2 R;cases u;have R:=du R;rw[R];rfl
    cases u
   obtain⟨kk,P⟩:=hpv;have z:=h.ei c (w F);rw[P]at z;cases z
  |_=>unfold aC at r;rw[G]at r;exact r
theorem qO2(he:EOk E){id:Nat}(h:SR E n0 H0 g0 S ρ ve lb g fr H)(r:wp E (qA E) Q (qDU E ops false ops.toList 0 S (λS=>bif lF S ops.toList ops.toList 0 then qH5 (qG4 S ops.toList) S κ else .fail)) ρ):∃S' ρ' C G g' fr' H',SR E n0 H0 g0 S' ρ' C G g' fr' H'/\wp E (qA E) Q (κ S') ρ'/\vK E (.region id ops true) fr H .normal fr' H':=by obtain⟨S1,ρ1,ve1,F,A,V,H1,U,r,hx⟩:=qOy ops.toList 0 h r;obtain⟨W,r⟩:=jQ r;obtain⟨S2,ρ2,ve2,Z,r,O⟩:=qH4 _ U (qOn U _) r;have hT:=qGN O U W ops.toList 0 (λk o P=>by rw[fc];exact P) W;obtain⟨hn,l,f1,f2,ts0,_,f3⟩:=hx;have y:=f3 (qPl l) (λa ha=>qCF f1 a ha);rw[qEk]at y;obtain⟨H2,p,z⟩:=qDb (N:=n0.n) ops.toList 0 y hT ⟨λ_=>rfl,rfl,λ_ _ h=>h,h.base.1⟩;refine⟨S2,ρ2,ve2,F,A,V,H2,Z.congr z.get z.next (z.low _ (bq _ _) Z.low),r,?_⟩;have I:=qPk f1;refine⟨by rw[z.next];exact hn,?_⟩;intro M σ w tmps n0 B0 X hf u hn0 b ds k cs P L R;have j:yU σ H.next H2.next:=u;obtain⟨B,w',q,A,g2,g3⟩:=cP he I.call I.round I.up (id:=id) (λhd=>by simpa[vJ,hd]using M) b ds k cs P L p X hf j;exact⟨B,w',q,ds,A,g2,pO p,R.step X A,g3⟩
end
variable{cs:LA}{e:TI}{rd:Bool}{ty:LN}
section
variable{E:Env}{fr fr':Fr}{t:T LQ}{o:Oper}{H H1 H':AH}{n d i:Nat}{v:LQ}{all:LF}{os:LB}
theorem qEn{t:LN}{p d:Tmp}(h:qKm o=some (t,p,d)):o.op=.load t (.tmp p)/\o.dst=some d/\o.guard=none:=by unfold qKm at h;grind
theorem fP{s d:Tmp}(h:qEm o=some (s,d)):o.op=.move (.tmp s)/\o.dst=some d/\o.guard=none:=by unfold qEm at h;grind
theorem qLP{a d:Tmp}(h:qOj o=some (a,d)):(∃t y,o.op=.binOp .add t (.tmp a) (.const (.int .i64 (.ofNat 1))) y)/\o.dst=some d/\o.guard=none:=by unfold qOj at h;grind
theorem qAe{t:LN}{x l d:Tmp}(h:qG2 o=some (t,x,l,d)):o.op=.slice t (.tmp x) (some (.tmp l)) none none/\o.dst=some d/\o.guard=none:=by unfold qG2 at h;grind
theorem qLO{t:LN}{a b d:Tmp}(h:qOi o=some (t,a,b,d)):∃c ts,o.op=.call c/\c.callee=.builtin .copy/\c.args.toList=[.tmp a,.tmp b]/\c.argTypes.toList=t::ts/\o.dst=some d/\o.guard=none:=by unfold qOi at h;grind
def qGD(H:AH):Nat->AH
 |0=>H
 |n+1=>jV (qGD H n) (vI (qGD H n) []) []
theorem qKM(H:AH):∀k,(qGD H k).blocks=H.blocks
 |0=>rfl
 |k+1=>qKM H k
theorem qKL(H:AH):∀k,(qGD H k).next=H.next
 |0=>rfl
 |k+1=>qKL H k
theorem qPf(H:AH):∀k,Nat.min H.low H.next<=(qGD H k).low
 |0=>dw _ _
 |k+1=>dv.2 ⟨qPf H k,by show _<=(qGD H k).next;rw[qKL];exact bq _ _⟩
theorem qDa(y:jH E ⟨n,rd,t⟩ o (vI (qGD H k) [])=some (.val v,vI (qGD H k) []))(p:o.guard=none)(j:o.dst=some d)(l:Nat.ble (d+1) n=true)(h:kG E all true os (i+1) ⟨n,rd,t.put d (some v)⟩ (qGD H (k+1)) fr' H'):kG E all true (o::os) i ⟨n,rd,t⟩ (qGD H k) fr' H':=
 kG.px (by simp only[vU,p]) (.kl (vP _) y) (.inl (vP _)) (by simp only[yI,j,l,ai]) h
theorem qLb{t:LN}{b:Nat}{v:LQ}{el rt:Nat}{own:Bool}(h:qJF E t=true)(l:o.op=.load t x)(hv:ev E fr x=some (.pointer (some ⟨b,0,none⟩)))(p:H.blocks.get b=some ⟨.cells [v] el,rt,own⟩):jH E fr o H=some (.val v,H):=by
 unfold qJF at h;split at h;case h_2=>cases h
 rename_i j q;simp only[aE,fy]at h;unfold jH;rw[l];have r:take? (([v]:LA).drop 0) j.size=some [v]:=by rw[vW h.2];rfl
 simp only[hv,gM,q,h.1,bc,AH.lj,p,one];have y:take? (([v]:LA).drop 0) 1=some [v]:=rfl;simp only[y,aj]
theorem qBL{v:LQ}(h:o.op=.move x)(hv:ev E fr x=some v):jH E fr o H=some (.val v,H):=by unfold jH;rw[h];simp only[hv,one,aj]
theorem qYQ{n:Nat}(h:n<zX):IntKind.i64.wrap (n:Int)=(n:Int):=by
 have l:n<9223372036854775808:=h;have j:(n:Int)<9223372036854775808:=by omega
 have y:(n:Int)%2^64=(n:Int):=by omega
 simp only[IntKind.wrap,IntKind.bits,IntKind.signed,y];grind
theorem qX1{t l:LN}{y:LM}{a:Nat}(h:a+1<zX)(r:o.op=.binOp .add t x y l)(q:ev E fr x=some (goInt a))(p:ev E fr y=some (goInt 1)):jH E fr o H=some (.val (goInt ((a+1:Nat):Int)),H):=by have j:pA E .add t x y (goInt a) (goInt 1)=some (goInt (IntKind.i64.wrap ((a:Int)+1))):=rfl;rw[show((a:Int)+1)=((a+1:Nat):Int) by omega,qYQ h]at j;unfold jH;rw[r];simp only[q,p,j,one,aj]
theorem qP3{l:LM}{el b n rt:Nat}{own:Bool}(j:yD E ty=some el)(he:E.types.get el=some e)(p:o.op=.slice ty x (some l) none none)(y:ev E fr x=some (.slice (some ⟨b,0,none⟩) n zX))(r:ev E fr l=some (goInt k))(u:k<=n)(w:H.blocks.get b=some ⟨.cells cs el,rt,own⟩):jH E fr o H=some (.val (.slice (some ⟨b,0+k*e.size,none⟩) (n-k) zX),H):=by obtain⟨h,B,F,C,A⟩:=wF j;have hle:Nat.ble k n=true:=bL u;have q:nat? (goInt k)=some k:=rfl;have h3:Nat.ble zX zX=true:=bL (vP _);have z:Nat.beq el el=true:=bj _;have h5:Nat.ble n n=true:=bL (vP _);unfold jH;rw[p];simp only[y,Option.toList,rS,r,aj,List.head?_cons,List.head?_nil,oN,A,gH,q,he,hle,h3,z,h5,w,ai,fj,cj,one];rfl
theorem qSH{c:Call}{ts:List LN}{y:LM}{el b j n rt:Nat}(M:yD E ty=some el)(he:E.types.get el=some e)(A:o.op=.call c)(C:c.callee=.builtin .copy)(F:c.args.toList=[x,y])(l:c.argTypes.toList=ty::ts)(z:ev E fr x=some (.slice (some ⟨b,0+(j+1)*e.size,none⟩) (n-(j+1)) zX))(w:ev E fr y=some (.slice (some ⟨b,0+j*e.size,none⟩) (n-j) zX))(X:j+1<=n)(P:H.blocks.get b=some ⟨.cells cs el,rt,true⟩)(W:n*e.size<=cs.length):(n-(j+1)=0/\∃v,jH E fr o H=some (.val v,H))∨(n-(j+1)≠0/\∃v,jH E fr o H=some (.val v,H.write b ⟨.cells cs el,rt,true⟩ (.cells (qEj cs ((j+1)*e.size) ((cs.drop (j*e.size)).take ((n-(j+1))*e.size))) el))):=by
 obtain⟨I,R,V,U,G⟩:=wF M;have hm:Nat.min (n-j) (n-(j+1))=n-(j+1):=Nat.min_eq_right (by omega);have hle:Nat.ble (n-(j+1)) (n-j)=true:=bL (by omega);by_cases p:n-(j+1)=0
 ·refine .inl ⟨p,goInt 0,?_⟩;have h:Nat.beq 0 0=true:=rfl;have L:Nat.min (n-j) 0=0:=Nat.min_zero _;unfold jH;rw[A];simp only[kX,F,rS,z,w,aj,C,wJ,l,qE1,G,he,qHm,p,L,oX,h,ai];rfl
 refine .inr ⟨p,goInt (n-(j+1):Nat),?_⟩;have h:Nat.beq (n-(j+1)) 0=false:=by
  cases O:Nat.beq (n-(j+1)) 0 with
  |false=>rfl
  |true=>exact absurd (vW O) p
 have B:n*e.size=(j+1)*e.size+(n-(j+1))*e.size:=by rw[←fm];congr 1;omega
 have u:(j+1)*e.size=j*e.size+e.size:=jf _ _;have q:take? (cs.drop (0+j*e.size)) (Nat.mul (n-(j+1)) e.size)=some ((cs.drop (j*e.size)).take ((n-(j+1))*e.size)):=by rw[fc];exact kH (by rw[dh];show(n-(j+1))*e.size<=_;omega)
 have r:((cs.drop (j*e.size)).take ((n-(j+1))*e.size)).length=(n-(j+1))*e.size:=by rw[cg,dh];omega
 have bO:=eA (cs:=cs) (xs:=(cs.drop (j*e.size)).take ((n-(j+1))*e.size)) (i:=0+(j+1)*e.size) (by rw[r];omega);unfold jH;rw[A];simp only[kX,F,rS,z,w,aj,C,wJ,l,qE1,G,he,qHm,hm,oX,h,hle,ai,bc,AH.lj,P,q,AH.kR,bO];rw[fc]
end
theorem qMx{ds:List Tmp}{t:T SV}{d:Tmp}{x:SV}(h:(sE t ds).get d=some x):d∉ds/\t.get d=some x:=by
 induction ds with
 |nil=>exact⟨by simp,h⟩
 |cons c r ih=>rw[sE,T.ch]at h;grind
variable{o:Oper}
section
variable{E:Env}{n0:Lim}{H0:AH}{g0:zR}{S:St}{ρ:LR}{ve:LH}{lb:LI}{g:zR}{fr fr':Fr}{H:AH}{HS:LO->LR->La}{Q:Res1->Prop}
theorem SR.erased(h:SR E n0 H0 g0 S ρ ve lb g fr H){ds:List Tmp}(y:fr'.sz=fr.sz)(j:fr'.rd=fr.rd)(r:∀t,t∉ds->fr'.t.get t=fr.t.get t):SR E n0 H0 g0 {S with af:=sE S.af ds} ρ ve lb g fr' H:=
  { toSM:={len:=h.len,wf:=h.wf,mem:=h.mem,base:=h.base,fix:=h.fix,vars:=h.vars,ae:=h.ae,ei:=h.ei,cn:=h.cn,km:=h.km,h7:=h.h7,hU:=h.hU}
    sz:=by rw[y];exact h.sz,rd:=by rw[j];exact h.rd
    af:=λt x q=>by obtain⟨w,u⟩:=qMx (show(sE S.af ds).get t=some x from q);obtain⟨p,l⟩:=h.af t x u;exact⟨p,by rw[r t w];exact l⟩
    kh:=h.kh,hN:=h.hN,gk:=h.gk,low:=h.low,tab:=h.tab}
theorem gE{b:Nat}{x:Option ABlk}(h:H.blocks.get b=x):(vI (qGD H k) []).blocks.get b=x:=by show(qGD H k).blocks.get b=x;rw[qKM,h]
theorem sZ{t:T LQ}{d:Nat}{w:LG}(hd:k≠d)(h:t.get k=w):(t.put d (some v)).get k=w:=by rw[T.ch,bf hd];exact h
theorem qQG{t:T LQ}{d:Nat}:(t.put d (some v)).get d=some v:=by rw[T.ch,bo rfl]
theorem qJB{n:Nat}{t:T LQ}{k:Tmp}{w:LQ}(h:t.get k=some w):ev E ⟨n,rd,t⟩ (.tmp k)=some w:=h
theorem qOl{n d:Nat}{t:T LQ}(h:o.dst=some d)(y:Nat.ble (d+1) n=true):yI ⟨n,rd,t⟩ o.dst v=some ⟨n,rd,t.put d (some v)⟩:=by simp only[yI,h,y,ai]
theorem qX2(he:EOk E){id:Nat}{p:CpP}(h:SR E n0 H0 g0 S ρ ve lb g fr H)(P:qX3 E S ops.toList=some p)(hw:wp E (qA E) Q (.bind (.ot p.el p.sz) [.v p.k,p.j] (κ ((S.ot p).mapped p.k))) ρ):∃S' ρ' ve' lb' g' fr' H',SR E n0 H0 g0 S' ρ' ve' lb' g' fr' H'/\wp E (qA E) Q (κ S') ρ'/\vK E (.region id ops true) fr H .normal fr' H':=by
 unfold qX3 at P;split at P;case h_2=>cases P
 rename_i o0 o1 o2 o3 o4 o5 o6 o7 heq;split at P;case h_2=>cases P
 rename_i t0 p0 d0 s1 d1 a2 d2 t3 x3 l3 d3 r0 r1 r2 r3;split at P;case h_2=>cases P
 rename_i t4 p4 d4 s5 d5 t6 x6 l6 d6 t7 a7 b7 U r4 r5 r6 r7;obtain⟨hc,P⟩:=qZ P;rw[aE,aE]at hc;obtain⟨hc,hfen,hcell⟩:=hc;split at P;case h_2=>cases P
 rename_i b j el hs0 hs1 hsl;split at P;case h_2=>cases P
 rename_i k e hblk hel;obtain⟨hkj,P⟩:=qZ P;rw[aE]at hkj;obtain⟨V,hrj⟩:=hkj;cases P;unfold zBN at hc;simp only[aE]at hc;obtain⟨⟨z1,z2,z3,z4⟩,⟨z5,z6⟩,⟨z7,z8,z9⟩,⟨z10,z11⟩,⟨z12,z13⟩,hnd,hall⟩:=hc;have z1:=(vW z1).symm;have z2:=(vW z2).symm;have z3:=(vW z3).symm;have z4:=(vW z4).symm;have z5:=(vW z5).symm;have z6:=(vW z6).symm;have z7:=(vW z7).symm;have z8:=(vW z8).symm;have z9:=(vW z9).symm;have z10:=(vW z10).symm;have z11:=(vW z11).symm;have z12:=(vW z12).symm;have z13:=(vW z13).symm;subst z1 z2 z3 z4 z5 z6 z7 z8 z9 z10 z11 z12 z13;obtain⟨u0,v0,w0⟩:=qEn r0;obtain⟨u1,v1,w1⟩:=fP r1;obtain⟨⟨ty2,yt2,u2⟩,v2,w2⟩:=qLP r2;obtain⟨u3,v3,w3⟩:=qAe r3;obtain⟨u4,v4,w4⟩:=qEn r4;obtain⟨u5,v5,w5⟩:=fP r5;obtain⟨u6,v6,w6⟩:=qAe r6;obtain⟨c7,ts7,u7,y7,ya7,yt7,v7,w7⟩:=qLO r7;simp only[wp]at hw;split at hw;case h_2=>cases hw
 rename_i d hd;simp only[SV.ds,qPO]at hd;split at hd;case h_2=>cases hd
 rename_i vC sz' es A hdk hdj;obtain⟨I,hd2⟩:=qZ hd;clear hd;have hd:=du hd2;clear hd2;simp only[aE]at I;have e1:=vW I.1.1;have e2:=vW I.1.2;have hnl:=oA I.2;subst e1 e2;have hjr:=zQ h.toSM hrj;rw[hdj]at hjr;have hjv:j.val ve lb=goInt A:=(hjr.dr rfl).de.1;have hp0:fr.t.get p0=some (.pointer (some ⟨lb b,0,none⟩)):=(h.af _ _ hs0).2;have hs1v:fr.t.get s1=some (goInt A):=by rw[(h.af _ _ hs1).2,hjv]
 obtain⟨of,hst⟩:=zT.1 V;have hv:=(h.vars k _ hst).2;have R:getD ρ k=.sl vC e.size es:=hdk;rcases hv with qn|⟨B,l,cs,vs,elx,rt,sz2,es2,C⟩|⟨B,es2,clock,rt,ks,dds,C⟩
 rotate_left 2
 ·have X:=C.d;rw[R]at X;cases X
 ·exfalso;rcases qn.sl with L|⟨_,_,L⟩
  ·rw[R]at L;cases L
  rw[R]at L;cases L;simp at hnl
 have X:=C.d;rw[R]at X;cases X;have u:jW (ve k)=some B:=by rw[C.v];simp[jW]
 obtain⟨t1,t2⟩:=pN C.t;have hlen:es.length=l:=C.n;obtain⟨elb,rtb,csb,hbb,_,hbc⟩:=(h.ae b _ hblk).2.cells rfl;have hbc:csb=[ve k]:=hbc;subst hbc;rw[C.v]at hbb;have G:∀(a:Nat),a∈[p0,s1,d0,d1,d2,d3,d4,d5,d6,U]->Nat.ble (a+1) fr.sz=true:=λa ha=>by rw[h.sz];grind
 have O:∀(x y a c:Nat),[p0,s1,d0,d1,d2,d3,d4,d5,d6,U][x]? = some a->[p0,s1,d0,d1,d2,d3,d4,d5,d6,U][y]? = some c->x≠y->a≠c:=λx y a c h1 h2 h3 e=>h3 (fS hnd x y a h1 (by rw[h2,e]));have hcap:l<zX:=C.x;have hnj:A+1<=l:=by rw[←hlen];exact hnl
 have hln:l*e.size<=cs.length:=t2;let c1:T LQ:=fr.t.put d0 (some (.slice (some ⟨B,0,none⟩) l zX));let c2:T LQ:=c1.put d1 (some (goInt A));let c3:T LQ:=c2.put d2 (some (goInt ((A+1:Nat):Int)));let c4:T LQ:=c3.put d3 (some (.slice (some ⟨B,0+(A+1)*e.size,none⟩) (l-(A+1)) zX));let c5:T LQ:=c4.put d4 (some (.slice (some ⟨B,0,none⟩) l zX));let c6:T LQ:=c5.put d5 (some (goInt A));let F:T LQ:=c6.put d6 (some (.slice (some ⟨B,0+A*e.size,none⟩) (l-A) zX));have pre:∀{fr2:Fr} {H2:AH},kG E ops true [o7] 7 ⟨fr.sz,fr.rd,F⟩ (qGD H 7) fr2 H2->kG E ops true [o0,o1,o2,o3,o4,o5,o6,o7] 0 fr H fr2 H2:=by intro fr2 H2 hl7;show kG E ops true _ 0 ⟨fr.sz,fr.rd,fr.t⟩ (qGD H 0) fr2 H2;refine qDa (qLb hcell u0 (qJB hp0) (gE hbb)) w0 v0 (G d0 (by simp)) ?_;refine qDa (qBL u1 (qJB (sZ (O 1 2 _ _ rfl rfl (by decide)) hs1v))) w1 v1 (G d1 (by simp)) ?_;refine qDa (qX1 (by omega) u2 (qJB qQG) rfl) w2 v2 (G d2 (by simp)) ?_;refine qDa (qP3 hsl hel u3 (qJB (sZ (O 2 4 _ _ rfl rfl (by decide)) (sZ (O 2 3 _ _ rfl rfl (by decide)) qQG))) (qJB qQG) hnj (gE C.b)) w3 v3 (G d3 (by simp)) ?_;refine qDa (qLb hcell u4 (qJB (sZ (O 0 5 _ _ rfl rfl (by decide)) (sZ (O 0 4 _ _ rfl rfl (by decide)) (sZ (O 0 3 _ _ rfl rfl (by decide)) (sZ (O 0 2 _ _ rfl rfl (by decide)) hp0))))) (gE hbb)) w4 v4 (G d4 (by simp)) ?_;refine qDa (qBL u5 (qJB (sZ (O 1 6 _ _ rfl rfl (by decide)) (sZ (O 1 5 _ _ rfl rfl (by decide)) (sZ (O 1 4 _ _ rfl rfl (by decide)) (sZ (O 1 3 _ _ rfl rfl (by decide)) (sZ (O 1 2 _ _ rfl rfl (by decide)) hs1v))))))) w5 v5 (G d5 (by simp)) ?_;refine qDa (qP3 hsl hel u6 (qJB (sZ (O 6 7 _ _ rfl rfl (by decide)) qQG)) (qJB qQG) (by omega) (gE C.b)) w6 v6 (G d6 (by simp)) ?_;exact hl7
 have g3:ev E ⟨fr.sz,fr.rd,F⟩ (.tmp d3)=some (.slice (some ⟨B,0+(A+1)*e.size,none⟩) (l-(A+1)) zX):=qJB (sZ (O 5 8 _ _ rfl rfl (by decide)) (sZ (O 5 7 _ _ rfl rfl (by decide)) (sZ (O 5 6 _ _ rfl rfl (by decide)) qQG)));have g6:ev E ⟨fr.sz,fr.rd,F⟩ (.tmp d6)=some (.slice (some ⟨B,0+A*e.size,none⟩) (l-A) zX):=qJB qQG;have W:∀(w:LQ) (t:Tmp),t∉[d0,d1,d2,d3,d4,d5,d6,U]->(F.put U (some w)).get t=fr.t.get t:=by intro w t ht;simp only[bl,List.mem_nil_iff,or_false,not_or]at ht;obtain⟨q0,q1,q2,q3,q4,q5,q6,q7⟩:=ht;exact sZ q7 (sZ q6 (sZ q5 (sZ q4 (sZ q3 (sZ q2 (sZ q1 (sZ q0 rfl)))))))
 have hlow:Nat.min H0.low n0.n<=(qGD H 7).low:=lT (dv.2 ⟨h.low,lT (bq _ _) h.base.1⟩) (qPf H 7);rcases qSH (fr:=⟨fr.sz,fr.rd,F⟩) (H:=vI (qGD H 7) []) hsl hel u7 y7 ya7 yt7 g3 g6 hnj (gE C.b) hln with⟨m0,w,hx⟩|⟨m1,w,hx⟩
 ·
  -- nothing is moved
  have q:SR E n0 H0 g0 (S.ot ⟨k,j,vC,e.size,[d0,d1,d2,d3,d4,d5,d6,U]⟩) ρ ve lb g ⟨fr.sz,fr.rd,F.put U (some w)⟩ H:=h.erased rfl rfl (W w);have hes:dD es A=es:=by unfold dD;rw[hlen,m0,List.take_zero,cr,dc (by omega)]
  rw[hes]at hd;have k1:=q.mw k;have k3:=k1.ko (d:=d) (v:=ve k) (by rw[←hd];exact .inr (.inl ⟨B,l,cs,vs,vC,rt,e.size,es,{C with d:=rfl}⟩)) (by rw[←hd];rfl) (λB' z=>by rw[u]at z;cases z;exact h.cn k B V u) (λB' c z hc e=>by rw[u]at z;cases z;exact q.hU c k hc V (by rw[e];exact u)) (λB' jj z hf hoj=>by rw[u]at z;cases z;obtain⟨a1,a2⟩:=jZ hf;exact a2 (q.h7 jj k B a1 V hoj u));rw[mO]at k3;have k4:=nU (i:=k) (show(S.ot ⟨k,j,vC,e.size,[d0,d1,d2,d3,d4,d5,d6,U]⟩).ca k=true from V) k3;refine⟨_,_,_,_,_,_,qGD H 8,k4.congr (λb=>by rw[qKM]) (qKL H 8) (lT (dv.2 ⟨h.low,lT (bq _ _) h.base.1⟩) (qPf H 8)),hw,vK.region he ?_⟩;rw[heq];refine pre (kG.px (by simp only[vU,w7]) (.kl (vP _) hx) (.inl (vP _)) (qOl v7 (G U (by simp))) ?_);exact .nil
 -- the elements are moved
 have zb:=qKM H 7;have zn:=qKL H 7
 clear_value F
 generalize qGD H 7=Z at *;have q:SR E n0 H0 g0 (S.ot ⟨k,j,vC,e.size,[d0,d1,d2,d3,d4,d5,d6,U]⟩) ρ ve lb g ⟨fr.sz,fr.rd,F.put U (some w)⟩ H:=h.erased rfl rfl (W w);have hmul:l*e.size=(A+1)*e.size+(l-(A+1))*e.size:=by rw[←fm];congr 1;omega
 have hmul2:(A+1)*e.size=A*e.size+e.size:=jf _ _;generalize hxs:(cs.drop (A*e.size)).take ((l-(A+1))*e.size)=xs at hx;have hxl:xs.length=(l-(A+1))*e.size:=by rw[←hxs,cg,dh];omega
 have hxv:xs=(vs.drop (A*e.size)).take ((l-(A+1))*e.size):=by
  rw[←hxs,t1,List.drop_take,List.take_take]
  congr 1
  rw[Nat.min_eq_left];omega
 generalize hr:qEj cs ((A+1)*e.size) xs=r at hx;have hrl:take? r (l*e.size)=some (vs.take ((A+1)*e.size)++xs):=by
  have hlr:l*e.size<=r.length:=by rw[←hr];simp only[qEj,bx,cg,dh];omega
  rw[kH hlr,←hr,qB4 (by rw[hxl];omega) hln,←t1];unfold qEj;rw[iz (by rw[hxl,t1,cg];omega),cr]
 have hdrs:DRs g ((dD es A).flatMap D.cells) (vs.take ((A+1)*e.size)++xs):=by unfold dD;rw[im,←nW C.s,←nW (λe' M=>C.s e' (dx M)),←pW C.s,hlen,hxv];exact(C.r.take _).append ((C.r.drop _).take _)
 have hone:(vs.take ((A+1)*e.size)++xs).all qU=true:=by
  have h0:=C.o;rw[al]at h0 ⊢;intro v hv;rcases bh.1 hv with hv|hv
  ·exact h0 v (dm hv)
  rw[hxv]at hv;exact h0 v (dx (dm hv))
 have hn2:(dD es A).length=l:=by unfold dD;rw[bx,cg,cg,dh,hlen];omega
 have hs2:∀e'∈dD es A,e'.cells.length=e.size:=by
  intro e' M;unfold dD at M;rcases bh.1 M with M|M
  ·exact C.s e' (dm M)
  exact C.s e' (dx (dm M))
 have hb:H.blocks.get B=some ⟨.cells cs vC,rt,true⟩:=C.b;have k1:=q.mw k
 have k2:=k1.oe (H':=H.write B ⟨.cells cs vC,rt,true⟩ (.cells r vC)) (λb=>b=B) (λb _ hb=>by rw[AH.ey,bf hb]) (λb hb=>by subst hb;exact h.cn k b V u)
  (λb c hb hl e=>by subst hb;exact q.hU c k hl V (by rw[e];exact u))
  (λb jj hb hf hoj=>by subst hb;obtain⟨a1,a2⟩:=jZ hf;exact a2 (q.h7 jj k b a1 V hoj u))
  (λb hb=>by subst hb;exact C.rt.2) (q.wf.write hb _) (vP _) (by show _<=Nat.min H.low rt;exact dv.2 ⟨q.low,lT (bq _ _) C.rt.1⟩)
 have k3:=k2.ko (d:=d) (v:=ve k) (by
   rw[←hd]
   exact .inr (.inl ⟨B,l,r,_,vC,rt,e.size,_,C.v,rfl,by rw[AH.ey,bo rfl],C.rt,hrl,hdrs,hn2,hs2,C.x,hone⟩)) (by rw[←hd];rfl)
  (λB' z=>by rw[u]at z;cases z;exact h.cn k B V u) (λB' c z hc e=>by rw[u]at z;cases z;exact q.hU c k hc V (by rw[e];exact u))
  (λB' jj z hf hoj=>by rw[u]at z;cases z;obtain⟨a1,a2⟩:=jZ hf;exact a2 (q.h7 jj k B a1 V hoj u))
 rw[mO]at k3;have k4:=nU (i:=k) (show(S.ot ⟨k,j,vC,e.size,[d0,d1,d2,d3,d4,d5,d6,U]⟩).ca k=true from V) k3;refine⟨_,_,_,_,_,_,jV (Z) ((vI (Z) []).write B ⟨.cells cs vC,rt,true⟩ (.cells r vC)) [],k4.congr (λb=>?_) (show Z.next=H.next from zn) ?_,hw,vK.region he ?_⟩
 ·show((Z).blocks.put B _).get b=(H.blocks.put B _).get b;rw[T.ch,T.ch,zb]
 ·show _<=Nat.min (Z).low (Nat.min (Z).next rt);refine dv.2 ⟨hlow,dv.2 ⟨?_,lT (bq _ _) C.rt.1⟩⟩;rw[zn];exact lT (bq _ _) h.base.1
 rw[heq];have hlast:kG E ops true [o7] 7 ⟨fr.sz,fr.rd,F⟩ (Z) ⟨fr.sz,fr.rd,F.put U (some w)⟩ (jV (Z) ((vI (Z) []).write B ⟨.cells cs vC,rt,true⟩ (.cells r vC)) []):=by
  refine kG.px (v:=w) (H1:=(vI (Z) []).write B ⟨.cells cs vC,rt,true⟩ (.cells r vC)) (by simp only[vU,w7]) (.kl ?_ hx) (.inr ?_) (qOl v7 (G U (by simp))) ?_
  ·exact vP _
  ·rw[heq];exact hfen
  exact .nil
 exact pre hlast
theorem qIS{a:Tmp}(h:qIT o=some (t,a)):∃c ts,o.op=.call c/\c.callee=.builtin .clear/\c.args.toList=[.tmp a]/\c.argTypes.toList=t::ts/\o.dst=none/\o.guard=none:=by unfold qIT at h;grind
theorem qP4{c:Call}{ts:List LN}{el b j n rt:Nat}{z:LA}(I:yD E ty=some el)(he:E.types.get el=some e)(u:e.zero=some z)(y:z.length=e.size)(w:o.op=.call c)(B:c.callee=.builtin .clear)(C:c.args.toList=[x])(l:c.argTypes.toList=ty::ts)(q:ev E fr x=some (.slice (some ⟨b,0+j*e.size,none⟩) (n-j) zX))(V:j<=n)(O:H.blocks.get b=some ⟨.cells cs el,rt,true⟩)(M:n*e.size<=cs.length):(n-j=0/\∃v,jH E fr o H=some (.val v,H))∨(n-j≠0/\∃v,jH E fr o H=some (.val v,H.write b ⟨.cells cs el,rt,true⟩ (.cells (qEj cs (j*e.size) (xX z (n-j))) el))):=by
 obtain⟨G,P,U,R,F⟩:=wF I;obtain⟨X,es,Z,W,ea⟩:=e;simp only at u y q M;subst u;by_cases p:n-j=0
 ·refine .inl ⟨p,.tuple #[],?_⟩;have h:Nat.beq 0 0=true:=rfl;unfold jH;rw[w];simp only[kX,C,rS,q,aj,B,wJ,l,qAJ,F,he,p,h,ai]
 refine .inr ⟨p,.tuple #[],?_⟩;have h:Nat.beq (n-j) 0=false:=by
  cases L:Nat.beq (n-j) 0 with
  |false=>rfl
  |true=>exact absurd (vW L) p
 have A:n*es=j*es+(n-j)*es:=by rw[←fm];congr 1;omega
 have r:(xX z (n-j)).length=(n-j)*es:=by rw[qCf,y]
 have bO:=eA (cs:=cs) (xs:=xX z (n-j)) (i:=0+j*es) (by rw[r];omega);unfold jH;rw[w];simp only[kX,C,rS,q,aj,B,wJ,l,qAJ,F,he,h,bc,AH.kR,O,bO];rw[fc]
theorem qYa(he:EOk E){id:Nat}{p:ClP}(h:SR E n0 H0 g0 S ρ ve lb g fr H)(I:qYb E S ops.toList=some p)(hw:wp E (qA E) Q (.bind (.pz p.el p.sz p.ag p.z) [.v p.k,p.j] (κ ((S.pz p).mapped p.k))) ρ):∃S' ρ' ve' lb' g' fr' H',SR E n0 H0 g0 S' ρ' ve' lb' g' fr' H'/\wp E (qA E) Q (κ S') ρ'/\vK E (.region id ops false) fr H .normal fr' H':=by
 unfold qYb at I;split at I;case h_2=>cases I
 rename_i o0 o1 o2 o3 heq;split at I;case h_2=>cases I
 rename_i s0 d0 s1 d1 t2 x2 l2 d2 t3 a3 r0 r1 r2 r3;obtain⟨hc,I⟩:=qZ I;simp only[aE]at hc;obtain⟨⟨z1,z2,z3,z4⟩,hnd,hall⟩:=hc;split at I;case h_2=>cases I
 rename_i k j el hs0 hs1 hsl;split at I;case h_2=>cases I
 rename_i e hel;split at I;case h_2=>cases I
 rename_i z hz;obtain⟨hkj,I⟩:=qZ I;rw[aE]at hkj;obtain⟨O,hrj⟩:=hkj;cases I;have z1:=(vW z1).symm;have z2:=(vW z2).symm;have z3:=(vW z3).symm;have z4:=(vW z4).symm;subst z1 z2 z3 z4;obtain⟨u0,v0,w0⟩:=fP r0;obtain⟨u1,v1,w1⟩:=fP r1;obtain⟨u2,v2,w2⟩:=qAe r2;obtain⟨c3,ts3,u3,y3,ya3,yt3,v3,w3⟩:=qIS r3;simp only[wp]at hw;split at hw;case h_2=>cases hw
 rename_i d hd;simp only[SV.ds,qPP]at hd;split at hd;case h_2=>cases hd
 rename_i vC sz' es C hdk hdj;obtain⟨W,hd2⟩:=qZ hd;clear hd;have hd:=du hd2;clear hd2;simp only[aE]at W;obtain⟨⟨⟨e1,e2⟩,U,hn1⟩,⟨c1,c2⟩,c3'⟩:=W;have hn1:=oA hn1;have e1:=vW e1;have e2:=vW e2;have U:=oA U;have Z:=vW c1;subst e1 e2;have hjr:=zQ h.toSM hrj;rw[hdj]at hjr;have hjv:j.val ve lb=goInt C:=(hjr.dr rfl).de.1;have hs0v:fr.t.get s0=some (ve k):=(h.af _ _ hs0).2;have hs1v:fr.t.get s1=some (goInt C):=by rw[(h.af _ _ hs1).2,hjv]
 obtain⟨of,hst⟩:=zT.1 O;have hv:=(h.vars k _ hst).2;have L:getD ρ k=.sl vC e.size es:=hdk;have hle:∀(a:Nat),a∈[s0,s1,d0,d1,d2]->Nat.ble (a+1) fr.sz=true:=λa ha=>by rw[h.sz];grind
 have ne:∀(x y a c:Nat),[s0,s1,d0,d1,d2][x]? = some a->[s0,s1,d0,d1,d2][y]? = some c->x≠y->a≠c:=λx y a c h1 h2 h3 e=>h3 (fS hnd x y a h1 (by rw[h2,e]));obtain⟨q1,q2⟩:=qTc (g:=g) Z c2 (by simpa using c3');have hone0:z.all qU=true:=by grind
 rcases hv with qn|⟨B,l,cs,vs,elx,rt,sz2,es2,F⟩|⟨B,es2,clock,rt,ks,dds,F⟩
 rotate_left 2
 ·have P:=F.d;rw[L]at P;cases P
 ·exfalso;rcases qn.sl with G|⟨_,_,G⟩
  ·rw[L]at G;cases G
  rw[L]at G;cases G;simp at hn1
 have P:=F.d;rw[L]at P;cases P;have u:jW (ve k)=some B:=by rw[F.v];simp[jW]
 obtain⟨t1,t2⟩:=pN F.t;have hlen:es.length=l:=F.n;rw[hlen]at U hn1;have hln:l*e.size<=cs.length:=t2;let c1':T LQ:=fr.t.put d0 (some (.slice (some ⟨B,0,none⟩) l zX));let c2':T LQ:=c1'.put d1 (some (goInt C));let M:T LQ:=c2'.put d2 (some (.slice (some ⟨B,0+C*e.size,none⟩) (l-C) zX));rw[F.v]at hs0v;have pre:∀{fr2:Fr} {H2:AH},kG E ops false [o3] 3 ⟨fr.sz,fr.rd,M⟩ H fr2 H2->kG E ops false [o0,o1,o2,o3] 0 fr H fr2 H2:=by intro fr2 H2 hl7;refine kG.cons (by simp only[vU,w0]) (.kl (vP _) (qBL u0 hs0v)) (qOl v0 (hle d0 (by simp))) ?_;refine kG.cons (by simp only[vU,w1]) (.kl (vP _) (qBL u1 (qJB (sZ (ne 1 2 _ _ rfl rfl (by decide)) hs1v)))) (qOl v1 (hle d1 (by simp))) ?_;refine kG.cons (by simp only[vU,w2]) (.kl (vP _) (qP3 hsl hel u2 (qJB (sZ (ne 2 3 _ _ rfl rfl (by decide)) qQG)) (qJB qQG) U F.b)) (qOl v2 (hle d2 (by simp))) ?_;exact hl7
 have af:∀(t:Tmp),t∉[d0,d1,d2]->M.get t=fr.t.get t:=by intro t ht;simp only[bl,List.mem_nil_iff,or_false,not_or]at ht;obtain⟨q0,q1,q2⟩:=ht;exact sZ q2 (sZ q1 (sZ q0 rfl))
 have q:SR E n0 H0 g0 (S.pz ⟨k,j,vC,e.size,e.agg,z,[d0,d1,d2]⟩) ρ ve lb g ⟨fr.sz,fr.rd,M⟩ H:=h.erased rfl rfl af;have hput:∀v,yI (⟨fr.sz,fr.rd,M⟩:Fr) o3.dst v=some ⟨fr.sz,fr.rd,M⟩:=λv=>by rw[v3];rfl
 have hdn:d.one=true:=by rw[←hd];rfl
 have k1:=q.mw k;rcases qP4 (fr:=⟨fr.sz,fr.rd,M⟩) (H:=H) hsl hel hz Z u3 y3 ya3 yt3 (qJB qQG) U F.b hln with⟨m0,w,hx⟩|⟨m1,w,hx⟩
 ·have hes:es.take C++List.replicate (es.length-C) (zD e.agg z)=es:=by
   grind
  rw[hes]at hd
  have k3:=k1.ko (d:=d) (v:=ve k) (by rw[←hd];exact .inr (.inl ⟨B,l,cs,vs,vC,rt,e.size,es,{F with d:=rfl}⟩)) hdn
   (λB' A=>by rw[u]at A;cases A;exact h.cn k B O u) (λB' c A hc e=>by rw[u]at A;cases A;exact q.hU c k hc O (by rw[e];exact u))
   (λB' jj A hf R=>by rw[u]at A;cases A;obtain⟨a1,a2⟩:=jZ hf;exact a2 (q.h7 jj k B a1 O R u))
  rw[mO]at k3
  have k4:=nU (i:=k) (show(S.pz ⟨k,j,vC,e.size,e.agg,z,[d0,d1,d2]⟩).ca k=true from O) k3
  refine⟨_,_,_,_,_,_,H,k4,hw,vK.region he ?_⟩
  rw[heq]
  exact pre (kG.cons (by simp only[vU,w3]) (.kl (vP _) hx) (hput _) .nil)
 generalize hr:qEj cs (C*e.size) (xX z (l-C))=r at hx;have hmul:l*e.size=C*e.size+(l-C)*e.size:=by rw[←fm];congr 1;omega
 have hxl:(xX z (l-C)).length=(l-C)*e.size:=by rw[qCf,Z]
 have hrl:take? r (l*e.size)=some (vs.take (C*e.size)++xX z (l-C)):=by
  have hlr:l*e.size<=r.length:=by rw[←hr];simp only[qEj,bx,cg,dh];omega
  rw[kH hlr,←hr,qB4 (by rw[hxl];omega) hln,←t1];unfold qEj;rw[iz (by rw[hxl,t1,cg];omega),cr]
 have hdrs:DRs g ((es.take C++List.replicate (es.length-C) (zD e.agg z)).flatMap D.cells) (vs.take (C*e.size)++xX z (l-C)):=by rw[im,←nW F.s,hlen];exact(F.r.take _).append (qFC (by rw[q1];exact q2) _)
 have hone:(vs.take (C*e.size)++xX z (l-C)).all qU=true:=by rw[fh,qCg hone0,er];have h0:=F.o;rw[al]at h0 ⊢;intro v hv;exact h0 v (dm hv)
 have hn2:(es.take C++List.replicate (es.length-C) (zD e.agg z)).length=l:=by rw[bx,cg,gi,hlen];omega
 have hs2:∀e'∈es.take C++List.replicate (es.length-C) (zD e.agg z),e'.cells.length=e.size:=by
  intro e' V;rcases bh.1 V with V|V
  ·exact F.s e' (dm V)
  rw[gp V,q1,bk,Z]
 have X:H.blocks.get B=some ⟨.cells cs vC,rt,true⟩:=F.b
 have k2:=k1.oe (H':=H.write B ⟨.cells cs vC,rt,true⟩ (.cells r vC)) (λb=>b=B) (λb _ X=>by rw[AH.ey,bf X]) (λb X=>by subst X;exact h.cn k b O u)
  (λb c X hl e=>by subst X;exact q.hU c k hl O (by rw[e];exact u))
  (λb jj X hf R=>by subst X;obtain⟨a1,a2⟩:=jZ hf;exact a2 (q.h7 jj k b a1 O R u))
  (λb X=>by subst X;exact F.rt.2) (q.wf.write X _) (vP _) (by show _<=Nat.min H.low rt;exact dv.2 ⟨q.low,lT (bq _ _) F.rt.1⟩)
 have k3:=k2.ko (d:=d) (v:=ve k) (by
   rw[←hd]
   exact .inr (.inl ⟨B,l,r,_,vC,rt,e.size,_,F.v,rfl,by rw[AH.ey,bo rfl],F.rt,hrl,hdrs,hn2,hs2,F.x,hone⟩)) hdn
  (λB' A=>by rw[u]at A;cases A;exact h.cn k B O u) (λB' c A hc e=>by rw[u]at A;cases A;exact q.hU c k hc O (by rw[e];exact u))
  (λB' jj A hf R=>by rw[u]at A;cases A;obtain⟨a1,a2⟩:=jZ hf;exact a2 (q.h7 jj k B a1 O R u))
 rw[mO]at k3;have k4:=nU (i:=k) (show(S.pz ⟨k,j,vC,e.size,e.agg,z,[d0,d1,d2]⟩).ca k=true from O) k3;refine⟨_,_,_,_,_,_,_,k4,hw,vK.region he ?_⟩;rw[heq];refine pre (kG.cons (H1:=H.write B ⟨.cells cs vC,rt,true⟩ (.cells r vC)) (by simp only[vU,w3]) (.kl ?_ hx) (hput _) .nil);exact vP _
end
variable{args:LA}{f:LO}
theorem xK.raise{E:Env}{H':AH}(h:xK E f args H v H'):xK E f args H v {H' with next:=H'.next+1}:=by
 intro σ w y p hv q cs;obtain⟨e,w',fr,⟨j,v',B,A,s⟩,z⟩:=h σ w y p hv (λb u r=>q b u (dp r)) cs;have st:Step E σ H w j {H' with next:=H'.next+1} w':=by
  refine⟨⟨s.hr.kq,s.hr.sep,s.hr.la,λb k l=>?_⟩,jb s.next,λb l=>?_,s.size,s.low,s.tape,s.os,s.output,s.frame,s.origin,s.kp,s.hN,s.born⟩
  ·exact⟨(s.hr.wf b k l).1,dp (s.hr.wf b k l).2⟩
  refine s.ext b ?_;grind
 grind
abbrev pE:=AExit->Fr->AH->Prop
def Fin(E:Env)(c:Code)(K:pE)(fr:Fr)(H:AH):Prop:=∃e h H1,vK E c fr H e h H1/\K e h H1
def qOa(E:Env)(b:Code)(K:pE):pE:=λe fr H=>match e with
 |.normal=>Fin E b K fr H
 |e=>K e fr H
def bW(id:Nat)(K:pE):pE:=λe fr H=>match e with
 |.exit h=>if h=id then K .normal fr H else K (.exit h) fr H
 |e=>K e fr H
def qKe(E:Env)(b:Code)(K:pE):pE:=λe fr H=>match e with
 |.normal=>Fin E (.loop b) K fr H
 |e=>K e fr H
variable{b:Code}
section
variable{E:Env}{fr:Fr}{H:AH}{K:pE}
theorem qKX{a:Code}(h:Fin E a (qOa E b K) fr H):Fin E (.seq a b) K fr H:=by
 obtain⟨e,y,H1,l,j⟩:=h;cases e with
 |normal=>obtain⟨r,p,H2,h3,q⟩:=j;exact⟨r,p,H2,l.seq h3,q⟩
 |exit id=>exact⟨_,y,H1,l.qj (by simp),j⟩
 |ret=>exact⟨_,y,H1,l.qj (by simp),j⟩
theorem qET{id:Nat}(h:Fin E b (bW id K) fr H):Fin E (.block id b) K fr H:=by
 obtain⟨e,y,H1,l,j⟩:=h;cases e with
 |normal=>exact⟨_,y,H1,l.block (by simp),j⟩
 |exit p=>
  simp only[bW]at j;split at j
  ·rename_i e;subst e;exact⟨_,y,H1,l.qc,j⟩
  rename_i e;exact⟨_,y,H1,l.block (by simpa using e),j⟩
 |ret=>exact⟨_,y,H1,l.block (by simp),j⟩
theorem qHH(h:Fin E b (qKe E b K) fr H):Fin E (.loop b) K fr H:=by
 obtain⟨e,y,H1,l,j⟩:=h;cases e with
 |normal=>obtain⟨r,p,H2,h3,q⟩:=j;exact⟨r,p,H2,l.loop h3,q⟩
 |exit id=>exact⟨_,y,H1,l.pw (by simp),j⟩
 |ret=>exact⟨_,y,H1,l.pw (by simp),j⟩
theorem qES(h:Fin E b K fr H):Fin E (.scope b) K fr H:=by obtain⟨e,y,H1,l,j⟩:=h;exact⟨e,y,H1,l.scope,j⟩
end
inductive Ctx (E:Env) (J:Nat->St->Tree) (c0:Code) (κ0:KC) (K0:pE):Nat->Code->KC->pE->Prop
 |root:Ctx E J c0 κ0 K0 1 c0 κ0 K0
 |pf {n:Nat} {a b:Code} {κ:KC} {K:pE} (h:Ctx E J c0 κ0 K0 n (.seq a b) κ K):Ctx E J c0 κ0 K0 n a (qLG (λS=>sx E J (n+nl a) b S κ) κ) (qOa E b K)
 |ou {n:Nat} {a b:Code} {κ:KC} {K:pE} (h:Ctx E J c0 κ0 K0 n (.seq a b) κ K):Ctx E J c0 κ0 K0 (n+nl a) b κ K
 |nq {n:Nat} {c:LM} {a b:Code} {κ:KC} {K:pE} (h:Ctx E J c0 κ0 K0 n (.cond c a b) κ K):Ctx E J c0 κ0 K0 n a κ K
 |np {n:Nat} {c:LM} {a b:Code} {κ:KC} {K:pE} (h:Ctx E J c0 κ0 K0 n (.cond c a b) κ K):Ctx E J c0 κ0 K0 (n+nl a) b κ K
 |block {n id:Nat} {b:Code} {κ:KC} {K:pE} (h:Ctx E J c0 κ0 K0 n (.block id b) κ K):Ctx E J c0 κ0 K0 n b (dE id κ) (bW id K)
 |loop {n:Nat} {b:Code} {κ:KC} {K:pE} (h:Ctx E J c0 κ0 K0 n (.loop b) κ K):Ctx E J c0 κ0 K0 (n+1) b (iV J n κ) (qKe E b K)
 |scope {n:Nat} {b:Code} {κ:KC} {K:pE} (h:Ctx E J c0 κ0 K0 n (.scope b) κ K):Ctx E J c0 κ0 K0 n b κ K
variable{c:Code}
section
variable{E:Env}{n0:Lim}{H0:AH}{g0:zR}{Q:Res1->Prop}{J:Nat->St->Tree}{c0:Code}{κ0:KC}{K0:pE}
def qIr(E:Env)(n0:Lim)(H0:AH)(g0:zR)(Q:Res1->Prop)(κ:KC)(K:pE):Prop:=
 ∀e S ρ ve lb g fr H,SR E n0 H0 g0 S ρ ve lb g fr H->wp E (qA E) Q (κ e S) ρ->K e fr H
def qQC(E:Env)(n0:Lim)(H0:AH)(g0:zR)(Q:Res1->Prop)(J:Nat->St->Tree)(c0:Code)(κ0:KC)(K0:pE):Prop:=
 ∀k b κ K,Ctx E J c0 κ0 K0 k (.loop b) κ K->∀S ρ ve lb g fr H,SR E n0 H0 g0 S ρ ve lb g fr H->wp E (qA E) Q (J k S) ρ->Fin E (.loop b) K fr H
theorem d9(he:EOk E)(V:qQC E n0 H0 g0 Q J c0 κ0 K0):∀(c:Code) (n:Nat) (κ:KC) (K:pE),Ctx E J c0 κ0 K0 n c κ K->qIr E n0 H0 g0 Q κ K->
  ∀S ρ ve lb g fr H,SR E n0 H0 g0 S ρ ve lb g fr H->wp E (qA E) Q (sx E J n c S κ) ρ->Fin E c K fr H
 |.seq a b,n,κ,K,q,j,S,ρ,ve,lb,g,fr,H,h,y=>by
  refine qKX (d9 he V a n _ _ q.pf ?_ S ρ ve lb g fr H h y)
  intro e P w z A O r H1 M u
  cases e with
  |normal=>exact d9 he V b _ κ K q.ou j P w z A O r H1 M u
  |exit id=>exact j _ P w z A O r H1 M u
  |ret=>exact j _ P w z A O r H1 M u
 | .cond c a b,n,κ,K,q,j,S,ρ,ve,lb,g,fr,H,h,y=>by
  simp only[sx]at y
  have T:∀S',SR E n0 H0 g0 S' ρ ve lb g fr H->ev E fr c=some (.bool true)->wp E (qA E) Q (sx E J n a S' κ) ρ->Fin E (.cond c a b) K fr H:=by
   intro S' W hv y
   obtain⟨e,r,H1,I,G⟩:=d9 he V a n κ K q.nq j S' ρ ve lb g fr H W y
   exact⟨e,r,H1,I.rk he hv,G⟩
  have F:∀S',SR E n0 H0 g0 S' ρ ve lb g fr H->ev E fr c=some (.bool false)->wp E (qA E) Q (sx E J (n+nl a) b S' κ) ρ->Fin E (.cond c a b) K fr H:=by
   intro S' W hv y
   obtain⟨e,r,H1,I,G⟩:=d9 he V b (n+nl a) κ K q.np j S' ρ ve lb g fr H W y
   exact⟨e,r,H1,I.rl he hv,G⟩
  split at y
  ·rename_i hv;exact T S h (zZ (E:=E) h hv).2 y
  ·rename_i hv;exact F S h (zZ (E:=E) h hv).2 y
  ·rename_i i hv
   obtain⟨L,y⟩:=jQ y
   obtain⟨t,hd,y⟩:=qBF y
   have U:=(zZ (E:=E) h hv).2
   simp only[SV.val,uQ h.toSM L hd]at U
   cases t with
   |true=>exact T _ (mN h L hd) U y
   |false=>exact F _ (mN h L hd) U y
  cases y
 | .block id b,n,κ,K,q,j,S,ρ,ve,lb,g,fr,H,h,y=>by
  refine qET (d9 he V b n _ _ q.block ?_ S ρ ve lb g fr H h y)
  intro e P w z A O r H1 M u
  cases e with
  |normal=>exact j _ P w z A O r H1 M u
  |ret=>exact j _ P w z A O r H1 M u
  | exit X=>
   simp only[dE,zI]at u
   simp only[bW]
   split
   ·rename_i e;rw[bo e]at u
    exact j _ P w z A O r H1 M u
   rename_i e;rw[bf e]at u
   exact j _ P w z A O r H1 M u
 |.loop b,n,κ,K,q,j,S,ρ,ve,lb,g,fr,H,h,y=>V n b κ K q S ρ ve lb g fr H h y
 |.scope b,n,κ,K,q,j,S,ρ,ve,lb,g,fr,H,h,y=>qES (d9 he V b n κ K q.scope j S ρ ve lb g fr H h y)
 | .region id ops draw,n,κ,K,q,j,S,ρ,ve,lb,g,fr,H,h,y=>by
  simp only[sx]at y
  split at y
  ·rename_i p L
   obtain⟨q,L⟩:=qZ L
   simp only[aE]at q
   obtain⟨S',ρ',B,C,g',fr',H',I,G,R⟩:=qX2 he (id:=id) (κ:=κ .normal) h L y
   rw[q.1]
   exact⟨_,fr',H',R,j _ S' ρ' B C g' fr' H' I G⟩
  split at y
  ·rename_i p L
   obtain⟨q,L⟩:=qZ L
   simp only[aE,fy]at q
   obtain⟨S',ρ',B,C,g',fr',H',I,G,R⟩:=qYa he (id:=id) (κ:=κ .normal) h L y
   rw[q.1]
   exact⟨_,fr',H',R,j _ S' ρ' B C g' fr' H' I G⟩
  rw[cond_eq_ite]at y
  split at y
  ·rename_i q
   simp only[aE]at q
   obtain⟨S',ρ',B,C,g',fr',H',I,G,R⟩:=qO2 he (id:=id) h y
   rw[q.1]
   exact⟨_,fr',H',R,j _ S' ρ' B C g' fr' H' I G⟩
  obtain⟨S',ρ',B,C,g',fr',H',I,G,R⟩:=qOy ops.toList 0 h y
  exact⟨_,fr',H',.region he R,j _ S' ρ' B C g' fr' H' I G⟩
 |.skip,n,κ,K,q,j,S,ρ,ve,lb,g,fr,H,h,y=>⟨_,fr,H,.skip,j _ S ρ ve lb g fr H h y⟩
 |.label l,n,κ,K,q,j,S,ρ,ve,lb,g,fr,H,h,y=>⟨_,fr,H,.label,j _ S ρ ve lb g fr H h y⟩
 |.ret,n,κ,K,q,j,S,ρ,ve,lb,g,fr,H,h,y=>⟨_,fr,H,.ret,j _ S ρ ve lb g fr H h y⟩
 |.exit id,n,κ,K,q,j,S,ρ,ve,lb,g,fr,H,h,y=>⟨_,fr,H,.exit,j _ S ρ ve lb g fr H h y⟩
 |.rangeFunc _ _ _ _,n,κ,K,q,j,S,ρ,ve,lb,g,fr,H,h,y=>by cases y
 |.goto _,n,κ,K,q,j,S,ρ,ve,lb,g,fr,H,h,y=>by cases y
 |.refuse _,n,κ,K,q,j,S,ρ,ve,lb,g,fr,H,h,y=>by cases y
theorem qRI(he:EOk E)(z:qQC E n0 H0 g0 Q J c0 κ0 K0)(B:qIr E n0 H0 g0 Q κ0 K0){n:Nat}{κ:KC}{K:pE}(w:Ctx E J c0 κ0 K0 n c κ K):qIr E n0 H0 g0 Q κ K:=by
 induction w with
 |root=>exact B
 |@pf n a b κ K w ih=>
  intro e u y j l r p H1 q h;cases e with
  |normal=>exact d9 he z b _ κ K w.ou ih u y j l r p H1 q h
  |exit id=>exact ih _ u y j l r p H1 q h
  |ret=>exact ih _ u y j l r p H1 q h
 |ou w ih=>exact ih
 |nq w ih=>exact ih
 |np w ih=>exact ih
 | @block n id b κ K w ih=>
  intro e u y j l r p H1 q h;cases e with
  |normal=>exact ih _ u y j l r p H1 q h
  |ret=>exact ih _ u y j l r p H1 q h
  |exit A=>
   simp only[dE,zI]at h;simp only[bW];split
   ·rename_i e;rw[bo e]at h;exact ih _ u y j l r p H1 q h
   rename_i e;rw[bf e]at h;exact ih _ u y j l r p H1 q h
 |@loop n b κ K w ih=>
  intro e u y j l r p H1 q h;cases e with
  |normal=>exact z n b κ K w u y j l r p H1 q h
  |exit id=>exact ih _ u y j l r p H1 q h
  |ret=>exact ih _ u y j l r p H1 q h
 |scope w ih=>exact ih
theorem qPo{P:Nat->St}{n:Nat}{κ:KC}{K:pE}(y:Ctx E J c0 κ0 K0 n c κ K):∀x∈xH E P J n c κ,x∈xH E P J 1 c0 κ0:=by
 induction y with
 |root=>exact λx h=>h
 |pf y ih=>exact λx h=>ih x (by simp only[xH];exact dz _ h)
 |ou y ih=>exact λx h=>ih x (by simp only[xH];exact ee _ h)
 |nq y ih=>exact λx h=>ih x (by simp only[xH];exact dz _ h)
 |np y ih=>exact λx h=>ih x (by simp only[xH];exact ee _ h)
 |block y ih=>exact λx h=>ih x (by simp only[xH];exact h)
 |loop y ih=>exact λx h=>ih x (by simp only[xH];exact mC _ h)
 |scope y ih=>exact λx h=>ih x (by simp only[xH];exact h)
theorem qCD(he:EOk E){hV:Nat->Pat}{sz:Nat}{Ts:LV}{d:D}(A:J=λk S=>wN sz (hV k) k S)(B:∀x∈xH E (λk=>(hV k).st sz) J 1 c0 κ0,Ts x.1=x.2)(C:∀Q:Res1->Prop,(∀d',Q (.ret d')->d'=d)->qIr E n0 H0 g0 Q κ0 K0)(z:∀k,n0.F.length<=(hV k).ae.length):
  ∀n,qQC E n0 H0 g0 (λr=>match r with|.ret d'=>d'=d|.jump k' ds=>qPs E (qA E) Ts n k' ds d) J c0 κ0 K0
 |0=>by
  intro k b κ K q S ρ ve lb g fr H h p
  rw[A]at p
  obtain⟨ds,y,g',_,u⟩:=qBE h p (z _)
  cases u
 | n+1=>by
  have ih:=qCD he A B C z n
  intro k b κ K q S ρ ve lb g fr H h p
  have j:=p
  rw[A]at j
  obtain⟨ds,y,g',F,u⟩:=qBE h j (z _)
  have w:Ts k=sx E J (k+1) b ((hV k).st sz) (iV J k κ):=by
   have:=qPo (P:=λk=>(hV k).st sz) q (k,sx E J (k+1) b ((hV k).st sz) (iV J k κ)) (by simp only[xH];exact aq)
   exact B _ this
  have l:wp E (qA E) (λr=>match r with|.ret d'=>d'=d|.jump k' ds=>qPs E (qA E) Ts n k' ds d) (Ts k) ds:=u
  rw[w]at l
  refine qHH (d9 he ih b (k+1) _ _ q.loop (qRI he ih (C _ λd' hd=>hd) q.loop) _ ds y lb g' fr H F l)
end
variable{Ts:LV}{fn:Func}{g:zR}{hV:Nat->Pat}{rs:List ResultVar}{ve:LH}{ρ:LR}
section
variable{E:Env}{n0:Lim}{H0:AH}{g0:zR}{Q:Res1->Prop}{HS:LO->LR->La}
theorem qFx:∀(rs:List ResultVar) (acc:LS) {S:St} {ρ:LR} {ve:LH} {lb:LI} {g:zR} {fr:Fr} {H:AH},SR E n0 H0 g0 S ρ ve lb g fr H->SV.kx S.n S.ae.length acc->wp E HS Q (qFy E S acc rs) ρ->
  ∃S' ρ' l g' vs ds,SR E n0 H0 g0 S' ρ' l lb g' fr H/\vV E fr H rs=some vs/\DRs g' ds (SV.a8 ve lb acc++vs)/\Q (.ret (kC ds))
 | [],acc,S,ρ,ve,lb,g,fr,H,h,r,j=>by
  simp only[qFy]at j
  obtain⟨P,O,B⟩:=xT acc h
  obtain⟨A,j⟩:=jQ j
  rw[al]at A
  exact⟨_,ρ,ve,P,[],_,B,rfl,by rw[cr];exact lL B.toSM A,j⟩
 | .tmp t::rs,acc,S,ρ,ve,lb,g,fr,H,h,r,j=>by
  simp only[qFy]at j
  split at j
  ·rename_i x U
   obtain⟨L,I⟩:=h.af t x U
   obtain⟨S',ρ',l,g',vs,ds,G,F,q,C⟩:=qFx rs (acc++[x]) h (by
    rw[SV.hE]at r ⊢
    intro u hu
    rcases bh.1 hu with hu|hu
    ·exact r u hu
    simp only[aw]at hu;subst hu;exact L) j
   refine⟨S',ρ',l,g',x.val ve lb::vs,ds,G,by simp only[vV,I,F,aj],?_,C⟩
   rw[kL]at q
   simpa[SV.a8]using q
  cases j
 | .cell a t::rs,acc,S,ρ,ve,lb,g,fr,H,h,r,j=>by
  simp only[qFy]at j
  split at j
  ·rename_i p A
   obtain⟨L,I⟩:=h.af a p A
   obtain⟨y,V,R,w,P,O,B,M,s1,s2⟩:=qBB h L j
   obtain⟨S',ρ',l,g',vs,ds,G,F,q,C⟩:=qFx rs (acc++[y]) B (by
    have z:=O.kx r
    rw[SV.hE]at z ⊢
    intro u hu
    rcases bh.1 hu with hu|hu
    ·exact z u hu
    simp only[aw]at hu;subst hu;exact s1) M
   refine⟨S',ρ',l,g',y.val w lb::vs,ds,G,by simp only[vV,I,bn,s2,F,aj],?_,C⟩
   rw[kL]at q
   have:SV.a8 w lb acc=SV.a8 ve lb acc:=SV.di O.ve (λ_ _=>rfl) r
   rw[this]at q
   simpa[SV.a8]using q
  cases j
def qQF(E:Env)(H0:AH)(g0:zR)(rs:List ResultVar)(d:D):pE:=λe fr H=>(e=.normal∨e=.ret)/\
 ∃v g',(match vV E fr H rs with|some [v]=>some v|some vs=>some (.tuple ⟨vs⟩)|none=>none)=some v/\DR g' d v/\zR.le g' H.blocks.get/\WF H/\H0.next<=H.next/\(∀b,b<H0.next->H.blocks.get b=H0.blocks.get b)/\Nat.min H0.low H0.next<=H.low/\(∀b,b<H0.next->g' b=g0 b)
theorem qK5{d:D}(F:∀d',Q (.ret d')->d'=d):qIr E (Lim.of H0.next) H0 g0 Q (qAF E rs) (qQF E H0 g0 rs d):=by
 intro e S ρ ve lb g fr H h p
 have main:wp E (qA E) Q (qFy E S [] rs) ρ->∃v g',(match vV E fr H rs with|some [v]=>some v|some vs=>some (.tuple ⟨vs⟩)|none=>none)=some v/\DR g' d v/\zR.le g' H.blocks.get/\WF H/\H0.next<=H.next/\(∀b,b<H0.next->H.blocks.get b=H0.blocks.get b)/\
  Nat.min H0.low H0.next<=H.low/\(∀b,b<H0.next->g' b=g0 b):=by
  intro p
  obtain⟨S',ρ',w,g',vs,ds,l,A,u,z⟩:=qFx rs [] h trivial p
  have:=F _ z
  subst this
  simp only[SV.a8,df]at u
  have j:∀v,(match some vs with|some [v]=>some v|some vs=>some (Value.tuple ⟨vs⟩)|none=>none)=some v->DR g' (kC ds) v->∃v g',(match vV E fr H rs with|some [v]=>some v|some vs=>some (Value.tuple ⟨vs⟩)|none=>none)=some v/\DR g' (kC ds) v/\zR.le g' H.blocks.get/\WF H/\H0.next<=H.next/\(∀b,b<H0.next->H.blocks.get b=H0.blocks.get b)/\Nat.min H0.low H0.next<=H.low/\(∀b,b<H0.next->g' b=g0 b):=λv e hd=>⟨v,g',by rw[A];exact e,hd,l.mem,l.wf,l.base.1,l.hN,l.low,l.gk⟩
  match ds,vs,u with
  | [],_,.nil=>exact j _ rfl (.gd .nil)
  | [x],_,.cons q .nil=>exact j _ rfl q
  |x::y::r,_,.cons q (.cons B C)=>exact j _ rfl (.gd (.cons q (.cons B C)))
 cases e with
 |normal=>exact⟨.inl rfl,main p⟩
 |ret=>exact⟨.inr rfl,main p⟩
 |exit id=>cases p
theorem qGQ{ds:LR}(C:WF H)(I:zR.le g H.blocks.get)(r:qJV E g)(hd:DRs g ds args){n sz:Nat}(G:args.length=n):SR E (Lim.of H.next) H g (oM n sz) ds (λi=>args.getD i (.bool false)) (λ_=>0) g ⟨sz,false,T.ofList .leaf 0 args⟩ H:=by
 have L:ds.length=n:=by rw[←hd.length,G]
 have l:∀i,(oM n sz).ca i=false:=by
  intro i;cases P:(oM n sz).ca i with
  |false=>rfl
  |true=>obtain⟨o,h⟩:=zT.1 P;simp only[oM,List.getElem?_replicate]at h;split at h<;>cases h
 have y:∀b,¬(oM n sz).live b:=by rintro b ⟨x,h⟩;simp[oM]at h
 refine { len:=by simp[oM,L],wf:=C,mem:=I,base:=Lim.ra _,fix:=⟨cq _,λk a M=>by simp[Lim.of]at M⟩,vars:=?_,ae:=?_,ei:=λb w=>absurd w (y b),cn:=?_,km:=λa b R=>absurd R (y a),h7:=?_,hU:=λb i w=>absurd w (y b),
          sz:=rfl,rd:=rfl,af:=?_,kh:=.nil,hN:=λ_ _=>rfl,low:=dw _ _,gk:=λ_ _=>rfl,tab:=r}
 ·intro i s z;simp only[oM,List.getElem?_replicate]at z;split at z
  ·rename_i p;cases z;refine⟨λe=>(by cases e),?_⟩;have u:i<ds.length:=by omega
   obtain⟨v,F,A⟩:=hd.get i ds[i] (ak u);simp only[getD,cm,ak u,gg,F];exact A
  ·cases z
 ·intro b x w;exact absurd ⟨x,w⟩ (y b)
 ·intro i B p;rw[l i]at p;cases p
 ·intro i j B p;rw[l i]at p;cases p
 ·intro t x q;simp only[oM,gY,bk,gm]at q;rw[gY];split at q
  ·rename_i U;simp only[cw,aa]at q;obtain⟨j,O,rfl⟩:=q;obtain⟨F,A⟩:=gI O;simp at F A;subst A;refine⟨?_,?_⟩
   ·show t<(oM n sz).n;simp[oM,St.n];omega
   ·rw[bo (by omega)];simp only[Nat.sub_zero,SV.val,cm];rw[ak (by omega)];rfl
  ·simp[T.get]at q
theorem pL:∀(T:Tree) (ρ:LR),wp E HS Q T ρ->∃r,Q r/\∀j:Res1->Prop,j r->wp E HS j T ρ
 |.fail,_,h=>by cases h
 |.stop _ _,_,h=>by cases h
 |.ret xs,ρ,h=>⟨_,h,λ_ y=>y⟩
 |.jump k xs,ρ,h=>⟨_,h,λ_ y=>y⟩
 |.bind o xs r,ρ,h=>by
  simp only[wp]at h;split at h
  ·rename_i d hd;obtain⟨l,q,p⟩:=pL r _ h;exact⟨l,q,λj y=>by simp only[wp,hd];exact p j y⟩
  cases h
 |.call w xs z r,ρ,h=>by
  simp only[wp]at h;split at h
  ·rename_i f ds hd;obtain⟨d,q,p,h3⟩:=h;obtain⟨l,u,h5⟩:=pL r _ h3;exact⟨l,u,λj y=>by simp only[wp,hd];exact⟨d,q,p,h5 j y⟩⟩
  cases h
 |.l4 f m xs r,ρ,h=>by simp only[wp]at h;obtain⟨ds,q,p,h3⟩:=h;obtain⟨l,u,h5⟩:=pL r _ h3;exact⟨l,u,λj y=>by simp only[wp];exact⟨ds,q,p,h5 j y⟩⟩
 |.ite c a b,ρ,h=>by
  simp only[wp]at h;split at h
  ·rename_i hd;obtain⟨l,q,p⟩:=pL a _ h;exact⟨l,q,λj y=>by simp only[wp,hd];exact p j y⟩
  ·rename_i hd;obtain⟨l,q,p⟩:=pL b _ h;exact⟨l,q,λj y=>by simp only[wp,hd];exact p j y⟩
  cases h
theorem qP.step{d:D}(h:wp E HS (λr=>match r with|.ret d'=>d'=d|.jump k' ds=>qP E HS Ts k' ds d) (Ts k) ρ):qP E HS Ts k ρ d:=by
 obtain⟨r,j,y⟩:=pL _ _ h;cases r with
 |ret d'=>exact⟨1,y _ j⟩
 |jump k' ds=>obtain⟨n,l⟩:=j;exact⟨n+1,y _ l⟩
theorem qMi(he:EOk E)(V:E.funcs.get f=some fn)(h:fn.body=some c){ds:LR}{d:D}{n:Nat}(X:ds.length=n)(h0:qGU E (λk S=>wN (Nat.max fn.ntmps n) (hV k) k S) fn n=Ts 0)(hT:∀x∈xH E (λk=>(hV k).st (Nat.max fn.ntmps n)) (λk S=>wN (Nat.max fn.ntmps n) (hV k) k S) 1 c (qAF E fn.results.toList),Ts x.1=x.2)(j:qP E (qA E) Ts 0 ds d):qJX E f ds d:=by
 refine⟨⟨fn,V⟩,λH g args z U A hd=>?_⟩;have p:args.length=n:=by rw[hd.length,X]
 have W:=qGQ (sz:=Nat.max fn.ntmps n) z U A hd p;obtain⟨m,j⟩:=j;cases m with
 |zero=>cases j
 | succ m=>
  have y:wp E (qA E) (λr=>match r with|.ret d'=>d'=d|.jump k' ds=>qPs E (qA E) Ts m k' ds d) (Ts 0) ds:=j;rw[←h0]at y;simp only[qGU,h]at y;have F:∀Q:Res1->Prop,(∀d',Q (.ret d')->d'=d)->qIr E (Lim.of H.next) H g Q (qAF E fn.results.toList) (qQF E H g fn.results.toList d):=λQ hQ=>qK5 hQ;have hj:=qCD (n0:=Lim.of H.next) (H0:=H) (g0:=g) (c0:=c) (κ0:=qAF E fn.results.toList) (K0:=qQF E H g fn.results.toList d) he rfl hT F (λ_=>cq _) m;obtain⟨e,fr1,H1,R,M,v,g',hv,O,B,l,I,Z,C,G⟩:=d9 he hj c 1 _ _ .root (F _ λd' P=>P) _ _ _ _ _ _ _ W y;rw[←p]at R;have u:=vK.call he V h R M hv;let w:zR:=λb=>if b<H.next then g b else g' b;have L:zR.le g' w:=by
   intro b k h;simp only[w];split
   ·rename_i q;rw[←G b q];exact h
   exact h
  refine⟨v,{H1 with next:=H1.next+1},w,u.raise,ja I,λb k h=>⟨(l b k h).1,dp (l b k h).2⟩,Z,C,?_,?_,?_,O.mono L⟩
  ·intro b k h;simp only[w];rw[bo (z b k (U b k h)).2];exact h
  ·intro b k h;simp only[w]at h;split at h
   ·rename_i q;rw[←G b q]at h;exact B b k h
   exact B b k h
  intro b h;simp only[w];rw[bo h]
theorem qCG(he:EOk E)(l:E.funcs.get f=some fn)(p:fn.body=some c){ds:LR}{d:D}{n:Nat}(j:ds.length=n)(r:qGU E (λk S=>wN (Nat.max fn.ntmps n) (hV k) k S) fn n=Ts 0)(q:∀x∈xH E (λk=>(hV k).st (Nat.max fn.ntmps n)) (λk S=>wN (Nat.max fn.ntmps n) (hV k) k S) 1 c (qAF E fn.results.toList),Ts x.1=x.2)(y:qP E (qA E) Ts 0 ds d)(h:f<dU:=by decide):qA E f ds d:=.inl ⟨h,qMi he l p j r q y⟩
def qYC(E:Env)(L:Lim)(H0:AH)(g0:zR)(m:Mode)(rs:List ResultVar)(d:D):pE:=λe fr H=>(e=.normal∨e=.ret)/\
 ∃vs ve lb g' ds,vV E fr H rs=some vs/\d=kC ds/\ds.length=m.out.db.length/\SM L (m.out.st 0) ds ve lb g' H/\(∀t x,(m.out.st 0).af.get t=some x->x.bd (m.out.st 0).n (m.out.st 0).ae.length/\vs[t]? = some (x.val ve lb))/\(∀b,L.K b->H.blocks.get b=H0.blocks.get b)/\(∀b,L.K b->g' b=g0 b)/\Nat.min H0.low L.n<=H.low
theorem qFz{m:Mode}:∀(rs:List ResultVar) (acc:LS) {S:St} {ρ:LR} {ve:LH} {lb:LI} {g:zR} {fr:Fr} {H:AH},SR E n0 H0 g0 S ρ ve lb g fr H->SV.kx S.n S.ae.length acc->n0.F.length<=m.out.ae.length->wp E HS Q (qFA E m S acc rs) ρ->
  ∃j q g' vs ds,vV E fr H rs=some vs/\SR E n0 H0 g0 (m.out.st (SV.a8 ve lb acc++vs).length) ds j q g' ⟨(SV.a8 ve lb acc++vs).length,n0.rd,T.ofList .leaf 0 (SV.a8 ve lb acc++vs)⟩ H/\Q (.ret (kC ds))/\ds.length=m.out.db.length
 | [],acc,S,ρ,ve,lb,g,fr,H,h,r,C,l=>by
  simp only[qFA]at l
  have X:(SV.a8 ve lb acc).length=acc.length:=by rw[SV.cb,bk]
  have P:SR E n0 H0 g0 {S with af:=T.ofList .leaf 0 acc,sz:=acc.length} ρ ve lb g ⟨acc.length,n0.rd,T.ofList .leaf 0 (SV.a8 ve lb acc)⟩ H:=by
   refine {h with sz:=rfl,rd:=rfl,af:=?_}
   intro t x w
   have w:(T.ofList .leaf 0 acc).get t=some x:=w
   rw[eK]at w
   rw[SV.hE]at r
   refine⟨r x (be w),?_⟩
   show(T.ofList .leaf 0 (SV.a8 ve lb acc)).get t=_
   rw[lN,SV.cb,cw,w];rfl
  obtain⟨az,j,g',R,l⟩:=qHs P l C
  refine⟨j,lb,g',[],_,rfl,?_,l,R.len⟩
  rw[cr,X]
  exact R
 | .tmp t::rs,acc,S,ρ,ve,lb,g,fr,H,h,r,C,l=>by
  simp only[qFA]at l
  split at l
  ·rename_i x w
   obtain⟨M,L⟩:=h.af t x w
   obtain⟨j,q,g',vs,ds,I,z,G,F⟩:=qFz rs (acc++[x]) h (by
    rw[SV.hE]at r ⊢
    intro u hu
    rcases bh.1 hu with hu|hu
    ·exact r u hu
    simp only[aw]at hu;subst hu;exact M) C l
   refine⟨j,q,g',x.val ve lb::vs,ds,by simp only[vV,L,I,aj],?_,G,F⟩
   rw[kL]at z
   simpa[SV.a8]using z
  cases l
 | .cell a t::rs,acc,S,ρ,ve,lb,g,fr,H,h,r,C,l=>by
  simp only[qFA]at l
  split at l
  ·rename_i p W
   obtain⟨M,L⟩:=h.af a p W
   obtain⟨y,S1,V,A,Z,U,P,O,s1,s2⟩:=qBB h M l
   obtain⟨j,q,g',vs,ds,I,z,G,F⟩:=qFz rs (acc++[y]) P (by
    have B:=U.kx r
    rw[SV.hE]at B ⊢
    intro u hu
    rcases bh.1 hu with hu|hu
    ·exact B u hu
    simp only[aw]at hu;subst hu;exact s1) C O
   refine⟨j,q,g',y.val A lb::vs,ds,by simp only[vV,L,bn,s2,I,aj],?_,G,F⟩
   rw[kL]at z
   have:SV.a8 A lb acc=SV.a8 ve lb acc:=SV.di U.ve (λ_ _=>rfl) r
   rw[this]at z
   simpa[SV.a8]using z
  cases l
theorem qSB{m:Mode}{d:D}(B:∀d',Q (.ret d')->d'=d)(C:n0.F.length<=m.out.ae.length):qIr E n0 H0 g0 Q (qHT E m rs) (qYC E n0 H0 g0 m rs d):=by
 intro e S ρ ve lb g fr H h j
 have main:wp E (qA E) Q (qFA E m S [] rs) ρ->∃vs ve lb g' ds,vV E fr H rs=some vs/\d=kC ds/\ds.length=m.out.db.length/\SM n0 (m.out.st 0) ds ve lb g' H/\(∀t x,(m.out.st 0).af.get t=some x->x.bd (m.out.st 0).n (m.out.st 0).ae.length/\vs[t]? = some (x.val ve lb))/\
  (∀b,n0.K b->H.blocks.get b=H0.blocks.get b)/\(∀b,n0.K b->g' b=g0 b)/\Nat.min H0.low n0.n<=H.low:=by
  intro j
  obtain⟨l,p,g',vs,ds,w,y,u,r⟩:=qFz rs [] h trivial C j
  refine⟨vs,l,p,g',ds,w,(B _ u).symm,r,{y.toSM with},?_,y.hN,y.gk,y.low⟩
  intro t x A
  obtain⟨z,q⟩:=y.af t x A
  refine⟨z,?_⟩
  simp only[SV.a8,df]at q
  rw[lN]at q
  exact q
 cases e with
 |normal=>exact⟨.inl rfl,main j⟩
 |ret=>exact⟨.inr rfl,main j⟩
 |exit id=>cases j
def fV:Nat->List (Nat×SV)->Bool
 |_,[]=>true
 |n,(t,_)::r=>Nat.beq t n&&fV (n+1) r
theorem qMm:∀(l:List (Nat×SV)) (n:Nat) (y:T SV),fV n l=true->∀(i:Nat) (x:SV),(l.map Prod.snd)[i]? = some x->(l.foldl (λt (p:Nat×SV)=>t.put p.1 (some p.2)) y).get (n+i)=some x:=by
 have hN:∀(l:List (Nat×SV)) (n:Nat) (y:T SV),fV n l=true->∀j,j<n->(l.foldl (λt (p:Nat×SV)=>t.put p.1 (some p.2)) y).get j=y.get j:=by
  intro l;induction l with
  |nil=>intro n y _ j _;rfl
  |cons p l ih=>intro n y h j r;simp only[fV,aE]at h;have e:=vW h.1;rw[jk,ih (n+1) _ h.2 j (by omega),T.ch,bf (by omega)]
 intro l;induction l with
 |nil=>intro n y _ i x q;simp at q
 |cons p l ih=>
  intro n y h i x q;simp only[fV,aE]at h;have e:=vW h.1;cases i with
  |zero=>simp at q;rw[jk,hN l (n+1) _ h.2 (n+0) (by omega),T.ch,bo (by omega),q]
  |succ i=>have:=ih (n+1) (y.put p.1 (some p.2)) h.2 i x (by simpa using q);rw[jk,show n+(i+1)=n+1+i by omega];exact this
theorem qJ2{ve:LH}{lb:LI}:∀(xs:LS) (vs:LA),vs.length=xs.length->(∀(i:Nat) (x:SV),xs[i]? = some x->vs[i]? = some (x.val ve lb))->vs=SV.a8 ve lb xs
 | [],[],_,_=>rfl
 | [],_::_,h,_=>by simp at h
 |_::_,[],h,_=>by simp at h
 |x::xs,v::vs,h,j=>by
  have l:=j 0 x rfl;simp at l;simp only[SV.a8,l]
  congr 1
  exact qJ2 xs vs (by simpa using h) λi y p=>by simpa using j (i+1) y (by simpa using p)
theorem eE:∀{rs:List ResultVar} {fr:Fr} {H:AH} {vs:LA},vV E fr H rs=some vs->vs.length=rs.length
 | [],_,_,_,h=>by simp only[vV,oI]at h;subst h;rfl
 |.tmp t::rs,fr,H,vs,h=>by
  simp only[vV]at h;split at h
  ·simp only[aa]at h;obtain⟨l,y,rfl⟩:=h;simp[eE y]
  cases h
 |.cell a t::rs,fr,H,vs,h=>by
  simp only[vV]at h;split at h
  ·simp only[aa]at h;obtain⟨l,y,rfl⟩:=h;simp[eE y]
  cases h
theorem SM.raise{L:Lim}{S:St}{lb:LI}(h:SM L S ρ ve lb g H):SM L S ρ ve lb g {H with next:=H.next+1}:=
 {h with wf:=λb k y=>⟨(h.wf b k y).1,dp (h.wf b k y).2⟩,base:=h.base.mono (cx _)}
theorem SM.sr{L:Lim}{S:St}{lb y:LI}(h:SM L S ρ ve lb g H)(e:∀b,b<S.ae.length->y b=lb b):SM {L with F:=[]} S ρ ve y g H:=by
 have el:∀{b},S.live b->y b=lb b:=λj=>e _ (qBD j);refine {len:=h.len,wf:=h.wf,mem:=h.mem,base:=h.base,fix:=⟨cq _,λk a I=>by simp at I⟩,vars:=?_,ae:=?_,ei:=λb j=>by rw[el j];exact h.ei b j,cn:=h.cn,km:=λa b u j=>by rw[el u,el j];exact h.km a b u j,h7:=h.h7,hU:=λb i j=>by rw[el j];exact h.hU b i j}
 ·intro i s G;have:=h.vars i s G;obtain⟨k,O⟩:=s;refine⟨this.1,?_⟩;have w:=this.2;cases k<;>try exact w
  rcases w with q|⟨B,l,cs,vs,el,rt,sz,es,q⟩|⟨B,es,ck,rt,C,M,q⟩
  ·exact .inl q
  ·exact .inr (.inl ⟨B,l,cs,vs,el,rt,sz,es,{q with rt:=q.rt}⟩)
  exact .inr (.inr ⟨B,es,ck,rt,C,M,{q with rt:=q.rt}⟩)
 intro b x r;obtain⟨p,A⟩:=h.ae b x r;have j:y b=lb b:=el ⟨x,r⟩;refine⟨p,?_⟩;have:nL L (getD ρ) ve y H.blocks.get (y b) x:=A.congr (by rw[j]) j λ_ z=>z.congr (λ_ _=>rfl) e (λ_ _=>rfl) p;cases x<;>exact this
def qFW(m:Mode)(h:Nat):Bool:=Nat.beq m.out.ae.length m.ly.ae.length&&fV 0 m.out.af&&Nat.beq m.out.af.length h
theorem fY(he:EOk E)(hf:E.funcs.get f=some fn)(w:fn.body=some c){m:Mode}{ds:LR}{d:D}(hm:qFW m fn.results.toList.length=true)(hP:∀k,m.ly.ae.length<=(hV k).ae.length)(h0:qGV E (λk S=>wN (Nat.max fn.ntmps m.n) (hV k) k S) fn m=Ts 0)(hT:∀x∈xH E (λk=>(hV k).st (Nat.max fn.ntmps m.n)) (λk S=>wN (Nat.max fn.ntmps m.n) (hV k) k S) 1 c (qHT E m fn.results.toList),Ts x.1=x.2)(y:qP E (qA E) Ts 0 ds d)(hd:∃j,d=kC j/\j.length=m.out.db.length):qA E (Nat.add dU f) (.mode m::ds) d:=by
 refine .inr ⟨f,m,ds,rfl,rfl,⟨fn,hf⟩,?_⟩;obtain⟨V,O,M⟩:=hd;refine⟨V,O,M,λL H g ve lb args q F R=>?_⟩;simp only[qFW,aE]at hm;obtain⟨⟨W,m2⟩,X⟩:=hm;have W:=vW W;have X:=vW X;have U:L.F.length=m.ly.ae.length:=by rw[R];simp
 obtain⟨n,y⟩:=y;cases n with
 |zero=>cases y
 | succ n=>
  have h:wp E (qA E) (λr=>match r with|.ret d'=>d'=d|.jump k' ds=>qPs E (qA E) Ts n k' ds d) (Ts 0) ds:=y;rw[←h0]at h;simp only[qGV,w]at h;have hs:SR E L H g (m.ly.st (Nat.max fn.ntmps m.n)) ds ve lb g ⟨Nat.max fn.ntmps m.n,false,T.ofList .leaf 0 args⟩ H:={q with sz:=rfl,rd:=q.rd,af:=q.af};have C:∀Q:Res1->Prop,(∀d',Q (.ret d')->d'=d)->qIr E L H g Q (qHT E m fn.results.toList) (qYC E L H g m fn.results.toList d):=λQ hQ=>qSB hQ (by rw[U,W];exact vP _);have hj:=qCD (n0:=L) (H0:=H) (g0:=g) (c0:=c) (κ0:=qHT E m fn.results.toList) (K0:=qYC E L H g m fn.results.toList d) he rfl hT C (λk=>by rw[U];exact hP k) n;obtain⟨e,fr1,H1,z,he',vs,l,Z,g',j,hv,hdd,I,A,hsl,hk,hgk,B⟩:=d9 he hj c 1 _ _ .root (C _ λd' hd'=>hd') _ _ _ _ _ _ _ hs h;have P:V=j:=qGX (O.symm.trans hdd) (by rw[M,I]);subst P;have G:∀b,b<(m.out.st 0).ae.length->lb b=Z b:=by
   intro b w;have w:b<m.ly.ae.length:=by rw[←W];exact w
   refine(A.fix.2 b (lb b) ?_).symm;rw[R,cw,gb w];rfl
  have p:vs=SV.a8 l lb (m.out.af.map Prod.snd):=by refine qJ2 _ _ (by rw[eE hv,bk,X]) λi x z=>?_;have hg:=qMm m.out.af 0 .leaf m2 i x z;rw[fc]at hg;obtain⟨q1,q2⟩:=hsl i x hg;rw[q2,SV.val_congr (λ_ _=>rfl) G q1]
  rw[←F]at z;have u:xK E f args H (qOh m l lb) H1:=by
   refine vK.call he hf w z he' ?_;rw[hv,p];unfold qOh;generalize m.out.af=sl
   match sl with
   | []=>rfl
   | [(_,_)]=>rfl
   |_::_::_=>rfl
  refine⟨_,{H1 with next:=H1.next+1},g',l,u.raise,ja z.1,(A.sr G).raise,hk,hgk,B,rfl⟩
end
end Go.Am
