/- The order of notes: a strict order within each tier; insertion keeps it. Plain. Conditions: none. -/
import Derived.Test.YtpbmnkajhedaiaaGreatAm1
import Derived.Shelf.SlSortCmp.Insertion
import Derived.Sort.LotA
set_option linter.all false
namespace Go.Am.Tr
structure Ord {α:Type} (P:α->Prop) (r:α->α->Bool):Prop where
 irr:∀x,P x->r x x=false
 tr:∀x y z,P x->P y->P z->r x y=true->r y z=true->r x z=true
 tri:∀x y,P x->P y->r x y=true∨x=y∨r y x=true
section
variable{α:Type}{P:α->Prop}{r:α->α->Bool}
end
structure Nt where
 id:Int
 ti:Int
 pa:Int
 fr:Int
 to:Int
 rk:Int
 tx:ByteArray
structure Tr where
 nm:ByteArray
 kd:Int
 rl:Int
 pa:Int
def zN:Nt:=⟨0,0,0,0,0,0,.empty⟩
def zT:Tr:=⟨.empty,0,0,0⟩
def rG(ts:List Tr)(i:Int):Tr:=(ts[i.toNat]?).getD zT
def qS5(k:Int):Bool:=decide (k=0)||decide (k=1)||decide (k=2)
def getN(ns:List Nt)(i:Int):Option Nt:=ns.find? λn=>decide (n.id=i)
def gd(ns:List Nt)(i:Int):Nt:=(getN ns i).getD zN
def key(ts:List Tr)(a b:Nt):Bool:=bif qS5 (rG ts a.ti).kd then decide (a.fr<b.fr)else decide (a.rk<b.rk)
def zGm(a b:Nt):Bool:=decide (a.pa<b.pa∨(a.pa=b.pa/\(a.fr<b.fr∨(a.fr=b.fr/\a.rk<b.rk))))
def qCi(ts:List Tr)(i t:Int)(n:Nt):Bool:=decide (n.ti=t)&&(decide (n.pa=i)&&(decide (0<=t)&&decide (t<(ts.length:Int))))
def nR(sts:List Nt->List Nt)(ts:List Tr)(ns:List Nt)(i t:Int):List Nt:=sts (ns.filter (qCi ts i t))
def qFh(sts:List Nt->List Nt)(ts:List Tr)(ns:List Nt):Nat->Int->List Nt
 |0,_=>[]
 |k+1,t=>bif decide (t<0)||decide ((ts.length:Int)<=t)then[]else bif decide ((rG ts t).kd=0)then nR sts ts ns 0 t else(qFh sts ts ns k (rG ts t).pa).flatMap λn=>nR sts ts ns n.id t
structure gD (ts:List Tr) (ns:List Nt):Prop where
 up:∀t:Int,0<=t->t<(ts.length:Int)->(rG ts t).kd≠0->0<=(rG ts t).pa/\(rG ts t).pa<t
 ids:ns.Pairwise λa b=>a.id<b.id
 pos:∀n∈ns,1<=n.id
 tin:∀n∈ns,0<=n.ti/\n.ti<(ts.length:Int)
 par:∀n∈ns,(rG ts n.ti).kd=0->n.pa=0
 par':∀n∈ns,(rG ts n.ti).kd≠0->∃p,getN ns n.pa=some p/\p.ti=(rG ts n.ti).pa
 sib:∀n∈ns,∀m∈ns,n.ti=m.ti->n.pa=m.pa->n.id≠m.id->(qS5 (rG ts n.ti).kd=true->n.fr≠m.fr)/\(qS5 (rG ts n.ti).kd=false->n.rk≠m.rk)
 nul:∀n∈ns,(qS5 (rG ts n.ti).kd=true->n.rk=0)/\(qS5 (rG ts n.ti).kd=false->n.fr=0)
structure Sts (sts:List Nt->List Nt):Prop where
 perm:∀l,(sts l).Perm l
 srt:∀l,(sts l).Pairwise λx y=>zGm y x=false
section
variable{ts:List Tr}{ns:List Nt}{sts:List Nt->List Nt}
theorem nodup(F:gD ts ns):ns.Nodup:=List.Pairwise.imp (λh e=>by rw[e]at h;omega) F.ids
end
structure Dc where
 id:Int
 ts:List Tr
 ns:List Nt
def mU(ts:List Tr)(r:Int):Int:=match ts.findIdx? λt=>decide (t.rl=r)with
 |some i=>(i:Int)
 |none=>-1
theorem qJN(ts:List Tr)(r:Int):mU ts r = -1∨(0<=mU ts r/\mU ts r<(ts.length:Int)):=by
 unfold mU;cases e:ts.findIdx? λt=>decide (t.rl=r)with
 |none=>exact .inl rfl
 |some i=>have:=(List.findIdx?_eq_some_iff_getElem.1 e).1;grind
section
variable{sts:List Nt->List Nt}
abbrev Wd:=(Int×Int)×ByteArray
def wP(sts:List Nt->List Nt)(k:Nat)(d:Dc):List Wd:=(qFh sts d.ts d.ns k (mU d.ts 2)).map λn=>((d.id,n.id),(gd d.ns n.id).tx)
theorem qRQ{ts:List Tr}{ns:List Nt}{k:Nat}{t:Int}(h:t<0):qFh sts ts ns k t=[]:=by
 cases k with
 |zero=>rfl
 |succ k=>rw[qFh,tD h];rfl
end
open Go.Sort
instance:Inhabited Nt:=⟨zN⟩
end Go.Am.Tr
namespace Go.Am.Tr
theorem qO3{α:Type}[DecidableEq α]:∀{m l:List α},m.Nodup->(∀x∈m,x∈l)->m.length<=l.length
 | [],_,_,_=>Nat.zero_le _
 |x::m,l,h,hs=>by have g:=List.nodup_cons.1 h;have c:=hs x List.mem_cons_self;have:=qO3 (m:=m) (l:=l.erase x) g.2 λy b=>(List.mem_erase_of_ne (λ(e:y=x)=>g.1 (e▸b))).2 (hs y (mC _ b));rw[List.length_erase_of_mem c]at this;have i:0<l.length:=List.length_pos_of_mem c;rw[List.length_cons];omega
theorem qGv{α:Type}[DecidableEq α]:∀{m l:List α},m.Nodup->(∀x∈m,x∈l)->l.length<=m.length->l.Nodup
 | [],l,_,_,i=>by rw[List.length_eq_zero_iff.1 (Nat.le_zero.1 i)];exact List.nodup_nil
 | x::m,l,h,hs,i=>by
  have p:=List.nodup_cons.1 h;have c:=hs x List.mem_cons_self;have o:=List.length_erase_of_mem c;have t:0<l.length:=List.length_pos_of_mem c;rw[List.length_cons]at i;have k:∀y∈m,y∈l.erase x:=λy b=>(List.mem_erase_of_ne (λ(e:y=x)=>p.1 (e▸b))).2 (hs y (mC _ b));have q:=qGv (m:=m) (l:=l.erase x) p.2 k (by omega);have g:x∉l.erase x:=λj=>by
   have:=qO3 (m:=x::m) (l:=l.erase x) h λy b=>by
    rcases List.mem_cons.1 b with rfl|b
    ·exact j
    exact k y b
   rw[List.length_cons]at this;omega
  exact(List.perm_cons_erase c).nodup_iff.2 (List.nodup_cons.2 ⟨g,q⟩)
def qZC(t p:Int)(n:Nt):Bool:=decide (n.ti=t)&&decide (n.pa=p)
def qEU(ns:List Nt)(t p:Int):List Nt:=ns.filter (qZC t p)
theorem qJF{ns:List Nt}{t p:Int}{n:Nt}:n∈qEU ns t p↔n∈ns/\n.ti=t/\n.pa=p:=by unfold qEU qZC;rw[List.mem_filter,zR,decide_eq_true_eq,decide_eq_true_eq]
def qX1(ts:List Tr)(i:Nat)(t:Tr):Prop:=0<=t.kd/\t.kd<=4/\(t.kd≠0->0<=t.pa/\t.pa<(i:Int))
def zGY(ts:List Tr)(ns:List Nt)(n:Nt):Prop:=
 (0<=n.ti/\n.ti<(ts.length:Int))/\((rG ts n.ti).kd=0->n.pa=0)/\((rG ts n.ti).kd≠0->∃p,getN ns n.pa=some p/\p.ti=(rG ts n.ti).pa)/\
 (qS5 (rG ts n.ti).kd=true->n.fr<n.to)/\(qS5 (rG ts n.ti).kd=false->n.fr=0)/\(n.rk≠0->(rG ts n.ti).kd=3)
def zBi(l:List Nt):Prop:=∀(i j:Nat) (x y:Nt),j<i->l[i]? = some x->l[j]? = some y->¬(x.fr<y.to/\y.fr<x.to)
def qX2(l:List Nt):Prop:=∀r:Nat,r<l.length->∃x∈l,x.rk=(r:Int)
def qYg(ts:List Tr)(ns:List Nt)(n:Nt):Prop:=
 (qS5 (rG ts n.ti).kd=true->zBi (qEU ns n.ti n.pa))/\((rG ts n.ti).kd=3->qX2 (qEU ns n.ti n.pa))/\((rG ts n.ti).kd=4->(qEU ns n.ti n.pa).length<=1)
structure Raw (ts:List Tr) (ns:List Nt):Prop where
 ht:∀(i:Nat) (x:Tr),ts[i]? = some x->qX1 ts i x
 hi:∀(i:Nat) (n:Nt),ns[i]? = some n->1<=n.id/\∀m:Nt,0<i->ns[i-1]? = some m->m.id<n.id
 hn:∀n∈ns,zGY ts ns n
 hs:∀n∈ns,qYg ts ns n
section
variable{ts:List Tr}{ns:List Nt}
theorem qNW{t:Int}(x:0<=t)(h:t<(ts.length:Int)):ts[t.toNat]? = some (rG ts t):=by
 have:t.toNat<ts.length:=by omega
 unfold rG;rw[List.getElem?_eq_getElem this];rfl
theorem Raw.lt(R:Raw ts ns):∀(j i:Nat) (m n:Nt),i<j->ns[i]? = some m->ns[j]? = some n->m.id<n.id
 |0,i,_,_,h,_,_=>by omega
 | j+1,i,m,n,h,hm,hn=>by
  have y:j<ns.length:=by
   rcases Nat.lt_or_ge (j+1) ns.length with h|h
   ·omega
   rw[List.getElem?_eq_none h]at hn;cases hn
  have e:=List.getElem?_eq_getElem y;have b:=(R.hi (j+1) n hn).2 _ (Nat.succ_pos j) e;by_cases x:i=j
  ·subst x;rw[e]at hm;rw[←Option.some.inj hm];exact b
  have:=R.lt j i m _ (by omega) hm e;omega
theorem Raw.facts(R:Raw ts ns):gD ts ns where
 up t V I w:=by
  have:=(R.ht _ _ (qNW V I)).2.2 w
  omega
 ids:=List.pairwise_iff_getElem.2 λi j hi c F=>R.lt j i _ _ F (List.getElem?_eq_getElem hi) (List.getElem?_eq_getElem c)
 pos n b:=by
  obtain⟨i,hi⟩:=List.getElem?_of_mem b
  exact(R.hi i n hi).1
 tin n b:=(R.hn n b).1
 par n b:=(R.hn n b).2.1
 par' n b:=(R.hn n b).2.2.1
 nul n b:=by
  obtain⟨_,_,_,_,U,S⟩:=R.hn n b
  refine⟨λg=>?_,U⟩
  by_cases hr:n.rk=0
  ·exact hr
  rw[S hr]at g;cases g
 sib n b m G ht O hid:=by
  have k:n≠m:=λe=>hid (by rw[e])
  obtain⟨L,s2,K⟩:=R.hs n b
  have n1:n∈qEU ns n.ti n.pa:=qJF.2 ⟨b,rfl,rfl⟩
  have z:m∈qEU ns n.ti n.pa:=qJF.2 ⟨G,ht.symm,O.symm⟩
  have fn:=(R.hn n b).2.2.2.1
  have J:=(R.hn m G).2.2.2.1
  rw[←ht]at J
  refine⟨λg he=>?_,λg he=>?_⟩
  ·have H:=L g
   obtain⟨i,hi⟩:=List.getElem?_of_mem n1
   obtain⟨j,c⟩:=List.getElem?_of_mem z
   have:=fn g
   have:=J g
   rcases Nat.lt_trichotomy i j with h|h|h
   ·exact H j i m n h c hi (by omega)
   ·subst h;rw[hi]at c;exact k (Option.some.inj c)
   exact H i j n m h hi c (by omega)
  have w:=R.ht _ _ (qNW (R.hn n b).1.1 (R.hn n b).1.2)
  have E:(rG ts n.ti).kd=3∨(rG ts n.ti).kd=4:=by
   have I:=w.1;have X:=w.2.1
   unfold qS5 at g
   simp only[Bool.or_eq_false_iff,decide_eq_false_iff_not]at g
   omega
  rcases E with C|B
  ·have Q:=s2 C
   generalize qEU ns n.ti n.pa=l at *
   have A:(l.map Nt.rk).Nodup:=qGv (m:=(List.range l.length).map (λr:Nat=>(r:Int))) (List.pairwise_map.2 (List.Pairwise.imp (λh e=>by omega) List.nodup_range)) (λx N=>by
    obtain⟨r,hr,rfl⟩:=List.mem_map.1 N
    obtain⟨y,M,e⟩:=Q r (List.mem_range.1 hr)
    exact List.mem_map.2 ⟨y,M,e⟩) (by rw[List.length_map,List.length_map,List.length_range];exact vE _)
   obtain⟨i,hi⟩:=List.getElem?_of_mem n1
   obtain⟨j,c⟩:=List.getElem?_of_mem z
   obtain⟨p,u⟩:=gI hi
   obtain⟨o,q⟩:=gI c
   have P:=List.pairwise_iff_getElem.1 (List.pairwise_map.1 A)
   rcases Nat.lt_trichotomy i j with h|h|h
   ·exact P i j p o h (by rw[u,q];exact he)
   ·subst h;rw[hi]at c;exact k (Option.some.inj c)
   exact P j i o p h (by rw[u,q];exact he.symm)
  have W:=K B
  generalize qEU ns n.ti n.pa=l at *
  obtain⟨i,hi⟩:=List.getElem?_of_mem n1
  obtain⟨j,c⟩:=List.getElem?_of_mem z
  obtain⟨p,_⟩:=gI hi
  obtain⟨o,_⟩:=gI c
  have:i=j:=by omega
  subst this
  rw[hi]at c;exact k (Option.some.inj c)
end
end Go.Am.Tr
