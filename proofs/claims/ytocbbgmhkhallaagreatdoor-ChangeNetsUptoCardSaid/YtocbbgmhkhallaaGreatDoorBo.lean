/- The runs of the kernel together. Conditions: none. -/
import Derived.Test.YtocbbgmhkhallaaGreatDoorBj
import Derived.Test.YtocbbgmhkhallaaGreatDoorBk
import Derived.Test.YtocbbgmhkhallaaGreatDoorBl
import Derived.Test.YtocbbgmhkhallaaGreatDoorBm
import Derived.Test.YtocbbgmhkhallaaGreatDoorBn
import Derived.Test.YtocbbgmhkhallaaGreatDoorBi
set_option linter.unusedVariables false
set_option linter.unusedSimpArgs false
namespace Go.Proofs.YtocbbgmhkhallaaGreatDoor
open Go Go.Am Go.Proofs Go.Am.Tt
theorem here:True:=trivial
theorem qKP{el sz n:Nat}{e:Sn}{d x:D}(h:zC (.sl el sz n e) d)(y:x∈d.es):zC e x:=by
 simp only[zC]at h;rcases h with rfl|⟨es,rfl,_,h⟩
 ·cases y
 exact h x y
theorem qOe{d:D}(h:zC Ht.n5 d):∀r∈d.es,qOR r:=λr i=>by
 have x:zC _ r:=qKP h i
 have o:qF 1048576 qS8 r:=j8 rfl x
 simp only[zC]at x
 have b:=x.2 _ aq
 have y:=x.2 _ (mC _ aq)
 obtain⟨_,rfl,fr,_,rfl,e,to,_,rfl,c,q,_,rfl,j,p,_,rfl,g,u,_,rfl,l,t,_,rfl,k,rfl⟩:=o
 have b:oK fr<=oK to+0:=b
 have y:oK to<=oK fr+0:=y
 rw[qM1 e,qM1 c]at b y
 show to.es.length=fr.es.length
 omega
theorem qNh{d:D}(h:zC Ht.n7 d):∀r∈d.es,qLZ r:=λr e=>by
 have x:zC _ r:=qKP h e
 have i:qF 1048576 (.st [.str,nS]) r:=j8 rfl x
 simp only[zC]at x
 have b:=x.2 _ aq
 have y:=x.2 _ (mC _ aq)
 obtain⟨_,rfl,fr,_,rfl,g,to,_,rfl,c,rfl⟩:=i
 have b:(0:Int)<=oK to + -1:=b
 have y:oK to<=(0:Int)+3:=y
 rw[qM1 c]at b y
 show 1<=to.es.length/\to.es.length<=3
 omega
theorem qR6:∀p∈Ht.hand,yA (HC EE) p.1 p.2:=by
 unfold Ht.hand;refine sK ?_<|sK ?_<|sK ?_<|sK ?_<|qAO
 ·intro ds hd l;simp only[zS]at hd;obtain⟨a,_,rfl,g,b,_,rfl,k,c,_,rfl,A,rfl⟩:=hd;have w:=qOe k;have t:qF 1048576 qGA b:=j8 rfl k;have j:qF 300000000 nS c:=j8 rfl A;have x:qF 1048576 (.st [qD2]) a:=j8 rfl g;obtain⟨_,rfl,gs,_,rfl,z,rfl⟩:=x;obtain⟨v,hv,lv,h⟩:=zCo (mo z) (mo t) j w;refine⟨[v],?_,?_,h⟩
  ·simp only[zS];exact⟨_,_,rfl,eR rfl hv,rfl⟩
  intro q y;rcases bl.1 y with rfl|y
  ·show oK v<=oK c+0;rw[qM1 hv,qM1 j];omega
  cases y
 ·intro ds hd l;simp only[zS]at hd;obtain⟨a,_,rfl,g,b,_,rfl,k,rfl⟩:=hd;obtain⟨_,rfl,nm,_,rfl,o,us,_,rfl,i,lt,_,rfl,r,rfl⟩:=g;obtain⟨tx,rfl,u⟩:=k;have u:tx.size<=1048576:=u;obtain⟨v,p,e,h,hv⟩:=zHp (j8 (B:=1048576) rfl o) (j8 (B:=1048576) rfl i) (j8 (B:=1048576) rfl r) (qNh i) (tx:=tx) (by omega);refine⟨[v,dI p,dI e],?_,λq y=>(by cases y),h⟩;simp only[zS];exact⟨_,_,rfl,eR rfl hv,_,_,rfl,⟨_,rfl⟩,_,_,rfl,⟨_,rfl⟩,rfl⟩
 ·intro ds hd l;simp only[zS]at hd;obtain⟨a,_,rfl,g,rfl⟩:=hd;have x:qF 300000000 nS a:=j8 rfl g;refine⟨[qMg a.es],?_,λq y=>(by cases y),qXg x⟩;simp only[zS];exact⟨_,_,rfl,⟨_,rfl,by show(kb a.es).length<=_;rw[kb,bk];exact qR x⟩,rfl⟩
 intro ds hd l;simp only[zS]at hd;obtain⟨a,_,rfl,g,_,_,rfl,⟨q,rfl⟩,rfl⟩:=hd;have x:qF 1048576 sM a:=j8 rfl g;obtain⟨v,hv,h⟩:=zCp (id:=q) x;refine⟨[v],?_,λq y=>(by cases y),h⟩;simp only[zS];exact⟨_,_,rfl,xI (B:=1048576) rfl hv,rfl⟩
namespace Ht
abbrev zCf(t:dW):Prop:=∀p∈t,yA (HC EE) p.1 p.2
abbrev zCg(t:gJ):Prop:=∀p∈t,bA (HC EE) p.1 p.2.1 p.2.2
theorem s0:zCf zCT/\zCg zCR:=⟨qR6,λ_ h=>by cases h⟩
theorem nx{t:dW}{m:gJ}{l:List It}(h:zCf t/\zCg m)(k:kF EE Tryz.prog TT t m l=true):zCf (oV t l)/\zCg (nJ m l):=iL he (hD qIP) uT h.1 h.2 k
theorem zC7:zCf zCS/\zCg zCQ:=nx (nx (nx (nx (nx (nx (nx (nx (nx (nx (nx s0 zGI) zGH) zGG) zGF) zGE) zGD) zGC) zGB) zGA) zGz) zDb
theorem sp13:yA (HC EE) 13 e13.S:=pF zC7.1 (by kernel_rfl)
end Ht
def zFr:La
 |.leaf (.int .i64 n)=>0<=n
 |_=>False
def zFq:La
 |.agg [.leaf (.int .i64 f),_,.leaf (.int .i64 t)]=>0<=f/\0<=t
 |_=>False
theorem qQ2{el sz n:Nat}{e:Sn}{d:D}{s:Sh}(h:qF n (.sl el sz s) d)(he:∀x∈d.es,qF n s x->zC e x):zC (.sl el sz n e) d:=by
 simp only[qF]at h;simp only[zC];rcases h with h|⟨es,rfl,b,c⟩
 ·exact .inl h
 exact .inr ⟨es,rfl,b,λx y=>he x y (c x y)⟩
variable{P:Cn->Prop}
theorem zDd{a b:Cn}(y:P a)(x:P b):∀c∈[a,b],P c:=λc h=>by
 rcases bl.1 h with rfl|h
 ·exact y
 rcases bl.1 h with rfl|h
 ·exact x
 cases h
theorem zGJ{a:Cn}(x:P a):∀c∈[a],P c:=λc h=>by
 rcases bl.1 h with rfl|h
 ·exact x
 cases h
theorem qXf{gs nm us lt rs n ws fs l:D}(H:qF 1048576 qD2 gs)(j:qF 1048576 .str nm)(g:qF 1048576 qM6 us)(o:qF 1048576 qQv lt)(i:qF 1048576 qGA rs)(E:qF 1048576 (.int .i64) n)(A:qF 1048576 qQt ws)(I:qF 1048576 nS fs)(G:qF 1048576 sM l)(z:∀r∈rs.es,qOR r)(w:∀r∈us.es,qLZ r)(u:∀x∈ws.es,zFq x)(p:∀x∈fs.es,zFr x):zC Ht.n13 (.agg [gs,nm,us,lt,rs,n,ws,fs,l]):=by
 have M:zC Ht.n7 us:=qQ2 (s:=.st [.str,nS]) g λx b y=>by
  have q:=w x b;have e:zC (.st [.str 1048576,.sl 3 1 1048576 (.int .i64)]) x:=xI (B:=1048576) rfl y;obtain⟨_,rfl,fr,_,rfl,c,to,_,rfl,h,rfl⟩:=y;have q:1<=to.es.length/\to.es.length<=3:=q;simp only[zC];refine⟨e,zDd ?_ ?_⟩
  ·show(0:Int)<=oK to + -1;rw[qM1 h];omega
  show oK to<=(0:Int)+3;rw[qM1 h];omega
 have N:zC Ht.n5 rs:=qQ2 (s:=qS8) i λx b y=>by
  have q:=z x b;have e:zC (.st [(.sl 3 1 1048576 (.int .i64)),(.sl 3 1 1048576 (.int .i64)),(.sl 65 2 1048576 (.st [(.int .i64),(.int .i64)])),(.sl 65 2 1048576 (.st [(.int .i64),(.int .i64)])),.bool,.bool]) x:=xI (B:=1048576) rfl y;obtain⟨_,rfl,fr,_,rfl,c,to,_,rfl,h,R,_,rfl,F,Q,_,rfl,C,U,_,rfl,K,S,_,rfl,J,rfl⟩:=y;have q:to.es.length=fr.es.length:=q;simp only[zC];refine⟨e,zDd ?_ ?_⟩
  ·show oK fr<=oK to+0;rw[qM1 h,qM1 c];omega
  show oK to<=oK fr+0;rw[qM1 h,qM1 c];omega
 have L:zC Ht.n9 ws:=qQ2 (s:=.st [.int .i64,.int .i64,.int .i64]) A λx b y=>by
  have q:=u x b;have e:zC (.st [.int .i64,.int .i64,.int .i64]) x:=xI (B:=1048576) rfl y;obtain⟨_,rfl,_,_,rfl,⟨f,rfl⟩,_,_,rfl,⟨k,rfl⟩,_,_,rfl,⟨t,rfl⟩,rfl⟩:=y;have q:0<=f/\0<=t:=q;simp only[zC];refine⟨e,zDd ?_ ?_⟩
  ·show(0:Int)<=f+0;omega
  show(0:Int)<=t+0;omega
 have O:zC Ht.n10 fs:=qQ2 (s:=.int .i64) I λx b y=>by have q:=p x b;have e:zC (.int .i64) x:=xI (B:=1048576) rfl y;obtain⟨f,rfl⟩:=y;have q:0<=f:=q;simp only[zC];refine⟨e,zGJ ?_⟩;show(0:Int)<=f+0;omega
 exact⟨_,rfl,_,_,rfl,xI (B:=1048576) rfl H,_,_,rfl,xI (B:=1048576) rfl j,_,_,rfl,M,_,_,rfl,xI (B:=1048576) rfl o,_,_,rfl,N,_,_,rfl,xI (B:=1048576) rfl E,_,_,rfl,L,_,_,rfl,O,_,_,rfl,xI (B:=1048576) rfl G,rfl⟩
theorem eX{f:Nat->Option Int}{n k:Nat}{R:Int}(y:∀i e,f i=some e->e≠0)(h:(jO f n k).getD R=0):(∀i,k<=i->i<n->f i=none)/\R=0:=by
 cases e:jO f n k with
 |none=>rw[e]at h;refine⟨λi b x=>?_,h⟩;unfold jO at e;exact List.findSome?_eq_none_iff.1 e i (by rw[List.mem_range'];exact⟨i-k,by omega,by omega⟩)
 |some v=>rw[e]at h;unfold jO at e;obtain⟨i,_,x⟩:=List.exists_of_findSome?_eq_some e;exact absurd h (y i v x)
theorem qJi{st q:Int}(h:aR st q=true):0<=q:=by unfold aR at h;rw[aE]at h;exact dT h.1
theorem qL6{st:Int}{xs fs:D}(j:qF 1048576 qQt xs)(l:qF 1048576 nS fs)(h:iN st xs fs=0):(∀x∈xs.es,zFq x)/\∀x∈fs.es,zFr x:=by
 unfold iN at h;split at h
 ·cases h
 split at h
 ·cases h
 split at h
 ·cases h
 obtain⟨t,p⟩:=eX (λi e he=>by
  unfold bT at he;split at he
  ·repeat' split at he
   all_goals first|(cases he;done)|(cases he;decide)
  cases he) h
 unfold qOw at p;obtain⟨_,h3⟩:=eX (λi e he=>by
  unfold qFI at he;split at he
  ·split at he
   ·cases he;decide
   cases he
  cases he) p
 unfold qSh at h3;obtain⟨r,_⟩:=eX (λi e he=>by
  unfold qDR at he;split at he
  ·split at he
   ·cases he;decide
   cases he
  cases he) h3
 constructor
 ·intro x k;obtain⟨i,y⟩:=gy.1 k;obtain⟨_,rfl,_,_,rfl,⟨a,rfl⟩,_,_,rfl,⟨c,rfl⟩,_,_,rfl,⟨b,rfl⟩,rfl⟩:=zG j y;have q:=t i (cq _) (gI y).1;rw[qEi y]at q;cases g:aR st a with
  |false=>rw[g]at q;simp at q
  |true=>
   cases o:aR st b with
   |false=>rw[g,o]at q;simp at q
   |true=>exact⟨qJi g,qJi o⟩
 intro x k;obtain⟨i,y⟩:=gy.1 k;obtain⟨s,rfl⟩:=zG l y;have q:=r i (cq _) (gI y).1;unfold qDR at q;rw[y]at q;have q:(if(!aR st s)=true then some (2:Int)else none)=none:=q;cases g:aR st s with
 |false=>rw[g]at q;cases q
 |true=>exact qJi g
theorem qRJ{gs nm us lt rs ws fs l:D}{n:Int}(g:qF 1048576 qD2 gs)(c:qF 1048576 .str nm)(x:qF 1048576 qM6 us)(i:qF 1048576 qQv lt)(y:qF 1048576 qGA rs)(j:qF 1048576 qQt ws)(k:qF 1048576 nS fs)(e:qF 1048576 sM l):∃b:Bool,qA EE 6 [.agg [gs,nm,us,lt,rs,dI n,ws,fs,l]] (dB b)/\(b=true->(∀r∈rs.es,qOR r)/\(∀r∈us.es,qLZ r)/\iN n ws fs=0):=by obtain⟨K,B⟩:=zGT g;obtain⟨J,A,f2⟩:=zHo g c x i;obtain⟨I,z,E⟩:=zHn (nm:=nm) (us:=us) (lt:=lt) (n:=dI n) (ws:=ws) (fs:=fs) (l:=l) g y;obtain⟨H,w⟩:=zGR g e;obtain⟨G,u⟩:=zDC e;obtain⟨F,t⟩:=zGQ e;obtain⟨b,kb,C⟩:=g6 g (by obtain⟨_,h,_⟩:=c;rw[h];rfl) x y j k e (zHr (qC e).one B A z (h5 j k) w u t);refine⟨b,kb,λh=>?_⟩;obtain⟨_,q,p,o,_⟩:=qQd (C h).1;exact⟨E p,f2 q,o⟩
end Go.Proofs.YtocbbgmhkhallaaGreatDoor
