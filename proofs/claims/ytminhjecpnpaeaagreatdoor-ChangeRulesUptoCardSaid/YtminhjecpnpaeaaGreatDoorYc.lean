/- slices.Insert of one rule, slices.Delete of one: in the seat's program, over rows of cells. Conditions: none. -/
import Derived.Test.YtminhjecpnpaeaaGreatDoorBa
import Derived.Test.YtminhjecpnpaeaaGreatDoorSp
import Derived.Shelf.RegionOpenPlain
import Derived.WalkKit
import Derived.Deep.LoopGhost
import Derived.Deep.RegionLaw
import Derived.Lib.Walk
import Derived.Lib.SliceRun
import Derived.Lib.JoinLaws
import Derived.Lib.AppendZeros
import Derived.Lib.AppendZerosOnto
import Derived.Lib.Overlaps
import Derived.Laws.Externs
import Derived.Laws.IdiomCopy
set_option linter.unusedVariables false
set_option linter.unusedSimpArgs false
set_option linter.unusedVariables false
set_option linter.unusedSimpArgs false
namespace Go.Proofs.YtminhjecpnpaeaaGreatDoor
open Go Go.Am Go.Proofs Go.Shelf Go.RowKit Go.Lib Go.Sort
def Z6:List Value:=[.slice none 0 0,.slice none 0 0,.slice none 0 0,.slice none 0 0,.bool false,.bool false]
theorem qYd:(Tryz.prog.info? 39).map (λi=>(i.zero,i.size,i.bytes))=some (some (Value.agg ⟨Z6⟩),6,104):=by kernel_rfl
theorem iZ(b:Nat)(vs:List Value)(o:Nat)(w:World)(h:∀j,j<vs.length->(w.cell? ⟨b,o+j,none⟩).isSome=true)(k:Nat)(x:(w.cell? ⟨b,k,none⟩).isSome=true):((w.setCells b o vs).cell? ⟨b,k,none⟩).isSome=true:=by
 by_cases y:o<=k/\k<o+vs.length
 ·have:=World.cell?_setCells_in b vs o w h (k-o) (by omega);rw[show o+(k-o)=k by omega]at this;rw[this];rfl
 rw[World.cell?_setCells_out b vs o w ⟨b,k,none⟩ (λ_ _=>by show k<o∨o+vs.length<=k;omega)];exact x
set_option maxHeartbeats 4000000 in
set_option maxRecDepth 1000000 in
theorem qZz(blk off cap i j n:Nat)(row:List Value)(w:World)(hcell:∀t v,row[t]? = some v->w.cell? ⟨blk,off+t,none⟩=some v)(hfz:∀t,w.frozen? ⟨blk,off+t,none⟩=false)(hrl:row.length=n*6)(h1:∀v∈row,v.oneCell'=true)(hcap:n<=cap)(hm:cap<=9223372036854775807)(hij:i<j)(hj:j<=n)(hj1:j=i+1):Calls Tryz.prog 34 #[.slice (some ⟨blk,off,none⟩) n cap,.int .i64 i,.int .i64 j] w λe w'=>e=.returned (.slice (some ⟨blk,off,none⟩) (n-1) cap)/\w'=(w.drew.setCells blk (off+i*6) (row.drop (j*6))).setCells blk (off+(i+(n-j))*6) Z6:=by
 have mixed:Tryz.prog.follows .mixedOrders=true:=by kernel_rfl
 have t0:=Tryz.underlying0;have a0:=Tryz.isAgg0;have z0:=Tryz.sizeOf0;have v0:=Tryz.zeroValue0;have t3:=Tryz.underlying3;have a3:=Tryz.isAgg3;have z3:=Tryz.sizeOf3;have v3:=Tryz.zeroValue3;have t4:=Tryz.underlying4;have a4:=Tryz.isAgg4;have z4:=Tryz.sizeOf4;have v4:=Tryz.zeroValue4;have t29:=Tryz.underlying29;have a29:=Tryz.isAgg29;have z29:=Tryz.sizeOf29;have v29:=Tryz.zeroValue29;have a39:=Tryz.isAgg39;have z39:=Tryz.sizeOf39;obtain⟨i0,hi0,hz0,hz1,hz2⟩:=info_parts qYd;obtain⟨news,hnews⟩:∃news,news=row.drop (j*6):=⟨_,rfl⟩;have hlen:news.length=(n-j)*6:=by rw[hnews,List.length_drop,hrl];omega
 obtain⟨A,hA,hsrc⟩:∃A:Addr,(if cap=j then some (⟨blk,off,none⟩:Addr)else some ⟨blk,off+j*6,none⟩)=some A/\Hid (∀t u,news[t]? = some u->w.drew.cell? (A.add t)=some u):=by
  by_cases h:cap=j
  ·refine⟨⟨blk,off,none⟩,by simp[h],λt u hu=>?_⟩;have h0:news.length=0:=by rw[hlen];omega
   rw[List.length_eq_zero_iff.1 h0]at hu;simp at hu
  refine⟨⟨blk,off+j*6,none⟩,by simp[h],λt u hu=>?_⟩;rw[hnews,List.getElem?_drop]at hu;rw[Addr.add_lit,Nat.add_assoc];exact hcell _ _ hu
 have s1:Hid (news.length=(n-j)*6):=hlen;have s2:Hid (∀u∈news,u.oneCell'=true):=λu hu=>h1 u (by rw[hnews]at hu;exact List.mem_of_mem_drop hu);have hsome:∀t,t<n*6->(w.drew.cell? ⟨blk,off+t,none⟩).isSome=true:=λt ht=>by have:=hcell t row[t] (List.getElem?_eq_getElem (by omega));show(w.cell? _).isSome=true;rw[this];rfl
 have s3:Hid (∀t,t<news.length->(w.drew.cell? ⟨blk,off+i*6+t,none⟩).isSome=true/\w.drew.frozen? ⟨blk,off+i*6+t,none⟩=false):=by intro t ht;rw[hlen]at ht;rw[Nat.add_assoc];exact⟨hsome _ (by omega),hfz _⟩
 obtain⟨W1,hW1⟩:∃W1,W1=w.drew.setCells blk (off+i*6) news:=⟨_,rfl⟩
 have hcl:∀ty,(Builtin.clear_ #[29] ty #[.slice (some ⟨blk,off+(i+(n-j))*6,none⟩) (n-(i+(n-j))) (cap-(i+(n-j)))]).run Tryz.prog W1=.ok (.tuple #[]) (W1.setCells blk (off+(i+(n-j))*6) Z6):=
  λty=>uW W1 _ _ ty (.agg ⟨Z6⟩) Tryz.underlying29 Tryz.zeroValue39 (by decide) blk (off+(i+(n-j))*6) _ _ (by omega) (λt ht=>by
   have ht:t<6:=ht;rw[hW1];refine iZ _ _ _ _ (λt ht=>(s3.out t ht).1) _ ?_;rw[show off+(i+(n-j))*6+t=off+((i+(n-j))*6+t) by omega];exact hsome _ (by omega)) (λt ht=>by
   rw[hW1,World.frozen?_setCells,Nat.add_assoc];exact hfz _)
 have hW:Hid (W1=w.drew.setCells blk (off+i*6) news):=hW1;have hic:i<=cap:=by omega
 have hjc:j<=cap:=by omega
 have hnn:Hid (i+(n-j)=n-1):=by show i+(n-j)=n-1;omega
 have hne:¬i=j:=by omega
 have hnc:¬cap=i+(n-j):=by omega
 clear hW1 hlen hsome hcell hfz h1 hj1
 go_enter Tryz.func34,Tryz.ntmps34
 go_wp2_with fail
 go_region_law_o (refine step_append_room rfl (.tmp 22) (.tmp 25) 29 rfl 39 i0 6 t29 hi0 hz1 blk off i cap (by simp[Act.eval,Act.put]) A (n-j) (cap-j) news (by simp[Act.eval,Act.put]) s1.out hsrc.out s2.out (by omega) s3.out ?_;rw[←hW.out])
 go_wp2
 go_ret
 refine⟨by rw[←hnn.out];rfl,by rw[hW.out,hnews]⟩
set_option maxHeartbeats 4000000 in
set_option maxRecDepth 1000000 in
theorem qXx(b off n c i vb voff m vc:Nat)(row vs:List Value)(w:World)(hi:i<n)(hm:0<m)(hroom:n+m<=c)(hc63:c<=9223372036854775807)(hvb:vb≠b)(hrl:row.length=n*6)(hvl:vs.length=m*6)(hcs:∀j v,row[j]? = some v->w.cell? ⟨b,off+j,none⟩=some v)(hsp:∀j,j<(n+m)*6->(w.cell? ⟨b,off+j,none⟩).isSome=true)(hfz:∀j,w.frozen? ⟨b,off+j,none⟩=false)(hvs:∀j v,vs[j]? = some v->w.cell? ⟨vb,voff+j,none⟩=some v)(h1c:∀v∈row,v.oneCell'=true)(h1v:∀v∈vs,v.oneCell'=true)(tA tB:TypeId)(kA kB:Nat)(hsa:w.shape? vb=some (tA,kA))(hsb:w.shape? b=some (tB,kB))(hkB:kB≠0)(hfa:w.frozen? ⟨vb,voff,none⟩=false)(hfe:w.frozen? ⟨vb,kA,none⟩=false):Calls Tryz.prog 29 #[.slice (some ⟨b,off,none⟩) n c,.int .i64 i,.slice (some ⟨vb,voff,none⟩) m vc] w λe w'=>e=.returned (.slice (some ⟨b,off,none⟩) (n+m) c)/\w'=(w.drew.setCells b (off+(i+m)*6) (row.drop (i*6))).setCells b (off+i*6) vs:=by
 have t0:=Tryz.underlying0;have a0:=Tryz.isAgg0;have z0:=Tryz.sizeOf0;have v0:=Tryz.zeroValue0;have t3:=Tryz.underlying3;have a3:=Tryz.isAgg3;have z3:=Tryz.sizeOf3;have v3:=Tryz.zeroValue3;have t4:=Tryz.underlying4;have a4:=Tryz.isAgg4;have z4:=Tryz.sizeOf4;have v4:=Tryz.zeroValue4;have t29:=Tryz.underlying29;have a29:=Tryz.isAgg29;have z29:=Tryz.sizeOf29;have v29:=Tryz.zeroValue29;have a39:=Tryz.isAgg39;have z39:=Tryz.sizeOf39;have u0:=run_underlying Tryz.underlying0;have u3:=run_underlying Tryz.underlying3;have u4:=run_underlying Tryz.underlying4;have u29:=run_underlying Tryz.underlying29;have mixed:Tryz.prog.follows .mixedOrders=true:=by kernel_rfl
 have hz1:¬((m:Int)=0):=by omega
 have hz2:¬((i:Int)=(n:Int)):=by omega
 have hsz:(Tryz.prog.info? 39).map (·.size)=some 6:=by obtain⟨i0,hi0,h0,h1,h2⟩:=info_parts qYd;rw[hi0];simp[h1]
 have hov:∀lb cb,(callFunc 69 #[.slice (some ⟨vb,voff,none⟩) m vc,.slice (some ⟨b,off+(i+m)*6,none⟩) lb cb]).run Tryz.prog w=.ok (.value (.bool false)) w:=λlb cb=>by rw[run_callFunc_extern Tryz.func69 (by kernel_rfl) (by kernel_rfl) (by kernel_rfl) (e:=Extern.SlicesOverlaps.overlaps #[29,29] #[4]) (by kernel_rfl),Lib.run_overlaps_apart w 29 4 39 Tryz.underlying29 6 Tryz.sizeOf39 ⟨vb,voff,none⟩ ⟨b,off+(i+m)*6,none⟩ m vc lb cb hvb tA tB kA kB hsa hsb hkB hfa hfe];rfl
 have hdl:(row.drop (i*6)).length=(n-i)*6:=by rw[List.length_drop,hrl];omega
 have hw1:IntKind.i64.wrap ((i:Int)+(m:Int))=(i:Int)+(m:Int):=by rw[IntKind.wrap_i64];omega
 have hb1:(0:Int)<=(i:Int)+(m:Int):=by omega
 have hin:i<=n:=by omega
 have htn:((i:Int)+(m:Int)).toNat=i+m:=by omega
 have hb2:¬(c=i+m):=by omega
 have hb3:(i:Int)<=(n:Int)+(m:Int):=by omega
 have hb4:¬(c=i):=by omega
 have hcp1:∀ty dc sc,(Builtin.copy_ #[29,29] ty #[.slice (some ⟨b,off+(i+m)*6,none⟩) (n+m-(i+m)) dc,.slice (some ⟨b,off+i*6,none⟩) (n+m-i) sc]).run Tryz.prog w.drew=.ok (goInt ((n-i:Nat):Int)) (w.drew.setCells b (off+(i+m)*6) (row.drop (i*6))):=λty dc sc=>
  gD w.drew _ _ ty 39 6 b (off+(i+m)*6) (n+m-(i+m)) dc ⟨b,off+i*6,none⟩ (n+m-i) sc (n-i) (row.drop (i*6)) Tryz.underlying29 hsz (by simp only[Nat.min_def];split<;>omega) hdl (λj v hj=>by rw[Addr.add_lit,Nat.add_assoc];exact hcs (i*6+j) v (by rwa [List.getElem?_drop]at hj)) (λj hj=>by rw[Nat.add_assoc];exact hsp _ (by omega)) (λj hj=>by rw[Nat.add_assoc];exact hfz _) (λv hv=>h1c v (List.mem_of_mem_drop hv))
 obtain⟨W1,hW1⟩:∃W1,W1=w.drew.setCells b (off+(i+m)*6) (row.drop (i*6)):=⟨_,rfl⟩;have hsp1:∀k,k<(n+m)*6->(W1.cell? ⟨b,off+k,none⟩).isSome=true:=λk hk=>by rw[hW1];exact iZ b _ _ _ (λj hj=>by rw[Nat.add_assoc];exact hsp _ (by omega)) _ (hsp k hk)
 have hcp2:∀(W:World),(∀x,W.cell? x=W1.cell? x)->(∀x,W.frozen? x=W1.frozen? x)->∀ty dc,(Builtin.copy_ #[29,29] ty #[.slice (some ⟨b,off+i*6,none⟩) (n+m-i) dc,.slice (some ⟨vb,voff,none⟩) m vc]).run Tryz.prog W=.ok (goInt (m:Int)) (W.setCells b (off+i*6) vs):=λW hWc hWf ty dc=>
  gD W _ _ ty 39 6 b (off+i*6) (n+m-i) dc ⟨vb,voff,none⟩ m vc m vs Tryz.underlying29 hsz (by simp only[Nat.min_def];split<;>omega) hvl
   (λj v hj=>by rw[Addr.add_lit,hWc,hW1,World.cell?_setCells_out b _ _ _ _ (λh _=>absurd h hvb)];exact hvs j v hj)
   (λj hj=>by rw[hWc,Nat.add_assoc];exact hsp1 _ (by omega)) (λj hj=>by rw[hWf,hW1,World.frozen?_setCells,Nat.add_assoc];exact hfz _) h1v
 rw[←hW1]at hcp1
 go_enter Tryz.func29,Tryz.ntmps29
 go_wp2_with (simp only[hov])
 go_region_law_o (refine Go.Am.step_copy_runK rfl _ _ 29 29 rfl _ _ (by simp[Act.eval,Act.put]) (by simp[Act.eval,Act.put]) (hcp1 _ _ _) ?_)
 go_wp2_with (at_builtin;refine Go.Am.wpList_copy_runK _ rfl _ _ 29 29 rfl _ _ rfl rfl (hcp2 _ (λ_=>rfl) (λ_=>rfl) _ _) ?_)
 go_ret
 first|exact⟨rfl,rfl⟩|exact⟨rfl,by rw[hW1]⟩
set_option maxHeartbeats 4000000 in
set_option maxRecDepth 1000000 in
theorem qXz(b off n c vb voff m vc:Nat)(vs:List Value)(w:World)(hm:0<m)(hroom:n+m<=c)(hc63:c<=9223372036854775807)(hvl:vs.length=m*6)(hsp:∀j,j<m*6->(w.cell? ⟨b,off+n*6+j,none⟩).isSome=true)(hfz:∀j,w.frozen? ⟨b,off+n*6+j,none⟩=false)(hvs:∀j v,vs[j]? = some v->w.cell? ⟨vb,voff+j,none⟩=some v)(h1v:∀v∈vs,v.oneCell'=true):Calls Tryz.prog 29 #[.slice (some ⟨b,off,none⟩) n c,.int .i64 n,.slice (some ⟨vb,voff,none⟩) m vc] w λe w'=>e=.returned (.slice (some ⟨b,off,none⟩) (n+m) c)/\w'=w.setCells b (off+n*6) vs:=by
 have t0:=Tryz.underlying0;have a0:=Tryz.isAgg0;have z0:=Tryz.sizeOf0;have v0:=Tryz.zeroValue0;have t3:=Tryz.underlying3;have a3:=Tryz.isAgg3;have z3:=Tryz.sizeOf3;have v3:=Tryz.zeroValue3;have t4:=Tryz.underlying4;have a4:=Tryz.isAgg4;have z4:=Tryz.sizeOf4;have v4:=Tryz.zeroValue4;have t29:=Tryz.underlying29;have a29:=Tryz.isAgg29;have z29:=Tryz.sizeOf29;have v29:=Tryz.zeroValue29;have a39:=Tryz.isAgg39;have z39:=Tryz.sizeOf39;have u0:=run_underlying Tryz.underlying0;have u3:=run_underlying Tryz.underlying3;have u4:=run_underlying Tryz.underlying4;have u29:=run_underlying Tryz.underlying29;have mixed:Tryz.prog.follows .mixedOrders=true:=by kernel_rfl
 have hz1:¬((m:Int)=0):=by omega
 obtain⟨i0,hi0,hz0,hzs,hzb⟩:=info_parts qYd;have hsrc:Src Tryz.prog i0.size 29 (.slice (some ⟨vb,voff,none⟩) m vc) m vs w:=by rw[hzs];exact Src.ofSlice w Tryz.underlying29 ⟨vb,voff,none⟩ m vc vs hvl (λj u hj=>by rw[Addr.add_lit];exact hvs j u hj) h1v
 have hrun:∀ty,(Builtin.append_ #[29,29] ty #[.slice (some ⟨b,off,none⟩) n c,.slice (some ⟨vb,voff,none⟩) m vc]).run Tryz.prog w=.ok (.slice (some ⟨b,off,none⟩) (n+m) c) (w.setCells b (off+n*6) vs):=λty=>by have:=run_append_room_src w 29 29 ty 39 i0 Tryz.underlying29 hi0 b off n c _ m vs hsrc hroom (by rw[hvl,hzs];exact hsp) (by rw[hzs];exact λj _=>hfz j);rw[hzs]at this;exact this
 clear hsp hfz hvs
 go_enter Tryz.func29,Tryz.ntmps29
 go_wp2_with (at_builtin;refine Lib.wpList_append_run _ rfl _ _ _ _ rfl _ _ rfl rfl _ _ (hrun _) ?_)
 go_ret
 exact⟨rfl,rfl⟩
set_option maxHeartbeats 4000000 in
set_option maxRecDepth 1000000 in
theorem qM9(base:Option Addr)(n c vb voff m vc:Nat)(cs vs:List Value)(w:World)(hm:0<m)(hnc:n<=c)(hroom:c<n+m)(hbig:(n+m)*104<=140737488355328)(hcl:cs.length=n*6)(hvl:vs.length=m*6)(hnil:base=none->n=0)(hcs:∀a,base=some a->∀j v,cs[j]? = some v->w.cell? (a.add j)=some v)(hvs:∀j v,vs[j]? = some v->w.cell? ⟨vb,voff+j,none⟩=some v)(h1v:∀v∈vs,v.oneCell'=true):Calls Tryz.prog 29 #[.slice base n c,.int .i64 n,.slice (some ⟨vb,voff,none⟩) m vc] w λe w'=>e=.returned (.slice (some ⟨w.heap.size,0,none⟩) (n+m) (grownCap w (n+m) c 39))/\w'=w.drew.alloc (.cells ((cs++vs).toArray++Builtin.zeroCells (Value.agg ⟨Z6⟩).cells (grownCap w (n+m) c 39-(n+m))) 39):=by
 have t0:=Tryz.underlying0;have a0:=Tryz.isAgg0;have z0:=Tryz.sizeOf0;have v0:=Tryz.zeroValue0;have t3:=Tryz.underlying3;have a3:=Tryz.isAgg3;have z3:=Tryz.sizeOf3;have v3:=Tryz.zeroValue3;have t4:=Tryz.underlying4;have a4:=Tryz.isAgg4;have z4:=Tryz.sizeOf4;have v4:=Tryz.zeroValue4;have t29:=Tryz.underlying29;have a29:=Tryz.isAgg29;have z29:=Tryz.sizeOf29;have v29:=Tryz.zeroValue29;have a39:=Tryz.isAgg39;have z39:=Tryz.sizeOf39;have u0:=run_underlying Tryz.underlying0;have u3:=run_underlying Tryz.underlying3;have u4:=run_underlying Tryz.underlying4;have u29:=run_underlying Tryz.underlying29;have mixed:Tryz.prog.follows .mixedOrders=true:=by kernel_rfl
 obtain⟨i0,hi0,hz0,hzs,hzb⟩:=info_parts qYd;have hz1:¬((m:Int)=0):=by omega
 have hsrc:Src Tryz.prog i0.size 29 (.slice (some ⟨vb,voff,none⟩) m vc) m vs w:=by rw[hzs];exact Src.ofSlice w Tryz.underlying29 ⟨vb,voff,none⟩ m vc vs hvl (λj u hj=>by rw[Addr.add_lit];exact hvs j u hj) h1v
 have hold:(Builtin.firstCells i0.size n (.slice base n c)).run Tryz.prog w.drew=.ok cs.toArray w.drew:=by
  rw[hzs];cases base with
  |none=>have h0:=hnil rfl;subst h0;rw[List.length_eq_zero_iff.1 (by omega:cs.length=0)];exact run_firstCells_none w.drew 6 0 0 c
  |some a=>exact run_firstCells_some w.drew 6 n a n c cs hcl (λj v hj=>hcs a rfl j v hj)
 have hrun:∀ty,(Builtin.append_ #[29,29] ty #[.slice base n c,.slice (some ⟨vb,voff,none⟩) m vc]).run Tryz.prog w=_:=λty=>
  run_append_grow_src w 29 29 ty 39 i0 _ Tryz.underlying29 hi0 hz0 base n c cs hold _ m vs hsrc hroom (by omega) (by rw[hzb];exact growslice_fits hroom hbig)
 clear hold hsrc hcs hvs
 go_enter Tryz.func29,Tryz.ntmps29
 cases base with
 |none=>
  have h0:=hnil rfl;subst h0
  go_wp2_with (at_builtin;refine Lib.wpList_append_run _ rfl _ _ _ _ rfl _ _ rfl rfl _ _ (hrun _) ?_)
  go_ret
  exact⟨rfl,rfl⟩
 |some a=>
  obtain⟨ab,ao,asp⟩:=a
  go_wp2_with (at_builtin;refine Lib.wpList_append_run _ rfl _ _ _ _ rfl _ _ rfl rfl _ _ (hrun _) ?_)
  all_goals(go_ret;exact⟨rfl,rfl⟩)
set_option maxHeartbeats 4000000 in
set_option maxRecDepth 1000000 in
theorem qXy(b off n c i vb voff m vc:Nat)(cs vs:List Value)(w:World)(hi:i<n)(hm:0<m)(hnc:n<=c)(hroom:c<n+m)(hbig:(n+m)*104<=140737488355328)(hcl:cs.length=n*6)(hvl:vs.length=m*6)(hcs:∀j v,cs[j]? = some v->w.cell? ⟨b,off+j,none⟩=some v)(hvs:∀j v,vs[j]? = some v->w.cell? ⟨vb,voff+j,none⟩=some v)(h1c:∀v∈cs,v.oneCell'=true)(h1v:∀v∈vs,v.oneCell'=true):Calls Tryz.prog 29 #[.slice (some ⟨b,off,none⟩) n c,.int .i64 i,.slice (some ⟨vb,voff,none⟩) m vc] w λe w'=>e=.returned (.slice (some ⟨w.heap.size,0,none⟩) (n+m) (grownCap w (n+m) c 39))/\w'=(((w.alloc (.cells ((cs.take (i*6)).toArray++Builtin.zeroCells (Value.agg ⟨Z6⟩).cells (n+m-i)++Builtin.zeroCells (Value.agg ⟨Z6⟩).cells (grownCap w (n+m) c 39-(n+m))) 39)).drew.setCells w.heap.size (i*6) vs).drew).setCells w.heap.size ((i+m)*6) (cs.drop (i*6)):=by
 have t0:=Tryz.underlying0;have a0:=Tryz.isAgg0;have z0:=Tryz.sizeOf0;have v0:=Tryz.zeroValue0;have t3:=Tryz.underlying3;have a3:=Tryz.isAgg3;have z3:=Tryz.sizeOf3;have v3:=Tryz.zeroValue3;have t4:=Tryz.underlying4;have a4:=Tryz.isAgg4;have z4:=Tryz.sizeOf4;have v4:=Tryz.zeroValue4;have t29:=Tryz.underlying29;have a29:=Tryz.isAgg29;have z29:=Tryz.sizeOf29;have v29:=Tryz.zeroValue29;have a39:=Tryz.isAgg39;have z39:=Tryz.sizeOf39;have u0:=run_underlying Tryz.underlying0;have u3:=run_underlying Tryz.underlying3;have u4:=run_underlying Tryz.underlying4;have u29:=run_underlying Tryz.underlying29;have mixed:Tryz.prog.follows .mixedOrders=true:=by kernel_rfl
 obtain⟨i0,hi0,hz0,hzs,hzb⟩:=info_parts qYd;have hz1:¬((m:Int)=0):=by omega
 have hz2:¬((i:Int)=(n:Int)):=by omega
 have hz3:(c:Int)<(n:Int)+(m:Int):=by omega
 have hsz:(Tryz.prog.info? 39).map (·.size)=some 6:=by rw[hi0];simp[hzs]
 have hbw:b<w.heap.size:=block_lt_of_cell (hcs 0 _ (List.getElem?_eq_getElem (by omega)));have hvw:vb<w.heap.size:=block_lt_of_cell (hvs 0 _ (List.getElem?_eq_getElem (by omega)));have hkk:(n:Int)+(m:Int)-(i:Int)=((n+m-i:Nat):Int):=by omega
 have hik:i+(n+m-i)=n+m:=by omega
 have hold:(Builtin.firstCells i0.size i (.slice (some ⟨b,off,none⟩) i c)).run Tryz.prog w.drew=.ok (cs.take (i*6)).toArray w.drew:=by
  rw[hzs];exact run_firstCells_some w.drew 6 i ⟨b,off,none⟩ i c (cs.take (i*6)) (by rw[List.length_take];omega) (λj v hj=>by
   rw[Addr.add_lit];rw[List.getElem?_take]at hj;split at hj
   ·exact hcs j v hj
   cases hj)
 have hrz:∀ty,(Builtin.append_ #[29,3] ty #[.slice (some ⟨b,off,none⟩) i c,.int .i64 ((n:Int)+(m:Int)-(i:Int))]).run Tryz.prog w =
   .ok (.slice (some ⟨w.heap.size,0,none⟩) (n+m) (grownCap w (n+m) c 39)) (w.drew.alloc (.cells ((cs.take (i*6)).toArray++Builtin.zeroCells (Value.agg ⟨Z6⟩).cells (n+m-i)++Builtin.zeroCells (Value.agg ⟨Z6⟩).cells (grownCap w (n+m) c 39-(n+m))) 39)):=λty=>by
  have h:=Lib.run_append_grow_zeros w 29 3 ty 39 i0 _ .i64 .i64 Tryz.underlying29 Tryz.underlying3 hi0 hz0 (some ⟨b,off,none⟩) i c (cs.take (i*6)) hold (n+m-i) (by omega) (by omega) (by omega) (by omega) (by rw[hzb];omega) (by rw[hzb,hik];exact growslice_fits hroom hbig)
  rw[hik]at h
  rw[hkk]
  exact h
 obtain⟨G,hG⟩:∃G,G=grownCap w (n+m) c 39:=⟨_,rfl⟩;obtain⟨ROW,hROW⟩:∃ROW:Array Value,ROW=(cs.take (i*6)).toArray++Builtin.zeroCells (Value.agg ⟨Z6⟩).cells (n+m-i)++Builtin.zeroCells (Value.agg ⟨Z6⟩).cells (G-(n+m)):=⟨_,rfl⟩;rw[←hG]at hrz ⊢;rw[←hROW]at hrz ⊢;have hRl:(n+m)*6<=ROW.size:=by rw[hROW,Array.size_append,Array.size_append,wQ,List.size_toArray,List.length_take,hcl,show(Value.agg ⟨Z6⟩).cells.size=6 from rfl];omega
 obtain⟨W1,hW1⟩:∃W1,W1=w.drew.alloc (.cells ROW 39):=⟨_,rfl⟩;rw[←hW1]at hrz;have hN:∀j,j<(n+m)*6->(W1.cell? ⟨w.heap.size,j,none⟩).isSome=true:=λj hj=>by rw[hW1,World.cell?_alloc_at (w:=w.drew) ROW _ w.heap.size j rfl,Array.getElem?_eq_getElem (by omega)];rfl
 have hNf:∀j,W1.frozen? ⟨w.heap.size,j,none⟩=false:=λj=>by rw[hW1];exact World.frozen?_alloc_at (w:=w.drew) ROW _ w.heap.size j rfl
 have hOb:∀j v,w.cell? ⟨b,j,none⟩=some v->W1.cell? ⟨b,j,none⟩=some v:=λj v h=>by rw[hW1,World.cell?_alloc_past (w:=w.drew) _ b j hbw];exact h
 have hOv:∀j v,w.cell? ⟨vb,j,none⟩=some v->W1.cell? ⟨vb,j,none⟩=some v:=λj v h=>by rw[hW1,World.cell?_alloc_past (w:=w.drew) _ vb j hvw];exact h
 have hcpA:∀(W:World),(∀x,W.cell? x=W1.cell? x)->(∀x,W.frozen? x=W1.frozen? x)->∀ty dc,(Builtin.copy_ #[29,29] ty #[.slice (some ⟨w.heap.size,i*6,none⟩) (n+m-i) dc,.slice (some ⟨vb,voff,none⟩) m vc]).run Tryz.prog W=.ok (goInt (m:Int)) (W.setCells w.heap.size (i*6) vs):=λW hWc hWf ty dc=>
  gD W _ _ ty 39 6 w.heap.size (i*6) (n+m-i) dc ⟨vb,voff,none⟩ m vc m vs Tryz.underlying29 hsz (by simp only[Nat.min_def];split<;>omega) hvl (λj v hj=>by rw[Addr.add_lit,hWc];exact hOv _ v (hvs j v hj)) (λj hj=>by rw[hWc];exact hN _ (by omega)) (λj hj=>by rw[hWf];exact hNf _) h1v
 have hGn:n+m<=G:=by rw[hG];exact grownCap_ge w _ _ _
 have hG63:G<=9223372036854775807:=by have:=grownCap_le_maxLen w (n+m) c 39 (by unfold maxLen;omega);rw[←hG]at this;unfold maxLen at this;omega
 have hGi:¬(G=i):=by omega
 have hGim:¬(G=i+m):=by omega
 have hci:¬(c=i):=by omega
 have hbN:b≠w.heap.size:=by omega
 have hdl:(cs.drop (i*6)).length=(n-i)*6:=by rw[List.length_drop,hcl];omega
 have hcpB:∀(W:World),(∀x,W.cell? x=(W1.setCells w.heap.size (i*6) vs).cell? x)->(∀x,W.frozen? x=(W1.setCells w.heap.size (i*6) vs).frozen? x)->∀ty dc sc,(Builtin.copy_ #[29,29] ty #[.slice (some ⟨w.heap.size,(i+m)*6,none⟩) (n+m-(i+m)) dc,.slice (some ⟨b,off+i*6,none⟩) (n-i) sc]).run Tryz.prog W=.ok (goInt ((n-i:Nat):Int)) (W.setCells w.heap.size ((i+m)*6) (cs.drop (i*6))):=λW hWc hWf ty dc sc=>
  gD W _ _ ty 39 6 w.heap.size ((i+m)*6) (n+m-(i+m)) dc ⟨b,off+i*6,none⟩ (n-i) sc (n-i) (cs.drop (i*6)) Tryz.underlying29 hsz (by simp only[Nat.min_def];split<;>omega) hdl
   (λj v hj=>by rw[Addr.add_lit,hWc,World.cell?_setCells_out _ _ _ _ _ (λh _=>absurd h hbN),Nat.add_assoc];exact hOb _ v (hcs (i*6+j) v (by rwa [List.getElem?_drop]at hj)))
   (λj hj=>by rw[hWc];exact iZ _ _ _ _ (λt ht=>hN _ (by omega)) _ (hN _ (by omega)))
   (λj hj=>by rw[hWf,World.frozen?_setCells];exact hNf _) (λv hv=>h1c v (List.mem_of_mem_drop hv))
 subst hW1;have hE1:∀x,((w.alloc (.cells ROW 39)).drew).cell? x=(w.drew.alloc (.cells ROW 39)).cell? x:=λx=>rfl;have hE2:∀x,((w.alloc (.cells ROW 39)).drew).frozen? x=(w.drew.alloc (.cells ROW 39)).frozen? x:=λx=>rfl;have hF1:∀x,(((w.alloc (.cells ROW 39)).drew.setCells w.heap.size (i*6) vs).drew).cell? x=((w.drew.alloc (.cells ROW 39)).setCells w.heap.size (i*6) vs).cell? x:=λx=>rfl;have hF2:∀x,(((w.alloc (.cells ROW 39)).drew.setCells w.heap.size (i*6) vs).drew).frozen? x=((w.drew.alloc (.cells ROW 39)).setCells w.heap.size (i*6) vs).frozen? x:=λx=>rfl;have hw1:IntKind.i64.wrap ((i:Int)+(m:Int))=(i:Int)+(m:Int):=by rw[IntKind.wrap_i64];omega
 have hb1:(0:Int)<=(i:Int)+(m:Int):=by omega
 have hin:i<=n:=by omega
 have htn:((i:Int)+(m:Int)).toNat=i+m:=by omega
 have hb3:(i:Int)<=(n:Int):=by omega
 clear hkk hik hold hROW hG hRl
 go_enter Tryz.func29,Tryz.ntmps29
 go_wp2_with (first
  |(at_builtin;refine Lib.wpList_append_run _ rfl _ _ _ _ rfl _ _ rfl rfl _ _ (hrz _) ?_)
  |(at_builtin;refine Go.Am.wpList_copy_runK _ rfl _ _ 29 29 rfl _ _ rfl rfl (hcpA _ hE1 hE2 _ _) ?_)
  |(at_builtin;refine Go.Am.wpList_copy_runK _ rfl _ _ 29 29 rfl _ _ rfl rfl (hcpB _ (λ_=>rfl) (λ_=>rfl) _ _ _) ?_))
 go_region_law_o (refine Go.Am.step_copy_runK rfl _ _ 29 29 rfl (.slice (some ⟨w.heap.size,(i+m)*6,none⟩) (n+m-(i+m)) (G-(i+m))) (.slice (some ⟨b,off+i*6,none⟩) (n-i) (c-i)) (by simp[Act.eval,Act.put]) (by simp[Act.eval,Act.put]) (hcpB _ hF1 hF2 3 (G-(i+m)) (c-i)) ?_)
 go_wp2
 go_ret
 exact⟨rfl,rfl⟩
theorem qY0:∀v∈Z6,v.oneCell'=true:=by decide
section
variable{w:World}{b off c n:Nat}{ccs:Array Value}
theorem qYn(h:w.heap[b]? = some (.cells ccs 39 (0,0)))(t:Nat):w.frozen? ⟨b,t,none⟩=false:=by simp[World.frozen?,h]
theorem oJ(e:w.heap[b]? = some (.cells ccs 39 (0,0)))(x:off+n<=ccs.size)(t:Nat)(v:Value)(h:(xU ccs.toList off n)[t]? = some v):w.cell? ⟨b,off+t,none⟩=some v:=by
 have y:t<n:=by have:=(gI h).1;rwa [sR (by rw[Array.length_toList];exact x)]at this
 rw[qGx y,Array.getElem?_toList]at h;simp only[World.cell?,e];exact h
theorem qGz(x:w.heap[b]? = some (.cells ccs 39 (0,0))){t:Nat}(h:t<ccs.size):(w.cell? ⟨b,t,none⟩).isSome=true:=by simp[World.cell?,x,h]
end
theorem eZ{ccs:Array Value}{off n:Nat}(h:off+n<=ccs.size):(xU ccs.toList off n).length=n:=sR (by rw[Array.length_toList];exact h)
theorem zAj:DelW Tryz.prog 34 39 6 Z6 where
 zl:=rfl
 del w b off n c i ccs x l y g h j o:=by
  have p:n*6<=c*6:=Nat.mul_le_mul_right _ h;have hlen:=eZ (ccs:=ccs) (off:=off) (n:=n*6) (by omega);refine(qZz b off c i (i+1) n _ w (oJ x (by omega)) (λt=>qYn x _) hlen y h (by unfold qT at j;omega) (by omega) (by omega) rfl).mono ?_;rintro e w' ⟨rfl,rfl⟩;refine⟨rfl,w.drawn+1,by omega,?_⟩;have hd:((xU ccs.toList off (n*6)).drop ((i+1)*6)).length=(n-(i+1))*6:=by rw[List.length_drop,hlen];omega
  have k:off+(i+(n-(i+1)))*6=off+i*6+((xU ccs.toList off (n*6)).drop ((i+1)*6)).length:=by rw[hd];omega
  rw[k,qXD Tryz.prog (w:=w.drew) (cur:=ccs) (t:=39) x (by rw[hd];show _+6<=_;omega) (λv hv=>y v (List.mem_of_mem_drop hv)) qY0,qCa (by rw[Array.length_toList];omega)];unfold World.segSet uG;rw[qDX (by omega:i*6<=n*6),List.append_assoc (xU _ _ _)];rfl
theorem qZV:InsW Tryz.prog 29 39 6 where
 room w b off n c i F x E ccs p z k P U g M o I u W V:=by
  have hm:(n+1)*6<=c*6:=Nat.mul_le_mul_right _ u
  have hlen:=eZ (ccs:=ccs) (off:=off) (n:=n*6) (by omega)
  have y:=eZ (ccs:=p) (off:=x) (n:=6) g
  have B:c<=9223372036854775807:=by unfold qT at W;omega
  rcases Nat.lt_or_eq_of_le I with J|J
  ·refine(qXx b off n c i F x 1 E _ _ w J (by omega) u B P hlen y (oJ z (by omega)) (λj L=>qGz z (by omega)) (λj=>qYn z _) (oJ k g) M o 39 39 p.size ccs.size (by simp[World.shape?,k]) (by simp[World.shape?,z]) (by omega) (qYn k _) (qYn k _)).mono ?_
   rintro e w' ⟨rfl,rfl⟩
   refine⟨rfl,w.drawn+1,by omega,?_⟩
   have R:off+(i+1)*6=off+i*6+(xU p.toList x 6).length:=by rw[y];omega
   have hd:((xU ccs.toList off (n*6)).drop (i*6)).length=(n-i)*6:=by rw[List.length_drop,hlen];omega
   rw[R,qXC Tryz.prog (w:=w.drew) (cur:=ccs) (t:=39) z (by rw[hd,y];omega) (λv hv=>M v (List.mem_of_mem_drop hv)) o,qCa (by rw[Array.length_toList];omega)]
   unfold World.segSet mS
   rw[qDX (by omega:i*6<=n*6)]
   rfl
  subst J
  refine(qXz b off i c F x 1 E _ w (by omega) u B y (λj L=>qGz z (by omega)) (λj=>qYn z _) (oJ k g) o).mono ?_
  rintro e w' ⟨rfl,rfl⟩
  refine⟨rfl,w.drawn,lR _,?_⟩
  rw[oH Tryz.prog z (by rw[y];omega) o,qCa (by rw[Array.length_toList];omega)]
  unfold World.segSet mS
  rw[List.take_of_length_le (l:=xU ccs.toList off (i*6)) (by omega),List.drop_of_length_le (l:=xU ccs.toList off (i*6)) (by omega),List.append_nil]
  rfl
 grow w b off n c i F x E ccs p z k U g M o I u V:=by
  subst u
  have hlen:=eZ (ccs:=ccs) (off:=off) (n:=n*6) (by omega)
  have y:=eZ (ccs:=p) (off:=x) (n:=6) g
  have C:(n+1)*104<=140737488355328:=by omega
  have N:=grownCap_ge w (n+1) n 39
  have A:=grownCap_le_maxLen w (n+1) n 39 (by unfold maxLen;omega)
  have r:(Builtin.zeroCells (Value.agg ⟨Z6⟩).cells (grownCap w (n+1) n 39-(n+1))).toList.length=(grownCap w (n+1) n 39-(n+1))*6:=by rw[Array.length_toList,wQ];rfl
  rcases Nat.lt_or_eq_of_le I with J|J
  ·refine(qXy b off n n i F x 1 E _ _ w J (by omega) (lR _) (by omega) C hlen y (oJ z (by omega)) (oJ k g) M o).mono ?_
   rintro e w' ⟨rfl,rfl⟩
   refine⟨_,w.drawn+2,_,N,by unfold maxLen at A;unfold qT;omega,r,by omega,rfl,?_⟩
   generalize grownCap w (n+1) n 39=G at *
   have hd:((xU ccs.toList off (n*6)).drop (i*6)).length=(n-i)*6:=by rw[List.length_drop,hlen];omega
   have O:((xU ccs.toList off (n*6)).take (i*6)).length=i*6:=by rw[List.length_take,hlen];omega
   have R:(i+1)*6=i*6+(xU p.toList x 6).length:=by rw[y];omega
   generalize X:((xU ccs.toList off (n*6)).take (i*6)).toArray++Builtin.zeroCells (Value.agg ⟨Z6⟩).cells (n+1-i)++Builtin.zeroCells (Value.agg ⟨Z6⟩).cells (G-(n+1))=q
   have K:q.toList=(xU ccs.toList off (n*6)).take (i*6)++((Builtin.zeroCells (Value.agg ⟨Z6⟩).cells (n+1-i)).toList++(Builtin.zeroCells (Value.agg ⟨Z6⟩).cells (G-(n+1))).toList):=by
    rw[←X];simp
   have H:(Builtin.zeroCells (Value.agg ⟨Z6⟩).cells (n+1-i)).toList.length=(n+1-i)*6:=by rw[Array.length_toList,wQ];rfl
   have Q:q.size=(n+1)*6+(G-(n+1))*6:=by
    rw[←Array.length_toList,K,List.length_append,List.length_append,O,H,r];omega
   rw[qHG,R,qXD Tryz.prog (w:=(w.alloc (.cells q 39)).drew.drew) (cur:=q) (t:=39) (by show(w.heap.push _)[w.heap.size]? = _;simp) (by rw[y,hd,Q];omega) o (λv hv=>M v (List.mem_of_mem_drop hv))]
   have e2:q.toList.take (i*6)=(xU ccs.toList off (n*6)).take (i*6):=by rw[K,List.take_append_of_le_length (by omega),List.take_of_length_le (by omega)]
   have Z:q.toList.drop (i*6+(xU p.toList x 6++(xU ccs.toList off (n*6)).drop (i*6)).length)=(Builtin.zeroCells (Value.agg ⟨Z6⟩).cells (G-(n+1))).toList:=by
    rw[List.length_append,y,hd,K,List.drop_append,List.drop_of_length_le (by rw[O];omega),List.nil_append,O,List.drop_append,List.drop_of_length_le (by rw[H];omega),List.nil_append,H]
    rw[show i*6+(6+(n-i)*6)-i*6-(n+1-i)*6=0 by omega,List.drop_zero]
   rw[e2,Z]
   exact qGG (w:={w with drawn:=w.drawn+2})
  subst J
  refine(qM9 (some ⟨b,off,none⟩) i i F x 1 E (xU ccs.toList off (i*6)) _ w (by omega) (lR _) (by omega) C hlen y (λh=>by cases h) (λa S j v L=>by cases S;rw[Addr.add_lit];exact oJ z (by omega) j v L) (oJ k g) o).mono ?_
  rintro e w' ⟨rfl,rfl⟩
  refine⟨_,w.drawn+1,_,N,by unfold maxLen at A;unfold qT;omega,r,by omega,rfl,?_⟩
  unfold mS
  rw[List.take_of_length_le (by omega),List.drop_of_length_le (by omega),List.append_nil]
  show World.push {w with drawn:=w.drawn+1} _=_
  congr 2
  apply Array.toList_inj.1
  simp
 zero w base F x E p k g o:=by
  have y:=eZ (ccs:=p) (off:=x) (n:=6) g
  have N:=grownCap_ge w (0+1) 0 39
  have A:=grownCap_le_maxLen w (0+1) 0 39 (by unfold maxLen;omega)
  have r:(Builtin.zeroCells (Value.agg ⟨Z6⟩).cells (grownCap w (0+1) 0 39-(0+1))).toList.length=(grownCap w (0+1) 0 39-(0+1))*6:=by rw[Array.length_toList,wQ];rfl
  refine(qM9 base 0 0 F x 1 E [] _ w (by omega) (lR _) (by omega) (by omega) rfl y (λ_=>rfl) (λa S j v L=>by simp at L) (oJ k g) o).mono ?_
  rintro e w' ⟨rfl,rfl⟩
  refine⟨_,w.drawn+1,_,N,by unfold maxLen at A;unfold qT;omega,r,by omega,rfl,?_⟩
  show World.push {w with drawn:=w.drawn+1} _=_
  congr 2
  apply Array.toList_inj.1
  simp
end Go.Proofs.YtminhjecpnpaeaaGreatDoor
