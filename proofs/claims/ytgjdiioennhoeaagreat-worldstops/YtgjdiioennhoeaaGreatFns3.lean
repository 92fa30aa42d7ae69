/-
  The functions, part 3.
-/
import Derived.Test.YtgjdiioennhoeaaGreatFns2
set_option maxRecDepth 20000
set_option maxHeartbeats 4000000
set_option linter.unusedVariables false
namespace Go.Abs.World
open Go Go.Abs Go.Proofs
attribute [local irreducible] U1 B88 AWL
section
open Go.RowKit Go.Lib
noncomputable def cmpR:Go.Shelf.Ren:=⟨fun n=>if n=43 then 253 else 0,fun t=>if t=22 then 48 else if t=23 then 2 else t,fun x=>x⟩
theorem cmp_lay:SlLaysE.n43 Tryz.prog cmpR where
  mixed:=by kernel_rfl
  f43:=⟨Tryz.f253.name,by decide,by kernel_rfl⟩
  t0:=Tryz.underlying0
  a0:=Tryz.isAgg0
  z0:=Tryz.sizeOf0
  v0:=Tryz.zeroValue0
  t3:=Tryz.underlying3
  a3:=Tryz.isAgg3
  z3:=Tryz.sizeOf3
  v3:=Tryz.zeroValue3
  t4:=Tryz.underlying4
  a4:=Tryz.isAgg4
  z4:=Tryz.sizeOf4
  v4:=Tryz.zeroValue4
  t22:=Tryz.underlying48
  a22:=Tryz.isAgg48
  z22:=Tryz.sizeOf48
  v22:=Tryz.zeroValue48
  a23:=Tryz.isAgg2
  z23:=Tryz.sizeOf2
theorem C9a (g cap:Nat)(d:Array Int)(w:World)(hH:Go.Sort.Holds (Value.int .i64) w g 0 d)(hsz:d.size≤9223372036854775807)(hcap:d.size≤cap):
    Calls Tryz.prog 253 #[.slice (some ⟨g,0,none⟩) d.size cap] w fun e w'=>e= .returned (.slice (some ⟨g,0,none⟩) (Go.Lib.compactUpTo d d.size).length cap)∧∃q,w'=Go.Sort.putRow (Value.int .i64) (Go.Sort.ahead w q) g 0 (Go.Lib.compactUpTo d d.size++List.replicate (d.size - (Go.Lib.compactUpTo d d.size).length) 0).toArray:=
  AnyE.slices_Compact cmp_lay (Value.int .i64) (fun _=>rfl) (.intD _ _ _) (.intD _ _ _) 0 Tryz.zeroValue2 g 0 cap d w hH hsz hcap
theorem D2w (d:Array Int):(Go.Lib.compactUpTo d d.size).length≤d.size:=by
  unfold Go.Lib.compactUpTo
  rw [List.length_map]
  refine Nat.le_trans (List.length_filter_le _ _) ?_
  rw [List.length_range];exact Nat.le_refl _
theorem C4b (xs:List Int): ∀m,m≤xs.length→Go.Lib.compactUpTo xs.toArray m=B3d (xs.take m)
  |0,_=>rfl
  |m+1,h=>by
   rw [Go.Lib.compactUpTo_succ,C4b xs m (by omega),List.take_add_one,List.getElem?_eq_getElem (by omega),Option.toList_some,C0d]
   congr 1
   have hm:m<xs.length:=by omega
   have e1:xs.toArray[m]! =xs[m]:=by rw [getElem!_pos xs.toArray m (by simpa using hm)];simp
   rw [Go.Lib.keeps,e1]
   cases m with
   |zero=>simp
   |succ k=>
    have e2:xs.toArray[k]! =xs[k]:=by rw [getElem!_pos xs.toArray k (by rw [List.size_toArray];omega)];simp
    have e3:(xs.take (k+1)).getLast? =some xs[k]:=by rw [List.take_add_one,List.getElem?_eq_getElem (by omega),Option.toList_some,List.getLast?_append];simp
    rw [Nat.add_sub_cancel,e2,e3]
    by_cases e:xs[k+1]=xs[k]
    ·simp [e]
    ·rw [if_pos (by simp [e]),if_neg (fun q=>e (Option.some.inj q).symm)]
theorem D4x (xs r:List Int)(hr:B9m xs=some r):MCall Tryz.prog 253 [.sl (900000,0)] [.arr 2 1 (List.map A4 xs)] (.sl (800000,0)) [none] [some (.arr 2 1 (List.map A4 r))]:=by
  obtain ⟨hx,rfl⟩:=C46 hr
  clear hr
  refine ⟨rfl,fun vs w=> ?_,fun w I ρ vs H hlen hrep=> ?_⟩
  ·have hn': ¬Tryz.f253.name= "runtime.NumGoroutine" :=by decide
   have hb: ∃c,Tryz.f253.body=some c:=⟨_,rfl⟩
   obtain ⟨c,hb⟩:=hb
   simp [callFunc,Tryz.func253,hb,hn']
  have hnx:0<xs.length:=List.length_pos_iff.2 hx
  obtain ⟨a,rfl⟩: ∃a,vs= [a]:=by
    match vs,hlen with
    | [a],_=>exact ⟨a,rfl⟩
  have r0:=hrep 0 _ rfl
  simp only [List.getD_cons_zero]at r0
  have hb0:G (C37 0 [Blk.arr 2 1 (List.map A4 xs)]) (A5z 0)=some (.arr 2 1 (List.map A4 xs)):=rfl
  obtain ⟨x0,cx,p1,p2,p3,p4⟩:=H.blk _ _ hb0
  have e0:a=x0:=by
    cases r0 with
    |sl _ _ h=>exact Option.some.inj (h.symm.trans p1)
  subst e0
  obtain ⟨hxl,hx'|⟨g,c,cur,rfl,_,hg,hnc,hcm,hcs,hxc⟩⟩:=p2
  ·rw [List.length_map]at hx';omega
  rw [List.length_map]at hxl hnc hxc
  have hval: ∀i (hi:i<xs.length),cur[i]? =some (.int .i64 xs[i]):=by
    intro i hi
    obtain ⟨_,g2⟩:=p4 i 0 (.v (.int .i64 xs[i])) (by simp [at2,hi,A4])
    have:cx.getD (i*1+0) undef= .int .i64 xs[i]:=by generalize cx.getD (i*1+0) undef=y at g2;cases g2;rfl
    rw [← hxc,List.getD,List.getElem?_take,if_pos (by omega),Nat.mul_one,Nat.add_zero,Array.getElem?_toList]at this
    rw [Array.getElem?_eq_getElem (by omega)]at this ⊢
    rw [Option.getD_some]at this
    rw [this]
  have hH:Go.Sort.Holds (Value.int .i64) w g 0 xs.toArray:=by
    intro j hj
    rw [List.size_toArray]at hj
    have h2:=hval j hj
    refine ⟨?_,by simp [World.frozen?,hg]⟩
    simp [World.cell?,hg,h2,hj]
  have locx:S4 ρ (A5z 0) (.arr 2 1 (List.map A4 xs))=some g:=by simp [S4,p1,Value.ownBlock]
  have hca:=C9a g c xs.toArray w hH (by rw [List.size_toArray];unfold maxLen at hcm;omega) (by rw [List.size_toArray];exact hnc)
  have hcl:=D2w xs.toArray
  rw [List.size_toArray]at hca hcl
  rw [List.length_map]
  refine hca.mono ?_
  rintro e w' ⟨rfl,q,hw'⟩
  have hheap: ∀k,w'.heap[k]? =if k=g then some (.cells (Go.Sort.putCells (Value.int .i64) 0 (Go.Lib.compactUpTo xs.toArray xs.length++List.replicate (xs.length - (Go.Lib.compactUpTo xs.toArray xs.length).length) 0).toArray cur) 2 (0,0))else w.heap[k]?:=by
    intro k
    rw [hw']
    show (w.heap.modify g _)[k]? =_
    rw [Array.getElem?_modify]
    by_cases e:g=k
    ·subst e;rw [if_pos rfl,if_pos rfl,hg];rfl
    ·rw [if_neg e,if_neg (Ne.symm e)]
  have hos:w'.os=w.os∧w'.tape=w.tape∧w'.output=w.output∧w'.heap.size=w.heap.size:=by rw [hw'];exact ⟨rfl,rfl,rfl,by simp⟩
  clear hw' hca hH
  generalize hC:Go.Lib.compactUpTo xs.toArray xs.length=C at hcl hheap ⊢
  have hCc:B3d xs=C:=by rw [← hC,C4b xs _ (Nat.le_refl _),List.take_length]
  rw [hCc]
  obtain ⟨Z,hZ⟩: ∃Z:Array Int,Z=(C++List.replicate (xs.length - C.length) 0).toArray:=⟨_,rfl⟩
  rw [← hZ]at hheap
  have hZs:Z.size=xs.length:=by rw [hZ];simp;omega
  have hZg: ∀i (hi:i<C.length),Z[i]! =C[i]:=by
    intro i hi
    have hlt:i<Z.size:=by omega
    rw [getElem!_pos Z i hlt]
    subst hZ
    rw [List.getElem_toArray,List.getElem_append_left hi]
  clear hZ hC hCc
  obtain ⟨u0,hu0⟩:=H.fresh
  have hk0:ρ (7,u0)=none:=hu0 7 u0 (Nat.le_refl _)
  have hgI: ¬I g:=H.notI _ _ g hb0 locx
  have hgo:own ρ (G (C37 0 [Blk.arr 2 1 (List.map A4 xs)])) g:=⟨_,_,hb0,locx⟩
  have hother: ∀k,k≠g→w'.heap[k]? =w.heap[k]?:=fun k hk=>by rw [hheap,if_neg hk]
  have hI': ∀b,I b→w'.heap[b]? =w.heap[b]?:=fun b hb=>hother b (fun e=>hgI (e▸hb))
  have H0:HeapOK w' I ρ (fun _=>none):=⟨fun k b hb=>(by cases hb),fun k k' b b' g h1=>(by cases h1),fun k b g h1=>(by cases h1),fun k b g h1=>(by cases h1),fun b hb=>by rw [hos.2.2.2];exact H.ilt b hb,⟨u0,hu0⟩,H.rone⟩
  have hloc: ∀k,S4 (upd ρ (7,u0) (some (Value.slice (some ⟨g,0,none⟩) C.length c))) (7,u0) (.arr 2 1 (List.map A4 C))=some k→k=g:=by
    intro k hk
    have:some g=some k:=by simpa [S4,C5,Value.ownBlock] using hk
    exact (Option.some.inj this).symm
  have hown: ∀g,¬own ρ (fun _=>none) g:=fun g ⟨k,b,h,_⟩=>by cases h
  have hsz:(Go.Sort.putCells (Value.int .i64) 0 Z cur).size=c:=by unfold Go.Sort.putCells;rw [Array.size_mapIdx,hcs,Nat.mul_one]
  have Hn:=C5r H0 (7,u0) (Value.slice (some ⟨g,0,none⟩) C.length c) (.arr 2 1 (List.map A4 C)) hk0 rfl (fun k hk=>by
    rw [hloc k hk]
    exact ⟨hown g,hgI,by rw [hos.2.2.2];exact H.lt _ _ g hb0 locx⟩)
    ⟨_,C.map (Value.int .i64),C5 _ _ _,⟨by simp, .inr ⟨g,c,_,by rw [List.length_map],Nat.zero_le _,by rw [hheap,if_pos rfl],by rw [List.length_map];omega,hcm,by rw [hsz,Nat.mul_one],by
      rw [List.length_map,Nat.mul_one]
      apply List.ext_getElem
      ·have h3:(Go.Sort.putCells (Value.int .i64) 0 Z cur).toList.length=c:=hsz
       rw [List.length_take,h3,List.length_map];omega
      ·intro i h1 h2
       rw [List.length_map]at h2
       rw [List.getElem_take,Array.getElem_toList,List.getElem_map]
       unfold Go.Sort.putCells
       rw [Array.getElem_mapIdx,if_pos ⟨Nat.zero_le _,by omega⟩,Nat.sub_zero,hZg i h2]⟩⟩,by
      intro q hq
      obtain ⟨z,_,rfl⟩:=List.mem_map.1 hq
      rfl,by
      intro r j d' hd'
      unfold at2 at hd'
      rw [List.getElem?_map]at hd'
      cases hr:C[r]? with
      |none=>rw [hr]at hd';cases hd'
      |some z=>
       rw [hr]at hd'
       match j,hd' with
       |0,hd'=>
        cases hd'
        refine ⟨rfl,?_⟩
        rw [Nat.mul_one,Nat.add_zero,List.getD,List.getElem?_map,hr]
        exact .v _
       |j+1,hd'=>simp [A4]at hd'⟩
  refine ⟨_, .sl (7,u0),I,_,_,rfl, .sl _ _ (C5 _ _ _),Hn,⟨hos.1,hos.2.1,hos.2.2.1,by rw [hos.2.2.2];exact Nat.le_refl _,fun b hb hn'=>hother b (fun e=>hn' (e▸hgo)),fun _ hb=>hb,fun _ hb _=> .inl hb,?_,C5q hk0⟩,fun _=>(7,u0),rfl,?_,?_,?_,?_⟩
  ·rintro k ⟨k',b',h1,h2⟩ hl
   by_cases ek:k'=(7,u0)
   ·subst ek
    rw [C5]at h1
    cases h1
    rw [hloc k h2];exact hgo
   ·rw [L8 _ _ _ _ ek]at h1;cases h1
  ·intro j b hb
   match j,hb with
   |0,hb=>cases hb
   |j+1,hb=>simp at hb
  ·intro j b hb
   match j,hb with
   |0,hb=>cases hb;exact C5 _ _ _
   |j+1,hb=>simp at hb
  ·intro j _ i _ e;simp only [A5z,Prod.mk.injEq]at e;omega
  ·intro j j' h1 h2 _
   simp only [List.length_cons,List.length_nil]at h1 h2
   omega
theorem D11 (A:Option Addr)(w:World):Calls Tryz.prog 253 #[.slice A 0 0] w fun e w'=>e= .returned (.slice A 0 0)∧∃q,w'=w.drewN q:=by
  have mixed:=cmp_lay.mixed
  have v0:=Tryz.zeroValue2
  go_enter Tryz.func253,Tryz.ntmps253
  go_wp2
  go_ret
  exact ⟨rfl,0,rfl⟩
theorem D2x:PCall Tryz.prog 253 [.nilS] .nilS:=by
  refine ⟨fun vs w=> ?_,fun w I vs hI hlen hrep=> ?_⟩
  ·have hn': ¬Tryz.f253.name= "runtime.NumGoroutine" :=by decide
   have hb: ∃c,Tryz.f253.body=some c:=⟨_,rfl⟩
   obtain ⟨c,hb⟩:=hb
   simp [callFunc,Tryz.func253,hb,hn']
  obtain ⟨a,rfl⟩: ∃a,vs= [a]:=by
    match vs,hlen with
    | [a],_=>exact ⟨a,rfl⟩
  have r0:=hrep 0 _ rfl
  simp only [List.getD_cons_zero]at r0
  cases r0 with
  |nilS A=>
   refine (D11 A w).mono ?_
   rintro e w' ⟨rfl,q,rfl⟩
   exact ⟨_,I,rfl, .nilS A,rfl,rfl,rfl,Nat.le_refl _,fun _ _=>rfl,fun _ hb=>hb,fun _ hb _=>hb,hI⟩
end
noncomputable def J7 (p1:Int)(x2:Int):Option (Stp Int Unit):=
  ((cond (decide (x2>p1)) ((none:Option Unit)) (some default))).bind fun v1=>cond ((decide (x2>p1))&&false) (none) (some (.out ()))
noncomputable def J8 (p1:Int)(p2:Int)(x1:Int):Option (Stp Int Unit):=
  cond (decide (x1<p2)) ((loop (J7 p1) x1).bind fun _=>some (.go (w64 (x1+1)))) (some (.out (())))
noncomputable def L6 (p1:Int)(p2:Int):Option Unit:=
  loop (J8 p1 p2) (w64 (p1+1))
theorem A4g (p1:Int)(p2:Int)(r:Unit)(h:L6 p1 p2=some r):PCall Tryz.prog 271 [.nilS,(i64 p1),(i64 p2)] (.tup []):=by
 refine C1 (fk Tryz.func271 Tryz.ntmps271 m0 (by with_unfolding_all rfl)) (nl rfl) ?_
 unfold L6 at h
 refine B0 (s0:=⟨T [(0,(.d _)),(1,(.d _)),(2,(.d _))],G []⟩) (sbr rfl rfl) ?_
 refine lr (fun u1 hu1=>sv rfl (sv rfl (sv rfl (A2 (A8 (J4 (J8 p1 p2) (fun (x1:Int) (g1:Unit)=>⟨T [(0,(.d .nilS)),(1,(di p1)),(2,(di p2)),(6,(di x1))],G []⟩) (w64 (p1+1)) () _ h (sbr rfl rfl) ?_))))))
 intro x1 g1 z1 hz1 ez1
 unfold J8 at hz1
 refine A7 (lr (fun u2 hu2=>sv rfl (sv rfl (sv rfl (A2 (cc rfl hz1 (fun c1 hz1=> ?_) (fun c1 hz1=> ?_)))))))
 refine B2 (A7 (A8 (lr (fun u3 hu3=>sv rfl (sv rfl (A2 (bs hz1 fun y1 hy1 hz1=>I5 (fun s=> ∃g2:Unit,Sb ⟨T [(0,(.d .nilS)),(1,(di p1)),(2,(di p2)),(6,(di x1))],G []⟩ s) ?_ ?_)))))))
 refine A8 (J4 (J7 p1) (fun (x2:Int) (g3:Unit)=>⟨T [(0,(.d .nilS)),(1,(di p1)),(2,(di p2)),(6,(di x1)),(7,(di x2))],G []⟩) x1 () _ hy1 (sbr rfl rfl) ?_)
 intro x2 g3 z2 hz2 ez2
 unfold J7 at hz2
 refine A7 (A7 (O4 rfl fun u4 hu4=>sv rfl (sv rfl (sv rfl (sv rfl (gt rfl (fun _=>rfl) (gt rfl (fun _=>rfl) (bs hz2 fun v1 hv1 hz2=>A0o _ (.d (.tup [])) rfl (A1f rfl) (fun w3=>nomatch E2 w3 hv1) (A0o _ (di 0) rfl (A1f rfl) (fun w4=>nomatch E2 w4 hv1) (A0o _ (.d (.tup [])) rfl (A1f rfl) (fun w5=>nomatch E2 w5 hv1) (A0o _ (di 0) rfl (A1f rfl) (fun w6=>nomatch E2 w6 hv1) (A0o _ (di 0) rfl (A1f rfl) (fun w7=>nomatch E2 w7 hv1) (A0o _ (.d (.tup [])) rfl (A1f rfl) (fun w8=>nomatch E2 w8 hv1) (A0o _ (di 0) rfl (A1f rfl) (fun w9=>nomatch E2 w9 hv1) (U3 _ (bo false) (A1f rfl) (fun w10=>nomatch E2 w10 hv1) (sa rfl rfl rfl (A2 (cc rfl hz2 (fun c2 hz2=> ?_) (fun c2 hz2=> ?_)))))))))))))))))))
 refine B2 (A7 (A8 (O4 rfl fun u5 hu5=>sv rfl (sv rfl (sv rfl (sv rfl (sv rfl (sv rfl (sv rfl (sv rfl ?_))))))))))
 cases hz2
 refine E1 rfl ?_
 cases hz2
 obtain rfl:=ez2 _ rfl
 refine ⟨nofun,C9 rfl (l_j ?_)⟩
 exact ⟨(),(sbr rfl rfl)⟩
 rintro _ ⟨g2,q1⟩
 refine M0 (B0 q1 (B8 fun u6 hu6=>sv rfl (sv rfl (sv rfl (A2 (K4 ?_))))))
 cases hz1
 exact ⟨rfl,(),(sbr rfl rfl)⟩
 refine E1 rfl ?_
 cases hz1
 obtain rfl:=ez1 _ rfl
 refine ⟨nofun,C9 rfl (K4 ?_)⟩
 exact A9 (.inl rfl) rfl (.refl _)
noncomputable def N7 (x1:(Int×Int×Int×Bool×Bool)):Option (Stp (Int×Int×Int×Bool×Bool) Unit):=
  cond (decide ((w64 (x1.2.1 - x1.1))≤12)) ((L6 x1.1 x1.2.1).bind fun v1=>some (.out (()))) (cond (x1.2.2.1==0) (none) ((cond (!x1.2.2.2.1) (none) (some ())).bind fun _=>none))
noncomputable def Q1 (p1:Int)(p2:Int)(p3:Int):Option Unit:=
  loop (N7) (p1,p2,p3,true,true)
theorem A6x (p1:Int)(p2:Int)(p3:Int)(r:Unit)(h:Q1 p1 p2 p3=some r):PCall Tryz.prog 266 [.nilS,(i64 p1),(i64 p2),(i64 p3)] (.tup []):=by
 refine C1 (fk Tryz.func266 Tryz.ntmps266 m0 (by with_unfolding_all rfl)) (nl rfl) ?_
 unfold Q1 at h
 refine B0 (s0:=⟨T [(0,(.d _)),(1,(.d _)),(2,(.d _)),(3,(.d _))],G []⟩) (sbr rfl rfl) ?_
 refine lr (fun u1 hu1=>sv rfl (A2 (lr (fun u2 hu2=>sv rfl (A2 (A8 (J4 (N7) (fun (x1:(Int×Int×Int×Bool×Bool)) (g1:Unit)=>⟨T [(0,(.d .nilS)),(1,(di x1.1)),(2,(di x1.2.1)),(3,(di x1.2.2.1)),(8,(.d (bo x1.2.2.2.1))),(9,(.d (bo x1.2.2.2.2)))],G []⟩) (p1,p2,p3,true,true) () _ h (sbr rfl rfl) ?_)))))))
 intro x1 g1 z1 hz1 ez1
 unfold N7 at hz1
 refine A8 (lr (fun u3 hu3=>sv rfl (sv rfl (sv rfl (sv rfl (A2 (A7 (lr (fun u4 hu4=>sv rfl (sv rfl (A2 (cc rfl hz1 (fun c1 hz1=> ?_) (fun c1 hz1=> ?_)))))))))))))
 refine lr (fun u5 hu5=>sv rfl (sv rfl (sv rfl (bs hz1 fun v1 hv1 hz1=>B3 rfl rfl A3 (A4g _ _ _ hv1) (.inl rfl) (A2 (B4 ?_))))))
 cases hz1
 obtain rfl:=ez1 _ rfl
 refine ⟨nofun,I4 ?_⟩
 exact A9 (.inr rfl) rfl (.refl _)
 refine B2 (A7 (lr (fun u6 hu6=>sv rfl (sv rfl (A2 (cc rfl hz1 (fun c2 hz1=> ?_) (fun c2 hz1=> ?_)))))))
 refine lr (fun u7 hu7=>sv rfl (sv rfl (sv rfl ?_)))
 cases hz1
 refine B2 (A7 (lr (fun u8 hu8=>sv rfl (D8 (.d (bo (!x1.2.2.2.1))) rfl rfl (A2 (bs hz1 fun y1 hy1 hz1=>I5 (fun s=> ∃g2:Unit,Sb ⟨T [(0,(.d .nilS)),(1,(di x1.1)),(2,(di x1.2.1)),(3,(di x1.2.2.1)),(8,(.d (bo x1.2.2.2.1))),(9,(.d (bo x1.2.2.2.2))),(10,(di (w64 (x1.2.1 - x1.1))))],G []⟩ s) ?_ ?_))))))
 refine cc rfl hy1 (fun c3 hy1=> ?_) (fun c3 hy1=> ?_)
 refine lr (fun u9 hu9=>sv rfl (sv rfl (sv rfl ?_)))
 cases hy1
 refine B2 ?_
 cases hy1
 exact l_j ⟨(),(sbr rfl rfl)⟩
 rintro _ ⟨g2,q1⟩
 refine B0 q1 (lr (fun u10 hu10=>sv rfl (sv rfl (sv rfl ?_))))
 cases hz1
noncomputable def T1:Option Unit:=
  (A4e (IntKind.wrap .u64 0)).bind fun v1=>(Q1 0 0 v1).bind fun v2=>some ()
theorem A8r (r:Unit)(h:T1=some r):PCall Tryz.prog 252 [.nilS] (.tup []):=by
 refine C1 (fk Tryz.func252 Tryz.ntmps252 m0 (by with_unfolding_all rfl)) (nl rfl) ?_
 unfold T1 at h
 refine B0 (s0:=⟨T [(0,(.d _))],G []⟩) (sbr rfl rfl) ?_
 refine lr (fun u1 hu1=>sv rfl (sv rfl (sv rfl (A2 (B8 fun u2 hu2=>sv rfl (sv rfl (sv rfl (sv rfl (bs h fun v1 hv1 h=>B3 rfl rfl A3 (B3f _ _ hv1) (.inl rfl) (bs h fun v2 hv2 h=>B3 rfl rfl A3 (A6x _ _ _ _ hv2) (.inl rfl) (A2 (K4 ?_))))))))))))
 cases h
 exact A9 (.inl rfl) rfl (.refl _)
noncomputable def A7x (p1:Map)(p2:Int)(p3:Int)(v1:Zone)(x2:((List Int)×Int)):Option (Stp ((List Int)×Int) (List Int)):=
  cond (decide (x2.2< (v1.Parts.length:Int))) ((G8 v1.Parts x2.2).bind fun v2=>((cond (v2.Lane_==p2) (G8 p1.Signals (w64 (v1.Signal_ - 1))) (some default))).bind fun v3=>((cond (v2.Lane_==p2) (A7a v3 p2 p3) (some default))).bind fun v4=>cond ((v2.Lane_==p2)&& (!v4)) ((B2d x2.1 [v2.From]).bind fun v5=>some (.go (v5,(w64 (x2.2+1))))) (some (.go (x2.1,(w64 (x2.2+1)))))) (some (.out x2.1))
noncomputable def A7y (p1:Map)(p2:Int)(p3:Int)(x1:((List Int)×Int)):Option (Stp ((List Int)×Int) (List Int)):=
  cond (decide (x1.2< (p1.Zones.length:Int))) ((G8 p1.Zones x1.2).bind fun v1=>cond (v1.Signal_==0) (some (.go (x1.1,(w64 (x1.2+1))))) ((loop (A7x p1 p2 p3 v1) (x1.1,0)).bind fun y2=>some (.go (y2,(w64 (x1.2+1)))))) (some (.out x1.1))
noncomputable def B44 (p1:Map)(p2:Int)(p3:Int):Option (List Int):=
  (loop (A7y p1 p2 p3) ([],0)).bind fun y1=>cond (List.isEmpty y1) ((T1).bind fun v8=>some []) ((T0 y1).bind fun v6=>(B9m v6).bind fun v7=>some v7)
theorem C4c (p1:Map)(p2:Int)(p3:Int)(r:(List Int))(h:B44 p1 p2 p3=some r):PCall Tryz.prog 223 [(.agg (A7h p1)),(i64 p2),(i64 p3)] (.list (List.map A4 r)):=by
 refine C1 (fk Tryz.func223 Tryz.ntmps223 (fun r=>if r==10 then [1003]else if r==13 then [1013001]else if r==14 then [1014001]else []) (by with_unfolding_all rfl)) (nl rfl) ?_
 unfold B44 at h
 refine B0 (s0:=⟨T [(0,(.d _)),(1,(.d _)),(2,(.d _))],G []⟩) (sbr rfl rfl) ?_
 refine lr (fun u1 hu1=>sn rfl rfl (sv rfl (A2 (lr (fun u2 hu2=>sv rfl (A2 (A7 (lr (fun u3 hu3=>sp rfl rfl (sl rfl G_hit rfl (sd rfl (N1 rfl) (sv rfl (A2 (bs h fun y1 hy1 h=>I5 (fun s=> ∃g1:Nat,Sb ⟨T [(7,(oS y1 (50,g1)))],G [((50,g1),oB 2 1 A4 y1)]⟩ s) ?_ ?_))))))))))))))
 refine A8 (J4 (A7y p1 p2 p3) (fun (x1:((List Int)×Int)) (g2:Nat)=>⟨T [(1,(di p2)),(2,(di p3)),(3,(.ptr (3,u1) 0)),(7,(oS x1.1 (50,g2))),(13,(dl A8n p1.Zones)),(14,(di (p1.Zones.length:Int))),(15,(di x1.2))],G [((3,u1),some (.box 33 (Y2 p1))),((50,g2),oB 2 1 A4 x1.1)]⟩) ([],0) 0 _ hy1 (F7 ⟨.of rfl, .of rfl, .of rfl, .of rfl, .of rfl, .of rfl, .of rfl,trivial⟩ (A5 G_hit (.of rfl) (A73 trivial))) ?_)
 intro x1 g2 z1 hz1 ez1
 unfold A7y at hz1
 refine lr (fun u4 hu4=>sv rfl (A2 (A7 (cc rfl hz1 (fun c1 hz1=> ?_) (fun c1 hz1=> ?_)))))
 refine B2 (A7 (A8 (lr (fun u5 hu5=>bs hz1 fun v1 hv1 hz1=>sd rfl (L4 rfl rfl hv1 rfl) (sd rfl (F0 rfl hv1 rfl rfl) (sn rfl rfl (sst rfl G_hit [(dl A74 v1.Parts),(di v1.Signal_)] rfl (A2 (A7 (lr (fun u6 hu6=>sp rfl rfl (sl rfl G_hit rfl (sv rfl (A2 (cc rfl hz1 (fun c2 hz1=> ?_) (fun c2 hz1=> ?_))))))))))))))))
 refine C05 rfl (B8 fun u7 hu7=>sv rfl (sv rfl (A2 (K4 ?_))))
 cases hz1
 exact ⟨rfl,g2,(F7 ⟨.of rfl, .of rfl, .of rfl, .of rfl, .of rfl, .of rfl, .of rfl,trivial⟩ (sg rfl (B1 (gq rfl) trivial)))⟩
 refine B2 (lr (fun u8 hu8=>sp rfl rfl (sl rfl G_hit rfl (sd rfl (N1 rfl) (sv rfl (A2 (bs hz1 fun y2 hy2 hz1=>I5 (fun s=> ∃g3:Nat,Sb ⟨T [(1,(di p2)),(2,(di p3)),(3,(.ptr (3,u1) 0)),(7,(oS y2 (50,g3))),(13,(dl A8n p1.Zones)),(14,(di (p1.Zones.length:Int))),(15,(di x1.2))],G [((3,u1),some (.box 33 (Y2 p1))),((50,g3),oB 2 1 A4 y2)]⟩ s) ?_ ?_)))))))
 refine A8 (J4 (A7x p1 p2 p3 v1) (fun (x2:((List Int)×Int)) (g4:Nat)=>⟨T [(1,(di p2)),(2,(di p3)),(3,(.ptr (3,u1) 0)),(7,(oS x2.1 (50,g4))),(9,(.ptr (9,u5) 0)),(13,(dl A8n p1.Zones)),(14,(di (p1.Zones.length:Int))),(15,(di x1.2)),(23,(dl A74 v1.Parts)),(24,(di (v1.Parts.length:Int))),(25,(di x2.2))],G [((3,u1),some (.box 33 (Y2 p1))),((9,u5),some (.box 117 [(dl A74 v1.Parts),(di v1.Signal_)])),((50,g4),oB 2 1 A4 x2.1)]⟩) (x1.1,0) g2 _ hy2 (F7 ⟨.of rfl, .of rfl, .of rfl, .of rfl, .of rfl, .of rfl, .of rfl, .of rfl, .of rfl, .of rfl, .of rfl,trivial⟩ (sg rfl (A5 G_hit (.of rfl) (B1 (gq rfl) trivial)))) ?_)
 intro x2 g4 z2 hz2 ez2
 unfold A7x at hz2
 refine lr (fun u9 hu9=>sv rfl (A2 (A7 (cc rfl hz2 (fun c3 hz2=> ?_) (fun c3 hz2=> ?_)))))
 refine B2 (A7 (A8 (lr (fun u10 hu10=>bs hz2 fun v2 hv2 hz2=>sd rfl (L4 rfl rfl hv2 rfl) (sd rfl (F0 rfl hv2 rfl rfl) (sn rfl rfl (sst rfl G_hit (C48 v2) rfl (A2 (lr (fun u11 hu11=>sp rfl rfl (sl rfl G_hit rfl (sv rfl (sv rfl (sv rfl (gp rfl (A1f rfl) (fun _=>rfl) (gt rfl (vl rfl (gq rfl) rfl) (gp rfl (A1f rfl) (fun _=>rfl) (gt rfl (vl rfl (gq rfl) rfl) (gt rfl (vb rfl rfl rfl) (bs hz2 fun v3 hv3 hz2=>gt rfl (fun w6=>(L4 (A6 w6) (A6 w6) (E2 w6 hv3) rfl)) (gt rfl (fun w7=>(F0 (A6 w7) (E2 w7 hv3) rfl rfl)) (gt rfl (fun _=>rfl) (gt rfl (fun _=>rfl) (bs hz2 fun v4 hv4 hz2=> ?_))))))))))))))))))))))))
 refine U3 _ (bo v4) (A1f rfl) (fun w10=>⟨_,[(.d (.agg [(i64 v3.Offset),(.list (List.map A9f v3.Phases))])),(di p2),(di p3)],_,_,(by simp only [A6 w10];rfl),rfl,A3,B57 _ _ _ _ (E2 w10 hv4),(.inl rfl)⟩) ?_
 refine A0o _ (.d (bo (!v4))) rfl (A1f rfl) (fun w11=>(by simp only [A6 w11];rfl)) ?_
 refine sa rfl rfl rfl (A2 (cc rfl hz2 (fun c4 hz2=> ?_) (fun c4 hz2=> ?_)))
 refine B0 (s0:=⟨T [(1,(di p2)),(2,(di p3)),(3,(.ptr (3,u1) 0)),(7,(oS x2.1 (50,g4))),(9,(.ptr (9,u5) 0)),(11,(.ptr (11,u10) 0)),(13,(dl A8n p1.Zones)),(14,(di (p1.Zones.length:Int))),(15,(di x1.2)),(23,(dl A74 v1.Parts)),(24,(di (v1.Parts.length:Int))),(25,(di x2.2))],G [((3,u1),some (.box 33 (Y2 p1))),((50,g4),oB 2 1 A4 x2.1),((9,u5),some (.box 117 [(dl A74 v1.Parts),(di v1.Signal_)])),((11,u10),some (.box 114 (C48 v2)))]⟩) (F7 ⟨.of rfl, .of rfl, .of rfl, .of rfl, .of rfl, .of rfl, .of rfl, .of rfl, .of rfl, .of rfl, .of rfl, .of rfl,trivial⟩ (sg rfl (B1 (gq rfl) (sg rfl (A5 G_hit (.of rfl) trivial))))) ?_
 refine B8 fun u12 hu12=>D8 (oS x2.1 (50,g4)) rfl rfl (sp rfl rfl (sl rfl (gq rfl) rfl (D8 (dl A4 [v2.From]) rfl rfl (bs hz2 fun v5 hv5 hz2=>A13 A4 (50,g4) x2.1 v2.From [] _ (T7 (fun _=>rfl)) rfl (gq rfl) hv5 (ss rfl (A2 (M0 (B0 (s0:=⟨T [(1,(.d _)),(2,(.d _)),(3,(.ptr _ _)),(7,(.sl _)),(9,(.ptr _ _)),(13,(.d _)),(14,(.d _)),(15,(.d _)),(23,(.d _)),(24,(.d _)),(25,(.d _))],G [((3,u1),some (.box 33 _)),((50,u12),some _),((9,u5),some (.box 117 _))]⟩) (sbr rfl rfl) ?_))))))))
 refine B8 fun u13 hu13=>sv rfl (sv rfl (A2 (K4 ?_)))
 cases hz2
 exact ⟨rfl,u12,(F7 ⟨.of rfl, .of rfl, .of rfl,(.of (B2i (A4p hv5)).symm), .of rfl, .of rfl, .of rfl, .of rfl, .of rfl, .of rfl, .of rfl,trivial⟩ (A5 G_hit (.of rfl) (sg rfl (A5f (gq rfl) trivial))))⟩
 refine B2 (M0 (B0 (s0:=⟨T [(1,(di p2)),(2,(di p3)),(3,(.ptr (3,u1) 0)),(7,(oS x2.1 (50,g4))),(9,(.ptr (9,u5) 0)),(13,(dl A8n p1.Zones)),(14,(di (p1.Zones.length:Int))),(15,(di x1.2)),(23,(dl A74 v1.Parts)),(24,(di (v1.Parts.length:Int))),(25,(di x2.2))],G [((3,u1),some (.box 33 (Y2 p1))),((50,g4),oB 2 1 A4 x2.1),((9,u5),some (.box 117 [(dl A74 v1.Parts),(di v1.Signal_)]))]⟩) (F7 ⟨.of rfl, .of rfl, .of rfl, .of rfl, .of rfl, .of rfl, .of rfl, .of rfl, .of rfl, .of rfl, .of rfl,trivial⟩ (sg rfl (B1 (gq rfl) (sg rfl trivial)))) ?_))
 refine B8 fun u14 hu14=>sv rfl (sv rfl (A2 (K4 ?_)))
 cases hz2
 exact ⟨rfl,g4,(F7 ⟨.of rfl, .of rfl, .of rfl, .of rfl, .of rfl, .of rfl, .of rfl, .of rfl, .of rfl, .of rfl, .of rfl,trivial⟩ (A5 G_hit (.of rfl) (sg rfl (B1 (gq rfl) trivial))))⟩
 refine E1 rfl ?_
 cases hz2
 obtain rfl:=ez2 _ rfl
 refine ⟨nofun,C9 rfl (l_j ?_)⟩
 exact ⟨g4,(F7 ⟨.of rfl, .of rfl, .of rfl, .of rfl, .of rfl, .of rfl, .of rfl,trivial⟩ (A5 G_hit (.of rfl) (B1 (gq rfl) trivial)))⟩
 rintro _ ⟨g3,q1⟩
 refine M0 (B0 q1 (B8 fun u15 hu15=>sv rfl (sv rfl (A2 (K4 ?_)))))
 cases hz1
 exact ⟨rfl,g3,(F7 ⟨.of rfl, .of rfl, .of rfl, .of rfl, .of rfl, .of rfl, .of rfl,trivial⟩ (A5 G_hit (.of rfl) (B1 (gq rfl) trivial)))⟩
 refine E1 rfl ?_
 cases hz1
 obtain rfl:=ez1 _ rfl
 refine ⟨nofun,C9 rfl (l_j ?_)⟩
 exact ⟨g2,(F7 ⟨.of rfl,trivial⟩ (B1 (gq rfl) trivial))⟩
 rintro _ ⟨g1,q2⟩
 refine B0 q2 (A7 ?_)
 rcases C45 h with ⟨e1,h⟩|⟨e1,h⟩
 refine B0 (s0:=⟨T [(7,(.d .nilS))],G []⟩) (F7 ⟨.of (D1l e1),trivial⟩ trivial) ?_
 refine B8 fun u19 hu19=>sv rfl (bs h fun v8 hv8 h=>C7n (v:= .d (.tup [])) (us:= []) (D4n [] _ rfl rfl A3 (A8r _ hv8) rfl rfl) (A2 (lr (fun u20 hu20=>sv rfl (C7n (v:= .d .nilS) (us:= []) (D4n [] _ rfl rfl A3 D2x rfl rfl) (sv rfl (A2 (B4 ?_))))))))
 cases h
 exact A9 (.inr rfl) (B7 (B6 rfl) I8) DLe.nil
 refine B0 (s0:=⟨T [(7,(.sl (50,g1)))],G [((50,g1),some (.arr 2 1 (List.map A4 y1)))]⟩) (F7 ⟨.of (B2i e1),trivial⟩ (A5 (B7h G_hit e1) (.of rfl) trivial)) ?_
 refine B8 fun u17 hu17=>ss rfl (bs h fun v6 hv6 h=>C7n (v:= .d (.tup [])) (us:= [(50,g1)]) (C9h (A8q _ _ hv6) [(50,g1)] [(50,g1)] _ (((50,g1),some (.arr 2 1 (List.map A4 v6)))::_) rfl A9e (A06 C3z B6f) (A61 G_hit A60) ⟨⟨_,G_hit, .of rfl⟩,trivial⟩ (fun _ h=>h) nd1 rfl rfl rfl) (A2 (lr (fun u18 hu18=>ss rfl (bs h fun v7 hv7 h=>C7n (v:= .sl (10140010,u18)) (us:= [(50,g1),(10140010,u18)]) (C9h (D4x _ _ hv7) [(50,g1)] [(50,g1)] _ (((10140010,u18),some (.arr 2 1 (List.map A4 v7)))::((50,g1),none)::_) rfl A9e (A06 C3z B6f) (A61 G_hit A60) ⟨⟨_,G_hit, .of rfl⟩,trivial⟩ (fun _ h=>h) nd1 rfl rfl rfl) (ss rfl (A2 (B4 ?_))))))))
 cases h
 exact A9 (.inr rfl) (B7 (B6 rfl) (C8j G_hit)) (.refl _)
noncomputable def B45 (p1:Map)(p2:Int)(p3:Int):Option (List Int):=
  ((cond (!(decide (p3<0))) (B2n p1 p2) (some default))).bind fun v1=>cond ((decide (p3<0))||(!v1)) (some []) ((B44 p1 p2 p3).bind fun v2=>some v2)
theorem C4d (p1:Map)(p2:Int)(p3:Int)(r:(List Int))(h:B45 p1 p2 p3=some r):PCall Tryz.prog 180 [(.agg (A7h p1)),(i64 p2),(i64 p3)] (.list (List.map A4 r)):=by
 refine C1 (fk Tryz.func180 Tryz.ntmps180 m0 (by with_unfolding_all rfl)) (nl rfl) ?_
 unfold B45 at h
 refine B0 (s0:=⟨T [(0,(.d _)),(1,(.d _)),(2,(.d _))],G []⟩) (sbr rfl rfl) ?_
 refine lr (fun u1 hu1=>sn rfl rfl (sv rfl (A2 (A7 (lr (fun u2 hu2=>sv rfl (sv rfl (sv rfl (gf rfl (fun w1=>(B5 rfl G_hit rfl rfl)) (gf rfl (fun _=>rfl) (bs h fun v1 hv1 h=> ?_)))))))))))
 refine U3 _ (bo v1) (A4b rfl) (fun w3=>⟨_,[(.d (.agg (A7h p1))),(di p2)],_,_,(by simp only [A6 w3];rfl),rfl,A3,B5n _ _ _ (E2 w3 hv1),(.inl rfl)⟩) ?_
 refine A0o _ (.d (bo (!v1))) rfl (A4b rfl) (fun w4=>(by simp only [A6 w4];rfl)) ?_
 refine sd rfl (A8i rfl rfl (fun hc=>A6 (Y1 hc))) (A2 (cc rfl h (fun c1 h=> ?_) (fun c1 h=> ?_)))
 refine lr (fun u3 hu3=>sv rfl (A2 (B4 ?_)))
 cases h
 exact A9 (.inr rfl) (B7 (B6 rfl) I8) DLe.nil
 refine B2 (lr (fun u4 hu4=>sd rfl (B5 rfl G_hit rfl rfl) (sv rfl (sv rfl (bs h fun v2 hv2 h=>B3 rfl rfl A3 (C4c _ _ _ _ hv2) (.inl rfl) (sv rfl (A2 (B4 ?_))))))))
 cases h
 exact A9 (.inr rfl) (B7 (B6 rfl) I8) (.refl _)
noncomputable def A0z (p1:Int)(p2:Agent)(p3:Int):Option Int:=
  some (mm2 true 0 (mm2 false (w64 (p2.V+p1)) p3))
theorem A9t (p1:Int)(p2:Agent)(p3:Int)(r:Int)(h:A0z p1 p2 p3=some r):PCall Tryz.prog 179 [(i64 p1),(.bp (C0 p2) 0),(.bp [(i64 p3)] 0)] (i64 r):=by
 refine C1 (fk Tryz.func179 Tryz.ntmps179 m0 (by with_unfolding_all rfl)) (nl rfl) ?_
 unfold A0z at h
 refine B0 (s0:=⟨T [(0,(.d _)),(1,(.d _)),(2,(.d _))],G []⟩) (sbr rfl rfl) ?_
 refine lr (fun u1 hu1=>sv rfl (A2 (lr (fun u2 hu2=>sv rfl (sv rfl (sv rfl (sv rfl (sv rfl (sv rfl (sv rfl (sv rfl (A2 (B4 ?_)))))))))))))
 cases h
 exact A9 (.inr rfl) (B7 (B6 rfl) I8) (.refl _)
noncomputable def W4 (p1:Int)(p2:Int)(p3:Int)(p4:Int)(p5:Int):Option Bool:=
  ((cond (decide (p1>p2)) (V3 p3 p4) (some default))).bind fun v1=>((cond ((decide (p1>p2))&& (decide ((w64 (p2+v1))<p1))) (V3 p5 p4) (some default))).bind fun v2=>some (((decide (p1>p2))&& (decide ((w64 (p2+v1))<p1)))&& (decide ((w64 ((w64 (p2+p5))+v2))≥p1)))
theorem B23 (p1:Int)(p2:Int)(p3:Int)(p4:Int)(p5:Int)(r:Bool)(h:W4 p1 p2 p3 p4 p5=some r):PCall Tryz.prog 225 [(i64 p1),(.bp [(i64 p2)] 0),(.bp [(i64 p3)] 0),(.bp [(i64 p4)] 0),(.bp [(i64 p5)] 0)] (bo r):=by
 refine C1 (fk Tryz.func225 Tryz.ntmps225 m0 (by with_unfolding_all rfl)) (nl rfl) ?_
 unfold W4 at h
 refine B0 (s0:=⟨T [(0,(.d _)),(1,(.d _)),(2,(.d _)),(3,(.d _)),(4,(.d _))],G []⟩) (sbr rfl rfl) ?_
 refine lr (fun u1 hu1=>sv rfl (A2 (A7 (O4 rfl fun u2 hu2=>sv rfl (sv rfl (sv rfl (sv rfl (gt rfl (fun _=>rfl) (gt rfl (fun _=>rfl) (gt rfl (fun _=>rfl) (bs h fun v1 hv1 h=> ?_)))))))))))
 refine U3 _ (i64 v1) (A1f rfl) (fun w4=>⟨_,[(di p3),(di p4)],_,_,(by simp only [A6 w4];rfl),rfl,A3,Z1 _ _ _ (E2 w4 hv1),(.inl rfl)⟩) ?_
 refine gt rfl (fun w5=>(A1p (A6 w5) (A6 w5) rfl)) (gt rfl (fun _=>rfl) (gt rfl (fun w7=>(A1p (A6 w7) (A6 w7) rfl)) (sa rfl rfl rfl (sv rfl (gt rfl (fun _=>rfl) (gt rfl (fun _=>rfl) (gt rfl (fun w10=>(A1p (A6 w10) (A6 w10) rfl)) (gt rfl (fun _=>rfl) (gt rfl (fun _=>rfl) (bs h fun v2 hv2 h=> ?_))))))))))
 refine U3 _ (i64 v2) (A1f rfl) (fun w13=>⟨_,[(di p5),(di p4)],_,_,(by simp only [A6 w13];rfl),rfl,A3,Z1 _ _ _ (E2 w13 hv2),(.inl rfl)⟩) ?_
 refine gt rfl (fun w14=>(A1p (A6 w14) (A6 w14) rfl)) (gt rfl (fun _=>rfl) (gt rfl (fun w16=>(A1p (A6 w16) (A6 w16) rfl)) (sa rfl rfl rfl (sv rfl (A2 (B4 ?_))))))
 cases h
 exact A9 (.inr rfl) (B7 (B6 rfl) I8) (.refl _)
noncomputable def E6 (p1:(List Int))(p2:Int)(p3:Int)(p4:Int)(p5:Int)(x1:Int):Option (Stp Int (Sum Unit Int)):=
  cond (decide (x1< (p1.length:Int))) ((G8 p1 x1).bind fun v1=>(W4 v1 p2 p3 p4 p5).bind fun v2=>cond v2 (some (.out (.inr x1))) (some (.go (w64 (x1+1))))) (some (.out (.inl ())))
noncomputable def F6 (p1:(List Int))(p2:Int)(p3:Int)(p4:Int)(p5:Int):Option Int:=
  thenS (loop (E6 p1 p2 p3 p4 p5) 0) (fun _=>some (-1)) (fun r=>some r)
theorem A0r (p1:(List Int))(p2:Int)(p3:Int)(p4:Int)(p5:Int)(r:Int)(h:F6 p1 p2 p3 p4 p5=some r):PCall Tryz.prog 254 [(.list (List.map A4 p1)),(.fn (.func 225) [] [(.bp [(i64 p2)] 0),(.bp [(i64 p3)] 0),(.bp [(i64 p4)] 0),(.bp [(i64 p5)] 0)])] (i64 r):=by
 refine C1 (fk Tryz.func254 Tryz.ntmps254 m0 (by with_unfolding_all rfl)) (nl rfl) ?_
 unfold F6 at h
 refine B0 (s0:=⟨T [(0,(.d _)),(1,(.d _))],G []⟩) (sbr rfl rfl) ?_
 refine lr (fun u1 hu1=>sv rfl (A2 (A7 (lr (fun u2 hu2=>sv rfl (sd rfl (N1 rfl) (sv rfl (A2 (js h fun z1 hz1 h=>I5 (fun s=> ∃(y1:Unit) (g1:Unit),z1= .inl y1∧Sb ⟨T [],G []⟩ s) ?_ ?_)))))))))
 refine A8 (J4 (E6 p1 p2 p3 p4 p5) (fun (x1:Int) (g2:Unit)=>⟨T [(0,(dl A4 p1)),(1,(.d (.fn (.func 225) [] [(.bp [(i64 p2)] 0),(.bp [(i64 p3)] 0),(.bp [(i64 p4)] 0),(.bp [(i64 p5)] 0)]))),(7,(di (p1.length:Int))),(8,(di x1))],G []⟩) 0 () _ hz1 (sbr rfl rfl) ?_)
 intro x1 g2 z2 hz2 ez2
 unfold E6 at hz2
 refine lr (fun u3 hu3=>sv rfl (A2 (A7 (cc rfl hz2 (fun c1 hz2=> ?_) (fun c1 hz2=> ?_)))))
 refine B2 (A7 (A8 (lr (fun u4 hu4=>sv rfl (sv rfl (A2 (lr (fun u5 hu5=>sv rfl (sv rfl (sv rfl (bs hz2 fun v1 hv1 hz2=>sd rfl (L4 rfl rfl hv1 rfl) (sd rfl (N2 rfl hv1 rfl) (bs hz2 fun v2 hv2 hz2=>B3 rfl rfl A3 (B23 _ _ _ _ _ _ hv2) (.inl rfl) (A2 (cc rfl hz2 (fun c2 hz2=> ?_) (fun c2 hz2=> ?_))))))))))))))))
 refine lr (fun u6 hu6=>sv rfl (sv rfl (A2 (B4 ?_))))
 cases hz2
 obtain rfl:=ez2 _ rfl
 refine ⟨nofun,I4 ?_⟩
 rw [Sum.elim_inr]at h
 cases h
 exact A9 (.inr rfl) (B7 (B6 rfl) I8) (.refl _)
 refine B2 (M0 (B8 fun u7 hu7=>sv rfl (sv rfl (A2 (K4 ?_)))))
 cases hz2
 exact ⟨rfl,(),(sbr rfl rfl)⟩
 refine E1 rfl ?_
 cases hz2
 obtain rfl:=ez2 _ rfl
 refine ⟨nofun,C9 rfl (l_j ?_)⟩
 exact ⟨_,(),rfl,(sbr rfl rfl)⟩
 rintro _ ⟨y1,g1,rfl,q1⟩
 rw [Sum.elim_inl]at h
 refine B0 q1 (lr (fun u8 hu8=>sv rfl (A2 (B4 ?_))))
 cases h
 exact A9 (.inr rfl) (B7 (B6 rfl) I8) (.refl _)
noncomputable def E7 (p1:(List Int))(p2:Int)(p3:Int)(p4:Int)(p5:Int):Option Bool:=
  (F6 p1 p2 p3 p4 p5).bind fun v1=>some (decide (v1≥0))
theorem Z9 (p1:(List Int))(p2:Int)(p3:Int)(p4:Int)(p5:Int)(r:Bool)(h:E7 p1 p2 p3 p4 p5=some r):PCall Tryz.prog 224 [(.list (List.map A4 p1)),(.fn (.func 225) [] [(.bp [(i64 p2)] 0),(.bp [(i64 p3)] 0),(.bp [(i64 p4)] 0),(.bp [(i64 p5)] 0)])] (bo r):=by
 refine C1 (fk Tryz.func224 Tryz.ntmps224 m0 (by with_unfolding_all rfl)) (nl rfl) ?_
 unfold E7 at h
 refine B0 (s0:=⟨T [(0,(.d _)),(1,(.d _))],G []⟩) (sbr rfl rfl) ?_
 refine lr (fun u1 hu1=>sv rfl (A2 (lr (fun u2 hu2=>sv rfl (sv rfl (bs h fun v1 hv1 h=>B3 rfl rfl A3 (A0r _ _ _ _ _ _ hv1) (.inl rfl) (sv rfl (sv rfl (A2 (B4 ?_))))))))))
 cases h
 exact A9 (.inr rfl) (B7 (B6 rfl) I8) (.refl _)
noncomputable def A9u (p1:(List Int))(p2:Int)(p3:Int)(p4:Int)(p5:Int):Option Bool:=
  (E7 p1 p2 p3 p5 p4).bind fun v1=>some (!v1)
theorem C18 (p1:(List Int))(p2:Int)(p3:Int)(p4:Int)(p5:Int)(r:Bool)(h:A9u p1 p2 p3 p4 p5=some r):PCall Tryz.prog 181 [(.list (List.map A4 p1)),(i64 p2),(i64 p3),(i64 p4),(i64 p5)] (bo r):=by
 refine C1 (fk Tryz.func181 Tryz.ntmps181 m0 (by with_unfolding_all rfl)) (nl rfl) ?_
 unfold A9u at h
 refine B0 (s0:=⟨T [(0,(.d _)),(1,(.d _)),(2,(.d _)),(3,(.d _)),(4,(.d _))],G []⟩) (sbr rfl rfl) ?_
 refine lr (fun u1 hu1=>sn rfl rfl (sn rfl rfl (sn rfl rfl (sn rfl rfl (sv rfl (A2 (lr (fun u2 hu2=>sv rfl (D8 (.fn _ _ _) rfl rfl (bs h fun v1 hv1 h=>B3 rfl (rD (C2 (C13 D3 (C2 (A22 (gq rfl) (rD D3)) (C2 (A22 (gq rfl) (rD D3)) (C2 (A22 G_hit (rD D3)) (C2 (A22 (gq rfl) (rD D3)) D3))))) D3)) A3 (Z9 _ _ _ _ _ _ hv1) (.inr rfl) (D8 (.d (bo (!v1))) rfl rfl (sv rfl (A2 (B4 ?_))))))))))))))
 cases h
 exact A9 (.inr rfl) (B7 (B6 rfl) I8) (.refl _)
noncomputable def A6d (p2:Agent)(v1:(Int×Int))(v3:(Int×Int×Int))(v5:(List Int))(x1:Int):Option (Stp Int Int):=
  ((cond (decide (x1>(w64 (0 - v3.2.2)))) (A0z x1 p2 v3.1) (some default))).bind fun v6=>((cond (decide (x1>(w64 (0 - v3.2.2)))) (A9u v5 v1.2 p2.V v6 v3.2.2) (some default))).bind fun v7=>cond ((decide (x1>(w64 (0 - v3.2.2))))&& (!v7)) (some (.go (w64 (x1 - 1)))) (some (.out x1))
noncomputable def B24 (p1:Map)(p2:Agent)(p3:Int)(p4:Int):Option Agent:=
  (A94 p1 p2).bind fun v1=>(G8 p1.Lanes v1.1).bind fun v2=>(A2k v2.Kind).bind fun v3=>((cond p2.Obey (A3z p1 v1.1) (some default))).bind fun v4=>(cond (p2.Obey&& (decide (v1.2≤v4))) ((B45 p1 v1.1 p3).bind fun v5=>(loop (A6d p2 v1 v3 v5) (mm2 true (w64 (0 - v3.2.2)) (mm2 false p4 v3.2.1))).bind fun y2=>some y2) (some (mm2 true (w64 (0 - v3.2.2)) (mm2 false p4 v3.2.1)))).bind fun y1=>(A0z y1 p2 v3.1).bind fun v8=>(A95 p1 (Agent.mk p2.Route (w64 (p2.S+v8)) v8 p2.Len p2.Begin p2.Obey p2.Gone)).bind fun v9=>some (Agent.mk p2.Route (w64 (p2.S+v8)) v8 p2.Len p2.Begin p2.Obey v9)
theorem C2p (p1:Map)(p2:Agent)(p3:Int)(p4:Int)(r:Agent)(h:B24 p1 p2 p3 p4=some r):PCall Tryz.prog 88 [(.agg (A7h p1)),(.agg (C0 p2)),(i64 p3),(i64 p4)] (.agg (C0 r)):=by
 refine C1 (fk Tryz.func88 Tryz.ntmps88 m0 (by with_unfolding_all rfl)) (nl rfl) ?_
 unfold B24 at h
 refine B0 (s0:=⟨T [(0,(.d _)),(1,(.d _)),(2,(.d _)),(3,(.d _))],G []⟩) (sbr rfl rfl) ?_
 refine lr (fun u1 hu1=>sn rfl rfl (sn rfl rfl (sn rfl rfl (A2 (lr (fun u2 hu2=>sd rfl (B5 rfl (gq rfl) rfl rfl) (sd rfl (B5 rfl (gq rfl) rfl rfl) (bs h fun v1 hv1 h=>B3 rfl rfl A3 (B6k _ _ _ hv1) (.inl rfl) (sv rfl (sv rfl (sv rfl (sv rfl (sv rfl (A2 (lr (fun u3 hu3=>sp rfl rfl (sl rfl (gq rfl) rfl (sv rfl (bs h fun v2 hv2 h=>sd rfl (L4 rfl rfl hv2 rfl) (sv rfl (sd rfl (N2 rfl hv2 rfl) (bs h fun v3 hv3 h=>B3 rfl rfl A3 (A64 _ _ hv3) (.inl rfl) (sv rfl (sv rfl (sv rfl (sv rfl (sn rfl rfl (sst rfl G_hit [(di v3.1)] rfl (sv rfl (sv rfl (A2 (A7 (B0 (s0:=⟨T [(2,(.d _)),(3,(.d _)),(4,(.ptr _ _)),(5,(.ptr _ _)),(8,(.ptr _ _)),(9,(.d _)),(10,(.d _)),(11,(.ptr _ _)),(12,(.d _)),(13,(.d _))],G [((4,u1),some (.box 33 _)),((5,u1),some (.box 45 _)),((8,u1),some (.box 45 _)),((11,u3),some (.box 2 _))]⟩) (sbr rfl rfl) ?_)))))))))))))))))))))))))))))))))
 refine B8 fun u4 hu4=>D8 (.fn _ _ _) rfl rfl (D8 (.fn _ _ _) rfl rfl (A2 (lr (fun u5 hu5=>sv rfl (D8 (di (w64 (0 - v3.2.2))) rfl rfl (sv rfl (sv rfl (sv rfl (sv rfl (sv rfl (A2 (A7 (lr (fun u6 hu6=>sp rfl rfl (sl rfl (gq rfl) rfl (sv rfl (gt rfl (fun _=>rfl) (gt rfl (fun w2=>(B5 rfl G_hit rfl rfl)) (gt rfl (fun _=>rfl) (bs h fun v4 hv4 h=> ?_))))))))))))))))))))
 refine U3 p2.Obey (i64 v4) (A1f rfl) (fun w4=>⟨_,[(.d (.agg (A7h p1))),(di v1.1)],_,_,(by simp only [A6 w4];rfl),rfl,A3,A9r _ _ _ (E2 w4 hv4),(.inl rfl)⟩) ?_
 refine gt rfl (fun w5=>(A1p (A6 w5) (A6 w5) rfl)) (sa rfl rfl rfl (A2 (bs h fun y1 hy1 h=>I5 (fun s=> ∃g1:Unit,Sb ⟨T [(3,(di y1)),(4,(.ptr (4,u1) 0)),(5,(.ptr (5,u1) 0)),(8,(.ptr (8,u1) 0)),(14,(.fn (.func 179) [] [(.ptr (5,u1) 0),(.ptr (11,u3) 0)]))],G [((4,u1),some (.box 33 (Y2 p1))),((5,u1),some (.box 45 (A0n p2))),((8,u1),some (.box 45 ([(.d .nilS)]++ (zs 4)++ [(.d (bo false)),(.d (bo false))]))),((11,u3),some (.box 2 [(di v3.1)]))]⟩ s) ?_ ?_)))
 refine cc rfl hy1 (fun c1 hy1=> ?_) (fun c1 hy1=> ?_)
 refine A7 (B0 (s0:=⟨T [(2,(.d _)),(3,(.d _)),(4,(.ptr _ _)),(5,(.ptr _ _)),(8,(.ptr _ _)),(9,(.d _)),(10,(.d _)),(13,(.d _)),(14,(.fn _ _ _))],G [((4,u1),some (.box 33 _)),((5,u1),some (.box 45 _)),((8,u1),some (.box 45 _)),((11,u3),some (.box 2 _))]⟩) (sbr rfl rfl) ?_)
 refine B8 fun u7 hu7=>sd rfl (B5 rfl G_hit rfl rfl) (sv rfl (sv rfl (bs hy1 fun v5 hv5 hy1=>B3 rfl rfl A3 (C4d _ _ _ _ hv5) (.inl rfl) (sv rfl (A2 (bs hy1 fun y2 hy2 hy1=>I5 (fun s=> ∃g2:Unit,Sb ⟨T [(3,(di y2)),(4,(.ptr (4,u1) 0)),(5,(.ptr (5,u1) 0)),(8,(.ptr (8,u1) 0)),(14,(.fn (.func 179) [] [(.ptr (5,u1) 0),(.ptr (11,u3) 0)]))],G [((4,u1),some (.box 33 (Y2 p1))),((5,u1),some (.box 45 (A0n p2))),((8,u1),some (.box 45 ([(.d .nilS)]++ (zs 4)++ [(.d (bo false)),(.d (bo false))]))),((11,u3),some (.box 2 [(di v3.1)]))]⟩ s) ?_ ?_))))))
 refine A8 (J4 (A6d p2 v1 v3 v5) (fun (x1:Int) (g3:Unit)=>⟨T [(3,(di x1)),(4,(.ptr (4,u1) 0)),(5,(.ptr (5,u1) 0)),(8,(.ptr (8,u1) 0)),(10,(di v1.2)),(13,(di v3.2.2)),(14,(.fn (.func 179) [] [(.ptr (5,u1) 0),(.ptr (11,u3) 0)])),(15,(dl A4 v5))],G [((4,u1),some (.box 33 (Y2 p1))),((5,u1),some (.box 45 (A0n p2))),((8,u1),some (.box 45 ([(.d .nilS)]++ (zs 4)++ [(.d (bo false)),(.d (bo false))]))),((11,u3),some (.box 2 [(di v3.1)]))]⟩) (mm2 true (w64 (0 - v3.2.2)) (mm2 false p4 v3.2.1)) () _ hy2 (sbr rfl rfl) ?_)
 intro x1 g3 z1 hz1 ez1
 unfold A6d at hz1
 refine A7 (A7 (O4 rfl fun u8 hu8=>sv rfl (sv rfl (D8 (di (w64 (0 - v3.2.2))) rfl rfl (sv rfl (sv rfl (gt rfl (fun _=>rfl) (gt rfl (fun _=>rfl) (gp rfl (A1f rfl) (fun _=>rfl) (gt rfl (vl rfl (gq rfl) rfl) (A0o _ (.fn _ _ _) rfl (A1f rfl) (fun _=>rfl) (gt rfl (fun _=>rfl) (bs hz1 fun v6 hv6 hz1=> ?_)))))))))))))
 refine U3 _ (i64 v6) (A1f rfl) (fun w12=>⟨_,[(di x1),(.ptr (5,u1) 0),(.ptr (11,u3) 0)],_,_,(by simp only [A6 w12];rfl),(rD (C2 (A22 (gq rfl) (rD (rD (rD (rD (rD (rD (rD D3)))))))) (C2 (A22 (gq rfl) (rD D3)) D3))),A3,A9t _ _ _ _ (E2 w12 hv6),(.inr rfl)⟩) ?_
 refine gt rfl (fun _=>rfl) (bs hz1 fun v7 hv7 hz1=> ?_)
 refine U3 _ (bo v7) (A1f rfl) (fun w14=>⟨_,[(dl A4 v5),(di v1.2),(di p2.V),(di v6),(di v3.2.2)],_,_,(by simp only [A6 w14];rfl),rfl,A3,C18 _ _ _ _ _ _ (E2 w14 hv7),(.inl rfl)⟩) ?_
 refine A0o _ (.d (bo (!v7))) rfl (A1f rfl) (fun w15=>(by simp only [A6 w15];rfl)) ?_
 refine sa rfl rfl rfl (A2 (cc rfl hz1 (fun c2 hz1=> ?_) (fun c2 hz1=> ?_)))
 refine B2 (A8 (B0 (s0:=⟨T [(3,(.d _)),(4,(.ptr _ _)),(5,(.ptr _ _)),(8,(.ptr _ _)),(10,(.d _)),(13,(.d _)),(14,(.fn _ _ _)),(15,(.d _))],G [((4,u1),some (.box 33 _)),((5,u1),some (.box 45 _)),((8,u1),some (.box 45 _)),((11,u3),some (.box 2 _))]⟩) (sbr rfl rfl) ?_))
 refine B8 fun u9 hu9=>sv rfl (sv rfl (sv rfl (A2 (M0 (K4 ?_)))))
 cases hz1
 exact ⟨rfl,(),(sbr rfl rfl)⟩
 refine E1 rfl ?_
 cases hz1
 obtain rfl:=ez1 _ rfl
 refine ⟨nofun,C9 rfl (l_j ?_)⟩
 exact ⟨(),(sbr rfl rfl)⟩
 rintro _ ⟨g2,q1⟩
 obtain rfl:=(Option.some.inj hy1)
 exact l_j ⟨(),(Sb.after q1 (sbr rfl rfl))⟩
 refine B2 ?_
 cases hy1
 exact l_j ⟨(),(sbr rfl rfl)⟩
 rintro _ ⟨g1,q2⟩
 refine B0 q2 (lr (fun u10 hu10=>D8 (.fn _ _ _) rfl rfl (sv rfl (bs h fun v8 hv8 h=>B3 rfl (rD (C2 (A22 (gq rfl) (rD (rD (rD (rD (rD (rD (rD D3)))))))) (C2 (A22 (gq rfl) (rD D3)) D3))) A3 (A9t _ _ _ _ hv8) (.inr rfl) (sp rfl rfl (sst rfl (gq rfl) ((A0n p2).set 2 (di v8)) rfl (A2 (lr (fun u11 hu11=>sp rfl rfl (sl rfl G_hit rfl (sp rfl rfl (sl rfl G_hit rfl (sv rfl (sp rfl rfl (sst rfl G_hit (((A0n p2).set 1 (di (w64 (p2.S+v8)))).set 2 (di v8)) rfl (A2 (lr (fun u12 hu12=>sd rfl (B5 rfl (gq rfl) rfl rfl) (sd rfl (B5 rfl G_hit rfl rfl) (bs h fun v9 hv9 h=>B3 rfl rfl A3 (B6l _ _ _ hv9) (.inl rfl) (sp rfl rfl (sst rfl G_hit ((((A0n p2).set 1 (di (w64 (p2.S+v8)))).set 2 (di v8)).set 6 (.d (bo v9))) rfl (A2 (A7 (B0 (s0:=⟨T [(5,(.ptr _ _)),(8,(.ptr _ _))],G [((5,u1),some (.box 45 _)),((8,u1),some (.box 45 _))]⟩) (sbr rfl rfl) ?_)))))))))))))))))))))))))
 refine B8 fun u13 hu13=>sd rfl (B5 rfl G_hit rfl rfl) (sst rfl (gq rfl) ((((A0n p2).set 1 (di (w64 (p2.S+v8)))).set 2 (di v8)).set 6 (.d (bo v9))) rfl (A2 (B4 ?_)))
 cases h
 exact A9 (.inr rfl) (B7 (N5 rfl G_hit (nl rfl) rfl) I8) (.refl _)
noncomputable def B25 (p1:Map)(p2:State)(p3:Int)(p4:Int):Option Agent:=
  cond ((decide (p3<0))||(decide (p3≥(p2.Agents.length:Int)))) (some (Agent.mk [] 0 0 0 0 false false)) ((G8 p2.Agents p3).bind fun v1=>(A1h v1).bind fun v2=>(A3v p2 p3).bind fun v3=>((cond (!(!v3)) (A5j p1 p2) (some default))).bind fun v4=>cond ((!v3)||(v4 !=0)) (some v2) ((B24 p1 v2 p2.Tick p4).bind fun v5=>some v5))
theorem C2q (p1:Map)(p2:State)(p3:Int)(p4:Int)(r:Agent)(h:B25 p1 p2 p3 p4=some r):PCall Tryz.prog 29 [(.agg (A7h p1)),(.agg (A9i p2)),(i64 p3),(i64 p4)] (.agg (C0 r)):=by
 refine C1 (fk Tryz.func29 Tryz.ntmps29 m0 (by with_unfolding_all rfl)) (nl rfl) ?_
 unfold B25 at h
 refine B0 (s0:=⟨T [(0,(.d _)),(1,(.d _)),(2,(.d _)),(3,(.d _))],G []⟩) (sbr rfl rfl) ?_
 refine lr (fun u1 hu1=>sn rfl rfl (sn rfl rfl (sn rfl rfl (A2 (A7 (lr (fun u2 hu2=>sv rfl (sv rfl (sv rfl (gf rfl (fun _=>rfl) (gp rfl (A4b rfl) (fun _=>rfl) (gf rfl (vl rfl (gq rfl) rfl) (gf rfl (fun w4=>(N1 (A6 w4))) (gf rfl (fun w5=>(A1p (A6 w5) (A6 w5) rfl)) (sd rfl (A8i rfl rfl (fun hc=>A6 (Y1 hc))) (A2 (cc rfl h (fun c1 h=> ?_) (fun c1 h=> ?_))))))))))))))))))
 refine lr (fun u3 hu3=>sv rfl (sst rfl G_hit ([(.d .nilS)]++ (zs 4)++ [(.d (bo false)),(.d (bo false))]) rfl (A2 (B4 ?_))))
 cases h
 exact A9 (.inr rfl) (B7 (N5 rfl G_hit (nl rfl) rfl) I8) (.agg (.cons ⟨DLe.nil,rfl⟩ (cz rfl)))
 refine B2 (lr (fun u4 hu4=>sp rfl rfl (sl rfl (gq rfl) rfl (sv rfl (bs h fun v1 hv1 h=>sd rfl (L4 rfl rfl hv1 rfl) (sd rfl (F0 rfl hv1 rfl rfl) (bs h fun v2 hv2 h=>B3 rfl rfl A3 (A76 _ _ hv2) (.inl rfl) (sn rfl rfl (sst rfl G_hit (A0n v2) rfl (A2 (A7 (A7 (B0 (s0:=⟨T [(2,(.d _)),(3,(.d _)),(4,(.ptr _ _)),(5,(.ptr _ _)),(8,(.ptr _ _)),(9,(.ptr _ _))],G [((4,u1),some (.box 33 _)),((5,u1),some (.box 25 _)),((8,u1),some (.box 45 _)),((9,u4),some (.box 45 _))]⟩) (sbr rfl rfl) ?_)))))))))))))
 refine B8 fun u5 hu5=>sd rfl (B5 rfl (gq rfl) rfl rfl) (sv rfl (bs h fun v3 hv3 h=>B3 rfl rfl A3 (A7i _ _ _ hv3) (.inl rfl) (D8 (.d (bo (!v3))) rfl rfl (sv rfl (gf rfl (fun w6=>(B5 rfl G_hit rfl rfl)) (gf rfl (fun w7=>(B5 rfl (gq rfl) rfl rfl)) (bs h fun v4 hv4 h=> ?_)))))))
 refine U3 _ (i64 v4) (A4b rfl) (fun w8=>⟨_,[(.d (.agg (A7h p1))),(.d (.agg (A9i p2)))],_,_,(by simp only [A6 w8];rfl),rfl,A3,B11 _ _ _ (E2 w8 hv4),(.inl rfl)⟩) ?_
 refine gf rfl (vb rfl rfl rfl) (sd rfl (A8i rfl rfl (fun hc=>A6 (Y1 hc))) (A2 (cc rfl h (fun c2 h=> ?_) (fun c2 h=> ?_))))
 refine lr (fun u6 hu6=>sd rfl (B5 rfl (gq rfl) rfl rfl) (sst rfl (gq rfl) (A0n v2) rfl (A2 (B4 ?_))))
 cases h
 exact A9 (.inr rfl) (B7 (N5 rfl G_hit (nl rfl) rfl) I8) (.refl _)
 refine B2 (lr (fun u7 hu7=>sd rfl (B5 rfl G_hit rfl rfl) (sd rfl (B5 rfl (gq rfl) rfl rfl) (sp rfl rfl (sl rfl (gq rfl) rfl (sv rfl (bs h fun v5 hv5 h=>B3 rfl rfl A3 (C2p _ _ _ _ _ hv5) (.inl rfl) (sst rfl (gq rfl) (A0n v5) rfl (A2 (B4 ?_))))))))))
 cases h
 exact A9 (.inr rfl) (B7 (N5 rfl G_hit (nl rfl) rfl) I8) (.refl _)
theorem B0l (p1:List Stay)(r:List Stay)(h:S7 p1=some r):MCall Tryz.prog 121 [.d (.list (List.map I9 p1))] [] (oE r (800000,0)) [] [oB 127 4 I9 r]:=by
  cases p1 with
  |nil=>
   have hr:r= []:=by obtain ⟨_,rfl⟩:=A9d h;rfl
   subst hr
   exact MCall.ofP (A4v [] [] h)
  |cons x xs=>
  have hr:B2d ([]:List Stay) (x::xs)=some r:=h
  have e:=(A9d hr).2
  rw [List.nil_append]at e
  rw [D4p (A4p hr),D3r (A4p hr)]
  refine C8z (fk Tryz.func121 Tryz.ntmps121 m0 (by with_unfolding_all rfl)) rfl (Nat.le_of_ble_eq_true rfl) ?_
  refine (B0 (s0:=⟨T [(0, .d (.list (List.map I9 (x::xs))))],G []⟩) (F7 ⟨.of rfl,trivial⟩ trivial) ?_)
  refine A7 ?_
  refine B8 fun u1 hu1=> ?_
  refine D8 (.d .nilS) rfl rfl ?_
  refine A2 ?_
  refine A7 ?_
  refine A7 ?_
  refine B8 fun u2 hu2=> ?_
  refine D8 (.d (.list (List.map I9 (x::xs)))) rfl rfl ?_
  refine D8 (.d (bo false)) rfl rfl ?_
  refine A2 ?_
  refine B3v rfl ?_
  refine B2 ?_
  refine A7 ?_
  refine B8 fun u3 hu3=> ?_
  refine D0o (.sl _) (.arr 127 4 (List.map I9 ([]:List Stay))) rfl rfl ?_
  refine D8 (.d (.list (List.map I9 (x::xs)))) rfl rfl ?_
  refine B9l I9 _ [] (x::xs) _ (T7 (fun _=>rfl)) rfl G_hit hr ?_
  refine D8 (.sl _) rfl rfl ?_
  refine A2 ?_
  refine B4 ?_
  exact D43 (v1:= .sl (7,u3)) (.inr rfl) (D0w (B6 rfl)) (.of rfl) [((7,u3),some (.arr 127 4 (List.map I9 r)))] (A5 G_hit (.of rfl) trivial) (D0v [(7,u3)] rfl trivial ⟨G_hit,trivial⟩ rfl (by simp only [List.mem_cons,List.not_mem_nil,or_false,forall_eq];exact fun i=>D1j rfl i) nd1)
noncomputable def A31 (p1:State)(x1:(Int×State)):Option (Stp (Int×State) State):=
  cond (decide (x1.1< (p1.Agents.length:Int))) ((G8 p1.Agents x1.1).bind fun v2=>(A1h v2).bind fun v3=>(B2d x1.2.Agents [v3]).bind fun v4=>some (.go ((w64 (x1.1+1)),(State.mk x1.2.Tick v4 x1.2.In)))) (some (.out x1.2))
noncomputable def A6e (p1:State):Option State:=
  (S7 p1.In).bind fun v1=>(loop (A31 p1) (0,(State.mk p1.Tick [] v1))).bind fun y1=>some y1
theorem B8l (p1:State)(r:State)(h:A6e p1=some r):MCall Tryz.prog 56 [(.d (.agg (A9i p1)))] [] (A3k [(di r.Tick),(oS r.Agents (800000,0)),(oE r.In (800001,0))]) [] [oB 45 7 C0 r.Agents,oB 127 4 I9 r.In]:=by
 refine C8z (fk Tryz.func56 Tryz.ntmps56 (fun r=>if r==1 then [1001004]else if r==5 then [1004]else []) (by with_unfolding_all rfl)) (by generalize r.Agents=x1;generalize r.In=x2;cases x1<;>cases x2<;>rfl) (nl rfl) ?_
 unfold A6e at h
 refine B0 (s0:=⟨T [(0,(.d _))],G []⟩) (sbr rfl rfl) ?_
 refine lr (fun u1 hu1=>sn rfl rfl (sn rfl rfl (A2 (A7 (C58 fun u2 hu2=>B0y (.ptr _ _) rfl rfl (B0y (.d _) rfl (S9 rfl (gq rfl) rfl) (B0y (.ptr _ _) rfl rfl (B0y (.d _) rfl (S9 rfl (gq rfl) rfl) (bs h fun v1 hv1 h=> ?_)))))))))
 refine t_oc (v:=oE v1 (10010040,u2)) (us:= [(10010040,u2)]) (D47 (B0l _ _ hv1) [] [] _ (((10010040,u2),oB 127 4 I9 v1)::_) rfl A9e rfl A60 trivial (fun _ h=>h) List.nodup_nil (by generalize v1=x1;cases x1<;>rfl) rfl (C91 (rfl)) rfl) ?_
 refine B0y (A3k [(di p1.Tick),(.d .nilS),(oE v1 (10010040,u2))]) rfl (by generalize v1=x1;cases x1<;>rfl) ?_
 refine D3w (.ptr _ _) (.box _ _) rfl rfl (C8u _ _ _ _ _ (A2j _) rfl rfl G_hit (nl rfl) [(di p1.Tick),(.d .nilS),(oE v1 (10010040,u2))] rfl (D2m ⟨rfl,?_⟩))
 refine A7 (lr (fun u3 hu3=>sp rfl rfl (sl rfl (gq rfl) rfl (sd rfl (N1 rfl) (sv rfl (A2 (bs h fun y1 hy1 h=>I5 (fun s=> ∃g1:(Nat×Nat),Sb ⟨T [(2,(.ptr (2,u1) 0)),(3,(.ptr (3,u2) 0))],G [((2,u1),some (.box 25 [(di 0),(.d .nilS),(.d .nilS)])),((3,u2),some (.box 25 [(di y1.Tick),(oS y1.Agents (24,g1.1)),(oE y1.In (10010040,g1.2))])),((24,g1.1),oB 45 7 C0 y1.Agents),((10010040,g1.2),oB 127 4 I9 y1.In)]⟩ s) ?_ ?_)))))))
 refine A8 (J4 (A31 p1) (fun (x1:(Int×State)) (g2:(Nat×Nat))=>⟨T [(2,(.ptr (2,u1) 0)),(3,(.ptr (3,u2) 0)),(13,(dl C0 p1.Agents)),(14,(di (p1.Agents.length:Int))),(15,(di x1.1))],G [((2,u1),some (.box 25 [(di 0),(.d .nilS),(.d .nilS)])),((3,u2),some (.box 25 [(di x1.2.Tick),(oS x1.2.Agents (24,g2.1)),(oE x1.2.In (10010040,g2.2))])),((24,g2.1),oB 45 7 C0 x1.2.Agents),((10010040,g2.2),oB 127 4 I9 x1.2.In)]⟩) (0,(State.mk p1.Tick [] v1)) (0,u2) _ hy1 (F7 ⟨.of rfl, .of rfl, .of rfl, .of rfl, .of rfl,trivial⟩ (sg rfl (A5 G_hit (.of rfl) (A73 (B1 (gq rfl) trivial))))) ?_)
 intro x1 g2 z1 hz1 ez1
 unfold A31 at hz1
 refine lr (fun u4 hu4=>sv rfl (A2 (A7 (cc rfl hz1 (fun c1 hz1=> ?_) (fun c1 hz1=> ?_)))))
 refine B2 (A7 (A8 (lr (fun u5 hu5=>bs hz1 fun v2 hv2 hz1=>sd rfl (L4 rfl rfl hv2 rfl) (sd rfl (F0 rfl hv2 rfl rfl) (sn rfl rfl (sst rfl G_hit (A0n v2) rfl (A2 (O4 rfl fun u6 hu6=>sp rfl rfl (D8 (oS x1.2.Agents (24,g2.1)) rfl (S9 rfl (gq rfl) rfl) (sd rfl (B5 rfl G_hit rfl rfl) (bs hz1 fun v3 hv3 hz1=>B3 rfl rfl A3 (A76 _ _ hv3) (.inl rfl) (D8 (dl C0 [v3]) rfl rfl (bs hz1 fun v4 hv4 hz1=>A13 C0 (24,g2.1) x1.2.Agents v3 [] _ (T7 (fun _=>rfl)) rfl (gq rfl) hv4 (sp rfl rfl (sst rfl (gq rfl) [(di x1.2.Tick),(.sl (24,u6)),(oE x1.2.In (10010040,g2.2))] rfl (A2 (M0 (B0 (s0:=⟨T [(2,(.ptr (2,u1) 0)),(3,(.ptr (3,u2) 0)),(13,(dl C0 p1.Agents)),(14,(di (p1.Agents.length:Int))),(15,(di x1.1))],G [((2,u1),some (.box 25 [(di 0),(.d .nilS),(.d .nilS)])),((3,u2),some (.box 25 [(di x1.2.Tick),(.sl (24,u6)),(oE x1.2.In (10010040,g2.2))])),((24,u6),some (.arr 45 7 (List.map C0 v4))),((10010040,g2.2),oB 127 4 I9 x1.2.In)]⟩) (F7 ⟨.of rfl, .of rfl, .of rfl, .of rfl, .of rfl,trivial⟩ (sg rfl (A5 G_hit (.of rfl) (sg rfl (B1 (gq rfl) trivial))))) ?_)))))))))))))))))))
 refine B8 fun u7 hu7=>sv rfl (sv rfl (A2 (K4 ?_)))
 cases hz1
 exact ⟨rfl,(u6,g2.2),(F7 ⟨.of rfl, .of rfl, .of rfl, .of rfl, .of rfl,trivial⟩ (A5 G_hit (.of rfl) (A5 (gq rfl) (.box (cv (.cons (.of (B2i (A4p hv4)).symm) cw))) (A5f (gq rfl) (B1 (gq rfl) trivial)))))⟩
 refine E1 rfl ?_
 cases hz1
 obtain rfl:=ez1 _ rfl
 refine ⟨nofun,C9 rfl (l_j ?_)⟩
 exact ⟨(g2.1,g2.2),(F7 ⟨.of rfl, .of rfl,trivial⟩ (A5 G_hit (.of rfl) (sg rfl (B1 (gq rfl) (B1 (gq rfl) trivial)))))⟩
 rintro _ ⟨g1,q1⟩
 refine B0 q1 (lr (fun u8 hu8=>D8 (A3k [(di y1.Tick),(oS y1.Agents (24,g1.1)),(oE y1.In (10010040,g1.2))]) rfl (B5 rfl (gq rfl) rfl rfl) (B3w _ _ _ _ _ (A2j _) rfl rfl G_hit (nl rfl) [(di y1.Tick),(oS y1.Agents (24,g1.1)),(oE y1.In (10010040,g1.2))] rfl (A2 (B4 ?_)))))
 obtain rfl:=(Option.some.inj h)
 exact D43 (v1:=(A3k [(di y1.Tick),(oS y1.Agents (24,g1.1)),(oE y1.In (10010040,g1.2))])) (.inr rfl) (D0w (N5 rfl G_hit (Nat.le_of_ble_eq_true rfl) rfl)) (.of rfl) [((24,g1.1),oB 45 7 C0 y1.Agents),((10010040,g1.2),oB 127 4 I9 y1.In)] (B1 (gq rfl) (B1 (gq rfl) trivial)) (D2s [(24,g1.1),(10010040,g1.2)] (by generalize y1.Agents=x1;generalize y1.In=x2;cases x1<;>cases x2<;>rfl) trivial ⟨(G_hit).trans oB_ren.symm,((gq rfl)).trans oB_ren.symm,trivial⟩ rfl (List.forall_mem_cons.2 ⟨fun i hi=>C92 rfl hi,(List.forall_mem_cons.2 ⟨fun i hi=>C92 rfl hi,(fun _ h=>nomatch h)⟩)⟩) (nd2 (D46 rfl)))
noncomputable def V5 (p1:WorldScene)(p2:Int)(p3:Int):Option (Int×Bool):=
  (G8 p1.before.Agents p2).bind fun v1=>(U8 v1.Route p3).bind fun v2=>cond (decide (v2<0)) (some (0,false)) ((A3t p1.m v1.Route).bind fun v3=>(G8 v3 v2).bind fun v4=>some (v4,true))
theorem A71 (p1:WorldScene)(p2:Int)(p3:Int)(r:(Int×Bool))(h:V5 p1 p2 p3=some r):PCall Tryz.prog 227 [(.bp (A9h p1) 0),(i64 p2),(i64 p3)] (.tup [(i64 r.1),(bo r.2)]):=by
 refine C1 (fk Tryz.func227 Tryz.ntmps227 m0 (by with_unfolding_all rfl)) (nl rfl) ?_
 unfold V5 at h
 refine B0 (s0:=⟨T [(0,(.d _)),(1,(.d _)),(2,(.d _))],G []⟩) (sbr rfl rfl) ?_
 refine lr (fun u1 hu1=>sv rfl (sv rfl (A2 (lr (fun u2 hu2=>sv rfl (sv rfl (sv rfl (sv rfl (sv rfl (sv rfl (bs h fun v1 hv1 h=>sd rfl (L4 rfl rfl hv1 rfl) (sv rfl (sd rfl (N2 rfl hv1 rfl) (sv rfl (A2 (lr (fun u3 hu3=>sv rfl (sv rfl (bs h fun v2 hv2 h=>B3 rfl rfl A3 (A67 _ _ _ hv2) (.inl rfl) (sv rfl (A2 (A7 (lr (fun u4 hu4=>sv rfl (sv rfl (A2 (cc rfl h (fun c1 h=> ?_) (fun c1 h=> ?_))))))))))))))))))))))))))))
 refine lr (fun u5 hu5=>sv rfl (sv rfl (A2 (B4 ?_))))
 cases h
 exact A9 (.inr rfl) (B8g (B6 rfl) (B6 rfl) I8 I8) (.refl _)
 refine B2 (lr (fun u6 hu6=>sv rfl (sv rfl (sv rfl (sv rfl (sv rfl (bs h fun v3 hv3 h=>B3 rfl rfl A3 (A9n _ _ _ hv3) (.inl rfl) (sv rfl (bs h fun v4 hv4 h=>sd rfl (L4 rfl rfl hv4 rfl) (sd rfl (N2 rfl hv4 rfl) (sv rfl (sv rfl (A2 (B4 ?_))))))))))))))
 cases h
 exact A9 (.inr rfl) (B8g (B6 rfl) (B6 rfl) I8 I8) (.refl _)
noncomputable def X5 (p1:WorldScene)(p2:Int)(p3:Int):Option Stay:=
  (B9 p1.after.In (Stay.mk p2 p3 0 0)).bind fun v1=>(G8 p1.after.In v1.1).bind fun v2=>some v2
theorem A7z (p1:WorldScene)(p2:Int)(p3:Int)(r:Stay)(h:X5 p1 p2 p3=some r):PCall Tryz.prog 228 [(.bp (A9h p1) 0),(i64 p2),(i64 p3)] (.agg (I9 r)):=by
 refine C1 (fk Tryz.func228 Tryz.ntmps228 m0 (by with_unfolding_all rfl)) (nl rfl) ?_
 unfold X5 at h
 refine B0 (s0:=⟨T [(0,(.d _)),(1,(.d _)),(2,(.d _))],G []⟩) (sbr rfl rfl) ?_
 refine lr (fun u1 hu1=>sn rfl rfl (A2 (lr (fun u2 hu2=>sv rfl (sv rfl (sv rfl (sv rfl (sv rfl (sv rfl (sv rfl (sv rfl (bs h fun v1 hv1 h=>B3 rfl rfl A3 (K5 _ _ _ hv1) (.inl rfl) (sv rfl (sv rfl (sv rfl (sv rfl (sv rfl (A2 (lr (fun u3 hu3=>sv rfl (sv rfl (sv rfl (sv rfl (sv rfl (sv rfl (bs h fun v2 hv2 h=>sd rfl (L4 rfl rfl hv2 rfl) (sd rfl (F0 rfl hv2 rfl rfl) (sst rfl G_hit (B8j v2) rfl (A2 (B4 ?_))))))))))))))))))))))))))))))
 cases h
 exact A9 (.inr rfl) (B7 (N5 rfl G_hit (nl rfl) rfl) I8) (.refl _)
noncomputable def A58 (p1:Map)(p2:State)(p3:(List Int))(v2:State)(y2:(List Agent))(y5:(List Stay))(a1:(Int×Int))(x6:(Int× (List Crash))):Option (Stp (Int× (List Crash)) (List Crash)):=
  cond (decide (x6.1< (p1.Zones.length:Int))) ((V4 (WorldScene.mk p1 p2 (State.mk v2.Tick y2 y5) p3 x6.2) a1.1 a1.2 x6.1).bind fun v28=>cond (!v28) (some (.go ((w64 (x6.1+1)),x6.2))) ((X5 (WorldScene.mk p1 p2 (State.mk v2.Tick y2 y5) p3 x6.2) a1.1 x6.1).bind fun v29=>(X5 (WorldScene.mk p1 p2 (State.mk v2.Tick y2 y5) p3 x6.2) a1.2 x6.1).bind fun v30=>(W1 v29.Rank v30.Rank).bind fun v31=>(Z7 v30.Since v29.Since).bind fun v32=>(A78 [v31,v32]).bind fun v33=>(cond (v33==(-1)) (some [a1.1]) (cond (v33==1) (some [a1.2]) (some [a1.1,a1.2]))).bind fun y17=>(B2d x6.2 [(Crash.mk p2.Tick a1.1 a1.2 (-1) x6.1 y17)]).bind fun v34=>some (.go ((w64 (x6.1+1)),v34)))) (some (.out x6.2))
noncomputable def A7j (p1:Map)(p2:State)(p3:(List Int))(v2:State)(y2:(List Agent))(y5:(List Stay))(a1:(Int×Int))(y12:(List Crash)):Option (List Crash):=
  (loop (A58 p1 p2 p3 v2 y2 y5 a1) (0,y12)).bind fun y16=>some y16
noncomputable def A59 (p1:Map)(p2:State)(p3:(List Int))(v2:State)(y2:(List Agent))(y5:(List Stay))(x4:(List Crash))(a1:(Int×Int))(x5:Int):Option (Stp Int (Sum Unit (List Crash))):=
  cond (decide (x5< (p1.Lanes.length:Int))) ((V5 (WorldScene.mk p1 p2 (State.mk v2.Tick y2 y5) p3 x4) a1.1 x5).bind fun v13=>(V5 (WorldScene.mk p1 p2 (State.mk v2.Tick y2 y5) p3 x4) a1.2 x5).bind fun v14=>cond ((!v13.2)||(!v14.2)) (some (.go (w64 (x5+1)))) ((G8 p2.Agents a1.1).bind fun v15=>(G8 p2.Agents a1.2).bind fun v16=>(cond (decide ((w64 (v15.S - v13.1))< (w64 (v16.S - v14.1)))) (some (v14.1,v13.1,a1.2,a1.1)) (some (v13.1,v14.1,a1.1,a1.2))).bind fun y14=>(G8 y2 y14.2.2.1).bind fun v17=>(A33 v17).bind fun v18=>(W3 v18 y14.1).bind fun v19=>(G8 y2 y14.2.2.2).bind fun v20=>(A33 v20).bind fun v21=>(W3 v21 y14.2.1).bind fun v22=>(G8 p2.Agents y14.2.2.2).bind fun v23=>(A33 v23).bind fun v24=>(W3 v24 y14.2.1).bind fun v25=>(A3z p1 x5).bind fun v26=>cond (((((decide (v19.to≥0))&& (decide (v22.to≥0)))&& (decide (v25.from_≤v26)))&& (decide (v19.from_≤v26)))&& (decide (v22.to≥v19.from_))) ((B2d x4 [(Crash.mk p2.Tick a1.1 a1.2 x5 (-1) [y14.2.2.2])]).bind fun v27=>some (.out (.inr v27))) (some (.go (w64 (x5+1)))))) (some (.out (.inl ())))
noncomputable def A8s (p1:Map)(p2:State)(p3:(List Int))(v2:State)(y2:(List Agent))(y5:(List Stay))(x4:(List Crash))(a1:(Int×Int)):Option (List Crash):=
  thenS (loop (A59 p1 p2 p3 v2 y2 y5 x4 a1) 0) (fun _=>some x4) (fun r=>some r)
noncomputable def A6f (p1:Map)(p2:State)(p3:(List Int))(v2:State)(y2:(List Agent))(y5:(List Stay))(x4:(List Crash))(a1:(Int×Int)):Option (Stp (List Crash) (List Crash)):=
  (A8s p1 p2 p3 v2 y2 y5 x4 a1).bind fun y12=>(A7j p1 p2 p3 v2 y2 y5 a1 y12).bind fun y15=>some (.go y15)
noncomputable def A8t:Option Unit:=
  some ()
noncomputable def A8u (p1:Map)(p2:State)(p3:(List Int))(v2:State)(y2:(List Agent))(y5:(List Stay)):Option (List Crash):=
  (A8t).bind fun y10=>((C1v p2).bind fun v12=>loopL (A6f p1 p2 p3 v2 y2 y5) (fun (x4:(List Crash))=>x4) v12 []).bind fun y11=>some y11
noncomputable def A6g (p1:Map)(p2:State)(p3:(List Int))(v2:State)(y2:(List Agent))(x2:(Int× (List Stay)))(v6:Agent)(x3:(Int× (List Stay))):Option (Stp (Int× (List Stay)) (List Stay)):=
  cond (decide (x3.1< (p1.Zones.length:Int))) ((P5 (WorldScene.mk p1 p2 (State.mk v2.Tick y2 x3.2) p3 []) x2.1 x3.1).bind fun v7=>cond (!v7) (some (.go ((w64 (x3.1+1)),x3.2))) ((B9 p2.In (Stay.mk x2.1 x3.1 p2.Tick 0)).bind fun v8=>(cond v8.2 ((G8 p2.In v8.1).bind fun v9=>some v9) ((A96 p1 v6 x3.1 p2.Tick).bind fun v10=>some (Stay.mk x2.1 x3.1 p2.Tick v10))).bind fun y8=>(B2d x3.2 [y8]).bind fun v11=>some (.go ((w64 (x3.1+1)),v11)))) (some (.out x3.2))
noncomputable def A6h (p1:Map)(p2:State)(p3:(List Int))(v2:State)(y2:(List Agent))(x2:(Int× (List Stay))):Option (Stp (Int× (List Stay)) (List Stay)):=
  cond (decide (x2.1< (p2.Agents.length:Int))) ((G8 p2.Agents x2.1).bind fun v6=>(loop (A6g p1 p2 p3 v2 y2 x2 v6) (0,x2.2)).bind fun y7=>some (.go ((w64 (x2.1+1)),y7))) (some (.out x2.2))
noncomputable def A8v (p1:Map)(p2:State)(p3:(List Int))(v2:State)(y2:(List Agent)):Option (List Stay):=
  (loop (A6h p1 p2 p3 v2 y2) (0,[])).bind fun y6=>some y6
noncomputable def A6i (p1:Map)(p2:State)(p3:(List Int))(x1:(Int× (List Agent))):Option (Stp (Int× (List Agent)) (List Agent)):=
  cond (decide (x1.1< (p2.Agents.length:Int))) ((cond (decide (x1.1< (p3.length:Int))) ((G8 p3 x1.1).bind fun v3=>some v3) (some 0)).bind fun y4=>(B25 p1 p2 x1.1 y4).bind fun v4=>(G8 x1.2 x1.1).bind fun v5=>some (.go ((w64 (x1.1+1)),(C1q x1.2 x1.1 v4)))) (some (.out x1.2))
noncomputable def A8w (p1:Map)(p2:State)(p3:(List Int))(v2:State):Option (List Agent):=
  (loop (A6i p1 p2 p3) (0,v2.Agents)).bind fun y3=>some y3
noncomputable def B26 (p1:Map)(p2:State)(p3:(List Int)):Option (State× (List Crash)×Int):=
  (A5j p1 p2).bind fun v1=>cond (v1 !=0) (some ((State.mk 0 [] []),[],v1)) (cond (decide (p2.Tick≥1099511627776)) (some ((State.mk 0 [] []),[],2)) ((A6e p2).bind fun v2=>((A8w p1 p2 p3 v2).bind fun y2=>(A8v p1 p2 p3 v2 y2).bind fun y5=>(A8u p1 p2 p3 v2 y2 y5).bind fun y9=>some (y2,y5,y9)).bind fun y1=>some ((State.mk (w64 (v2.Tick+1)) y1.1 y1.2.1),y1.2.2,0)))
theorem C2r (p1:Map)(p2:State)(p3:(List Int))(r:(State× (List Crash)×Int))(h:B26 p1 p2 p3=some r):PCall Tryz.prog 31 [(.agg (A7h p1)),(.agg (A9i p2)),(.list (List.map A4 p3))] (.tup [(.agg (A9i r.1)),(.list (List.map X3 r.2.1)),(i64 r.2.2)]):=by
 refine C1 (fk Tryz.func31 Tryz.ntmps31 (fun r=>if r==6 then [1006003]else if r==10 then [2]else []) (by with_unfolding_all rfl)) (nl rfl) ?_
 unfold B26 at h
 refine B0 (s0:=⟨T [(0,(.d _)),(1,(.d _)),(2,(.d _))],G []⟩) (sbr rfl rfl) ?_
 refine lr (fun u1 hu1=>sn rfl rfl (sn rfl rfl (sn rfl rfl (sv rfl (sv rfl (A2 (A7 (lr (fun u2 hu2=>sd rfl (B5 rfl (gq rfl) rfl rfl) (sd rfl (B5 rfl (gq rfl) rfl rfl) (bs h fun v1 hv1 h=>B3 rfl rfl A3 (B11 _ _ _ hv1) (.inl rfl) (sv rfl (A2 (lr (fun u3 hu3=>sv rfl (sv rfl (A2 (cc rfl h (fun c1 h=> ?_) (fun c1 h=> ?_)))))))))))))))))))
 refine lr (fun u4 hu4=>sv rfl (sv rfl (sst rfl G_hit [(di 0),(.d .nilS),(.d .nilS)] rfl (sv rfl (sv rfl (A2 (B4 ?_)))))))
 cases h
 exact A9 (.inr rfl) (C8k (N5 rfl G_hit (nl rfl) rfl) (B6 rfl) (B6 rfl) I8 I8 I8) (.tup (.cons (.agg (ca rfl (.cons ⟨DLe.nil,rfl⟩ (.cons ⟨DLe.nil,rfl⟩ .nil)))) (.cons DLe.nil A3)))
 refine B2 (A7 (lr (fun u5 hu5=>sp rfl rfl (sl rfl (gq rfl) rfl (sv rfl (A2 (cc rfl h (fun c2 h=> ?_) (fun c2 h=> ?_))))))))
 refine lr (fun u6 hu6=>sv rfl (sst rfl G_hit [(di 0),(.d .nilS),(.d .nilS)] rfl (sv rfl (sv rfl (A2 (B4 ?_))))))
 cases h
 exact A9 (.inr rfl) (C8k (N5 rfl G_hit (nl rfl) rfl) (B6 rfl) (B6 rfl) I8 I8 I8) (.tup (.cons (.agg (ca rfl (.cons ⟨DLe.nil,rfl⟩ (.cons ⟨DLe.nil,rfl⟩ .nil)))) (.cons DLe.nil A3)))
 refine B2 (A7 (C58 fun u7 hu7=>B0y (.d _) rfl (B5 rfl (gq rfl) rfl rfl) (B0y (.d _) rfl (B5 rfl (gq rfl) rfl rfl) (B0y (.d _) rfl (B5 rfl (gq rfl) rfl rfl) (bs h fun v2 hv2 h=> ?_)))))
 refine t_oc (v:=A3k [(di v2.Tick),(oS v2.Agents (10060030,u7)),(oE v2.In (10060031,u7))]) (us:= [(10060030,u7),(10060031,u7)]) (D47 (B8l _ _ hv2) [] [] _ (((10060031,u7),oB 127 4 I9 v2.In)::(((10060030,u7),oB 45 7 C0 v2.Agents)::_)) rfl A9e rfl A60 trivial (fun _ h=>h) List.nodup_nil (by generalize v2.Agents=x1;generalize v2.In=x2;cases x1<;>cases x2<;>rfl) rfl (C91 (C91 (rfl))) rfl) ?_
 refine B0y (.d _) rfl rfl ?_
 refine B0y (A3k ((Y2 p1)++ (L9 p2)++ [(di v2.Tick),(oS v2.Agents (10060030,u7)),(oE v2.In (10060031,u7)),(dl A4 p3),(.d .nilS)])) rfl (by generalize v2.Agents=x1;generalize v2.In=x2;cases x1<;>cases x2<;>rfl) ?_
 refine D3w (.ptr _ _) (.box _ _) rfl (C7f rfl) (B0y (.ptr _ _) rfl rfl (D2m ⟨rfl,?_⟩))
 refine A7 (A7 (B0 (s0:=⟨T [(6,(.ptr (6,u1) 0)),(10,(.ptr (30,u7) 0))],G [((6,u1),some (.box 25 [(di 0),(.d .nilS),(.d .nilS)])),((30,u7),some (.box 135 ((Y2 p1)++ (L9 p2)++ [(di v2.Tick),(oS v2.Agents (10060030,u7)),(oE v2.In (10060031,u7)),(dl A4 p3),(.d .nilS)]))),((10060030,u7),oB 45 7 C0 v2.Agents),((10060031,u7),oB 127 4 I9 v2.In)]⟩) (F7 ⟨.of rfl, .of rfl,trivial⟩ (sg rfl (A5 G_hit (.of rfl) (B1 (gq rfl) (B1 (gq rfl) trivial))))) ?_))
 refine B8 fun u8 hu8=>sv rfl (sv rfl (A2 (bs h fun y1 hy1 h=>I5 (fun s=> ∃g1:(Nat×Nat× ({d:Nat // d∈ [72,158]}×Nat)),Sb ⟨T [(6,(.ptr (6,u1) 0)),(10,(.ptr (30,u7) 0))],G [((6,u1),some (.box 25 [(di 0),(.d .nilS),(.d .nilS)])),((30,u7),some (.box 135 ((Y2 p1)++ (L9 p2)++ [(di v2.Tick),(oS y1.1 (10060030,g1.1)),(oS y1.2.1 (85,g1.2.1)),(dl A4 p3),(oS y1.2.2 (g1.2.2.1.val,g1.2.2.2))]))),((10060030,g1.1),oB 45 7 C0 y1.1),((85,g1.2.1),oB 127 4 I9 y1.2.1),((g1.2.2.1.val,g1.2.2.2),oB 77 6 X3 y1.2.2)]⟩ s) ?_ ?_)))
 refine A8 (B9j (lr (fun u9 hu9=>sv rfl (A2 (A7 (B7g rfl (B2 (A7 (A8 (lr (fun u10 hu10=>sv rfl (sv rfl (A2 (B8 fun u11 hu11=>sv rfl (sp rfl rfl (bs hy1 fun y2 hy2 hy1=>C0e (fk Tryz.func90 Tryz.ntmps90 m0 (by with_unfolding_all rfl)) (fun (g2:Nat)=> [(6,(.ptr (6,u1) 0)),(10,(.ptr (30,u7) 0)),(31,(.d (.agg [(.fn (.func 90) [] []),(.fn (.func 80) [] []),(.fn (.func 91) [] [])]))),(32,(di 0))]) (fun (g2:Nat)=> [((6,u1),some (.box 25 [(di 0),(.d .nilS),(.d .nilS)])),((30,u7),some (.box 135 ((Y2 p1)++ (L9 p2)++ [(di v2.Tick),(oS y2 (10060030,g2)),(oE v2.In (10060031,u7)),(dl A4 p3),(.d .nilS)]))),((10060031,u7),oB 127 4 I9 v2.In),((10060030,g2),oB 45 7 C0 y2)]) rfl (nl rfl) ?_ ?_))))))))))))))))
 unfold A8w at hy2
 refine B0 (s0:=⟨T [(0,(.ptr (30,u7) 0))],G [((30,u7),some (.box 135 ((Y2 p1)++ (L9 p2)++ [(di v2.Tick),(oS v2.Agents (10060030,u7)),(oE v2.In (10060031,u7)),(dl A4 p3),(.d .nilS)]))),((10060030,u7),oB 45 7 C0 v2.Agents),((10060031,u7),oB 127 4 I9 v2.In),((6,u1),some (.box 25 [(di 0),(.d .nilS),(.d .nilS)]))]⟩) (F7 ⟨.of rfl,trivial⟩ (sg rfl (B1 (gq rfl) (B1 (gq rfl) (A5 G_hit (.of rfl) trivial))))) ?_
 refine lr (fun u12 hu12=>sp rfl rfl (sp rfl rfl (sp rfl rfl (sp rfl rfl (sl rfl G_hit rfl (sd rfl (N1 rfl) (sv rfl (A2 (bs hy2 fun y3 hy3 hy2=>I5 (fun s=> ∃g3:Nat,Sb ⟨T [],G [((6,u1),some (.box 25 [(di 0),(.d .nilS),(.d .nilS)])),((30,u7),some (.box 135 ((Y2 p1)++ (L9 p2)++ [(di v2.Tick),(oS y3 (10060030,g3)),(oE v2.In (10060031,u7)),(dl A4 p3),(.d .nilS)]))),((10060031,u7),oB 127 4 I9 v2.In),((10060030,g3),oB 45 7 C0 y3)]⟩ s) ?_ ?_)))))))))
 refine A8 (J4 (A6i p1 p2 p3) (fun (x1:(Int× (List Agent))) (g4:Nat)=>⟨T [(0,(.ptr (30,u7) 0)),(9,(di (p2.Agents.length:Int))),(10,(di x1.1))],G [((30,u7),some (.box 135 ((Y2 p1)++ (L9 p2)++ [(di v2.Tick),(oS x1.2 (10060030,g4)),(oE v2.In (10060031,u7)),(dl A4 p3),(.d .nilS)]))),((6,u1),some (.box 25 [(di 0),(.d .nilS),(.d .nilS)])),((10060031,u7),oB 127 4 I9 v2.In),((10060030,g4),oB 45 7 C0 x1.2)]⟩) (0,v2.Agents) u7 _ hy3 (F7 ⟨.of rfl, .of rfl, .of rfl,trivial⟩ (A5 G_hit (.of rfl) (sg rfl (B1 (gq rfl) (B1 (gq rfl) trivial))))) ?_)
 intro x1 g4 z1 hz1 ez1
 unfold A6i at hz1
 refine lr (fun u13 hu13=>sv rfl (A2 (A7 (cc rfl hz1 (fun c3 hz1=> ?_) (fun c3 hz1=> ?_)))))
 refine B2 (A7 (A8 (lr (fun u14 hu14=>sv rfl (sv rfl (A2 (lr (fun u15 hu15=>sv rfl (A2 (A7 (lr (fun u16 hu16=>sv rfl (sp rfl rfl (sp rfl rfl (sp rfl rfl (sl rfl G_hit rfl (sd rfl (N1 rfl) (sv rfl (A2 (bs hz1 fun y4 hy4 hz1=>I5 (fun s=> ∃g5:Unit,Sb ⟨T [(0,(.ptr (30,u7) 0)),(2,(di x1.1)),(3,(di y4)),(9,(di (p2.Agents.length:Int))),(10,(di x1.1))],G [((30,u7),some (.box 135 ((Y2 p1)++ (L9 p2)++ [(di v2.Tick),(oS x1.2 (10060030,g4)),(oE v2.In (10060031,u7)),(dl A4 p3),(.d .nilS)]))),((6,u1),some (.box 25 [(di 0),(.d .nilS),(.d .nilS)])),((10060030,g4),oB 45 7 C0 x1.2),((10060031,u7),oB 127 4 I9 v2.In)]⟩ s) ?_ ?_))))))))))))))))))))
 refine cc rfl hy4 (fun c4 hy4=> ?_) (fun c4 hy4=> ?_)
 refine B8 fun u17 hu17=>sp rfl rfl (sp rfl rfl (sp rfl rfl (sl rfl G_hit rfl (sv rfl (bs hy4 fun v3 hv3 hy4=>sd rfl (L4 rfl rfl hv3 rfl) (sd rfl (N2 rfl hv3 rfl) (sv rfl (A2 ?_))))))))
 obtain rfl:=(Option.some.inj hy4)
 exact l_j ⟨(),(F7 ⟨.of rfl, .of rfl, .of rfl, .of rfl, .of rfl,trivial⟩ (A5 G_hit (.of rfl) (sg rfl (B1 (gq rfl) (B1 (gq rfl) trivial)))))⟩
 refine B2 ?_
 cases hy4
 exact l_j ⟨(),(F7 ⟨.of rfl, .of rfl, .of rfl, .of rfl, .of rfl,trivial⟩ (A5 G_hit (.of rfl) (sg rfl (B1 (gq rfl) (B1 (gq rfl) trivial)))))⟩
 rintro _ ⟨g5,q1⟩
 refine B0 q1 (O4 rfl fun u18 hu18=>sp rfl rfl (sp rfl rfl (sp rfl rfl (sp rfl rfl (D8 (oS x1.2 (10060030,g4)) rfl (S9 rfl G_hit rfl) (sv rfl (sp rfl rfl (sp rfl rfl (sp rfl rfl (sd rfl (B5 rfl G_hit rfl rfl) (sp rfl rfl (sp rfl rfl (sp rfl rfl (sd rfl (B5 rfl G_hit rfl rfl) (sv rfl (sv rfl (bs hz1 fun v4 hv4 hz1=>B3 rfl rfl A3 (C2q _ _ _ _ _ hv4) (.inl rfl) (bs hz1 fun v5 hv5 hz1=>D8 (.aptr _ _ _ _) rfl (C8s rfl rfl (gq rfl) hv5) ?_))))))))))))))))))
 rw [B2i (B5k hv5)]
 refine B6c C0 _ _ _ (x1.1) _ v4 (C0 v4) rfl rfl rfl (B7h (gq rfl) (B5k hv5)) hv5 (nl rfl) rfl (A2 (M0 (B0 (s0:=⟨T [(0,(.ptr (30,u7) 0)),(9,(di (p2.Agents.length:Int))),(10,(di x1.1))],G [((30,u7),some (.box 135 ((Y2 p1)++ (L9 p2)++ [(di v2.Tick),(.sl (10060030,g4)),(oE v2.In (10060031,u7)),(dl A4 p3),(.d .nilS)]))),((10060030,g4),some (.arr 45 7 (List.map C0 (C1q x1.2 x1.1 v4)))),((10060031,u7),oB 127 4 I9 v2.In),((6,u1),some (.box 25 [(di 0),(.d .nilS),(.d .nilS)]))]⟩) (F7 ⟨.of rfl, .of rfl, .of rfl,trivial⟩ (sg rfl (A5 G_hit (.of rfl) (B1 (gq rfl) (sg rfl trivial))))) ?_)))
 refine B8 fun u19 hu19=>sv rfl (sv rfl (A2 (K4 ?_)))
 cases hz1
 exact ⟨rfl,g4,(F7 ⟨.of rfl, .of rfl, .of rfl,trivial⟩ (A5 G_hit (.box (cv (cv (cv (cv (cv (cv (cv (cv (cv (.cons (.of (B2i (D2k (B5k hv5))).symm) cw))))))))))) (sg rfl (B1 (gq rfl) (A5f (gq rfl) trivial)))))⟩
 refine E1 rfl ?_
 cases hz1
 obtain rfl:=ez1 _ rfl
 refine ⟨nofun,C9 rfl (l_j ?_)⟩
 exact ⟨g4,(F7 trivial (sg rfl (A5 G_hit (.of rfl) (B1 (gq rfl) (B1 (gq rfl) trivial)))))⟩
 rintro _ ⟨g3,q2⟩
 refine K4 ?_
 obtain rfl:=(Option.some.inj hy2)
 exact B6g q2 (.inl rfl) g3 ⟨.of rfl, .of rfl, .of rfl, .of rfl,trivial⟩ (A5 G_hit (.of rfl) (sg rfl (B1 (gq rfl) (B1 (gq rfl) trivial))))
 intro g2
 intro u20 hu20
 refine A2 (M0 (B8 fun u21 hu21=>sv rfl (sv rfl (A2 (B9j (lr (fun u22 hu22=>sv rfl (A2 (A7 (B7g rfl (B2 (A7 (A8 (lr (fun u23 hu23=>sv rfl (sv rfl (A2 (B8 fun u24 hu24=>sv rfl (sp rfl rfl (bs hy1 fun y5 hy5 hy1=>C0e (fk Tryz.func80 Tryz.ntmps80 (fun r=>if r==13 then [1007]else []) (by with_unfolding_all rfl)) (fun (g6:Nat)=> [(6,(.ptr (6,u1) 0)),(10,(.ptr (30,u7) 0)),(31,(.d (.agg [(.fn (.func 90) [] []),(.fn (.func 80) [] []),(.fn (.func 91) [] [])]))),(32,(di 1))]) (fun (g6:Nat)=> [((6,u1),some (.box 25 [(di 0),(.d .nilS),(.d .nilS)])),((30,u7),some (.box 135 ((Y2 p1)++ (L9 p2)++ [(di v2.Tick),(oS y2 (10060030,g2)),(oS y5 (85,g6)),(dl A4 p3),(.d .nilS)]))),((10060030,g2),oB 45 7 C0 y2),((85,g6),oB 127 4 I9 y5)]) rfl (nl rfl) ?_ ?_))))))))))))))))))))
 unfold A8v at hy5
 refine B0 (s0:=⟨T [(0,(.ptr (30,u7) 0))],G [((30,u7),some (.box 135 ((Y2 p1)++ (L9 p2)++ [(di v2.Tick),(oS y2 (10060030,g2)),(oE v2.In (10060031,u7)),(dl A4 p3),(.d .nilS)]))),((10060030,g2),oB 45 7 C0 y2),((10060031,u7),oB 127 4 I9 v2.In),((6,u1),some (.box 25 [(di 0),(.d .nilS),(.d .nilS)]))]⟩) (F7 ⟨.of rfl,trivial⟩ (sg rfl (B1 (gq rfl) (B1 (gq rfl) (A5 G_hit (.of rfl) trivial))))) ?_
 refine lr (fun u25 hu25=>sp rfl rfl (sp rfl rfl (sp rfl rfl (sp rfl rfl (sst rfl G_hit ((Y2 p1)++ (L9 p2)++ [(di v2.Tick),(oS y2 (10060030,g2)),(.d .nilS),(dl A4 p3),(.d .nilS)]) rfl (A2 (lr (fun u26 hu26=>sp rfl rfl (sp rfl rfl (sp rfl rfl (sp rfl rfl (sl rfl G_hit rfl (sd rfl (N1 rfl) (sv rfl (A2 (bs hy5 fun y6 hy6 hy5=>I5 (fun s=> ∃g7:Nat,Sb ⟨T [],G [((6,u1),some (.box 25 [(di 0),(.d .nilS),(.d .nilS)])),((30,u7),some (.box 135 ((Y2 p1)++ (L9 p2)++ [(di v2.Tick),(oS y2 (10060030,g2)),(oS y6 (85,g7)),(dl A4 p3),(.d .nilS)]))),((10060030,g2),oB 45 7 C0 y2),((85,g7),oB 127 4 I9 y6)]⟩ s) ?_ ?_))))))))))))))))
 refine A8 (J4 (A6h p1 p2 p3 v2 y2) (fun (x2:(Int× (List Stay))) (g8:Nat)=>⟨T [(0,(.ptr (30,u7) 0)),(16,(dl C0 p2.Agents)),(17,(di (p2.Agents.length:Int))),(18,(di x2.1))],G [((30,u7),some (.box 135 ((Y2 p1)++ (L9 p2)++ [(di v2.Tick),(oS y2 (10060030,g2)),(oS x2.2 (85,g8)),(dl A4 p3),(.d .nilS)]))),((6,u1),some (.box 25 [(di 0),(.d .nilS),(.d .nilS)])),((10060030,g2),oB 45 7 C0 y2),((85,g8),oB 127 4 I9 x2.2)]⟩) (0,[]) 0 _ hy6 (F7 ⟨.of rfl, .of rfl, .of rfl, .of rfl,trivial⟩ (A5 G_hit (.of rfl) (sg rfl (B1 (gq rfl) (A73 trivial))))) ?_)
 intro x2 g8 z2 hz2 ez2
 unfold A6h at hz2
 refine lr (fun u27 hu27=>sv rfl (A2 (A7 (cc rfl hz2 (fun c5 hz2=> ?_) (fun c5 hz2=> ?_)))))
 refine B2 (A7 (A8 (lr (fun u28 hu28=>sv rfl (bs hz2 fun v6 hv6 hz2=>sd rfl (L4 rfl rfl hv6 rfl) (sd rfl (F0 rfl hv6 rfl rfl) (sn rfl rfl (sv rfl (sst rfl G_hit (A0n v6) rfl (A2 (lr (fun u29 hu29=>sp rfl rfl (sp rfl rfl (sp rfl rfl (sp rfl rfl (sl rfl (gq rfl) rfl (sd rfl (N1 rfl) (sv rfl (A2 (bs hz2 fun y7 hy7 hz2=>I5 (fun s=> ∃g9:Nat,Sb ⟨T [(0,(.ptr (30,u7) 0)),(16,(dl C0 p2.Agents)),(17,(di (p2.Agents.length:Int))),(18,(di x2.1))],G [((30,u7),some (.box 135 ((Y2 p1)++ (L9 p2)++ [(di v2.Tick),(oS y2 (10060030,g2)),(oS y7 (85,g9)),(dl A4 p3),(.d .nilS)]))),((6,u1),some (.box 25 [(di 0),(.d .nilS),(.d .nilS)])),((10060030,g2),oB 45 7 C0 y2),((85,g9),oB 127 4 I9 y7)]⟩ s) ?_ ?_))))))))))))))))))))
 refine A8 (J4 (A6g p1 p2 p3 v2 y2 x2 v6) (fun (x3:(Int× (List Stay))) (g10:Nat)=>⟨T [(0,(.ptr (30,u7) 0)),(2,(di x2.1)),(3,(.ptr (3,u28) 0)),(16,(dl C0 p2.Agents)),(17,(di (p2.Agents.length:Int))),(18,(di x2.1)),(28,(di (p1.Zones.length:Int))),(29,(di x3.1))],G [((30,u7),some (.box 135 ((Y2 p1)++ (L9 p2)++ [(di v2.Tick),(oS y2 (10060030,g2)),(oS x3.2 (85,g10)),(dl A4 p3),(.d .nilS)]))),((3,u28),some (.box 45 (A0n v6))),((6,u1),some (.box 25 [(di 0),(.d .nilS),(.d .nilS)])),((10060030,g2),oB 45 7 C0 y2),((85,g10),oB 127 4 I9 x3.2)]⟩) (0,x2.2) g8 _ hy7 (F7 ⟨.of rfl, .of rfl, .of rfl, .of rfl, .of rfl, .of rfl, .of rfl, .of rfl,trivial⟩ (sg rfl (A5 G_hit (.of rfl) (sg rfl (B1 (gq rfl) (B1 (gq rfl) trivial)))))) ?_)
 intro x3 g10 z3 hz3 ez3
 unfold A6g at hz3
 refine lr (fun u30 hu30=>sv rfl (A2 (A7 (cc rfl hz3 (fun c6 hz3=> ?_) (fun c6 hz3=> ?_)))))
 refine B2 (A7 (A8 (lr (fun u31 hu31=>sv rfl (sv rfl (A2 (A7 (lr (fun u32 hu32=>sp rfl rfl (sv rfl (sv rfl (bs hz3 fun v7 hv7 hz3=>B3 rfl (C2 (A22 G_hit (rD (rD (rD (rD (rD (rD (rD (rD (rD (C2 (A5v (gq rfl)) (C2 (A5v (gq rfl)) (rD (rD D3)))))))))))))) (rD (rD D3))) (.cons (DLe.bp (ca rfl (ca rfl (ca rfl (ca rfl (ca rfl (ca rfl (ca rfl (ca rfl (ca rfl (.cons ⟨A5u,rfl⟩ (.cons ⟨A5u,rfl⟩ (ca rfl (.cons ⟨DLe.nil,rfl⟩ .nil)))))))))))))) (.cons (.refl _) A3)) (X4 _ _ _ _ hv7) (.inr rfl) (D8 (.d (bo (!v7))) rfl rfl (A2 (cc rfl hz3 (fun c7 hz3=> ?_) (fun c7 hz3=> ?_))))))))))))))))
 refine C05 rfl (B8 fun u33 hu33=>sv rfl (sv rfl (A2 (K4 ?_))))
 cases hz3
 exact ⟨rfl,g10,(F7 ⟨.of rfl, .of rfl, .of rfl, .of rfl, .of rfl, .of rfl, .of rfl, .of rfl,trivial⟩ (A5 G_hit (.of rfl) (sg rfl (sg rfl (B1 (gq rfl) (B1 (gq rfl) trivial))))))⟩
 refine B2 (lr (fun u34 hu34=>sv rfl (sv rfl (sp rfl rfl (sp rfl rfl (sp rfl rfl (sp rfl rfl (sl rfl G_hit rfl (sv rfl (sn rfl rfl (sst rfl G_hit [(di x2.1),(di x3.1),(di p2.Tick),(di 0)] rfl (A2 (A7 (A7 (B0 (s0:=⟨T [(0,(.ptr (30,u7) 0)),(2,(di x2.1)),(3,(.ptr (3,u28) 0)),(4,(di x3.1)),(5,(.ptr (5,u34) 0)),(16,(dl C0 p2.Agents)),(17,(di (p2.Agents.length:Int))),(18,(di x2.1)),(28,(di (p1.Zones.length:Int))),(29,(di x3.1))],G [((30,u7),some (.box 135 ((Y2 p1)++ (L9 p2)++ [(di v2.Tick),(oS y2 (10060030,g2)),(oS x3.2 (85,g10)),(dl A4 p3),(.d .nilS)]))),((10060030,g2),oB 45 7 C0 y2),((85,g10),oB 127 4 I9 x3.2),((3,u28),some (.box 45 (A0n v6))),((5,u34),some (.box 127 [(di x2.1),(di x3.1),(di p2.Tick),(di 0)])),((6,u1),some (.box 25 [(di 0),(.d .nilS),(.d .nilS)]))]⟩) (F7 ⟨.of rfl, .of rfl, .of rfl, .of rfl, .of rfl, .of rfl, .of rfl, .of rfl, .of rfl, .of rfl,trivial⟩ (sg rfl (B1 (gq rfl) (B1 (gq rfl) (sg rfl (A5 G_hit (.of rfl) (sg rfl trivial))))))) ?_)))))))))))))))
 refine O4 rfl fun u35 hu35=>sp rfl rfl (sp rfl rfl (sp rfl rfl (sp rfl rfl (sl rfl G_hit rfl (sd rfl (B5 rfl (gq rfl) rfl rfl) (bs hz3 fun v8 hv8 hz3=>B3 rfl rfl A3 (K5 _ _ _ hv8) (.inl rfl) (sv rfl (sv rfl (sv rfl (sv rfl (sv rfl (A2 (A7 (B0 (s0:=⟨T [(0,(.ptr (30,u7) 0)),(2,(di x2.1)),(3,(.ptr (3,u28) 0)),(4,(di x3.1)),(5,(.ptr (5,u34) 0)),(6,(di v8.1)),(7,(.d (bo v8.2))),(16,(dl C0 p2.Agents)),(17,(di (p2.Agents.length:Int))),(18,(di x2.1)),(28,(di (p1.Zones.length:Int))),(29,(di x3.1))],G [((30,u7),some (.box 135 ((Y2 p1)++ (L9 p2)++ [(di v2.Tick),(oS y2 (10060030,g2)),(oS x3.2 (85,g10)),(dl A4 p3),(.d .nilS)]))),((10060030,g2),oB 45 7 C0 y2),((85,g10),oB 127 4 I9 x3.2),((3,u28),some (.box 45 (A0n v6))),((5,u34),some (.box 127 [(di x2.1),(di x3.1),(di p2.Tick),(di 0)])),((6,u1),some (.box 25 [(di 0),(.d .nilS),(.d .nilS)]))]⟩) (F7 ⟨.of rfl, .of rfl, .of rfl, .of rfl, .of rfl, .of rfl, .of rfl, .of rfl, .of rfl, .of rfl, .of rfl, .of rfl,trivial⟩ (A5 G_hit (.of rfl) (B1 (gq rfl) (B1 (gq rfl) (sg rfl (sg rfl (sg rfl trivial))))))) ?_))))))))))))))
 refine B8 fun u36 hu36=>sv rfl (A2 (bs hz3 fun y8 hy8 hz3=>I5 (fun s=> ∃g11:Unit,Sb ⟨T [(0,(.ptr (30,u7) 0)),(2,(di x2.1)),(3,(.ptr (3,u28) 0)),(5,(.ptr (5,u34) 0)),(16,(dl C0 p2.Agents)),(17,(di (p2.Agents.length:Int))),(18,(di x2.1)),(28,(di (p1.Zones.length:Int))),(29,(di x3.1))],G [((30,u7),some (.box 135 ((Y2 p1)++ (L9 p2)++ [(di v2.Tick),(oS y2 (10060030,g2)),(oS x3.2 (85,g10)),(dl A4 p3),(.d .nilS)]))),((3,u28),some (.box 45 (A0n v6))),((5,u34),some (.box 127 (B8j y8))),((6,u1),some (.box 25 [(di 0),(.d .nilS),(.d .nilS)])),((10060030,g2),oB 45 7 C0 y2),((85,g10),oB 127 4 I9 x3.2)]⟩ s) ?_ ?_))
 refine cc rfl hy8 (fun c8 hy8=> ?_) (fun c8 hy8=> ?_)
 refine B8 fun u37 hu37=>sp rfl rfl (sp rfl rfl (sp rfl rfl (sp rfl rfl (sl rfl G_hit rfl (sv rfl (bs hy8 fun v9 hv9 hy8=>sd rfl (L4 rfl rfl hv9 rfl) (sd rfl (F0 rfl hv9 rfl rfl) (sst rfl (gq rfl) (B8j v9) rfl (A2 ?_)))))))))
 obtain rfl:=(Option.some.inj hy8)
 exact l_j ⟨(),(F7 ⟨.of rfl, .of rfl, .of rfl, .of rfl, .of rfl, .of rfl, .of rfl, .of rfl, .of rfl,trivial⟩ (sg rfl (sg rfl (A5 G_hit (.of rfl) (sg rfl (B1 (gq rfl) (B1 (gq rfl) trivial)))))))⟩
 refine O4 rfl fun u38 hu38=>sp rfl rfl (sp rfl rfl (sp rfl rfl (sd rfl (B5 rfl G_hit rfl rfl) (sd rfl (B5 rfl (gq rfl) rfl rfl) (sv rfl (sp rfl rfl (sp rfl rfl (sp rfl rfl (sp rfl rfl (sl rfl G_hit rfl (bs hy8 fun v10 hv10 hy8=>B3 rfl rfl A3 (B6n _ _ _ _ _ hv10) (.inl rfl) (sp rfl rfl (sst rfl (gq rfl) [(di x2.1),(di x3.1),(di p2.Tick),(di v10)] rfl (A2 ?_))))))))))))))
 cases hy8
 exact l_j ⟨(),(F7 ⟨.of rfl, .of rfl, .of rfl, .of rfl, .of rfl, .of rfl, .of rfl, .of rfl, .of rfl,trivial⟩ (sg rfl (sg rfl (A5 G_hit (.of rfl) (sg rfl (B1 (gq rfl) (B1 (gq rfl) trivial)))))))⟩
 rintro _ ⟨g11,q3⟩
 refine B0 q3 (O4 rfl fun u39 hu39=>sp rfl rfl (sp rfl rfl (sp rfl rfl (sp rfl rfl (sp rfl rfl (D8 (oS x3.2 (85,g10)) rfl (S9 rfl G_hit rfl) (sd rfl (B5 rfl (gq rfl) rfl rfl) (D8 (dl I9 [y8]) rfl rfl (bs hz3 fun v11 hv11 hz3=>A13 I9 (85,g10) x3.2 y8 [] _ (T7 (fun _=>rfl)) rfl (gq rfl) hv11 (sp rfl rfl (sp rfl rfl (sp rfl rfl (sst rfl (gq rfl) ((Y2 p1)++ (L9 p2)++ [(di v2.Tick),(oS y2 (10060030,g2)),(.sl (85,u39)),(dl A4 p3),(.d .nilS)]) rfl (A2 (M0 (B0 (s0:=⟨T [(0,(.ptr (30,u7) 0)),(2,(di x2.1)),(3,(.ptr (3,u28) 0)),(16,(dl C0 p2.Agents)),(17,(di (p2.Agents.length:Int))),(18,(di x2.1)),(28,(di (p1.Zones.length:Int))),(29,(di x3.1))],G [((30,u7),some (.box 135 ((Y2 p1)++ (L9 p2)++ [(di v2.Tick),(oS y2 (10060030,g2)),(.sl (85,u39)),(dl A4 p3),(.d .nilS)]))),((10060030,g2),oB 45 7 C0 y2),((85,u39),some (.arr 127 4 (List.map I9 v11))),((3,u28),some (.box 45 (A0n v6))),((6,u1),some (.box 25 [(di 0),(.d .nilS),(.d .nilS)]))]⟩) (F7 ⟨.of rfl, .of rfl, .of rfl, .of rfl, .of rfl, .of rfl, .of rfl, .of rfl,trivial⟩ (A5 G_hit (.of rfl) (B1 (gq rfl) (sg rfl (sg rfl (sg rfl trivial)))))) ?_))))))))))))))))
 refine B8 fun u40 hu40=>sv rfl (sv rfl (A2 (K4 ?_)))
 cases hz3
 exact ⟨rfl,u39,(F7 ⟨.of rfl, .of rfl, .of rfl, .of rfl, .of rfl, .of rfl, .of rfl, .of rfl,trivial⟩ (A5 G_hit (.box (cv (cv (cv (cv (cv (cv (cv (cv (cv (cv (.cons (.of (B2i (A4p hv11)).symm) cw)))))))))))) (sg rfl (sg rfl (B1 (gq rfl) (A5f (gq rfl) trivial))))))⟩
 refine E1 rfl ?_
 cases hz3
 obtain rfl:=ez3 _ rfl
 refine ⟨nofun,C9 rfl (l_j ?_)⟩
 exact ⟨g10,(F7 ⟨.of rfl, .of rfl, .of rfl, .of rfl,trivial⟩ (A5 G_hit (.of rfl) (sg rfl (B1 (gq rfl) (B1 (gq rfl) trivial)))))⟩
 rintro _ ⟨g9,q4⟩
 refine M0 (B0 q4 (B8 fun u41 hu41=>sv rfl (sv rfl (A2 (K4 ?_)))))
 cases hz2
 exact ⟨rfl,g9,(F7 ⟨.of rfl, .of rfl, .of rfl, .of rfl,trivial⟩ (A5 G_hit (.of rfl) (sg rfl (B1 (gq rfl) (B1 (gq rfl) trivial)))))⟩
 refine E1 rfl ?_
 cases hz2
 obtain rfl:=ez2 _ rfl
 refine ⟨nofun,C9 rfl (l_j ?_)⟩
 exact ⟨g8,(F7 trivial (sg rfl (A5 G_hit (.of rfl) (B1 (gq rfl) (B1 (gq rfl) trivial)))))⟩
 rintro _ ⟨g7,q5⟩
 refine K4 ?_
 obtain rfl:=(Option.some.inj hy5)
 exact B6g q5 (.inl rfl) g7 ⟨.of rfl, .of rfl, .of rfl, .of rfl,trivial⟩ (A5 G_hit (.of rfl) (sg rfl (B1 (gq rfl) (B1 (gq rfl) trivial))))
 intro g6
 intro u42 hu42
 refine A2 (M0 (B8 fun u43 hu43=>sv rfl (sv rfl (A2 (B9j (lr (fun u44 hu44=>sv rfl (A2 (A7 (B7g rfl (B2 (A7 (A8 (lr (fun u45 hu45=>sv rfl (sv rfl (A2 (B8 fun u46 hu46=>sv rfl (sp rfl rfl (bs hy1 fun y9 hy9 hy1=>C0e (fk Tryz.func91 Tryz.ntmps91 (fun r=>if r==1 then [1]else if r==4 then [3]else if r==5 then [3]else []) (by with_unfolding_all rfl)) (fun (g12:({d:Nat // d∈ [72,158]}×Nat))=> [(6,(.ptr (6,u1) 0)),(10,(.ptr (30,u7) 0)),(31,(.d (.agg [(.fn (.func 90) [] []),(.fn (.func 80) [] []),(.fn (.func 91) [] [])]))),(32,(di 2))]) (fun (g12:({d:Nat // d∈ [72,158]}×Nat))=> [((6,u1),some (.box 25 [(di 0),(.d .nilS),(.d .nilS)])),((30,u7),some (.box 135 ((Y2 p1)++ (L9 p2)++ [(di v2.Tick),(oS y2 (10060030,g2)),(oS y5 (85,g6)),(dl A4 p3),(oS y9 (g12.1.val,g12.2))]))),((10060030,g2),oB 45 7 C0 y2),((85,g6),oB 127 4 I9 y5),((g12.1.val,g12.2),oB 77 6 X3 y9)]) rfl (nl rfl) ?_ ?_))))))))))))))))))))
 unfold A8u at hy9
 refine B0 (s0:=⟨T [(0,(.ptr (30,u7) 0))],G [((30,u7),some (.box 135 ((Y2 p1)++ (L9 p2)++ [(di v2.Tick),(oS y2 (10060030,g2)),(oS y5 (85,g6)),(dl A4 p3),(.d .nilS)]))),((10060030,g2),oB 45 7 C0 y2),((85,g6),oB 127 4 I9 y5),((6,u1),some (.box 25 [(di 0),(.d .nilS),(.d .nilS)]))]⟩) (F7 ⟨.of rfl,trivial⟩ (sg rfl (B1 (gq rfl) (B1 (gq rfl) (A5 G_hit (.of rfl) trivial))))) ?_
 refine lr (fun u47 hu47=>sn rfl rfl (A2 (lr (fun u48 hu48=>sp rfl (S9 rfl G_hit rfl) (bs hy9 fun y10 hy10 hy9=>C0e (fk Tryz.func81 Tryz.ntmps81 m0 (by with_unfolding_all rfl)) (fun (g13:{g:Nat // g≠u47})=> [(1,(.ptr (1,u47) 0)),(5,(.fn (.func 174) [] [(.ptr (1,g13.1) 0)]))]) (fun (g13:{g:Nat // g≠u47})=> [((1,u47),some (.box 133 [(.ptr (30,u7) 0)])),((30,u7),some (.box 135 ((Y2 p1)++ (L9 p2)++ [(di v2.Tick),(oS y2 (10060030,g2)),(oS y5 (85,g6)),(dl A4 p3),(.d .nilS)]))),((6,u1),some (.box 25 [(di 0),(.d .nilS),(.d .nilS)])),((10060030,g2),oB 45 7 C0 y2),((85,g6),oB 127 4 I9 y5),((1,g13.1),some (.box 133 [(.ptr (30,u7) 0)]))]) rfl (nl rfl) ?_ ?_)))))
 unfold A8t at hy10
 refine B0 (s0:=⟨T [(0,(.ptr (30,u7) 0))],G [((30,u7),some (.box 135 ((Y2 p1)++ (L9 p2)++ [(di v2.Tick),(oS y2 (10060030,g2)),(oS y5 (85,g6)),(dl A4 p3),(.d .nilS)]))),((10060030,g2),oB 45 7 C0 y2),((85,g6),oB 127 4 I9 y5),((6,u1),some (.box 25 [(di 0),(.d .nilS),(.d .nilS)])),((1,u47),some (.box 133 [(.ptr (30,u7) 0)]))]⟩) (F7 ⟨.of rfl,trivial⟩ (sg rfl (B1 (gq rfl) (B1 (gq rfl) (sg rfl (A5 G_hit (.of rfl) trivial)))))) ?_
 refine lr (fun u49 hu49=>sn rfl rfl (sv rfl (A2 (lr (fun u50 hu50=>D8 (.fn _ _ _) rfl rfl (D8 (.fn _ _ _) rfl rfl (A2 (B4 ?_))))))))
 cases hy10
 exact C5c (.inr rfl) (D0w (B6 rfl)) ⟨u49,(Ne.symm (C65 (k:=(1,u47)) hu49 (gq rfl)))⟩ ⟨.of rfl, .of rfl,trivial⟩ (A5 (R3 (C65 hu49 (gq rfl)) (gq rfl)) (.of rfl) (sg rfl (sg rfl (B1 (gq rfl) (B1 (gq rfl) (A5 G_hit (.of rfl) trivial))))))
 intro g13
 intro u51 hu51
 refine A2 (bs hy9 fun y11 hy11 hy9=>I5 (fun s=> ∃g14:({d:Nat // d∈ [72,158]}×Nat),Sb ⟨T [],G [((6,u1),some (.box 25 [(di 0),(.d .nilS),(.d .nilS)])),((30,u7),some (.box 135 ((Y2 p1)++ (L9 p2)++ [(di v2.Tick),(oS y2 (10060030,g2)),(oS y5 (85,g6)),(dl A4 p3),(oS y11 (g14.1.val,g14.2))]))),((10060030,g2),oB 45 7 C0 y2),((85,g6),oB 127 4 I9 y5),((g14.1.val,g14.2),oB 77 6 X3 y11)]⟩ s) ?_ ?_)
 refine A8 (bs hy11 fun v12 hv12 hy11=>B0 (s0:=⟨T [(1,(.ptr (1,u47) 0)),(5,(.fn (.func 174) [] [(.ptr (1,g13.1) 0)]))],G [((1,u47),some (.box 133 [(.ptr (30,u7) 0)])),((30,u7),some (.box 135 ((Y2 p1)++ (L9 p2)++ [(di v2.Tick),(oS y2 (10060030,g2)),(oS y5 (85,g6)),(dl A4 p3),(.d .nilS)]))),((10060030,g2),oB 45 7 C0 y2),((85,g6),oB 127 4 I9 y5),((1,g13.1),some (.box 133 [(.ptr (30,u7) 0)])),((6,u1),some (.box 25 [(di 0),(.d .nilS),(.d .nilS)]))]⟩) (F7 ⟨.of rfl, .of rfl,trivial⟩ (A5 G_hit (.of rfl) (sg rfl (B1 (gq rfl) (B1 (gq rfl) (A5 (R3 g13.2 (gq rfl)) (.of rfl) (sg rfl trivial))))))) ?_)
 refine C6h (.fn (.func 174) [] [(.ptr (1,g13.1) 0)]) (B5o (1,g13.1) (30,u7) p2) C5h v12 (A6f p1 p2 p3 v2 y2 y5) (fun (x4:(List Crash))=>x4) (fun (x4:(List Crash)) (g15:({d:Nat // d∈ [72,158]}×Nat))=> [((1,u47),some (.box 133 [(.ptr (30,u7) 0)])),((1,g13.1),some (.box 133 [(.ptr (30,u7) 0)])),((6,u1),some (.box 25 [(di 0),(.d .nilS),(.d .nilS)])),((30,u7),some (.box 135 ((Y2 p1)++ (L9 p2)++ [(di v2.Tick),(oS y2 (10060030,g2)),(oS y5 (85,g6)),(dl A4 p3),(oS x4 (g15.1.val,g15.2))]))),((10060030,g2),oB 45 7 C0 y2),((85,g6),oB 127 4 I9 y5),((g15.1.val,g15.2),oB 77 6 X3 x4)]) [] (⟨72, .head _⟩,0) _ rfl (C1w hv12 _ _) (fun x4 g15 _ _=>⟨A1 rfl (R3 g13.2 G_hit),_,_,_,_,_,_,_,_,_,_,A1 rfl (gq rfl)⟩) (fun _=>rfl) hy11 (F7 trivial (A5 G_hit (.of rfl) (A5 (R3 g13.2 (gq rfl)) (.of rfl) (sg rfl (sg rfl (B1 (gq rfl) (B1 (gq rfl) (A73 trivial)))))))) nofun ?_ ?_
 intro u53 hu53 hku53
 refine ⟨fun x4 g15=>(A1 rfl (A1 rfl (A1 rfl (A1 rfl (A1 rfl (A1 rfl (A1 (neR g15.1.property rfl) rfl))))))),?_⟩
 intro r1 x4 g15 a1 z4 hrr1 hz4 ez4
 unfold A6f at hz4
 show AWL _ _ _ _ _ _ ⟨T [(7,(di a1.2)),(6,(di a1.1)),(1,(.ptr (1,u47) 0)),(5,(.fn (.func 174) [] [(.ptr (1,g13.1) 0)]))],G [((1000000,u53),some (.obj (T [(1,(.ptr (1,u47) 0)),(5,(.fn (.func 174) [] [(.ptr (1,g13.1) 0)]))]) r1)),((1,u47),some (.box 133 [(.ptr (30,u7) 0)])),((1,g13.1),some (.box 133 [(.ptr (30,u7) 0)])),((6,u1),some (.box 25 [(di 0),(.d .nilS),(.d .nilS)])),((30,u7),some (.box 135 ((Y2 p1)++ (L9 p2)++ [(di v2.Tick),(oS y2 (10060030,g2)),(oS y5 (85,g6)),(dl A4 p3),(oS x4 (g15.1.val,g15.2))]))),((10060030,g2),oB 45 7 C0 y2),((85,g6),oB 127 4 I9 y5),((g15.1.val,g15.2),oB 77 6 X3 x4)]⟩
 refine lr (fun u54 hu54=>sv rfl (A2 (B8 fun u55 hu55=>sv rfl (A2 (l_j (C8q G_hit ?_))))))
 refine A8 (lr (fun u56 hu56=>sp rfl (S9 rfl (gq rfl) rfl) (sv rfl (sv rfl (bs hz4 fun y12 hy12 hz4=>C0e (fk Tryz.func183 Tryz.ntmps183 (fun r=>if r==13 then [1014,1016]else []) (by with_unfolding_all rfl)) (fun (g16:({d:Nat // d∈ [72,158]}×Nat))=> [(1,(.ptr (1,u47) 0)),(2,(di a1.1)),(3,(di a1.2))]) (fun (g16:({d:Nat // d∈ [72,158]}×Nat))=> [((1,u47),some (.box 133 [(.ptr (30,u7) 0)])),((6,u1),some (.box 25 [(di 0),(.d .nilS),(.d .nilS)])),((30,u7),some (.box 135 ((Y2 p1)++ (L9 p2)++ [(di v2.Tick),(oS y2 (10060030,g2)),(oS y5 (85,g6)),(dl A4 p3),(oS y12 (g16.1.val,g16.2))]))),((1,g13.1),some (.box 133 [(.ptr (30,u7) 0)])),((1000000,u53),some (.obj (T [(1,(.ptr (1,u47) 0)),(5,(.fn (.func 174) [] [(.ptr (1,g13.1) 0)]))]) {r1 with state:= .busy})),((10060030,g2),oB 45 7 C0 y2),((85,g6),oB 127 4 I9 y5),((g16.1.val,g16.2),oB 77 6 X3 y12)]) rfl (nl rfl) ?_ ?_)))))
 unfold A8s at hy12
 refine B0 (s0:=⟨T [(0,(.ptr (30,u7) 0)),(1,(di a1.1)),(2,(di a1.2))],G [((30,u7),some (.box 135 ((Y2 p1)++ (L9 p2)++ [(di v2.Tick),(oS y2 (10060030,g2)),(oS y5 (85,g6)),(dl A4 p3),(oS x4 (g15.1.val,g15.2))]))),((10060030,g2),oB 45 7 C0 y2),((85,g6),oB 127 4 I9 y5),((g15.1.val,g15.2),oB 77 6 X3 x4),((6,u1),some (.box 25 [(di 0),(.d .nilS),(.d .nilS)])),((1,u47),some (.box 133 [(.ptr (30,u7) 0)])),((1,g13.1),some (.box 133 [(.ptr (30,u7) 0)])),((1000000,u53),some (.obj (T [(1,(.ptr (1,u47) 0)),(5,(.fn (.func 174) [] [(.ptr (1,g13.1) 0)]))]) {r1 with state:= .busy}))]⟩) (F7 ⟨.of rfl, .of rfl, .of rfl,trivial⟩ (sg rfl (B1 (gq rfl) (B1 (gq rfl) (B1 (A1 (neL g15.1.property rfl) (A1 (neL g15.1.property rfl) (A1 (neL g15.1.property rfl) (A1 (neL g15.1.property rfl) (A1 (neL g15.1.property rfl) (A1 (neL g15.1.property rfl) (A1 (neL g15.1.property rfl) (A1 (neL g15.1.property rfl) G_hit)))))))) (sg rfl (sg rfl (A5 (A1 rfl (A1 rfl (R3 g13.2 G_hit))) (.of rfl) (A5 G_hit (.of rfl) trivial))))))))) ?_
 refine lr (fun u57 hu57=>sp rfl rfl (sp rfl rfl (sp rfl rfl (sp rfl rfl (sl rfl G_hit rfl (sd rfl (N1 rfl) (sv rfl (A2 (js hy12 fun z5 hz5 hy12=>I5 (fun s=> ∃(y13:Unit) (g17:Unit),z5= .inl y13∧Sb ⟨T [],G [((6,u1),some (.box 25 [(di 0),(.d .nilS),(.d .nilS)])),((30,u7),some (.box 135 ((Y2 p1)++ (L9 p2)++ [(di v2.Tick),(oS y2 (10060030,g2)),(oS y5 (85,g6)),(dl A4 p3),(oS x4 (g15.1.val,g15.2))]))),((1,u47),some (.box 133 [(.ptr (30,u7) 0)])),((1,g13.1),some (.box 133 [(.ptr (30,u7) 0)])),((1000000,u53),some (.obj (T [(1,(.ptr (1,u47) 0)),(5,(.fn (.func 174) [] [(.ptr (1,g13.1) 0)]))]) {r1 with state:= .busy})),((10060030,g2),oB 45 7 C0 y2),((85,g6),oB 127 4 I9 y5),((g15.1.val,g15.2),oB 77 6 X3 x4)]⟩ s) ?_ ?_)))))))))
 refine A8 (J4 (A59 p1 p2 p3 v2 y2 y5 x4 a1) (fun (x5:Int) (g18:Unit)=>⟨T [(0,(.ptr (30,u7) 0)),(1,(di a1.1)),(2,(di a1.2)),(22,(di (p1.Lanes.length:Int))),(23,(di x5))],G [((30,u7),some (.box 135 ((Y2 p1)++ (L9 p2)++ [(di v2.Tick),(oS y2 (10060030,g2)),(oS y5 (85,g6)),(dl A4 p3),(oS x4 (g15.1.val,g15.2))]))),((6,u1),some (.box 25 [(di 0),(.d .nilS),(.d .nilS)])),((1,u47),some (.box 133 [(.ptr (30,u7) 0)])),((1,g13.1),some (.box 133 [(.ptr (30,u7) 0)])),((1000000,u53),some (.obj (T [(1,(.ptr (1,u47) 0)),(5,(.fn (.func 174) [] [(.ptr (1,g13.1) 0)]))]) {r1 with state:= .busy})),((10060030,g2),oB 45 7 C0 y2),((85,g6),oB 127 4 I9 y5),((g15.1.val,g15.2),oB 77 6 X3 x4)]⟩) 0 () _ hz5 (F7 ⟨.of rfl, .of rfl, .of rfl, .of rfl, .of rfl,trivial⟩ (A5 G_hit (.of rfl) (A5 (A1 rfl (A1 rfl (A1 rfl (A1 (neR g15.1.property rfl) G_hit)))) (.of rfl) (A5 (A1 rfl (A1 rfl (A1 rfl (A1 (neR g15.1.property rfl) (gq rfl))))) (.of rfl) (A5 (A1 rfl (A1 rfl (A1 rfl (A1 (neR g15.1.property rfl) (A1 rfl (R3 g13.2 G_hit)))))) (.of rfl) (A5 (A1 rfl (A1 rfl (A1 rfl (A1 (neR g15.1.property rfl) (gq rfl))))) (.of rfl) (B1 (gq rfl) (B1 (gq rfl) (B1 (A1 (neL g15.1.property rfl) (A1 (neL g15.1.property rfl) (A1 (neL g15.1.property rfl) G_hit))) trivial))))))))) ?_)
 intro x5 g18 z6 hz6 ez6
 unfold A59 at hz6
 refine lr (fun u58 hu58=>sv rfl (A2 (A7 (cc rfl hz6 (fun c9 hz6=> ?_) (fun c9 hz6=> ?_)))))
 refine B2 (A7 (A8 (lr (fun u59 hu59=>sv rfl (sv rfl (A2 (lr (fun u60 hu60=>sp rfl rfl (sv rfl (sv rfl (bs hz6 fun v13 hv13 hz6=>B3 rfl (C2 (A22 G_hit (rD (rD (rD (rD (rD (rD (rD (rD (rD (C2 (A5v (gq rfl)) (C2 (A5v (gq rfl)) (rD (C2 (A5v (A1 (neL g15.1.property rfl) (A1 (neL g15.1.property rfl) (A1 (neL g15.1.property rfl) (A1 (neL g15.1.property rfl) (A1 (neL g15.1.property rfl) (A1 (neL g15.1.property rfl) (A1 (neL g15.1.property rfl) G_hit)))))))) D3)))))))))))))) (rD (rD D3))) (.cons (DLe.bp (ca rfl (ca rfl (ca rfl (ca rfl (ca rfl (ca rfl (ca rfl (ca rfl (ca rfl (.cons ⟨A5u,rfl⟩ (.cons ⟨A5u,rfl⟩ (ca rfl (.cons ⟨A5u,rfl⟩ .nil)))))))))))))) (.cons (.refl _) A3)) (A71 _ _ _ _ hv13) (.inr rfl) (sv rfl (sv rfl (sv rfl (sv rfl (sv rfl (A2 (A7 (B0 (s0:=⟨T [(0,(.ptr (30,u7) 0)),(1,(di a1.1)),(2,(di a1.2)),(6,(di x5)),(7,(di v13.1)),(8,(.d (bo v13.2))),(22,(di (p1.Lanes.length:Int))),(23,(di x5))],G [((30,u7),some (.box 135 ((Y2 p1)++ (L9 p2)++ [(di v2.Tick),(oS y2 (10060030,g2)),(oS y5 (85,g6)),(dl A4 p3),(oS x4 (g15.1.val,g15.2))]))),((10060030,g2),oB 45 7 C0 y2),((85,g6),oB 127 4 I9 y5),((g15.1.val,g15.2),oB 77 6 X3 x4),((6,u1),some (.box 25 [(di 0),(.d .nilS),(.d .nilS)])),((1,u47),some (.box 133 [(.ptr (30,u7) 0)])),((1,g13.1),some (.box 133 [(.ptr (30,u7) 0)])),((1000000,u53),some (.obj (T [(1,(.ptr (1,u47) 0)),(5,(.fn (.func 174) [] [(.ptr (1,g13.1) 0)]))]) {r1 with state:= .busy}))]⟩) (F7 ⟨.of rfl, .of rfl, .of rfl, .of rfl, .of rfl, .of rfl, .of rfl, .of rfl,trivial⟩ (A5 G_hit (.of rfl) (B1 (gq rfl) (B1 (gq rfl) (B1 (A1 (neL g15.1.property rfl) (A1 (neL g15.1.property rfl) (A1 (neL g15.1.property rfl) (A1 (neL g15.1.property rfl) (A1 (neL g15.1.property rfl) (A1 (neL g15.1.property rfl) (A1 (neL g15.1.property rfl) G_hit))))))) (sg rfl (sg rfl (A5 (A1 rfl (A1 rfl (R3 g13.2 G_hit))) (.of rfl) (sg rfl trivial))))))))) ?_)))))))))))))))))))
 refine B8 fun u61 hu61=>sp rfl rfl (sv rfl (sv rfl (bs hz6 fun v14 hv14 hz6=>B3 rfl (C2 (A22 G_hit (rD (rD (rD (rD (rD (rD (rD (rD (rD (C2 (A5v (gq rfl)) (C2 (A5v (gq rfl)) (rD (C2 (A5v (A1 (neL g15.1.property rfl) (A1 (neL g15.1.property rfl) (A1 (neL g15.1.property rfl) G_hit)))) D3)))))))))))))) (rD (rD D3))) (.cons (DLe.bp (ca rfl (ca rfl (ca rfl (ca rfl (ca rfl (ca rfl (ca rfl (ca rfl (ca rfl (.cons ⟨A5u,rfl⟩ (.cons ⟨A5u,rfl⟩ (ca rfl (.cons ⟨A5u,rfl⟩ .nil)))))))))))))) (.cons (.refl _) A3)) (A71 _ _ _ _ hv14) (.inr rfl) (sv rfl (sv rfl (sv rfl (sv rfl (sv rfl (A2 (A7 (A7 (B0 (s0:=⟨T [(0,(.ptr (30,u7) 0)),(1,(di a1.1)),(2,(di a1.2)),(6,(di x5)),(7,(di v13.1)),(8,(.d (bo v13.2))),(9,(di v14.1)),(10,(.d (bo v14.2))),(22,(di (p1.Lanes.length:Int))),(23,(di x5))],G [((30,u7),some (.box 135 ((Y2 p1)++ (L9 p2)++ [(di v2.Tick),(oS y2 (10060030,g2)),(oS y5 (85,g6)),(dl A4 p3),(oS x4 (g15.1.val,g15.2))]))),((10060030,g2),oB 45 7 C0 y2),((85,g6),oB 127 4 I9 y5),((g15.1.val,g15.2),oB 77 6 X3 x4),((6,u1),some (.box 25 [(di 0),(.d .nilS),(.d .nilS)])),((1,u47),some (.box 133 [(.ptr (30,u7) 0)])),((1,g13.1),some (.box 133 [(.ptr (30,u7) 0)])),((1000000,u53),some (.obj (T [(1,(.ptr (1,u47) 0)),(5,(.fn (.func 174) [] [(.ptr (1,g13.1) 0)]))]) {r1 with state:= .busy}))]⟩) (F7 ⟨.of rfl, .of rfl, .of rfl, .of rfl, .of rfl, .of rfl, .of rfl, .of rfl, .of rfl, .of rfl,trivial⟩ (A5 G_hit (.of rfl) (B1 (gq rfl) (B1 (gq rfl) (B1 (A1 (neL g15.1.property rfl) (A1 (neL g15.1.property rfl) (A1 (neL g15.1.property rfl) G_hit))) (A5 (A1 rfl (A1 rfl (A1 rfl (A1 (neR g15.1.property rfl) G_hit)))) (.of rfl) (A5 (A1 rfl (A1 rfl (A1 rfl (A1 (neR g15.1.property rfl) (gq rfl))))) (.of rfl) (A5 (A1 rfl (A1 rfl (A1 rfl (A1 (neR g15.1.property rfl) (A1 rfl (R3 g13.2 G_hit)))))) (.of rfl) (A5 (A1 rfl (A1 rfl (A1 rfl (A1 (neR g15.1.property rfl) (gq rfl))))) (.of rfl) trivial))))))))) ?_))))))))))))
 refine B8 fun u62 hu62=>sv rfl (D8 (.d (bo (!v13.2))) rfl rfl (sv rfl (gf rfl (fun _=>rfl) ?_)))
 refine A0o _ (.d (bo (!v14.2))) rfl (A4b rfl) (fun w2=>(by simp only [A6 w2];rfl)) ?_
 refine sd rfl (A8i rfl rfl (fun hc=>A6 (Y1 hc))) (A2 (cc rfl hz6 (fun c10 hz6=> ?_) (fun c10 hz6=> ?_)))
 refine C05 rfl (B0 (s0:=⟨T [(0,(.ptr (30,u7) 0)),(1,(di a1.1)),(2,(di a1.2)),(22,(di (p1.Lanes.length:Int))),(23,(di x5))],G [((30,u7),some (.box 135 ((Y2 p1)++ (L9 p2)++ [(di v2.Tick),(oS y2 (10060030,g2)),(oS y5 (85,g6)),(dl A4 p3),(oS x4 (g15.1.val,g15.2))]))),((10060030,g2),oB 45 7 C0 y2),((85,g6),oB 127 4 I9 y5),((g15.1.val,g15.2),oB 77 6 X3 x4),((6,u1),some (.box 25 [(di 0),(.d .nilS),(.d .nilS)])),((1,u47),some (.box 133 [(.ptr (30,u7) 0)])),((1,g13.1),some (.box 133 [(.ptr (30,u7) 0)])),((1000000,u53),some (.obj (T [(1,(.ptr (1,u47) 0)),(5,(.fn (.func 174) [] [(.ptr (1,g13.1) 0)]))]) {r1 with state:= .busy}))]⟩) (F7 ⟨.of rfl, .of rfl, .of rfl, .of rfl, .of rfl,trivial⟩ (A5 G_hit (.of rfl) (B1 (gq rfl) (B1 (gq rfl) (B1 (A1 (neL g15.1.property rfl) (A1 (neL g15.1.property rfl) (A1 (neL g15.1.property rfl) G_hit))) (A5 (A1 rfl (A1 rfl (A1 rfl (A1 (neR g15.1.property rfl) G_hit)))) (.of rfl) (A5 (A1 rfl (A1 rfl (A1 rfl (A1 (neR g15.1.property rfl) (gq rfl))))) (.of rfl) (A5 (A1 rfl (A1 rfl (A1 rfl (A1 (neR g15.1.property rfl) (A1 rfl (R3 g13.2 G_hit)))))) (.of rfl) (A5 (A1 rfl (A1 rfl (A1 rfl (A1 (neR g15.1.property rfl) (gq rfl))))) (.of rfl) trivial))))))))) ?_)
 refine B8 fun u63 hu63=>sv rfl (sv rfl (A2 (K4 ?_)))
 cases hz6
 exact ⟨rfl,(),(F7 ⟨.of rfl, .of rfl, .of rfl, .of rfl, .of rfl,trivial⟩ (A5 G_hit (.of rfl) (A5 (A1 rfl (A1 rfl (A1 rfl (A1 (neR g15.1.property rfl) G_hit)))) (.of rfl) (A5 (A1 rfl (A1 rfl (A1 rfl (A1 (neR g15.1.property rfl) (gq rfl))))) (.of rfl) (A5 (A1 rfl (A1 rfl (A1 rfl (A1 (neR g15.1.property rfl) (A1 rfl (R3 g13.2 G_hit)))))) (.of rfl) (A5 (A1 rfl (A1 rfl (A1 rfl (A1 (neR g15.1.property rfl) (gq rfl))))) (.of rfl) (B1 (gq rfl) (B1 (gq rfl) (B1 (A1 (neL g15.1.property rfl) (A1 (neL g15.1.property rfl) (A1 (neL g15.1.property rfl) G_hit))) trivial)))))))))⟩
 refine B2 (A7 (B0 (s0:=⟨T [(0,(.ptr (30,u7) 0)),(1,(di a1.1)),(2,(di a1.2)),(6,(di x5)),(7,(di v13.1)),(9,(di v14.1)),(22,(di (p1.Lanes.length:Int))),(23,(di x5))],G [((30,u7),some (.box 135 ((Y2 p1)++ (L9 p2)++ [(di v2.Tick),(oS y2 (10060030,g2)),(oS y5 (85,g6)),(dl A4 p3),(oS x4 (g15.1.val,g15.2))]))),((10060030,g2),oB 45 7 C0 y2),((85,g6),oB 127 4 I9 y5),((g15.1.val,g15.2),oB 77 6 X3 x4),((6,u1),some (.box 25 [(di 0),(.d .nilS),(.d .nilS)])),((1,u47),some (.box 133 [(.ptr (30,u7) 0)])),((1,g13.1),some (.box 133 [(.ptr (30,u7) 0)])),((1000000,u53),some (.obj (T [(1,(.ptr (1,u47) 0)),(5,(.fn (.func 174) [] [(.ptr (1,g13.1) 0)]))]) {r1 with state:= .busy}))]⟩) (F7 ⟨.of rfl, .of rfl, .of rfl, .of rfl, .of rfl, .of rfl, .of rfl, .of rfl,trivial⟩ (A5 G_hit (.of rfl) (B1 (gq rfl) (B1 (gq rfl) (B1 (A1 (neL g15.1.property rfl) (A1 (neL g15.1.property rfl) (A1 (neL g15.1.property rfl) G_hit))) (A5 (A1 rfl (A1 rfl (A1 rfl (A1 (neR g15.1.property rfl) G_hit)))) (.of rfl) (A5 (A1 rfl (A1 rfl (A1 rfl (A1 (neR g15.1.property rfl) (gq rfl))))) (.of rfl) (A5 (A1 rfl (A1 rfl (A1 rfl (A1 (neR g15.1.property rfl) (A1 rfl (R3 g13.2 G_hit)))))) (.of rfl) (A5 (A1 rfl (A1 rfl (A1 rfl (A1 (neR g15.1.property rfl) (gq rfl))))) (.of rfl) trivial))))))))) ?_))
 refine B8 fun u64 hu64=>sv rfl (sv rfl (sv rfl (sv rfl (A2 (A7 (A7 (O4 rfl fun u65 hu65=>sp rfl rfl (sp rfl rfl (sp rfl rfl (sp rfl rfl (sl rfl G_hit rfl (sv rfl (bs hz6 fun v15 hv15 hz6=>sd rfl (L4 rfl rfl hv15 rfl) (sv rfl (sd rfl (N2 rfl hv15 rfl) (sv rfl (sv rfl (sp rfl rfl (sp rfl rfl (sp rfl rfl (sp rfl rfl (sl rfl G_hit rfl (sv rfl (bs hz6 fun v16 hv16 hz6=>sd rfl (L4 rfl rfl hv16 rfl) (sv rfl (sd rfl (N2 rfl hv16 rfl) (sv rfl (sv rfl (sv rfl (A2 (bs hz6 fun y14 hy14 hz6=>I5 (fun s=> ∃g19:Unit,Sb ⟨T [(0,(.ptr (30,u7) 0)),(1,(di a1.1)),(2,(di a1.2)),(6,(di x5)),(7,(di y14.1)),(9,(di y14.2.1)),(11,(di y14.2.2.1)),(12,(di y14.2.2.2)),(22,(di (p1.Lanes.length:Int))),(23,(di x5))],G [((30,u7),some (.box 135 ((Y2 p1)++ (L9 p2)++ [(di v2.Tick),(oS y2 (10060030,g2)),(oS y5 (85,g6)),(dl A4 p3),(oS x4 (g15.1.val,g15.2))]))),((6,u1),some (.box 25 [(di 0),(.d .nilS),(.d .nilS)])),((1,u47),some (.box 133 [(.ptr (30,u7) 0)])),((1,g13.1),some (.box 133 [(.ptr (30,u7) 0)])),((1000000,u53),some (.obj (T [(1,(.ptr (1,u47) 0)),(5,(.fn (.func 174) [] [(.ptr (1,g13.1) 0)]))]) {r1 with state:= .busy})),((10060030,g2),oB 45 7 C0 y2),((85,g6),oB 127 4 I9 y5),((g15.1.val,g15.2),oB 77 6 X3 x4)]⟩ s) ?_ ?_)))))))))))))))))))))))))))))))
 refine cc rfl hy14 (fun c11 hy14=> ?_) (fun c11 hy14=> ?_)
 refine B0 (s0:=⟨T [(0,(.ptr (30,u7) 0)),(1,(di a1.1)),(2,(di a1.2)),(6,(di x5)),(7,(di v13.1)),(9,(di v14.1)),(22,(di (p1.Lanes.length:Int))),(23,(di x5))],G [((30,u7),some (.box 135 ((Y2 p1)++ (L9 p2)++ [(di v2.Tick),(oS y2 (10060030,g2)),(oS y5 (85,g6)),(dl A4 p3),(oS x4 (g15.1.val,g15.2))]))),((10060030,g2),oB 45 7 C0 y2),((85,g6),oB 127 4 I9 y5),((g15.1.val,g15.2),oB 77 6 X3 x4),((6,u1),some (.box 25 [(di 0),(.d .nilS),(.d .nilS)])),((1,u47),some (.box 133 [(.ptr (30,u7) 0)])),((1,g13.1),some (.box 133 [(.ptr (30,u7) 0)])),((1000000,u53),some (.obj (T [(1,(.ptr (1,u47) 0)),(5,(.fn (.func 174) [] [(.ptr (1,g13.1) 0)]))]) {r1 with state:= .busy}))]⟩) (F7 ⟨.of rfl, .of rfl, .of rfl, .of rfl, .of rfl, .of rfl, .of rfl, .of rfl,trivial⟩ (A5 G_hit (.of rfl) (B1 (gq rfl) (B1 (gq rfl) (B1 (A1 (neL g15.1.property rfl) (A1 (neL g15.1.property rfl) (A1 (neL g15.1.property rfl) G_hit))) (A5 (A1 rfl (A1 rfl (A1 rfl (A1 (neR g15.1.property rfl) G_hit)))) (.of rfl) (A5 (A1 rfl (A1 rfl (A1 rfl (A1 (neR g15.1.property rfl) (gq rfl))))) (.of rfl) (A5 (A1 rfl (A1 rfl (A1 rfl (A1 (neR g15.1.property rfl) (A1 rfl (R3 g13.2 G_hit)))))) (.of rfl) (A5 (A1 rfl (A1 rfl (A1 rfl (A1 (neR g15.1.property rfl) (gq rfl))))) (.of rfl) trivial))))))))) ?_
 refine B8 fun u66 hu66=>sv rfl (sv rfl (sv rfl (sv rfl (sv rfl (sv rfl (sv rfl (sv rfl (A2 ?_))))))))
 cases hy14
 exact l_j ⟨(),(F7 ⟨.of rfl, .of rfl, .of rfl, .of rfl, .of rfl, .of rfl, .of rfl, .of rfl, .of rfl, .of rfl,trivial⟩ (A5 G_hit (.of rfl) (A5 (A1 rfl (A1 rfl (A1 rfl (A1 (neR g15.1.property rfl) G_hit)))) (.of rfl) (A5 (A1 rfl (A1 rfl (A1 rfl (A1 (neR g15.1.property rfl) (gq rfl))))) (.of rfl) (A5 (A1 rfl (A1 rfl (A1 rfl (A1 (neR g15.1.property rfl) (A1 rfl (R3 g13.2 G_hit)))))) (.of rfl) (A5 (A1 rfl (A1 rfl (A1 rfl (A1 (neR g15.1.property rfl) (gq rfl))))) (.of rfl) (B1 (gq rfl) (B1 (gq rfl) (B1 (A1 (neL g15.1.property rfl) (A1 (neL g15.1.property rfl) (A1 (neL g15.1.property rfl) G_hit))) trivial)))))))))⟩
 refine B2 ?_
 cases hy14
 exact l_j ⟨(),(F7 ⟨.of rfl, .of rfl, .of rfl, .of rfl, .of rfl, .of rfl, .of rfl, .of rfl, .of rfl, .of rfl,trivial⟩ (A5 G_hit (.of rfl) (A5 (A1 rfl (A1 rfl (A1 rfl (A1 (neR g15.1.property rfl) G_hit)))) (.of rfl) (A5 (A1 rfl (A1 rfl (A1 rfl (A1 (neR g15.1.property rfl) (gq rfl))))) (.of rfl) (A5 (A1 rfl (A1 rfl (A1 rfl (A1 (neR g15.1.property rfl) (A1 rfl (R3 g13.2 G_hit)))))) (.of rfl) (A5 (A1 rfl (A1 rfl (A1 rfl (A1 (neR g15.1.property rfl) (gq rfl))))) (.of rfl) (B1 (gq rfl) (B1 (gq rfl) (B1 (A1 (neL g15.1.property rfl) (A1 (neL g15.1.property rfl) (A1 (neL g15.1.property rfl) G_hit))) trivial)))))))))⟩
 rintro _ ⟨g19,q6⟩
 refine B0 q6 (A7 (O4 rfl fun u67 hu67=>sp rfl rfl (sp rfl rfl (sp rfl rfl (sp rfl rfl (D8 (oS y2 (10060030,g2)) rfl (S9 rfl G_hit rfl) (sv rfl (bs hz6 fun v17 hv17 hz6=>D8 (.aptr _ _ _ _) rfl (C8s rfl rfl (gq rfl) hv17) (sd rfl (B4l rfl (B7h (gq rfl) (B5k hv17)) hv17 rfl rfl) (bs hz6 fun v18 hv18 hz6=>B3 rfl rfl A3 (A4c _ _ hv18) (.inl rfl) (sv rfl (bs hz6 fun v19 hv19 hz6=>B3 rfl rfl A3 (A3h _ _ _ hv19) (.inl rfl) (sp rfl rfl (sp rfl rfl (sp rfl rfl (sp rfl rfl (D8 (oS y2 (10060030,g2)) rfl (S9 rfl G_hit rfl) (sv rfl (bs hz6 fun v20 hv20 hz6=>D8 (.aptr _ _ _ _) rfl (C8s rfl rfl (gq rfl) hv20) (sd rfl (B4l rfl (B7h (gq rfl) (B5k hv20)) hv20 rfl rfl) (bs hz6 fun v21 hv21 hz6=>B3 rfl rfl A3 (A4c _ _ hv21) (.inl rfl) (sv rfl (bs hz6 fun v22 hv22 hz6=>B3 rfl rfl A3 (A3h _ _ _ hv22) (.inl rfl) (sn rfl rfl (sn rfl rfl (sst rfl (gq rfl) [(di v19.from_),(di v19.to)] rfl (sst rfl (gq rfl) [(di v22.from_),(di v22.to)] rfl (A2 (A7 (B0 (s0:=⟨T [(0,(.ptr (30,u7) 0)),(1,(di a1.1)),(2,(di a1.2)),(6,(di x5)),(9,(di y14.2.1)),(12,(di y14.2.2.2)),(13,(.ptr (13,u67) 0)),(14,(.ptr (14,u67) 0)),(22,(di (p1.Lanes.length:Int))),(23,(di x5))],G [((30,u7),some (.box 135 ((Y2 p1)++ (L9 p2)++ [(di v2.Tick),(oS y2 (10060030,g2)),(oS y5 (85,g6)),(dl A4 p3),(oS x4 (g15.1.val,g15.2))]))),((10060030,g2),oB 45 7 C0 y2),((85,g6),oB 127 4 I9 y5),((g15.1.val,g15.2),oB 77 6 X3 x4),((13,u67),some (.box 191 [(di v19.from_),(di v19.to)])),((14,u67),some (.box 191 [(di v22.from_),(di v22.to)])),((6,u1),some (.box 25 [(di 0),(.d .nilS),(.d .nilS)])),((1,u47),some (.box 133 [(.ptr (30,u7) 0)])),((1,g13.1),some (.box 133 [(.ptr (30,u7) 0)])),((1000000,u53),some (.obj (T [(1,(.ptr (1,u47) 0)),(5,(.fn (.func 174) [] [(.ptr (1,g13.1) 0)]))]) {r1 with state:= .busy}))]⟩) (F7 ⟨.of rfl, .of rfl, .of rfl, .of rfl, .of rfl, .of rfl, .of rfl, .of rfl, .of rfl, .of rfl,trivial⟩ (sg rfl (B1 (gq rfl) (B1 (gq rfl) (B1 (A1 (neL g15.1.property rfl) (A1 (neL g15.1.property rfl) (A1 (neL g15.1.property rfl) (A1 (neL g15.1.property rfl) (A1 (neL g15.1.property rfl) (A1 (neL g15.1.property rfl) (A1 (neL g15.1.property rfl) (A1 (neL g15.1.property rfl) (A1 (neL g15.1.property rfl) (A1 (neL g15.1.property rfl) (A1 (neL g15.1.property rfl) G_hit))))))))))) (sg rfl (A5 G_hit (.of rfl) (sg rfl (sg rfl (A5 (A1 rfl (A1 rfl (A1 rfl (A1 rfl (A1 rfl (A1 rfl (R3 g13.2 G_hit))))))) (.of rfl) (sg rfl trivial))))))))))) ?_))))))))))))))))))))))))))))))
 refine B8 fun u68 hu68=>sp rfl rfl (sp rfl rfl (sp rfl rfl (sp rfl rfl (sl rfl G_hit rfl (sv rfl (bs hz6 fun v23 hv23 hz6=>sd rfl (L4 rfl rfl hv23 rfl) (sd rfl (F0 rfl hv23 rfl rfl) (bs hz6 fun v24 hv24 hz6=>B3 rfl rfl A3 (A4c _ _ hv24) (.inl rfl) (sv rfl (bs hz6 fun v25 hv25 hz6=>B3 rfl rfl A3 (A3h _ _ _ hv25) (.inl rfl) (sn rfl rfl (sst rfl G_hit [(di v25.from_),(di v25.to)] rfl (A2 (A7 (B0 (s0:=⟨T [(0,(.ptr (30,u7) 0)),(1,(di a1.1)),(2,(di a1.2)),(6,(di x5)),(12,(di y14.2.2.2)),(13,(.ptr (13,u67) 0)),(14,(.ptr (14,u67) 0)),(15,(.ptr (15,u68) 0)),(22,(di (p1.Lanes.length:Int))),(23,(di x5))],G [((30,u7),some (.box 135 ((Y2 p1)++ (L9 p2)++ [(di v2.Tick),(oS y2 (10060030,g2)),(oS y5 (85,g6)),(dl A4 p3),(oS x4 (g15.1.val,g15.2))]))),((10060030,g2),oB 45 7 C0 y2),((85,g6),oB 127 4 I9 y5),((g15.1.val,g15.2),oB 77 6 X3 x4),((13,u67),some (.box 191 [(di v19.from_),(di v19.to)])),((14,u67),some (.box 191 [(di v22.from_),(di v22.to)])),((15,u68),some (.box 191 [(di v25.from_),(di v25.to)])),((6,u1),some (.box 25 [(di 0),(.d .nilS),(.d .nilS)])),((1,u47),some (.box 133 [(.ptr (30,u7) 0)])),((1,g13.1),some (.box 133 [(.ptr (30,u7) 0)])),((1000000,u53),some (.obj (T [(1,(.ptr (1,u47) 0)),(5,(.fn (.func 174) [] [(.ptr (1,g13.1) 0)]))]) {r1 with state:= .busy}))]⟩) (F7 ⟨.of rfl, .of rfl, .of rfl, .of rfl, .of rfl, .of rfl, .of rfl, .of rfl, .of rfl, .of rfl,trivial⟩ (sg rfl (B1 (gq rfl) (B1 (gq rfl) (B1 (A1 (neL g15.1.property rfl) (A1 (neL g15.1.property rfl) (A1 (neL g15.1.property rfl) (A1 (neL g15.1.property rfl) (A1 (neL g15.1.property rfl) G_hit))))) (A5 (A1 rfl (A1 rfl (A1 rfl (A1 rfl (A1 rfl (A1 (neR g15.1.property rfl) G_hit)))))) (.of rfl) (A5 (A1 rfl (A1 rfl (A1 rfl (A1 rfl (A1 rfl (A1 (neR g15.1.property rfl) (gq rfl))))))) (.of rfl) (A5 G_hit (.of rfl) (A5 (A1 rfl (A1 rfl (A1 rfl (A1 rfl (A1 rfl (A1 (neR g15.1.property rfl) (gq rfl))))))) (.of rfl) (A5 (A1 rfl (A1 rfl (A1 rfl (A1 rfl (A1 rfl (A1 (neR g15.1.property rfl) (gq rfl))))))) (.of rfl) (A5 (A1 rfl (A1 rfl (A1 rfl (A1 rfl (A1 rfl (A1 (neR g15.1.property rfl) (A1 rfl (A1 rfl (A1 rfl (R3 g13.2 G_hit)))))))))) (.of rfl) (A5 (A1 rfl (A1 rfl (A1 rfl (A1 rfl (A1 rfl (A1 (neR g15.1.property rfl) (gq rfl))))))) (.of rfl) trivial)))))))))))) ?_)))))))))))))))
 refine B8 fun u69 hu69=>sp rfl rfl (sp rfl rfl (sp rfl rfl (sd rfl (B5 rfl G_hit rfl rfl) (sv rfl (bs hz6 fun v26 hv26 hz6=>B3 rfl rfl A3 (A9r _ _ _ hv26) (.inl rfl) (sv rfl (A2 (lr (fun u70 hu70=>sp rfl rfl (sd rfl (S9 rfl (A1 rfl (A1 rfl (A1 rfl (A1 (neR g15.1.property rfl) G_hit)))) rfl) (sv rfl (sv rfl (gp rfl (A1f rfl) (fun _=>rfl) (gt rfl (fun w4=>(S9 (A6 w4) (A1 rfl (A1 rfl (A1 rfl (A1 (neR g15.1.property rfl) (gq rfl))))) rfl)) (gt rfl (vb rfl rfl rfl) (sa rfl rfl rfl (sv rfl (gp rfl (A1f rfl) (fun _=>rfl) (gt rfl (fun w7=>(S9 (A6 w7) (A1 rfl (A1 rfl (A1 rfl (A1 (neR g15.1.property rfl) (gq rfl))))) rfl)) (gt rfl (fun _=>rfl) (gt rfl (fun w9=>(A1p (A6 w9) (A6 w9) rfl)) (sa rfl rfl rfl (sv rfl (gp rfl (A1f rfl) (fun _=>rfl) (gt rfl (fun w11=>(S9 (A6 w11) (A1 rfl (A1 rfl (A1 rfl (A1 (neR g15.1.property rfl) G_hit)))) rfl)) (gt rfl (fun _=>rfl) (gt rfl (fun w13=>(A1p (A6 w13) (A6 w13) rfl)) (sa rfl rfl rfl (sv rfl (gp rfl (A1f rfl) (fun _=>rfl) (gt rfl (fun w15=>(S9 (A6 w15) (A1 rfl (A1 rfl (A1 rfl (A1 (neR g15.1.property rfl) (gq rfl))))) rfl)) (gp rfl (A1f rfl) (fun _=>rfl) (gt rfl (fun w17=>(S9 (A6 w17) (A1 rfl (A1 rfl (A1 rfl (A1 (neR g15.1.property rfl) G_hit)))) rfl)) (gt rfl (fun w18=>(A1p (A6 w18) (A6 w18) rfl)) (sa rfl rfl rfl (A2 (cc rfl hz6 (fun c12 hz6=> ?_) (fun c12 hz6=> ?_))))))))))))))))))))))))))))))))))))))
 refine A7 (B0 (s0:=⟨T [(0,(.ptr (30,u7) 0)),(1,(di a1.1)),(2,(di a1.2)),(6,(di x5)),(12,(di y14.2.2.2))],G [((30,u7),some (.box 135 ((Y2 p1)++ (L9 p2)++ [(di v2.Tick),(oS y2 (10060030,g2)),(oS y5 (85,g6)),(dl A4 p3),(oS x4 (g15.1.val,g15.2))]))),((10060030,g2),oB 45 7 C0 y2),((85,g6),oB 127 4 I9 y5),((g15.1.val,g15.2),oB 77 6 X3 x4),((6,u1),some (.box 25 [(di 0),(.d .nilS),(.d .nilS)])),((1,u47),some (.box 133 [(.ptr (30,u7) 0)])),((1,g13.1),some (.box 133 [(.ptr (30,u7) 0)])),((1000000,u53),some (.obj (T [(1,(.ptr (1,u47) 0)),(5,(.fn (.func 174) [] [(.ptr (1,g13.1) 0)]))]) {r1 with state:= .busy}))]⟩) (F7 ⟨.of rfl, .of rfl, .of rfl, .of rfl, .of rfl,trivial⟩ (A5 G_hit (.of rfl) (B1 (gq rfl) (B1 (gq rfl) (B1 (A1 (neL g15.1.property rfl) (A1 (neL g15.1.property rfl) (A1 (neL g15.1.property rfl) G_hit))) (A5 (A1 rfl (A1 rfl (A1 rfl (A1 (neR g15.1.property rfl) (gq rfl))))) (.of rfl) (A5 (A1 rfl (A1 rfl (A1 rfl (A1 (neR g15.1.property rfl) (gq rfl))))) (.of rfl) (A5 (A1 rfl (A1 rfl (A1 rfl (A1 (neR g15.1.property rfl) (A1 rfl (A1 rfl (A1 rfl (A1 rfl (R3 g13.2 G_hit))))))))) (.of rfl) (A5 (A1 rfl (A1 rfl (A1 rfl (A1 (neR g15.1.property rfl) (gq rfl))))) (.of rfl) trivial))))))))) ?_)
 refine O4 rfl fun u71 hu71=>sp rfl rfl (sp rfl rfl (sp rfl rfl (sp rfl rfl (D8 (oS x4 (g15.1.val,g15.2)) rfl (S9 rfl G_hit rfl) (sp rfl rfl (sp rfl rfl (sp rfl rfl (sp rfl rfl (sl rfl G_hit rfl (sv rfl (sv rfl (sv rfl (sv rfl (D8 (dl A4 [y14.2.2.2]) rfl rfl (sv rfl (D8 (dl X3 [(Crash.mk p2.Tick a1.1 a1.2 x5 (-1) [y14.2.2.2])]) rfl rfl (bs hz6 fun v27 hv27 hz6=>A13 X3 (g15.1.val,g15.2) x4 (Crash.mk p2.Tick a1.1 a1.2 x5 (-1) [y14.2.2.2]) [] _ (T7 (fun _=>rfl)) rfl (A1 (neL g15.1.property rfl) (A1 (neL g15.1.property rfl) (A1 (neL g15.1.property rfl) G_hit))) hv27 (sp rfl rfl (sp rfl rfl (B3w _ _ _ _ _ rfl rfl rfl (A1 rfl (A1 (neR g15.1.property rfl) G_hit)) (nl rfl) ((Y2 p1)++ (L9 p2)++ [(di v2.Tick),(oS y2 (10060030,g2)),(oS y5 (85,g6)),(dl A4 p3),(.sl (158,u71))]) rfl (A2 (B4 ?_))))))))))))))))))))))
 cases hz6
 obtain rfl:=ez6 _ rfl
 refine ⟨nofun,I4 ?_⟩
 rw [Sum.elim_inr]at hy12
 cases hy12
 exact C5c (.inr rfl) (D4m) (⟨158, .tail _ (.head _)⟩,u71) ⟨.of rfl, .of rfl, .of rfl,trivial⟩ (A5 (A1 rfl (A1 rfl (A1 (neR g15.1.property rfl) (A1 rfl (A1 rfl (A1 rfl (A1 (neR g15.1.property rfl) (gq rfl)))))))) (.of rfl) (A5 (A1 rfl (A1 rfl (A1 (neR g15.1.property rfl) (A1 rfl (A1 rfl (A1 rfl (A1 (neR g15.1.property rfl) G_hit))))))) (.of rfl) (A5 G_hit (.box (cv (cv (cv (cv (cv (cv (cv (cv (cv (cv (cv (cv (.cons (.of (B2i (A4p hv27)).symm) .nil)))))))))))))) (A5 (A1 rfl (A1 rfl (A1 (neR g15.1.property rfl) (A1 rfl (A1 rfl (A1 rfl (A1 (neR g15.1.property rfl) (A1 rfl (R3 g13.2 G_hit))))))))) (.of rfl) (A5 (A1 rfl (A1 rfl (A1 (neR g15.1.property rfl) (A1 rfl (A1 rfl (A1 rfl (A1 (neR g15.1.property rfl) (gq rfl)))))))) (.of rfl) (B1 (A1 rfl (A1 rfl (A1 (neR g15.1.property rfl) (gq rfl)))) (B1 (A1 rfl (A1 rfl (A1 (neR g15.1.property rfl) (gq rfl)))) (A5f (gq rfl) trivial))))))))
 refine B2 (M0 (B0 (s0:=⟨T [(0,(.ptr (30,u7) 0)),(1,(di a1.1)),(2,(di a1.2)),(22,(di (p1.Lanes.length:Int))),(23,(di x5))],G [((30,u7),some (.box 135 ((Y2 p1)++ (L9 p2)++ [(di v2.Tick),(oS y2 (10060030,g2)),(oS y5 (85,g6)),(dl A4 p3),(oS x4 (g15.1.val,g15.2))]))),((10060030,g2),oB 45 7 C0 y2),((85,g6),oB 127 4 I9 y5),((g15.1.val,g15.2),oB 77 6 X3 x4),((6,u1),some (.box 25 [(di 0),(.d .nilS),(.d .nilS)])),((1,u47),some (.box 133 [(.ptr (30,u7) 0)])),((1,g13.1),some (.box 133 [(.ptr (30,u7) 0)])),((1000000,u53),some (.obj (T [(1,(.ptr (1,u47) 0)),(5,(.fn (.func 174) [] [(.ptr (1,g13.1) 0)]))]) {r1 with state:= .busy}))]⟩) (F7 ⟨.of rfl, .of rfl, .of rfl, .of rfl, .of rfl,trivial⟩ (A5 G_hit (.of rfl) (B1 (gq rfl) (B1 (gq rfl) (B1 (A1 (neL g15.1.property rfl) (A1 (neL g15.1.property rfl) (A1 (neL g15.1.property rfl) G_hit))) (A5 (A1 rfl (A1 rfl (A1 rfl (A1 (neR g15.1.property rfl) (gq rfl))))) (.of rfl) (A5 (A1 rfl (A1 rfl (A1 rfl (A1 (neR g15.1.property rfl) (gq rfl))))) (.of rfl) (A5 (A1 rfl (A1 rfl (A1 rfl (A1 (neR g15.1.property rfl) (A1 rfl (A1 rfl (A1 rfl (A1 rfl (R3 g13.2 G_hit))))))))) (.of rfl) (A5 (A1 rfl (A1 rfl (A1 rfl (A1 (neR g15.1.property rfl) (gq rfl))))) (.of rfl) trivial))))))))) ?_))
 refine B8 fun u72 hu72=>sv rfl (sv rfl (A2 (K4 ?_)))
 cases hz6
 exact ⟨rfl,(),(F7 ⟨.of rfl, .of rfl, .of rfl, .of rfl, .of rfl,trivial⟩ (A5 G_hit (.of rfl) (A5 (A1 rfl (A1 rfl (A1 rfl (A1 (neR g15.1.property rfl) G_hit)))) (.of rfl) (A5 (A1 rfl (A1 rfl (A1 rfl (A1 (neR g15.1.property rfl) (gq rfl))))) (.of rfl) (A5 (A1 rfl (A1 rfl (A1 rfl (A1 (neR g15.1.property rfl) (A1 rfl (R3 g13.2 G_hit)))))) (.of rfl) (A5 (A1 rfl (A1 rfl (A1 rfl (A1 (neR g15.1.property rfl) (gq rfl))))) (.of rfl) (B1 (gq rfl) (B1 (gq rfl) (B1 (A1 (neL g15.1.property rfl) (A1 (neL g15.1.property rfl) (A1 (neL g15.1.property rfl) G_hit))) trivial)))))))))⟩
 refine E1 rfl ?_
 cases hz6
 obtain rfl:=ez6 _ rfl
 refine ⟨nofun,C9 rfl (l_j ?_)⟩
 exact ⟨_,(),rfl,(F7 trivial (sg rfl (A5 G_hit (.of rfl) (sg rfl (A5 (A1 rfl (A1 rfl (R3 g13.2 G_hit))) (.of rfl) (sg rfl (B1 (gq rfl) (B1 (gq rfl) (B1 (A1 (neL g15.1.property rfl) (A1 (neL g15.1.property rfl) (A1 (neL g15.1.property rfl) (A1 (neL g15.1.property rfl) (A1 (neL g15.1.property rfl) (A1 (neL g15.1.property rfl) (A1 (neL g15.1.property rfl) G_hit))))))) trivial)))))))))⟩
 rintro _ ⟨y13,g17,rfl,q7⟩
 rw [Sum.elim_inl]at hy12
 refine K4 ?_
 obtain rfl:=(Option.some.inj hy12)
 exact B6g q7 (.inl rfl) (g15.1,g15.2) ⟨.of rfl, .of rfl, .of rfl,trivial⟩ (sg rfl (A5 G_hit (.of rfl) (sg rfl (A5 (A1 rfl (A1 rfl (R3 g13.2 G_hit))) (.of rfl) (sg rfl (B1 (gq rfl) (B1 (gq rfl) (B1 (A1 (neL g15.1.property rfl) (A1 (neL g15.1.property rfl) (A1 (neL g15.1.property rfl) (A1 (neL g15.1.property rfl) (A1 (neL g15.1.property rfl) (A1 (neL g15.1.property rfl) (A1 (neL g15.1.property rfl) G_hit))))))) trivial))))))))
 intro g16
 intro u73 hu73
 refine A2 (B8 fun u74 hu74=>sp rfl (S9 rfl G_hit rfl) (sv rfl (sv rfl (bs hz4 fun y15 hy15 hz4=>C0e (fk Tryz.func184 Tryz.ntmps184 (fun r=>if r==5 then [1002]else if r==6 then [1010]else if r==8 then [1001]else if r==10 then [1001]else if r==11 then [1015]else []) (by with_unfolding_all rfl)) (fun (g20:({d:Nat // d∈ [72,158]}×Nat))=> []) (fun (g20:({d:Nat // d∈ [72,158]}×Nat))=> [((6,u1),some (.box 25 [(di 0),(.d .nilS),(.d .nilS)])),((30,u7),some (.box 135 ((Y2 p1)++ (L9 p2)++ [(di v2.Tick),(oS y2 (10060030,g2)),(oS y5 (85,g6)),(dl A4 p3),(oS y15 (g20.1.val,g20.2))]))),((1,u47),some (.box 133 [(.ptr (30,u7) 0)])),((1,g13.1),some (.box 133 [(.ptr (30,u7) 0)])),((1000000,u53),some (.obj (T [(1,(.ptr (1,u47) 0)),(5,(.fn (.func 174) [] [(.ptr (1,g13.1) 0)]))]) {r1 with state:= .busy})),((10060030,g2),oB 45 7 C0 y2),((85,g6),oB 127 4 I9 y5),((g20.1.val,g20.2),oB 77 6 X3 y15)]) rfl (nl rfl) ?_ ?_))))
 unfold A7j at hy15
 refine B0 (s0:=⟨T [(0,(.ptr (30,u7) 0)),(1,(di a1.1)),(2,(di a1.2))],G [((30,u7),some (.box 135 ((Y2 p1)++ (L9 p2)++ [(di v2.Tick),(oS y2 (10060030,g2)),(oS y5 (85,g6)),(dl A4 p3),(oS y12 (g16.1.val,g16.2))]))),((10060030,g2),oB 45 7 C0 y2),((85,g6),oB 127 4 I9 y5),((g16.1.val,g16.2),oB 77 6 X3 y12),((6,u1),some (.box 25 [(di 0),(.d .nilS),(.d .nilS)])),((1,u47),some (.box 133 [(.ptr (30,u7) 0)])),((1,g13.1),some (.box 133 [(.ptr (30,u7) 0)])),((1000000,u53),some (.obj (T [(1,(.ptr (1,u47) 0)),(5,(.fn (.func 174) [] [(.ptr (1,g13.1) 0)]))]) {r1 with state:= .busy}))]⟩) (F7 ⟨.of rfl, .of rfl, .of rfl,trivial⟩ (sg rfl (B1 (gq rfl) (B1 (gq rfl) (B1 (A1 (neL g16.1.property rfl) (A1 (neL g16.1.property rfl) (A1 (neL g16.1.property rfl) (A1 (neL g16.1.property rfl) (A1 (neL g16.1.property rfl) (A1 (neL g16.1.property rfl) (A1 (neL g16.1.property rfl) G_hit))))))) (sg rfl (A5 G_hit (.of rfl) (A5 (R3 g13.2 (gq rfl)) (.of rfl) (sg rfl trivial))))))))) ?_
 refine lr (fun u75 hu75=>sp rfl rfl (sp rfl rfl (sp rfl rfl (sp rfl rfl (sl rfl G_hit rfl (sd rfl (N1 rfl) (sv rfl (A2 (bs hy15 fun y16 hy16 hy15=>I5 (fun s=> ∃g21:({d:Nat // d∈ [72,158]}×Nat),Sb ⟨T [],G [((6,u1),some (.box 25 [(di 0),(.d .nilS),(.d .nilS)])),((30,u7),some (.box 135 ((Y2 p1)++ (L9 p2)++ [(di v2.Tick),(oS y2 (10060030,g2)),(oS y5 (85,g6)),(dl A4 p3),(oS y16 (g21.1.val,g21.2))]))),((1,u47),some (.box 133 [(.ptr (30,u7) 0)])),((1,g13.1),some (.box 133 [(.ptr (30,u7) 0)])),((1000000,u53),some (.obj (T [(1,(.ptr (1,u47) 0)),(5,(.fn (.func 174) [] [(.ptr (1,g13.1) 0)]))]) {r1 with state:= .busy})),((10060030,g2),oB 45 7 C0 y2),((85,g6),oB 127 4 I9 y5),((g21.1.val,g21.2),oB 77 6 X3 y16)]⟩ s) ?_ ?_)))))))))
 refine A8 (J4 (A58 p1 p2 p3 v2 y2 y5 a1) (fun (x6:(Int× (List Crash))) (g22:({d:Nat // d∈ [72,158]}×Nat))=>⟨T [(0,(.ptr (30,u7) 0)),(1,(di a1.1)),(2,(di a1.2)),(15,(di (p1.Zones.length:Int))),(16,(di x6.1))],G [((30,u7),some (.box 135 ((Y2 p1)++ (L9 p2)++ [(di v2.Tick),(oS y2 (10060030,g2)),(oS y5 (85,g6)),(dl A4 p3),(oS x6.2 (g22.1.val,g22.2))]))),((6,u1),some (.box 25 [(di 0),(.d .nilS),(.d .nilS)])),((1,u47),some (.box 133 [(.ptr (30,u7) 0)])),((1,g13.1),some (.box 133 [(.ptr (30,u7) 0)])),((1000000,u53),some (.obj (T [(1,(.ptr (1,u47) 0)),(5,(.fn (.func 174) [] [(.ptr (1,g13.1) 0)]))]) {r1 with state:= .busy})),((10060030,g2),oB 45 7 C0 y2),((85,g6),oB 127 4 I9 y5),((g22.1.val,g22.2),oB 77 6 X3 x6.2)]⟩) (0,y12) (g16.1,g16.2) _ hy16 (F7 ⟨.of rfl, .of rfl, .of rfl, .of rfl, .of rfl,trivial⟩ (A5 G_hit (.of rfl) (A5 (A1 rfl (A1 rfl (A1 rfl (A1 (neR g16.1.property rfl) G_hit)))) (.of rfl) (A5 (A1 rfl (A1 rfl (A1 rfl (A1 (neR g16.1.property rfl) (gq rfl))))) (.of rfl) (A5 (A1 rfl (A1 rfl (A1 rfl (A1 (neR g16.1.property rfl) (A1 rfl (R3 g13.2 G_hit)))))) (.of rfl) (A5 (A1 rfl (A1 rfl (A1 rfl (A1 (neR g16.1.property rfl) (gq rfl))))) (.of rfl) (B1 (gq rfl) (B1 (gq rfl) (B1 (A1 (neL g16.1.property rfl) (A1 (neL g16.1.property rfl) (A1 (neL g16.1.property rfl) G_hit))) trivial))))))))) ?_)
 intro x6 g22 z7 hz7 ez7
 unfold A58 at hz7
 refine lr (fun u76 hu76=>sv rfl (A2 (A7 (cc rfl hz7 (fun c13 hz7=> ?_) (fun c13 hz7=> ?_)))))
 refine B2 (A7 (A8 (lr (fun u77 hu77=>sv rfl (sv rfl (A2 (A7 (lr (fun u78 hu78=>sp rfl rfl (sv rfl (sv rfl (sv rfl (bs hz7 fun v28 hv28 hz7=>B3 rfl (C2 (A22 G_hit (rD (rD (rD (rD (rD (rD (rD (rD (rD (C2 (A5v (gq rfl)) (C2 (A5v (gq rfl)) (rD (C2 (A5v (A1 (neL g22.1.property rfl) (A1 (neL g22.1.property rfl) (A1 (neL g22.1.property rfl) (A1 (neL g22.1.property rfl) (A1 (neL g22.1.property rfl) (A1 (neL g22.1.property rfl) (A1 (neL g22.1.property rfl) G_hit)))))))) D3)))))))))))))) (rD (rD (rD D3)))) (.cons (DLe.bp (ca rfl (ca rfl (ca rfl (ca rfl (ca rfl (ca rfl (ca rfl (ca rfl (ca rfl (.cons ⟨A5u,rfl⟩ (.cons ⟨A5u,rfl⟩ (ca rfl (.cons ⟨A5u,rfl⟩ .nil)))))))))))))) (.cons (.refl _) (.cons (.refl _) A3))) (A70 _ _ _ _ _ hv28) (.inr rfl) (D8 (.d (bo (!v28))) rfl rfl (A2 (cc rfl hz7 (fun c14 hz7=> ?_) (fun c14 hz7=> ?_)))))))))))))))))
 refine C05 rfl (B8 fun u79 hu79=>sv rfl (sv rfl (A2 (K4 ?_))))
 cases hz7
 exact ⟨rfl,(g22.1,g22.2),(F7 ⟨.of rfl, .of rfl, .of rfl, .of rfl, .of rfl,trivial⟩ (A5 G_hit (.of rfl) (sg rfl (sg rfl (A5 (A1 rfl (A1 rfl (R3 g13.2 G_hit))) (.of rfl) (sg rfl (B1 (gq rfl) (B1 (gq rfl) (B1 (A1 (neL g22.1.property rfl) (A1 (neL g22.1.property rfl) (A1 (neL g22.1.property rfl) (A1 (neL g22.1.property rfl) (A1 (neL g22.1.property rfl) (A1 (neL g22.1.property rfl) (A1 (neL g22.1.property rfl) G_hit))))))) trivial)))))))))⟩
 refine B2 (lr (fun u80 hu80=>sp rfl rfl (sv rfl (sv rfl (bs hz7 fun v29 hv29 hz7=>B3 rfl (C2 (A22 G_hit (rD (rD (rD (rD (rD (rD (rD (rD (rD (C2 (A5v (gq rfl)) (C2 (A5v (gq rfl)) (rD (C2 (A5v (A1 (neL g22.1.property rfl) (A1 (neL g22.1.property rfl) (A1 (neL g22.1.property rfl) (A1 (neL g22.1.property rfl) (A1 (neL g22.1.property rfl) (A1 (neL g22.1.property rfl) (A1 (neL g22.1.property rfl) G_hit)))))))) D3)))))))))))))) (rD (rD D3))) (.cons (DLe.bp (ca rfl (ca rfl (ca rfl (ca rfl (ca rfl (ca rfl (ca rfl (ca rfl (ca rfl (.cons ⟨A5u,rfl⟩ (.cons ⟨A5u,rfl⟩ (ca rfl (.cons ⟨A5u,rfl⟩ .nil)))))))))))))) (.cons (.refl _) A3)) (A7z _ _ _ _ hv29) (.inr rfl) (sp rfl rfl (sv rfl (sv rfl (bs hz7 fun v30 hv30 hz7=>B3 rfl (C2 (A22 G_hit (rD (rD (rD (rD (rD (rD (rD (rD (rD (C2 (A5v (gq rfl)) (C2 (A5v (gq rfl)) (rD (C2 (A5v (A1 (neL g22.1.property rfl) (A1 (neL g22.1.property rfl) (A1 (neL g22.1.property rfl) (A1 (neL g22.1.property rfl) (A1 (neL g22.1.property rfl) (A1 (neL g22.1.property rfl) (A1 (neL g22.1.property rfl) G_hit)))))))) D3)))))))))))))) (rD (rD D3))) (.cons (DLe.bp (ca rfl (ca rfl (ca rfl (ca rfl (ca rfl (ca rfl (ca rfl (ca rfl (ca rfl (.cons ⟨A5u,rfl⟩ (.cons ⟨A5u,rfl⟩ (ca rfl (.cons ⟨A5u,rfl⟩ .nil)))))))))))))) (.cons (.refl _) A3)) (A7z _ _ _ _ hv30) (.inr rfl) (sn rfl rfl (sn rfl rfl (sst rfl (gq rfl) (B8j v29) rfl (sst rfl (gq rfl) (B8j v30) rfl (A2 (A7 (B0 (s0:=⟨T [(0,(.ptr (30,u7) 0)),(1,(di a1.1)),(2,(di a1.2)),(6,(di x6.1)),(7,(.ptr (7,u80) 0)),(8,(.ptr (8,u80) 0)),(15,(di (p1.Zones.length:Int))),(16,(di x6.1))],G [((30,u7),some (.box 135 ((Y2 p1)++ (L9 p2)++ [(di v2.Tick),(oS y2 (10060030,g2)),(oS y5 (85,g6)),(dl A4 p3),(oS x6.2 (g22.1.val,g22.2))]))),((10060030,g2),oB 45 7 C0 y2),((85,g6),oB 127 4 I9 y5),((g22.1.val,g22.2),oB 77 6 X3 x6.2),((7,u80),some (.box 127 (B8j v29))),((8,u80),some (.box 127 (B8j v30))),((6,u1),some (.box 25 [(di 0),(.d .nilS),(.d .nilS)])),((1,u47),some (.box 133 [(.ptr (30,u7) 0)])),((1,g13.1),some (.box 133 [(.ptr (30,u7) 0)])),((1000000,u53),some (.obj (T [(1,(.ptr (1,u47) 0)),(5,(.fn (.func 174) [] [(.ptr (1,g13.1) 0)]))]) {r1 with state:= .busy}))]⟩) (F7 ⟨.of rfl, .of rfl, .of rfl, .of rfl, .of rfl, .of rfl, .of rfl, .of rfl,trivial⟩ (sg rfl (B1 (gq rfl) (B1 (gq rfl) (B1 (A1 (neL g22.1.property rfl) (A1 (neL g22.1.property rfl) (A1 (neL g22.1.property rfl) (A1 (neL g22.1.property rfl) (A1 (neL g22.1.property rfl) (A1 (neL g22.1.property rfl) (A1 (neL g22.1.property rfl) (A1 (neL g22.1.property rfl) (A1 (neL g22.1.property rfl) (A1 (neL g22.1.property rfl) (A1 (neL g22.1.property rfl) G_hit))))))))))) (sg rfl (A5 G_hit (.of rfl) (sg rfl (sg rfl (A5 (A1 rfl (A1 rfl (A1 rfl (A1 rfl (A1 rfl (A1 rfl (R3 g13.2 G_hit))))))) (.of rfl) (sg rfl trivial))))))))))) ?_))))))))))))))))
 refine B8 fun u81 hu81=>sv rfl (sv rfl (D8 (dl A4 [a1.1,a1.2]) rfl rfl (D8 (dl A4 [a1.1,a1.2]) rfl rfl (A2 (A7 (A7 (O4 rfl fun u82 hu82=>sp rfl rfl (sd rfl (S9 rfl (A1 rfl (A1 rfl (A1 rfl (A1 (neR g22.1.property rfl) G_hit)))) rfl) (sp rfl rfl (sd rfl (S9 rfl (A1 rfl (A1 rfl (A1 rfl (A1 (neR g22.1.property rfl) (gq rfl))))) rfl) (bs hz7 fun v31 hv31 hz7=>B3 rfl rfl A3 (A3f _ _ _ hv31) (.inl rfl) (sp rfl rfl (sd rfl (S9 rfl (A1 rfl (A1 rfl (A1 rfl (A1 (neR g22.1.property rfl) (gq rfl))))) rfl) (sp rfl rfl (sd rfl (S9 rfl (A1 rfl (A1 rfl (A1 rfl (A1 (neR g22.1.property rfl) G_hit)))) rfl) (bs hz7 fun v32 hv32 hz7=>B3 rfl rfl A3 (A8k _ _ _ hv32) (.inl rfl) (D8 (dl A4 [v31,v32]) rfl rfl (bs hz7 fun v33 hv33 hz7=>B3 rfl rfl A3 (B2l _ _ hv33) (.inl rfl) (A2 (bs hz7 fun y17 hy17 hz7=>I5 (fun s=> ∃g23:Unit,Sb ⟨T [(0,(.ptr (30,u7) 0)),(1,(di a1.1)),(2,(di a1.2)),(6,(di x6.1)),(9,(dl A4 y17)),(15,(di (p1.Zones.length:Int))),(16,(di x6.1))],G [((30,u7),some (.box 135 ((Y2 p1)++ (L9 p2)++ [(di v2.Tick),(oS y2 (10060030,g2)),(oS y5 (85,g6)),(dl A4 p3),(oS x6.2 (g22.1.val,g22.2))]))),((6,u1),some (.box 25 [(di 0),(.d .nilS),(.d .nilS)])),((1,u47),some (.box 133 [(.ptr (30,u7) 0)])),((1,g13.1),some (.box 133 [(.ptr (30,u7) 0)])),((1000000,u53),some (.obj (T [(1,(.ptr (1,u47) 0)),(5,(.fn (.func 174) [] [(.ptr (1,g13.1) 0)]))]) {r1 with state:= .busy})),((10060030,g2),oB 45 7 C0 y2),((85,g6),oB 127 4 I9 y5),((g22.1.val,g22.2),oB 77 6 X3 x6.2)]⟩ s) ?_ ?_))))))))))))))))))))
 refine A8 (A7 (B0 (s0:=⟨T [(0,(.ptr (30,u7) 0)),(1,(di a1.1)),(2,(di a1.2)),(6,(di x6.1)),(9,(dl A4 [a1.1,a1.2])),(15,(di (p1.Zones.length:Int))),(16,(di x6.1)),(47,(di v33))],G [((30,u7),some (.box 135 ((Y2 p1)++ (L9 p2)++ [(di v2.Tick),(oS y2 (10060030,g2)),(oS y5 (85,g6)),(dl A4 p3),(oS x6.2 (g22.1.val,g22.2))]))),((10060030,g2),oB 45 7 C0 y2),((85,g6),oB 127 4 I9 y5),((g22.1.val,g22.2),oB 77 6 X3 x6.2),((6,u1),some (.box 25 [(di 0),(.d .nilS),(.d .nilS)])),((1,u47),some (.box 133 [(.ptr (30,u7) 0)])),((1,g13.1),some (.box 133 [(.ptr (30,u7) 0)])),((1000000,u53),some (.obj (T [(1,(.ptr (1,u47) 0)),(5,(.fn (.func 174) [] [(.ptr (1,g13.1) 0)]))]) {r1 with state:= .busy}))]⟩) (F7 ⟨.of rfl, .of rfl, .of rfl, .of rfl, .of rfl, .of rfl, .of rfl, .of rfl,trivial⟩ (A5 G_hit (.of rfl) (B1 (gq rfl) (B1 (gq rfl) (B1 (A1 (neL g22.1.property rfl) (A1 (neL g22.1.property rfl) (A1 (neL g22.1.property rfl) G_hit))) (A5 (A1 rfl (A1 rfl (A1 rfl (A1 (neR g22.1.property rfl) (gq rfl))))) (.of rfl) (A5 (A1 rfl (A1 rfl (A1 rfl (A1 (neR g22.1.property rfl) (gq rfl))))) (.of rfl) (A5 (A1 rfl (A1 rfl (A1 rfl (A1 (neR g22.1.property rfl) (A1 rfl (A1 rfl (A1 rfl (R3 g13.2 G_hit)))))))) (.of rfl) (A5 (A1 rfl (A1 rfl (A1 rfl (A1 (neR g22.1.property rfl) (gq rfl))))) (.of rfl) trivial))))))))) ?_))
 refine B8 fun u83 hu83=>sv rfl (sv rfl (A2 (cc rfl hy17 (fun c15 hy17=> ?_) (fun c15 hy17=> ?_))))
 refine B8 fun u84 hu84=>sv rfl (D8 (dl A4 [a1.1]) rfl rfl (D8 (dl A4 [a1.1]) rfl rfl (A2 (M0 ?_))))
 cases hy17
 exact l_j ⟨(),(F7 ⟨.of rfl, .of rfl, .of rfl, .of rfl, .of rfl, .of rfl, .of rfl,trivial⟩ (A5 G_hit (.of rfl) (A5 (A1 rfl (A1 rfl (A1 rfl (A1 (neR g22.1.property rfl) G_hit)))) (.of rfl) (A5 (A1 rfl (A1 rfl (A1 rfl (A1 (neR g22.1.property rfl) (gq rfl))))) (.of rfl) (A5 (A1 rfl (A1 rfl (A1 rfl (A1 (neR g22.1.property rfl) (A1 rfl (R3 g13.2 G_hit)))))) (.of rfl) (A5 (A1 rfl (A1 rfl (A1 rfl (A1 (neR g22.1.property rfl) (gq rfl))))) (.of rfl) (B1 (gq rfl) (B1 (gq rfl) (B1 (A1 (neL g22.1.property rfl) (A1 (neL g22.1.property rfl) (A1 (neL g22.1.property rfl) G_hit))) trivial)))))))))⟩
 refine lr (fun u85 hu85=>sv rfl (sv rfl (A2 (cc rfl hy17 (fun c16 hy17=> ?_) (fun c16 hy17=> ?_)))))
 refine B8 fun u86 hu86=>sv rfl (D8 (dl A4 [a1.2]) rfl rfl (D8 (dl A4 [a1.2]) rfl rfl (A2 (M0 ?_))))
 cases hy17
 exact l_j ⟨(),(F7 ⟨.of rfl, .of rfl, .of rfl, .of rfl, .of rfl, .of rfl, .of rfl,trivial⟩ (A5 G_hit (.of rfl) (A5 (A1 rfl (A1 rfl (A1 rfl (A1 (neR g22.1.property rfl) G_hit)))) (.of rfl) (A5 (A1 rfl (A1 rfl (A1 rfl (A1 (neR g22.1.property rfl) (gq rfl))))) (.of rfl) (A5 (A1 rfl (A1 rfl (A1 rfl (A1 (neR g22.1.property rfl) (A1 rfl (R3 g13.2 G_hit)))))) (.of rfl) (A5 (A1 rfl (A1 rfl (A1 rfl (A1 (neR g22.1.property rfl) (gq rfl))))) (.of rfl) (B1 (gq rfl) (B1 (gq rfl) (B1 (A1 (neL g22.1.property rfl) (A1 (neL g22.1.property rfl) (A1 (neL g22.1.property rfl) G_hit))) trivial)))))))))⟩
 refine B2 (M0 ?_)
 cases hy17
 exact l_j ⟨(),(F7 ⟨.of rfl, .of rfl, .of rfl, .of rfl, .of rfl, .of rfl, .of rfl,trivial⟩ (A5 G_hit (.of rfl) (A5 (A1 rfl (A1 rfl (A1 rfl (A1 (neR g22.1.property rfl) G_hit)))) (.of rfl) (A5 (A1 rfl (A1 rfl (A1 rfl (A1 (neR g22.1.property rfl) (gq rfl))))) (.of rfl) (A5 (A1 rfl (A1 rfl (A1 rfl (A1 (neR g22.1.property rfl) (A1 rfl (R3 g13.2 G_hit)))))) (.of rfl) (A5 (A1 rfl (A1 rfl (A1 rfl (A1 (neR g22.1.property rfl) (gq rfl))))) (.of rfl) (B1 (gq rfl) (B1 (gq rfl) (B1 (A1 (neL g22.1.property rfl) (A1 (neL g22.1.property rfl) (A1 (neL g22.1.property rfl) G_hit))) trivial)))))))))⟩
 rintro _ ⟨g23,q8⟩
 refine B0 q8 (O4 rfl fun u87 hu87=>sp rfl rfl (sp rfl rfl (sp rfl rfl (sp rfl rfl (D8 (oS x6.2 (g22.1.val,g22.2)) rfl (S9 rfl G_hit rfl) (sp rfl rfl (sp rfl rfl (sp rfl rfl (sp rfl rfl (sl rfl G_hit rfl (sv rfl (sv rfl (sv rfl (sv rfl (sv rfl (D8 (dl X3 [(Crash.mk p2.Tick a1.1 a1.2 (-1) x6.1 y17)]) rfl rfl (bs hz7 fun v34 hv34 hz7=>A13 X3 (g22.1.val,g22.2) x6.2 (Crash.mk p2.Tick a1.1 a1.2 (-1) x6.1 y17) [] _ (T7 (fun _=>rfl)) rfl (A1 (neL g22.1.property rfl) (A1 (neL g22.1.property rfl) (A1 (neL g22.1.property rfl) (A1 (neL g22.1.property rfl) (A1 (neL g22.1.property rfl) (A1 (neL g22.1.property rfl) (A1 (neL g22.1.property rfl) G_hit))))))) hv34 (sp rfl rfl (sp rfl rfl (B3w _ _ _ _ _ rfl rfl rfl (A1 rfl (A1 (neR g22.1.property rfl) G_hit)) (nl rfl) ((Y2 p1)++ (L9 p2)++ [(di v2.Tick),(oS y2 (10060030,g2)),(oS y5 (85,g6)),(dl A4 p3),(.sl (72,u87))]) rfl (A2 (M0 (B0 (s0:=⟨T [(0,(.ptr (30,u7) 0)),(1,(di a1.1)),(2,(di a1.2)),(15,(di (p1.Zones.length:Int))),(16,(di x6.1))],G [((30,u7),some (.box 135 ((Y2 p1)++ (L9 p2)++ [(di v2.Tick),(oS y2 (10060030,g2)),(oS y5 (85,g6)),(dl A4 p3),(.sl (72,u87))]))),((10060030,g2),oB 45 7 C0 y2),((85,g6),oB 127 4 I9 y5),((72,u87),some (.arr 77 6 (List.map X3 v34))),((6,u1),some (.box 25 [(di 0),(.d .nilS),(.d .nilS)])),((1,u47),some (.box 133 [(.ptr (30,u7) 0)])),((1,g13.1),some (.box 133 [(.ptr (30,u7) 0)])),((1000000,u53),some (.obj (T [(1,(.ptr (1,u47) 0)),(5,(.fn (.func 174) [] [(.ptr (1,g13.1) 0)]))]) {r1 with state:= .busy}))]⟩) (F7 ⟨.of rfl, .of rfl, .of rfl, .of rfl, .of rfl,trivial⟩ (A5 G_hit (.of rfl) (B1 (A1 rfl (A1 rfl (A1 (neR g22.1.property rfl) (gq rfl)))) (B1 (A1 rfl (A1 rfl (A1 (neR g22.1.property rfl) (gq rfl)))) (sg rfl (A5 (A1 rfl (A1 rfl (A1 (neR g22.1.property rfl) (gq rfl)))) (.of rfl) (A5 (A1 rfl (A1 rfl (A1 (neR g22.1.property rfl) (gq rfl)))) (.of rfl) (A5 (A1 rfl (A1 rfl (A1 (neR g22.1.property rfl) (A1 rfl (A1 rfl (R3 g13.2 G_hit)))))) (.of rfl) (A5 (A1 rfl (A1 rfl (A1 (neR g22.1.property rfl) (gq rfl)))) (.of rfl) trivial))))))))) ?_)))))))))))))))))))))))
 refine B8 fun u88 hu88=>sv rfl (sv rfl (A2 (K4 ?_)))
 cases hz7
 exact ⟨rfl,(⟨72, .head _⟩,u87),(F7 ⟨.of rfl, .of rfl, .of rfl, .of rfl, .of rfl,trivial⟩ (A5 G_hit (.box (cv (cv (cv (cv (cv (cv (cv (cv (cv (cv (cv (cv (.cons (.of (B2i (A4p hv34)).symm) .nil)))))))))))))) (sg rfl (sg rfl (A5 (A1 rfl (A1 rfl (A1 rfl (A1 rfl (A1 rfl (R3 g13.2 G_hit)))))) (.of rfl) (sg rfl (B1 (gq rfl) (B1 (gq rfl) (A5f (gq rfl) trivial)))))))))⟩
 refine E1 rfl ?_
 cases hz7
 obtain rfl:=ez7 _ rfl
 refine ⟨nofun,C9 rfl (l_j ?_)⟩
 exact ⟨(g22.1,g22.2),(F7 trivial (sg rfl (A5 G_hit (.of rfl) (sg rfl (A5 (A1 rfl (A1 rfl (R3 g13.2 G_hit))) (.of rfl) (sg rfl (B1 (gq rfl) (B1 (gq rfl) (B1 (A1 (neL g22.1.property rfl) (A1 (neL g22.1.property rfl) (A1 (neL g22.1.property rfl) (A1 (neL g22.1.property rfl) (A1 (neL g22.1.property rfl) (A1 (neL g22.1.property rfl) (A1 (neL g22.1.property rfl) G_hit))))))) trivial)))))))))⟩
 rintro _ ⟨g21,q9⟩
 refine K4 ?_
 obtain rfl:=(Option.some.inj hy15)
 exact B6g q9 (.inl rfl) (g21.1,g21.2) trivial (A5 G_hit (.of rfl) (sg rfl (sg rfl (A5 (A1 rfl (A1 rfl (R3 g13.2 G_hit))) (.of rfl) (sg rfl (B1 (gq rfl) (B1 (gq rfl) (B1 (A1 (neL g21.1.property rfl) (A1 (neL g21.1.property rfl) (A1 (neL g21.1.property rfl) (A1 (neL g21.1.property rfl) (A1 (neL g21.1.property rfl) (A1 (neL g21.1.property rfl) (A1 (neL g21.1.property rfl) G_hit))))))) trivial))))))))
 intro g20
 intro u89 hu89
 refine A2 (M0 (K4 ?_))
 cases hz4
 exact D1h (gq rfl) (g20.1,g20.2) (sg rfl (A5 (A1 rfl (A1 rfl (R3 g13.2 G_hit))) (.of rfl) (A5 G_hit (.of rfl) (sg rfl (B1 (gq rfl) (B1 (gq rfl) (B1 (A1 (neL g20.1.property rfl) (A1 (neL g20.1.property rfl) (A1 (neL g20.1.property rfl) (A1 (neL g20.1.property rfl) (A1 (neL g20.1.property rfl) (A1 (neL g20.1.property rfl) (A1 (neL g20.1.property rfl) G_hit))))))) trivial)))))))
 rintro x4 g15 _ rfl qx4
 refine M0 (l_j ?_)
 exact ⟨(g15.1,g15.2),(Sb.after qx4 (F7 trivial (sg rfl (sg rfl (B1 (gq rfl) (B1 (gq rfl) (B1 (A1 (neL g15.1.property rfl) (A1 (neL g15.1.property rfl) (A1 (neL g15.1.property rfl) (A1 (neL g15.1.property rfl) (A1 (neL g15.1.property rfl) (A1 (neL g15.1.property rfl) G_hit)))))) trivial)))))))⟩
 rintro _ ⟨g14,q10⟩
 refine K4 ?_
 obtain rfl:=(Option.some.inj hy9)
 exact B6g q10 (.inl rfl) (g14.1,g14.2) ⟨.of rfl, .of rfl, .of rfl, .of rfl,trivial⟩ (A5 G_hit (.of rfl) (sg rfl (B1 (gq rfl) (B1 (gq rfl) (B1 (A1 (neL g14.1.property rfl) (A1 (neL g14.1.property rfl) (A1 (neL g14.1.property rfl) (A1 (neL g14.1.property rfl) G_hit)))) trivial)))))
 intro g12
 intro u90 hu90
 refine A2 (M0 (B8 fun u91 hu91=>sv rfl (sv rfl (A2 (B9j (lr (fun u92 hu92=>sv rfl (A2 (A7 (B3v rfl (C05 rfl ?_)))))))))))
 cases hy1
 exact l_j ⟨(g2,g6,(g12.1,g12.2)),(F7 ⟨.of rfl, .of rfl,trivial⟩ (A5 G_hit (.of rfl) (sg rfl (B1 (gq rfl) (B1 (gq rfl) (B1 (A1 (neL g12.1.property rfl) (A1 (neL g12.1.property rfl) (A1 (neL g12.1.property rfl) (A1 (neL g12.1.property rfl) G_hit)))) trivial))))))⟩
 rintro _ ⟨g1,q11⟩
 refine B0 q11 (lr (fun u93 hu93=>sp rfl rfl (sp rfl rfl (sp rfl rfl (sp rfl rfl (sl rfl (gq rfl) rfl (sv rfl (sp rfl rfl (sp rfl rfl (sp rfl rfl (sst rfl (gq rfl) ((Y2 p1)++ (L9 p2)++ [(di (w64 (v2.Tick+1))),(oS y1.1 (10060030,g1.1)),(oS y1.2.1 (85,g1.2.1)),(dl A4 p3),(oS y1.2.2 (g1.2.2.1.val,g1.2.2.2))]) rfl (A2 (A7 (C58 fun u94 hu94=>B0y (.ptr _ _) rfl rfl (B0y (.ptr _ _) rfl rfl (B0y (.ptr _ _) rfl rfl (B0y (A3k [(di (w64 (v2.Tick+1))),(oS y1.1 (10060030,g1.1)),(oS y1.2.1 (85,g1.2.1))]) rfl (B5 rfl G_hit rfl rfl) (B0y (.ptr _ _) rfl rfl (B0y (.ptr _ _) rfl rfl (B0y (.ptr _ _) rfl rfl (B0y (oS y1.2.2 (g1.2.2.1.val,g1.2.2.2)) rfl (S9 rfl G_hit rfl) (C8u _ _ _ _ _ (A2j _) rfl rfl (gq rfl) (nl rfl) [(di (w64 (v2.Tick+1))),(oS y1.1 (10060030,g1.1)),(oS y1.2.1 (85,g1.2.1))] rfl (B0y (oS y1.2.2 (g1.2.2.1.val,g1.2.2.2)) rfl rfl (B0y (.d _) rfl rfl (D2m ⟨by first|rfl|((generalize g1.2.2.1=q0;rcases q0 with ⟨d0,_|⟨_,_|⟨_,h0⟩⟩⟩)<;>(generalize y1.2.2=z4;cases z4)<;>first|rfl|contradiction),?_⟩)))))))))))))))))))))))))
 refine B4 ?_
 cases h
 exact A9 (.inr rfl) (C8k (N5 rfl G_hit (nl rfl) rfl) (B6 rfl) (B6 rfl) (B6d (rD (C2 (A5v (gq rfl)) (C2 (A5v (gq rfl)) D3)))) (A5v (A1 (neL g1.2.2.1.property rfl) (A1 (neL g1.2.2.1.property rfl) (A1 (neL g1.2.2.1.property rfl) (A1 (neL g1.2.2.1.property rfl) (A1 (neL g1.2.2.1.property rfl) (A1 (neL g1.2.2.1.property rfl) G_hit))))))) I8) (.tup (.cons (.agg (ca rfl (.cons ⟨A5u,rfl⟩ (.cons ⟨A5u,rfl⟩ .nil)))) (.cons A5u A3)))
noncomputable def A7b:Option Bool:=
  (B3z).bind fun v1=>(A75 0 10000 1000).bind fun v2=>(A75 1 46000 1000).bind fun v3=>(B43 v1 [v2,v3]).bind fun v4=>cond (((v4.2 !=0)||((v4.1.In.length:Int) !=0))||((v4.1.Agents.length:Int) !=2)) (some false) ((B26 v1 v4.1 [50,(-90)]).bind fun v5=>((cond (((v5.2.2==0)&& ((v5.2.1.length:Int)==0))&& ((v5.1.Agents.length:Int)==2)) (G8 v5.1.Agents 0) (some default))).bind fun v6=>((cond ((((v5.2.2==0)&& ((v5.2.1.length:Int)==0))&& ((v5.1.Agents.length:Int)==2))&& (v6.S==11030)) (G8 v5.1.Agents 1) (some default))).bind fun v7=>((cond (((((v5.2.2==0)&& ((v5.2.1.length:Int)==0))&& ((v5.1.Agents.length:Int)==2))&& (v6.S==11030))&& (v7.V==910)) (V3 100 30) (some default))).bind fun v8=>some ((((((v5.2.2==0)&& ((v5.2.1.length:Int)==0))&& ((v5.1.Agents.length:Int)==2))&& (v6.S==11030))&& (v7.V==910))&& (v8==120)))
theorem C19 (r:Bool)(h:A7b=some r):PCall Tryz.prog 21 [] (bo r):=by
 refine C1 (fk Tryz.func21 Tryz.ntmps21 (fun r=>if r==2 then [1003]else if r==5 then [1002]else []) (by with_unfolding_all rfl)) (nl rfl) ?_
 unfold A7b at h
 refine B0 (s0:=⟨T [],G []⟩) (sbr rfl rfl) ?_
 refine lr (fun u1 hu1=>sv rfl (A2 (lr (fun u2 hu2=>bs h fun v1 hv1 h=>B3 rfl rfl A3 (C49 _ hv1) (.inl rfl) (sn rfl rfl (sst rfl G_hit (Y2 v1) rfl (A2 (A7 (O4 rfl fun u3 hu3=>sd rfl (B5 rfl G_hit rfl rfl) (bs h fun v2 hv2 h=>B3 rfl rfl A3 (B55 _ _ _ _ hv2) (.inl rfl) (bs h fun v3 hv3 h=>B3 rfl rfl A3 (B55 _ _ _ _ hv3) (.inl rfl) (D8 (dl C0 [v2,v3]) rfl (C44 C0 ([v2,v3]:List Agent) (fun _=>rfl) rfl rfl ⟨rfl,rfl,rfl,rfl,rfl,rfl,trivial⟩ (fun _=>rfl)) (bs h fun v4 hv4 h=>B3 rfl rfl A3 (C4a _ _ _ hv4) (.inl rfl) (sv rfl (sv rfl (sv rfl (sn rfl rfl (sst rfl G_hit (L9 v4.1) rfl (sv rfl (A2 (A7 (lr (fun u4 hu4=>sv rfl (sv rfl (sv rfl (gp rfl (A4b rfl) (fun _=>rfl) (gf rfl (vl rfl G_hit rfl) (gf rfl (fun w3=>(N1 (A6 w3))) (gf rfl (vb rfl rfl rfl) (sd rfl (A8i rfl rfl (fun hc=>A6 (Y1 hc))) (sv rfl (gp rfl (A4b rfl) (fun _=>rfl) (gf rfl (vl rfl G_hit rfl) (gf rfl (fun w7=>(N1 (A6 w7))) (gf rfl (vb rfl rfl rfl) (sd rfl (A8i rfl rfl (fun hc=>A6 (Y1 hc))) (A2 (cc rfl h (fun c1 h=> ?_) (fun c1 h=> ?_)))))))))))))))))))))))))))))))))))))))
 refine A7 (B0 (s0:=⟨T [],G []⟩) (sbr rfl rfl) ?_)
 refine B8 fun u5 hu5=>sv rfl (A2 (B4 ?_))
 cases h
 exact A9 (.inr rfl) (B7 (B6 rfl) I8) (.refl _)
 refine B2 (A7 (B0 (s0:=⟨T [(1,(.ptr _ _)),(2,(.ptr _ _))],G [((1,u2),some (.box 33 _)),((2,u3),some (.box 25 _))]⟩) (sbr rfl rfl) ?_))
 refine B8 fun u6 hu6=>sd rfl (B5 rfl G_hit rfl rfl) (sd rfl (B5 rfl (gq rfl) rfl rfl) (D8 (dl A4 [50,(-90)]) rfl rfl (bs h fun v5 hv5 h=>B3 rfl rfl A3 (C2r _ _ _ _ hv5) (.inl rfl) (sv rfl (sv rfl (sv rfl (sv rfl (sn rfl rfl (sst rfl G_hit (L9 v5.1) rfl (sv rfl (sv rfl (A2 (lr (fun u7 hu7=>sv rfl (sv rfl (sv rfl (gt rfl (fun _=>rfl) (gt rfl (fun w10=>(N1 (A6 w10))) (gt rfl (vb rfl rfl rfl) (sa rfl rfl rfl (sv rfl (gp rfl (A1f rfl) (fun _=>rfl) (gt rfl (vl rfl G_hit rfl) (gt rfl (fun w14=>(N1 (A6 w14))) (gt rfl (vb rfl rfl rfl) (sa rfl rfl rfl (sv rfl (gp rfl (A1f rfl) (fun _=>rfl) (gt rfl (vl rfl G_hit rfl) (bs h fun v6 hv6 h=>gt rfl (fun w18=>(L4 (A6 w18) rfl (E2 w18 hv6) rfl)) ?_))))))))))))))))))))))))))))))
 refine gt rfl (fun w19=>(by simp only [A6 w19];rfl)) ?_
 refine gt rfl (fun w20=>(N2 (A6 w20) (E2 w20 hv6) rfl)) (gt rfl (vb rfl rfl rfl) (sa rfl rfl rfl (sv rfl (gp rfl (A1f rfl) (fun _=>rfl) (gt rfl (vl rfl G_hit rfl) (bs h fun v7 hv7 h=>gt rfl (fun w24=>(L4 (A6 w24) rfl (E2 w24 hv7) rfl)) ?_))))))
 refine gt rfl (fun w25=>(by simp only [A6 w25];rfl)) ?_
 refine gt rfl (fun w26=>(N2 (A6 w26) (E2 w26 hv7) rfl)) (gt rfl (vb rfl rfl rfl) (sa rfl rfl rfl (sv rfl (bs h fun v8 hv8 h=>U3 _ (i64 v8) (A1f rfl) (fun w28=>⟨_,_,_,_,rfl,rfl,A3,Z1 _ _ _ (E2 w28 hv8),(.inl rfl)⟩) (gt rfl (vb rfl rfl rfl) (sa rfl rfl rfl (sv rfl (A2 (B4 ?_)))))))))
 cases h
 exact A9 (.inr rfl) (B7 (B6 rfl) I8) (.refl _)
noncomputable def A5c (p1:Int)(p2:Int)(p3:Int):Option Bool:=
  (A9j p1 20000).bind fun v1=>(A9j p3 1000).bind fun v2=>(A9j p2 5000).bind fun v3=>(V3 v1 (w64 (1+v2))).bind fun v4=>(V3 (mm2 true 0 (w64 (v1 - (w64 (1+v2))))) (w64 (1+v2))).bind fun v5=>((cond (v4==(w64 ((mm2 true 0 (w64 (v1 - (w64 (1+v2)))))+v5))) (V3 (w64 (v1+v3)) (w64 (1+v2))) (some default))).bind fun v6=>((cond (v4==(w64 ((mm2 true 0 (w64 (v1 - (w64 (1+v2)))))+v5))) (V3 v1 (w64 (1+v2))) (some default))).bind fun v7=>((cond ((v4==(w64 ((mm2 true 0 (w64 (v1 - (w64 (1+v2)))))+v5)))&& (decide (v6≥v7))) (V3 v1 (w64 ((w64 (1+v2))+v3))) (some default))).bind fun v8=>((cond ((v4==(w64 ((mm2 true 0 (w64 (v1 - (w64 (1+v2)))))+v5)))&& (decide (v6≥v7))) (V3 v1 (w64 (1+v2))) (some default))).bind fun v9=>((cond (((v4==(w64 ((mm2 true 0 (w64 (v1 - (w64 (1+v2)))))+v5)))&& (decide (v6≥v7)))&& (decide (v8≤v9))) (A7b) (some default))).bind fun v10=>some ((((v4==(w64 ((mm2 true 0 (w64 (v1 - (w64 (1+v2)))))+v5)))&& (decide (v6≥v7)))&& (decide (v8≤v9)))&&v10)
theorem B5p (p1:Int)(p2:Int)(p3:Int)(r:Bool)(h:A5c p1 p2 p3=some r):PCall Tryz.prog 11 [(i64 p1),(i64 p2),(i64 p3)] (bo r):=by
 refine C1 (fk Tryz.func11 Tryz.ntmps11 m0 (by with_unfolding_all rfl)) (nl rfl) ?_
 unfold A5c at h
 refine B0 (s0:=⟨T [(0,(.d _)),(1,(.d _)),(2,(.d _))],G []⟩) (sbr rfl rfl) ?_
 refine lr (fun u1 hu1=>sv rfl (A2 (lr (fun u2 hu2=>sv rfl (bs h fun v1 hv1 h=>B3 rfl rfl A3 (B3y _ _ _ hv1) (.inl rfl) (sv rfl (bs h fun v2 hv2 h=>B3 rfl rfl A3 (B3y _ _ _ hv2) (.inl rfl) (sv rfl (sv rfl (sv rfl (A2 (lr (fun u3 hu3=>sv rfl (bs h fun v3 hv3 h=>B3 rfl rfl A3 (B3y _ _ _ hv3) (.inl rfl) (sv rfl (A2 (lr (fun u4 hu4=>sv rfl (sv rfl (sv rfl (sv rfl (sv rfl (A2 (lr (fun u5 hu5=>sv rfl (sv rfl (bs h fun v4 hv4 h=>B3 rfl rfl A3 (Z1 _ _ _ hv4) (.inl rfl) (sv rfl (sv rfl (sv rfl (bs h fun v5 hv5 h=>B3 rfl rfl A3 (Z1 _ _ _ hv5) (.inl rfl) (sv rfl (sv rfl (sv rfl (gt rfl (fun _=>rfl) (gt rfl (fun _=>rfl) (gt rfl (fun w3=>(A1p (A6 w3) (A6 w3) rfl)) (gt rfl (fun _=>rfl) (bs h fun v6 hv6 h=> ?_)))))))))))))))))))))))))))))))))))))))
 refine U3 _ (i64 v6) (A1f rfl) (fun w5=>⟨_,[(di (w64 (v1+v3))),(di (w64 (1+v2)))],_,_,(by simp only [A6 w5];rfl),rfl,A3,Z1 _ _ _ (E2 w5 hv6),(.inl rfl)⟩) ?_
 refine gt rfl (fun _=>rfl) (gt rfl (fun _=>rfl) (bs h fun v7 hv7 h=> ?_))
 refine U3 _ (i64 v7) (A1f rfl) (fun w8=>⟨_,[(di v1),(di (w64 (1+v2)))],_,_,(by simp only [A6 w8];rfl),rfl,A3,Z1 _ _ _ (E2 w8 hv7),(.inl rfl)⟩) ?_
 refine gt rfl (fun w9=>(A1p (A6 w9) (A6 w9) rfl)) (sa rfl rfl rfl (sv rfl (gt rfl (fun _=>rfl) (gt rfl (fun _=>rfl) (gt rfl (fun _=>rfl) (gt rfl (fun w13=>(A1p (A6 w13) (A6 w13) rfl)) (bs h fun v8 hv8 h=> ?_)))))))
 refine U3 _ (i64 v8) (A1f rfl) (fun w14=>⟨_,[(di v1),(di (w64 ((w64 (1+v2))+v3)))],_,_,(by simp only [A6 w14];rfl),rfl,A3,Z1 _ _ _ (E2 w14 hv8),(.inl rfl)⟩) ?_
 refine gt rfl (fun _=>rfl) (gt rfl (fun _=>rfl) (bs h fun v9 hv9 h=> ?_))
 refine U3 _ (i64 v9) (A1f rfl) (fun w17=>⟨_,[(di v1),(di (w64 (1+v2)))],_,_,(by simp only [A6 w17];rfl),rfl,A3,Z1 _ _ _ (E2 w17 hv9),(.inl rfl)⟩) ?_
 refine gt rfl (fun w18=>(A1p (A6 w18) (A6 w18) rfl)) (sa rfl rfl rfl (sv rfl (bs h fun v10 hv10 h=>U3 _ (bo v10) (A1f rfl) (fun w19=>⟨_,_,_,_,rfl,rfl,A3,C19 _ (E2 w19 hv10),(.inl rfl)⟩) (sa rfl rfl rfl (sv rfl (A2 (B4 ?_)))))))
 cases h
 exact A9 (.inr rfl) (B7 (B6 rfl) I8) (.refl _)
end Go.Abs.World
