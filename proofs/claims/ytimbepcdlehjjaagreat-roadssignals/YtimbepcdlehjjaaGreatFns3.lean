/-
  The functions, part 3.
-/
import Derived.Test.YtimbepcdlehjjaaGreatFns2
set_option maxRecDepth 20000
set_option maxHeartbeats 4000000
set_option linter.unusedVariables false
namespace Go.Abs.Roadsz
open Go Go.Abs Go.Proofs
attribute [local irreducible] T8 B4i AWL
noncomputable def A0f (p1:Int):Option Bool:=
  some (p1 !=p1)
theorem A6r (p1:Int)(r:Bool)(h:A0f p1=some r):PCall Tryz.prog 226 [(i64 p1)] (bo r):=by
 refine C6 (fk Tryz.func226 Tryz.ntmps226 m0 (by with_unfolding_all rfl)) (nl rfl) ?_
 unfold A0f at h
 refine A8 (s0:=⟨T [(0,(.d _))],G []⟩) (sbr rfl rfl) ?_
 refine lr (fun u1 hu1=>sv rfl (A1 (lr (fun u2 hu2=>sv rfl (sv rfl (sv rfl (sv rfl (A1 (B1 ?_)))))))))
 cases h
 exact A7 (.inr rfl) (B7 (B0 rfl) F7) (.refl _)
noncomputable def A2q (p1:Int)(p2:Int):Option Bool:=
  (A0f p1).bind fun v1=>((cond v1 (A0f p2) (some default))).bind fun v2=>some ((v1&& (!v2))||(decide (p1<p2)))
theorem B2s (p1:Int)(p2:Int)(r:Bool)(h:A2q p1 p2=some r):PCall Tryz.prog 281 [(i64 p1),(i64 p2)] (bo r):=by
 refine C6 (fk Tryz.func281 Tryz.ntmps281 m0 (by with_unfolding_all rfl)) (nl rfl) ?_
 unfold A2q at h
 refine A8 (s0:=⟨T [(0,(.d _)),(1,(.d _))],G []⟩) (sbr rfl rfl) ?_
 refine lr (fun u1 hu1=>sv rfl (A1 (lr (fun u2 hu2=>sv rfl (bs h fun v1 hv1 h=>C0 rfl rfl A2 (A6r _ _ hv1) (.inl rfl) (sv rfl (gt rfl (fun _=>rfl) (bs h fun v2 hv2 h=> ?_))))))))
 refine L7 v1 (bo v2) (A0k rfl) (fun w2=>⟨_,[(di p2)],_,_,(by simp only [A4 w2];rfl),rfl,A2,A6r _ _ (C8 w2 hv2),(.inl rfl)⟩) ?_
 refine A28 _ (.d (bo (!v2))) rfl (A0k rfl) (fun w3=>(by simp only [A4 w3];rfl)) ?_
 refine sa rfl rfl rfl (sv rfl (gf rfl (fun _=>rfl) (gf rfl (fun _=>rfl) (gf rfl (fun w6=>(A0a (A4 w6) (A4 w6) rfl)) (sd rfl (A3g rfl rfl (fun hc=>A4 (Q3 hc))) (sv rfl (A1 (B1 ?_))))))))
 cases h
 exact A7 (.inr rfl) (B7 (B0 rfl) F7) (.refl _)
noncomputable def C5 (p2:Int)(x2:(Int× (List Int))):Option (Stp (Int× (List Int)) (List Int)):=
  ((cond (decide (x2.1>p2)) (F0 x2.2 x2.1) (some default))).bind fun v1=>((cond (decide (x2.1>p2)) (F0 x2.2 (w64 (x2.1 - 1))) (some default))).bind fun v2=>((cond (decide (x2.1>p2)) (A2q v1 v2) (some default))).bind fun v3=>cond ((decide (x2.1>p2))&&v3) ((F0 x2.2 (w64 (x2.1 - 1))).bind fun v4=>(F0 x2.2 x2.1).bind fun v5=>(F0 x2.2 x2.1).bind fun v6=>(F0 (C66 x2.2 x2.1 v4) (w64 (x2.1 - 1))).bind fun v7=>some (.go ((w64 (x2.1 - 1)),(C66 (C66 x2.2 x2.1 v4) (w64 (x2.1 - 1)) v5)))) (some (.out x2.2))
noncomputable def D2 (p2:Int)(p3:Int)(x1:(Int× (List Int))):Option (Stp (Int× (List Int)) (List Int)):=
  cond (decide (x1.1<p3)) ((loop (C5 p2) (x1.1,x1.2)).bind fun y1=>some (.go ((w64 (x1.1+1)),y1))) (some (.out (x1.2)))
noncomputable def F4 (p1:(List Int))(p2:Int)(p3:Int):Option (List Int):=
  loop (D2 p2 p3) ((w64 (p2+1)),p1)
theorem A2c (p1:(List Int))(p2:Int)(p3:Int)(r:(List Int))(h:F4 p1 p2 p3=some r):MCall Tryz.prog 275 [(.sl (900000,0)),(di p2),(di p3)] [(.arr 2 1 (List.map A3 p1))] (.d (.tup [])) [some (.arr 2 1 (List.map A3 r))] []:=by
 refine B10 (fk Tryz.func275 Tryz.ntmps275 m0 (by with_unfolding_all rfl)) rfl (nl rfl) ?_
 unfold F4 at h
 refine A8 (s0:=⟨T [(0,(.sl _)),(1,(.d _)),(2,(.d _))],G [((900000,0),some _)]⟩) (sbr rfl rfl) ?_
 refine lr (fun u1 hu1=>sv rfl (sv rfl (sv rfl (A1 (A6 (E4 (D2 p2 p3) (fun (x1:(Int× (List Int))) (g1:Unit)=>⟨T [(0,(.sl (900000,0))),(1,(di p2)),(2,(di p3)),(6,(di x1.1))],G [((900000,0),some (.arr 2 1 (List.map A3 x1.2)))]⟩) ((w64 (p2+1)),p1) () _ h (sbr rfl rfl) ?_))))))
 intro x1 g1 z1 hz1 ez1
 unfold D2 at hz1
 refine A5 (lr (fun u2 hu2=>sv rfl (sv rfl (sv rfl (A1 (cc rfl hz1 (fun c1 hz1=> ?_) (fun c1 hz1=> ?_)))))))
 refine A9 (A5 (A6 (lr (fun u3 hu3=>sv rfl (sv rfl (A1 (bs hz1 fun y1 hy1 hz1=>E1 (fun s=> ∃g2:Unit,Sb ⟨T [(0,(.sl (900000,0))),(1,(di p2)),(2,(di p3)),(6,(di x1.1))],G [((900000,0),some (.arr 2 1 (List.map A3 y1)))]⟩ s) ?_ ?_)))))))
 refine A6 (E4 (C5 p2) (fun (x2:(Int× (List Int))) (g3:Unit)=>⟨T [(0,(.sl (900000,0))),(1,(di p2)),(2,(di p3)),(6,(di x1.1)),(7,(di x2.1))],G [((900000,0),some (.arr 2 1 (List.map A3 x2.2)))]⟩) (x1.1,x1.2) () _ hy1 (sbr rfl rfl) ?_)
 intro x2 g3 z2 hz2 ez2
 unfold C5 at hz2
 refine A5 (A5 (R6 rfl fun u4 hu4=>sv rfl (sv rfl (sv rfl (sv rfl (A28 _ (.sl _) rfl (A0k rfl) (fun _=>rfl) (gt rfl (fun _=>rfl) (bs hz2 fun v1 hv1 hz2=>A28 _ (.aptr _ _ _ _) rfl (A0k rfl) (fun w3=>(B72 (A4 w3) (A4 w3) G_hit (C8 w3 hv1))) (gt rfl (fun w4=>(B7y (A4 w4) G_hit (C8 w4 hv1) rfl)) (A28 _ (.sl _) rfl (A0k rfl) (fun _=>rfl) (gt rfl (fun _=>rfl) (gt rfl (vb rfl rfl rfl) (bs hz2 fun v2 hv2 hz2=>A28 _ (.aptr _ _ _ _) rfl (A0k rfl) (fun w8=>(B72 (A4 w8) (A4 w8) G_hit (C8 w8 hv2))) (gt rfl (fun w9=>(B7y (A4 w9) G_hit (C8 w9 hv2) rfl)) (bs hz2 fun v3 hv3 hz2=> ?_)))))))))))))))
 refine L7 _ (bo v3) (A0k rfl) (fun w10=>⟨_,[(di v1),(di v2)],_,_,(by simp only [A4 w10];rfl),rfl,A2,B2s _ _ _ (C8 w10 hv3),(.inl rfl)⟩) ?_
 refine sa rfl rfl rfl (A1 (cc rfl hz2 (fun c2 hz2=> ?_) (fun c2 hz2=> ?_)))
 refine A9 (A5 (A6 (R6 rfl fun u5 hu5=>ss rfl (sv rfl (ss rfl (sv rfl (sv rfl (ss rfl (sv rfl (sv rfl (bs hz2 fun v4 hv4 hz2=>F6 (.aptr _ _ _ _) rfl (B72 rfl rfl G_hit hv4) (sd rfl (B7y rfl G_hit hv4 rfl) (ss rfl (sv rfl (bs hz2 fun v5 hv5 hz2=>F6 (.aptr _ _ _ _) rfl (B72 rfl rfl G_hit hv5) (sd rfl (B7y rfl G_hit hv5 rfl) (bs hz2 fun v6 hv6 hz2=>F6 (.aptr _ _ _ _) rfl (B72 rfl rfl G_hit hv6) (C24 A3 _ _ _ (x2.1) _ v4 [(i64 v4)] rfl rfl rfl G_hit hv6 (nl rfl) rfl (bs hz2 fun v7 hv7 hz2=>F6 (.aptr _ _ _ _) rfl (B72 rfl rfl G_hit hv7) (C24 A3 _ _ _ ((w64 (x2.1 - 1))) _ v5 [(i64 v5)] rfl rfl rfl G_hit hv7 (nl rfl) rfl (A1 (G3 (A8 (s0:=⟨T [(0,(.sl _)),(1,(.d _)),(2,(.d _)),(6,(.d _)),(7,(.d _))],G [((900000,0),some _)]⟩) (sbr rfl rfl) ?_)))))))))))))))))))))))
 refine B8 fun u6 hu6=>sv rfl (sv rfl (sv rfl (A1 (G4 ?_))))
 cases hz2
 exact ⟨rfl,(),(sbr rfl rfl)⟩
 refine C4 rfl ?_
 cases hz2
 obtain rfl:=ez2 _ rfl
 refine ⟨nofun,C1 rfl (l_j ?_)⟩
 exact ⟨(),(sbr rfl rfl)⟩
 rintro _ ⟨g2,q1⟩
 refine G3 (A8 q1 (B8 fun u7 hu7=>sv rfl (sv rfl (sv rfl (A1 (G4 ?_))))))
 cases hz1
 exact ⟨rfl,(),(sbr rfl rfl)⟩
 refine C4 rfl ?_
 cases hz1
 obtain rfl:=ez1 _ rfl
 refine ⟨nofun,C1 rfl (G4 ?_)⟩
 exact B3b (.inl rfl) [] C59 (.refl _) ⟨⟨G_hit,O5⟩,trivial⟩
noncomputable def M0 (p1:(List Int))(x1:(Int×Int×Int×Bool×Bool)):Option (Stp (Int×Int×Int×Bool×Bool) (List Int)):=
  cond (decide ((w64 (x1.2.1 - x1.1))≤12)) ((F4 p1 x1.1 x1.2.1).bind fun v1=>some (.out (v1))) (cond (x1.2.2.1==0) (none) ((cond (!x1.2.2.2.1) (none) (some ())).bind fun _=>none))
noncomputable def O7 (p1:(List Int))(p2:Int)(p3:Int)(p4:Int):Option (List Int):=
  loop (M0 p1) (p2,p3,p4,true,true)
theorem A3z (p1:(List Int))(p2:Int)(p3:Int)(p4:Int)(r:(List Int))(h:O7 p1 p2 p3 p4=some r):MCall Tryz.prog 266 [(.sl (900000,0)),(di p2),(di p3),(di p4)] [(.arr 2 1 (List.map A3 p1))] (.d (.tup [])) [some (.arr 2 1 (List.map A3 r))] []:=by
 refine B10 (fk Tryz.func266 Tryz.ntmps266 (fun r=>if r==4 then [1004003]else []) (by with_unfolding_all rfl)) rfl (nl rfl) ?_
 unfold O7 at h
 refine A8 (s0:=⟨T [(0,(.sl _)),(1,(.d _)),(2,(.d _)),(3,(.d _))],G [((900000,0),some _)]⟩) (sbr rfl rfl) ?_
 refine lr (fun u1 hu1=>sv rfl (A1 (lr (fun u2 hu2=>sv rfl (A1 (A6 (E4 (M0 p1) (fun (x1:(Int×Int×Int×Bool×Bool)) (g1:Unit)=>⟨T [(0,(.sl (900000,0))),(1,(di x1.1)),(2,(di x1.2.1)),(3,(di x1.2.2.1)),(8,(.d (bo x1.2.2.2.1))),(9,(.d (bo x1.2.2.2.2)))],G [((900000,0),some (.arr 2 1 (List.map A3 p1)))]⟩) (p2,p3,p4,true,true) () _ h (sbr rfl rfl) ?_)))))))
 intro x1 g1 z1 hz1 ez1
 unfold M0 at hz1
 refine A6 (lr (fun u3 hu3=>sv rfl (sv rfl (sv rfl (sv rfl (A1 (A5 (lr (fun u4 hu4=>sv rfl (sv rfl (A1 (cc rfl hz1 (fun c1 hz1=> ?_) (fun c1 hz1=> ?_)))))))))))))
 refine lr (fun u5 hu5=>ss rfl (sv rfl (sv rfl (bs hz1 fun v1 hv1 hz1=>C69 (v:= .d (.tup [])) (us:= [(900000,0)]) (C8o (A2c _ _ _ _ hv1) [(900000,0)] [(900000,0)] _ (((900000,0),some (.arr 2 1 (List.map A3 v1)))::_) rfl A8w (V1 C7n (V1 C68 (V1 C68 A8v))) (A1f G_hit A6p) ⟨⟨_,G_hit, .of rfl⟩,trivial⟩ (fun _ h=>h) nd1 rfl rfl rfl) (A1 (B1 ?_))))))
 cases hz1
 obtain rfl:=ez1 _ rfl
 refine ⟨nofun,D4 ?_⟩
 exact B3b (.inr rfl) [] C59 (.refl _) ⟨⟨G_hit,O5⟩,trivial⟩
 refine A9 (A5 (lr (fun u6 hu6=>sv rfl (sv rfl (A1 (cc rfl hz1 (fun c2 hz1=> ?_) (fun c2 hz1=> ?_)))))))
 refine lr (fun u7 hu7=>ss rfl (sv rfl (sv rfl ?_)))
 cases hz1
 refine A9 (A5 (lr (fun u8 hu8=>sv rfl (F6 (.d (bo (!x1.2.2.2.1))) rfl rfl (A1 (bs hz1 fun y1 hy1 hz1=>E1 (fun s=> ∃g2:Unit,Sb ⟨T [(0,(.sl (900000,0))),(1,(di x1.1)),(2,(di x1.2.1)),(3,(di x1.2.2.1)),(8,(.d (bo x1.2.2.2.1))),(9,(.d (bo x1.2.2.2.2))),(10,(di (w64 (x1.2.1 - x1.1))))],G [((900000,0),some (.arr 2 1 (List.map A3 p1)))]⟩ s) ?_ ?_))))))
 refine cc rfl hy1 (fun c3 hy1=> ?_) (fun c3 hy1=> ?_)
 refine lr (fun u9 hu9=>ss rfl (sv rfl (sv rfl ?_)))
 cases hy1
 refine A9 ?_
 cases hy1
 exact l_j ⟨(),(sbr rfl rfl)⟩
 rintro _ ⟨g2,q1⟩
 refine A8 q1 (lr (fun u10 hu10=>ss rfl (sv rfl (sv rfl ?_))))
 cases hz1
noncomputable def O2 (p1:(List Int)):Option (List Int):=
  (A2b (IntKind.wrap .u64 (p1.length:Int))).bind fun v1=>(O7 p1 0 (p1.length:Int) v1).bind fun v2=>some v2
theorem A5j (p1:(List Int))(r:(List Int))(h:O2 p1=some r):MCall Tryz.prog 230 [(.sl (900000,0))] [(.arr 2 1 (List.map A3 p1))] (.d (.tup [])) [some (.arr 2 1 (List.map A3 r))] []:=by
 refine B10 (fk Tryz.func230 Tryz.ntmps230 (fun r=>if r==1 then [1001005]else []) (by with_unfolding_all rfl)) rfl (nl rfl) ?_
 unfold O2 at h
 refine A8 (s0:=⟨T [(0,(.sl _))],G [((900000,0),some _)]⟩) (sbr rfl rfl) ?_
 refine lr (fun u1 hu1=>ss rfl (sd rfl (D1s (f:=A3) rfl G_hit) (sv rfl (A1 (B8 fun u2 hu2=>ss rfl (sv rfl (sv rfl (sv rfl (bs h fun v1 hv1 h=>C0 rfl rfl A2 (A8k _ _ hv1) (.inl rfl) (bs h fun v2 hv2 h=>C69 (v:= .d (.tup [])) (us:= [(900000,0)]) (C8o (A3z _ _ _ _ _ hv2) [(900000,0)] [(900000,0)] _ (((900000,0),some (.arr 2 1 (List.map A3 v2)))::_) rfl A8w (V1 C7n (V1 C68 (V1 C68 (V1 C68 A8v)))) (A1f G_hit A6p) ⟨⟨_,G_hit, .of rfl⟩,trivial⟩ (fun _ h=>h) nd1 rfl rfl rfl) (A1 (G4 ?_))))))))))))
 cases h
 exact B3b (.inl rfl) [] C59 (.refl _) ⟨⟨G_hit,O5⟩,trivial⟩
section
open Go.RowKit Go.Lib
noncomputable def cmpR:Go.Shelf.Ren:=⟨fun n=>if n=43 then 231 else 0,fun t=>if t=22 then 75 else if t=23 then 2 else t,fun x=>x⟩
theorem cmp_lay:SlLaysE.n43 Tryz.prog cmpR where
  mixed:=by kernel_rfl
  f43:=⟨Tryz.f231.name,by decide,by kernel_rfl⟩
  t0:=Tryz.underlying0
  a0:=Tryz.isAgg0
  z0:=Tryz.sizeOf0
  v0:=Tryz.zeroValue0
  t3:=Tryz.underlying3
  a3:=Tryz.isAgg3
  z3:=Tryz.sizeOf3
  v3:=Tryz.zeroValue3
  t4:=Tryz.underlying4
  a4:=Tryz.isAgg4
  z4:=Tryz.sizeOf4
  v4:=Tryz.zeroValue4
  t22:=Tryz.underlying75
  a22:=Tryz.isAgg75
  z22:=Tryz.sizeOf75
  v22:=Tryz.zeroValue75
  a23:=Tryz.isAgg2
  z23:=Tryz.sizeOf2
theorem C5m (g cap:Nat)(d:Array Int)(w:World)(hH:Go.Sort.Holds (Value.int .i64) w g 0 d)(hsz:d.size≤9223372036854775807)(hcap:d.size≤cap):
    Calls Tryz.prog 231 #[.slice (some ⟨g,0,none⟩) d.size cap] w fun e w'=>e= .returned (.slice (some ⟨g,0,none⟩) (Go.Lib.compactUpTo d d.size).length cap)∧∃q,w'=Go.Sort.putRow (Value.int .i64) (Go.Sort.ahead w q) g 0 (Go.Lib.compactUpTo d d.size++List.replicate (d.size - (Go.Lib.compactUpTo d d.size).length) 0).toArray:=
  AnyE.slices_Compact cmp_lay (Value.int .i64) (fun _=>rfl) (.intD _ _ _) (.intD _ _ _) 0 Tryz.zeroValue2 g 0 cap d w hH hsz hcap
theorem D0h (d:Array Int):(Go.Lib.compactUpTo d d.size).length≤d.size:=by
  unfold Go.Lib.compactUpTo
  rw [List.length_map]
  refine Nat.le_trans (List.length_filter_le _ _) ?_
  rw [List.length_range];exact Nat.le_refl _
theorem B9q (xs:List Int): ∀m,m≤xs.length→Go.Lib.compactUpTo xs.toArray m=A2f (xs.take m)
  |0,_=>rfl
  |m+1,h=>by
   rw [Go.Lib.compactUpTo_succ,B9q xs m (by omega),List.take_add_one,List.getElem?_eq_getElem (by omega),Option.toList_some,B4x]
   congr 1
   have hm:m<xs.length:=by omega
   have e1:xs.toArray[m]! =xs[m]:=by rw [getElem!_pos xs.toArray m (by simpa using hm)];simp
   rw [Go.Lib.keeps,e1]
   cases m with
   |zero=>simp
   |succ k=>
    have e2:xs.toArray[k]! =xs[k]:=by rw [getElem!_pos xs.toArray k (by rw [List.size_toArray];omega)];simp
    have e3:(xs.take (k+1)).getLast? =some xs[k]:=by rw [List.take_add_one,List.getElem?_eq_getElem (by omega),Option.toList_some,List.getLast?_append];simp
    rw [Nat.add_sub_cancel,e2,e3]
    by_cases e:xs[k+1]=xs[k]
    ·simp [e]
    ·rw [if_pos (by simp [e]),if_neg (fun q=>e (Option.some.inj q).symm)]
theorem D37 (xs r:List Int)(hr:B44 xs=some r):MCall Tryz.prog 231 [.sl (900000,0)] [.arr 2 1 (List.map A3 xs)] (.sl (800000,0)) [none] [some (.arr 2 1 (List.map A3 r))]:=by
  obtain ⟨hx,rfl⟩:=B9l hr
  clear hr
  refine ⟨rfl,fun vs w=> ?_,fun w I ρ vs H hlen hrep=> ?_⟩
  ·have hn': ¬Tryz.f231.name= "runtime.NumGoroutine" :=by decide
   have hb: ∃c,Tryz.f231.body=some c:=⟨_,rfl⟩
   obtain ⟨c,hb⟩:=hb
   simp [callFunc,Tryz.func231,hb,hn']
  have hnx:0<xs.length:=List.length_pos_iff.2 hx
  obtain ⟨a,rfl⟩: ∃a,vs= [a]:=by
    match vs,hlen with
    | [a],_=>exact ⟨a,rfl⟩
  have r0:=hrep 0 _ rfl
  simp only [List.getD_cons_zero]at r0
  have hb0:G (C3j 0 [Blk.arr 2 1 (List.map A3 xs)]) (A5o 0)=some (.arr 2 1 (List.map A3 xs)):=rfl
  obtain ⟨x0,cx,p1,p2,p3,p4⟩:=H.blk _ _ hb0
  have e0:a=x0:=by
    cases r0 with
    |sl _ _ h=>exact Option.some.inj (h.symm.trans p1)
  subst e0
  obtain ⟨hxl,hx'|⟨g,c,cur,rfl,_,hg,hnc,hcm,hcs,hxc⟩⟩:=p2
  ·rw [List.length_map]at hx';omega
  rw [List.length_map]at hxl hnc hxc
  have hval: ∀i (hi:i<xs.length),cur[i]? =some (.int .i64 xs[i]):=by
    intro i hi
    obtain ⟨_,g2⟩:=p4 i 0 (.v (.int .i64 xs[i])) (by simp [at2,hi,A3])
    have:cx.getD (i*1+0) undef= .int .i64 xs[i]:=by generalize cx.getD (i*1+0) undef=y at g2;cases g2;rfl
    rw [← hxc,List.getD,List.getElem?_take,if_pos (by omega),Nat.mul_one,Nat.add_zero,Array.getElem?_toList]at this
    rw [Array.getElem?_eq_getElem (by omega)]at this ⊢
    rw [Option.getD_some]at this
    rw [this]
  have hH:Go.Sort.Holds (Value.int .i64) w g 0 xs.toArray:=by
    intro j hj
    rw [List.size_toArray]at hj
    have h2:=hval j hj
    refine ⟨?_,by simp [World.frozen?,hg]⟩
    simp [World.cell?,hg,h2,hj]
  have locx:N2 ρ (A5o 0) (.arr 2 1 (List.map A3 xs))=some g:=by simp [N2,p1,Value.ownBlock]
  have hca:=C5m g c xs.toArray w hH (by rw [List.size_toArray];unfold maxLen at hcm;omega) (by rw [List.size_toArray];exact hnc)
  have hcl:=D0h xs.toArray
  rw [List.size_toArray]at hca hcl
  rw [List.length_map]
  refine hca.mono ?_
  rintro e w' ⟨rfl,q,hw'⟩
  have hheap: ∀k,w'.heap[k]? =if k=g then some (.cells (Go.Sort.putCells (Value.int .i64) 0 (Go.Lib.compactUpTo xs.toArray xs.length++List.replicate (xs.length - (Go.Lib.compactUpTo xs.toArray xs.length).length) 0).toArray cur) 2 (0,0))else w.heap[k]?:=by
    intro k
    rw [hw']
    show (w.heap.modify g _)[k]? =_
    rw [Array.getElem?_modify]
    by_cases e:g=k
    ·subst e;rw [if_pos rfl,if_pos rfl,hg];rfl
    ·rw [if_neg e,if_neg (Ne.symm e)]
  have hos:w'.os=w.os∧w'.tape=w.tape∧w'.output=w.output∧w'.heap.size=w.heap.size:=by rw [hw'];exact ⟨rfl,rfl,rfl,by simp⟩
  clear hw' hca hH
  generalize hC:Go.Lib.compactUpTo xs.toArray xs.length=C at hcl hheap ⊢
  have hCc:A2f xs=C:=by rw [← hC,B9q xs _ (Nat.le_refl _),List.take_length]
  rw [hCc]
  obtain ⟨Z,hZ⟩: ∃Z:Array Int,Z=(C++List.replicate (xs.length - C.length) 0).toArray:=⟨_,rfl⟩
  rw [← hZ]at hheap
  have hZs:Z.size=xs.length:=by rw [hZ];simp;omega
  have hZg: ∀i (hi:i<C.length),Z[i]! =C[i]:=by
    intro i hi
    have hlt:i<Z.size:=by omega
    rw [getElem!_pos Z i hlt]
    subst hZ
    rw [List.getElem_toArray,List.getElem_append_left hi]
  clear hZ hC hCc
  obtain ⟨u0,hu0⟩:=H.fresh
  have hk0:ρ (7,u0)=none:=hu0 7 u0 (Nat.le_refl _)
  have hgI: ¬I g:=H.notI _ _ g hb0 locx
  have hgo:own ρ (G (C3j 0 [Blk.arr 2 1 (List.map A3 xs)])) g:=⟨_,_,hb0,locx⟩
  have hother: ∀k,k≠g→w'.heap[k]? =w.heap[k]?:=fun k hk=>by rw [hheap,if_neg hk]
  have hI': ∀b,I b→w'.heap[b]? =w.heap[b]?:=fun b hb=>hother b (fun e=>hgI (e▸hb))
  have H0:HeapOK w' I ρ (fun _=>none):=⟨fun k b hb=>(by cases hb),fun k k' b b' g h1=>(by cases h1),fun k b g h1=>(by cases h1),fun k b g h1=>(by cases h1),fun b hb=>by rw [hos.2.2.2];exact H.ilt b hb,⟨u0,hu0⟩,H.rone⟩
  have hloc: ∀k,N2 (upd ρ (7,u0) (some (Value.slice (some ⟨g,0,none⟩) C.length c))) (7,u0) (.arr 2 1 (List.map A3 C))=some k→k=g:=by
    intro k hk
    have:some g=some k:=by simpa [N2,C9,Value.ownBlock] using hk
    exact (Option.some.inj this).symm
  have hown: ∀g,¬own ρ (fun _=>none) g:=fun g ⟨k,b,h,_⟩=>by cases h
  have hsz:(Go.Sort.putCells (Value.int .i64) 0 Z cur).size=c:=by unfold Go.Sort.putCells;rw [Array.size_mapIdx,hcs,Nat.mul_one]
  have Hn:=C1o H0 (7,u0) (Value.slice (some ⟨g,0,none⟩) C.length c) (.arr 2 1 (List.map A3 C)) hk0 rfl (fun k hk=>by
    rw [hloc k hk]
    exact ⟨hown g,hgI,by rw [hos.2.2.2];exact H.lt _ _ g hb0 locx⟩)
    ⟨_,C.map (Value.int .i64),C9 _ _ _,⟨by simp, .inr ⟨g,c,_,by rw [List.length_map],Nat.zero_le _,by rw [hheap,if_pos rfl],by rw [List.length_map];omega,hcm,by rw [hsz,Nat.mul_one],by
      rw [List.length_map,Nat.mul_one]
      apply List.ext_getElem
      ·have h3:(Go.Sort.putCells (Value.int .i64) 0 Z cur).toList.length=c:=hsz
       rw [List.length_take,h3,List.length_map];omega
      ·intro i h1 h2
       rw [List.length_map]at h2
       rw [List.getElem_take,Array.getElem_toList,List.getElem_map]
       unfold Go.Sort.putCells
       rw [Array.getElem_mapIdx,if_pos ⟨Nat.zero_le _,by omega⟩,Nat.sub_zero,hZg i h2]⟩⟩,by
      intro q hq
      obtain ⟨z,_,rfl⟩:=List.mem_map.1 hq
      rfl,by
      intro r j d' hd'
      unfold at2 at hd'
      rw [List.getElem?_map]at hd'
      cases hr:C[r]? with
      |none=>rw [hr]at hd';cases hd'
      |some z=>
       rw [hr]at hd'
       match j,hd' with
       |0,hd'=>
        cases hd'
        refine ⟨rfl,?_⟩
        rw [Nat.mul_one,Nat.add_zero,List.getD,List.getElem?_map,hr]
        exact .v _
       |j+1,hd'=>simp [A3]at hd'⟩
  refine ⟨_, .sl (7,u0),I,_,_,rfl, .sl _ _ (C9 _ _ _),Hn,⟨hos.1,hos.2.1,hos.2.2.1,by rw [hos.2.2.2];exact Nat.le_refl _,fun b hb hn'=>hother b (fun e=>hn' (e▸hgo)),fun _ hb=>hb,fun _ hb _=> .inl hb,?_,C1n hk0⟩,fun _=>(7,u0),rfl,?_,?_,?_,?_⟩
  ·rintro k ⟨k',b',h1,h2⟩ hl
   by_cases ek:k'=(7,u0)
   ·subst ek
    rw [C9]at h1
    cases h1
    rw [hloc k h2];exact hgo
   ·rw [H5 _ _ _ _ ek]at h1;cases h1
  ·intro j b hb
   match j,hb with
   |0,hb=>cases hb
   |j+1,hb=>simp at hb
  ·intro j b hb
   match j,hb with
   |0,hb=>cases hb;exact C9 _ _ _
   |j+1,hb=>simp at hb
  ·intro j _ i _ e;simp only [A5o,Prod.mk.injEq]at e;omega
  ·intro j j' h1 h2 _
   simp only [List.length_cons,List.length_nil]at h1 h2
   omega
theorem C7t (A:Option Addr)(w:World):Calls Tryz.prog 231 #[.slice A 0 0] w fun e w'=>e= .returned (.slice A 0 0)∧∃q,w'=w.drewN q:=by
  have mixed:=cmp_lay.mixed
  have v0:=Tryz.zeroValue2
  go_enter Tryz.func231,Tryz.ntmps231
  go_wp2
  go_ret
  exact ⟨rfl,0,rfl⟩
theorem D0i:PCall Tryz.prog 231 [.nilS] .nilS:=by
  refine ⟨fun vs w=> ?_,fun w I vs hI hlen hrep=> ?_⟩
  ·have hn': ¬Tryz.f231.name= "runtime.NumGoroutine" :=by decide
   have hb: ∃c,Tryz.f231.body=some c:=⟨_,rfl⟩
   obtain ⟨c,hb⟩:=hb
   simp [callFunc,Tryz.func231,hb,hn']
  obtain ⟨a,rfl⟩: ∃a,vs= [a]:=by
    match vs,hlen with
    | [a],_=>exact ⟨a,rfl⟩
  have r0:=hrep 0 _ rfl
  simp only [List.getD_cons_zero]at r0
  cases r0 with
  |nilS A=>
   refine (C7t A w).mono ?_
   rintro e w' ⟨rfl,q,rfl⟩
   exact ⟨_,I,rfl, .nilS A,rfl,rfl,rfl,Nat.le_refl _,fun _ _=>rfl,fun _ hb=>hb,fun _ hb _=>hb,hI⟩
end
noncomputable def M8 (p1:Int)(x2:Int):Option (Stp Int Unit):=
  ((cond (decide (x2>p1)) ((none:Option Unit)) (some default))).bind fun v1=>cond ((decide (x2>p1))&&false) (none) (some (.out ()))
noncomputable def M9 (p1:Int)(p2:Int)(x1:Int):Option (Stp Int Unit):=
  cond (decide (x1<p2)) ((loop (M8 p1) x1).bind fun _=>some (.go (w64 (x1+1)))) (some (.out (())))
noncomputable def K0 (p1:Int)(p2:Int):Option Unit:=
  loop (M9 p1 p2) (w64 (p1+1))
theorem A2d (p1:Int)(p2:Int)(r:Unit)(h:K0 p1 p2=some r):PCall Tryz.prog 275 [.nilS,(i64 p1),(i64 p2)] (.tup []):=by
 refine C6 (fk Tryz.func275 Tryz.ntmps275 m0 (by with_unfolding_all rfl)) (nl rfl) ?_
 unfold K0 at h
 refine A8 (s0:=⟨T [(0,(.d _)),(1,(.d _)),(2,(.d _))],G []⟩) (sbr rfl rfl) ?_
 refine lr (fun u1 hu1=>sv rfl (sv rfl (sv rfl (A1 (A6 (E4 (M9 p1 p2) (fun (x1:Int) (g1:Unit)=>⟨T [(0,(.d .nilS)),(1,(di p1)),(2,(di p2)),(6,(di x1))],G []⟩) (w64 (p1+1)) () _ h (sbr rfl rfl) ?_))))))
 intro x1 g1 z1 hz1 ez1
 unfold M9 at hz1
 refine A5 (lr (fun u2 hu2=>sv rfl (sv rfl (sv rfl (A1 (cc rfl hz1 (fun c1 hz1=> ?_) (fun c1 hz1=> ?_)))))))
 refine A9 (A5 (A6 (lr (fun u3 hu3=>sv rfl (sv rfl (A1 (bs hz1 fun y1 hy1 hz1=>E1 (fun s=> ∃g2:Unit,Sb ⟨T [(0,(.d .nilS)),(1,(di p1)),(2,(di p2)),(6,(di x1))],G []⟩ s) ?_ ?_)))))))
 refine A6 (E4 (M8 p1) (fun (x2:Int) (g3:Unit)=>⟨T [(0,(.d .nilS)),(1,(di p1)),(2,(di p2)),(6,(di x1)),(7,(di x2))],G []⟩) x1 () _ hy1 (sbr rfl rfl) ?_)
 intro x2 g3 z2 hz2 ez2
 unfold M8 at hz2
 refine A5 (A5 (R6 rfl fun u4 hu4=>sv rfl (sv rfl (sv rfl (sv rfl (gt rfl (fun _=>rfl) (gt rfl (fun _=>rfl) (bs hz2 fun v1 hv1 hz2=>A28 _ (.d (.tup [])) rfl (A0k rfl) (fun w3=>nomatch C8 w3 hv1) (A28 _ (di 0) rfl (A0k rfl) (fun w4=>nomatch C8 w4 hv1) (A28 _ (.d (.tup [])) rfl (A0k rfl) (fun w5=>nomatch C8 w5 hv1) (A28 _ (di 0) rfl (A0k rfl) (fun w6=>nomatch C8 w6 hv1) (A28 _ (di 0) rfl (A0k rfl) (fun w7=>nomatch C8 w7 hv1) (A28 _ (.d (.tup [])) rfl (A0k rfl) (fun w8=>nomatch C8 w8 hv1) (A28 _ (di 0) rfl (A0k rfl) (fun w9=>nomatch C8 w9 hv1) (L7 _ (bo false) (A0k rfl) (fun w10=>nomatch C8 w10 hv1) (sa rfl rfl rfl (A1 (cc rfl hz2 (fun c2 hz2=> ?_) (fun c2 hz2=> ?_)))))))))))))))))))
 refine A9 (A5 (A6 (R6 rfl fun u5 hu5=>sv rfl (sv rfl (sv rfl (sv rfl (sv rfl (sv rfl (sv rfl (sv rfl ?_))))))))))
 cases hz2
 refine C4 rfl ?_
 cases hz2
 obtain rfl:=ez2 _ rfl
 refine ⟨nofun,C1 rfl (l_j ?_)⟩
 exact ⟨(),(sbr rfl rfl)⟩
 rintro _ ⟨g2,q1⟩
 refine G3 (A8 q1 (B8 fun u6 hu6=>sv rfl (sv rfl (sv rfl (A1 (G4 ?_))))))
 cases hz1
 exact ⟨rfl,(),(sbr rfl rfl)⟩
 refine C4 rfl ?_
 cases hz1
 obtain rfl:=ez1 _ rfl
 refine ⟨nofun,C1 rfl (G4 ?_)⟩
 exact A7 (.inl rfl) rfl (.refl _)
noncomputable def M1 (x1:(Int×Int×Int×Bool×Bool)):Option (Stp (Int×Int×Int×Bool×Bool) Unit):=
  cond (decide ((w64 (x1.2.1 - x1.1))≤12)) ((K0 x1.1 x1.2.1).bind fun v1=>some (.out (()))) (cond (x1.2.2.1==0) (none) ((cond (!x1.2.2.2.1) (none) (some ())).bind fun _=>none))
noncomputable def O8 (p1:Int)(p2:Int)(p3:Int):Option Unit:=
  loop (M1) (p1,p2,p3,true,true)
theorem A40 (p1:Int)(p2:Int)(p3:Int)(r:Unit)(h:O8 p1 p2 p3=some r):PCall Tryz.prog 266 [.nilS,(i64 p1),(i64 p2),(i64 p3)] (.tup []):=by
 refine C6 (fk Tryz.func266 Tryz.ntmps266 m0 (by with_unfolding_all rfl)) (nl rfl) ?_
 unfold O8 at h
 refine A8 (s0:=⟨T [(0,(.d _)),(1,(.d _)),(2,(.d _)),(3,(.d _))],G []⟩) (sbr rfl rfl) ?_
 refine lr (fun u1 hu1=>sv rfl (A1 (lr (fun u2 hu2=>sv rfl (A1 (A6 (E4 (M1) (fun (x1:(Int×Int×Int×Bool×Bool)) (g1:Unit)=>⟨T [(0,(.d .nilS)),(1,(di x1.1)),(2,(di x1.2.1)),(3,(di x1.2.2.1)),(8,(.d (bo x1.2.2.2.1))),(9,(.d (bo x1.2.2.2.2)))],G []⟩) (p1,p2,p3,true,true) () _ h (sbr rfl rfl) ?_)))))))
 intro x1 g1 z1 hz1 ez1
 unfold M1 at hz1
 refine A6 (lr (fun u3 hu3=>sv rfl (sv rfl (sv rfl (sv rfl (A1 (A5 (lr (fun u4 hu4=>sv rfl (sv rfl (A1 (cc rfl hz1 (fun c1 hz1=> ?_) (fun c1 hz1=> ?_)))))))))))))
 refine lr (fun u5 hu5=>sv rfl (sv rfl (sv rfl (bs hz1 fun v1 hv1 hz1=>C0 rfl rfl A2 (A2d _ _ _ hv1) (.inl rfl) (A1 (B1 ?_))))))
 cases hz1
 obtain rfl:=ez1 _ rfl
 refine ⟨nofun,D4 ?_⟩
 exact A7 (.inr rfl) rfl (.refl _)
 refine A9 (A5 (lr (fun u6 hu6=>sv rfl (sv rfl (A1 (cc rfl hz1 (fun c2 hz1=> ?_) (fun c2 hz1=> ?_)))))))
 refine lr (fun u7 hu7=>sv rfl (sv rfl (sv rfl ?_)))
 cases hz1
 refine A9 (A5 (lr (fun u8 hu8=>sv rfl (F6 (.d (bo (!x1.2.2.2.1))) rfl rfl (A1 (bs hz1 fun y1 hy1 hz1=>E1 (fun s=> ∃g2:Unit,Sb ⟨T [(0,(.d .nilS)),(1,(di x1.1)),(2,(di x1.2.1)),(3,(di x1.2.2.1)),(8,(.d (bo x1.2.2.2.1))),(9,(.d (bo x1.2.2.2.2))),(10,(di (w64 (x1.2.1 - x1.1))))],G []⟩ s) ?_ ?_))))))
 refine cc rfl hy1 (fun c3 hy1=> ?_) (fun c3 hy1=> ?_)
 refine lr (fun u9 hu9=>sv rfl (sv rfl (sv rfl ?_)))
 cases hy1
 refine A9 ?_
 cases hy1
 exact l_j ⟨(),(sbr rfl rfl)⟩
 rintro _ ⟨g2,q1⟩
 refine A8 q1 (lr (fun u10 hu10=>sv rfl (sv rfl (sv rfl ?_))))
 cases hz1
noncomputable def O3:Option Unit:=
  (A2b (IntKind.wrap .u64 0)).bind fun v1=>(O8 0 0 v1).bind fun v2=>some ()
theorem A5k (r:Unit)(h:O3=some r):PCall Tryz.prog 230 [.nilS] (.tup []):=by
 refine C6 (fk Tryz.func230 Tryz.ntmps230 m0 (by with_unfolding_all rfl)) (nl rfl) ?_
 unfold O3 at h
 refine A8 (s0:=⟨T [(0,(.d _))],G []⟩) (sbr rfl rfl) ?_
 refine lr (fun u1 hu1=>sv rfl (sv rfl (sv rfl (A1 (B8 fun u2 hu2=>sv rfl (sv rfl (sv rfl (sv rfl (bs h fun v1 hv1 h=>C0 rfl rfl A2 (A8k _ _ hv1) (.inl rfl) (bs h fun v2 hv2 h=>C0 rfl rfl A2 (A40 _ _ _ _ hv2) (.inl rfl) (A1 (G4 ?_))))))))))))
 cases h
 exact A7 (.inl rfl) rfl (.refl _)
noncomputable def A0n (p1:Map)(p2:Int)(p3:Int)(v1:Zone)(x2:((List Int)×Int)):Option (Stp ((List Int)×Int) (List Int)):=
  cond (decide (x2.2< (v1.Parts.length:Int))) ((F0 v1.Parts x2.2).bind fun v2=>((cond (v2.Lane_==p2) (F0 p1.Signals (w64 (v1.Signal_ - 1))) (some default))).bind fun v3=>((cond (v2.Lane_==p2) (A42 v3 p2 p3) (some default))).bind fun v4=>cond ((v2.Lane_==p2)&& (!v4)) ((A7b x2.1 [v2.From]).bind fun v5=>some (.go (v5,(w64 (x2.2+1))))) (some (.go (x2.1,(w64 (x2.2+1)))))) (some (.out x2.1))
noncomputable def A0o (p1:Map)(p2:Int)(p3:Int)(x1:((List Int)×Int)):Option (Stp ((List Int)×Int) (List Int)):=
  cond (decide (x1.2< (p1.Zones.length:Int))) ((F0 p1.Zones x1.2).bind fun v1=>cond (v1.Signal_==0) (some (.go (x1.1,(w64 (x1.2+1))))) ((loop (A0n p1 p2 p3 v1) (x1.1,0)).bind fun y2=>some (.go (y2,(w64 (x1.2+1)))))) (some (.out x1.1))
noncomputable def A98 (p1:Map)(p2:Int)(p3:Int):Option (List Int):=
  (loop (A0o p1 p2 p3) ([],0)).bind fun y1=>cond (List.isEmpty y1) ((O3).bind fun v8=>some []) ((O2 y1).bind fun v6=>(B44 v6).bind fun v7=>some v7)
theorem B9r (p1:Map)(p2:Int)(p3:Int)(r:(List Int))(h:A98 p1 p2 p3=some r):PCall Tryz.prog 163 [(.agg (Y0 p1)),(i64 p2),(i64 p3)] (.list (List.map A3 r)):=by
 refine C6 (fk Tryz.func163 Tryz.ntmps163 (fun r=>if r==10 then [1003]else if r==13 then [1013001]else if r==14 then [1014001]else []) (by with_unfolding_all rfl)) (nl rfl) ?_
 unfold A98 at h
 refine A8 (s0:=⟨T [(0,(.d _)),(1,(.d _)),(2,(.d _))],G []⟩) (sbr rfl rfl) ?_
 refine lr (fun u1 hu1=>sn rfl rfl (sv rfl (A1 (lr (fun u2 hu2=>sv rfl (A1 (A5 (lr (fun u3 hu3=>sp rfl rfl (sl rfl G_hit rfl (sd rfl (D3 rfl) (sv rfl (A1 (bs h fun y1 hy1 h=>E1 (fun s=> ∃g1:Nat,Sb ⟨T [(7,(oS y1 (50,g1)))],G [((50,g1),oB 2 1 A3 y1)]⟩ s) ?_ ?_))))))))))))))
 refine A6 (E4 (A0o p1 p2 p3) (fun (x1:((List Int)×Int)) (g2:Nat)=>⟨T [(1,(di p2)),(2,(di p3)),(3,(.ptr (3,u1) 0)),(7,(oS x1.1 (50,g2))),(13,(dl V2 p1.Zones)),(14,(di (p1.Zones.length:Int))),(15,(di x1.2))],G [((3,u1),some (.box 27 (X2 p1))),((50,g2),oB 2 1 A3 x1.1)]⟩) ([],0) 0 _ hy1 (G9 ⟨.of rfl, .of rfl, .of rfl, .of rfl, .of rfl, .of rfl, .of rfl,trivial⟩ (B9 G_hit (.of rfl) (A3f trivial))) ?_)
 intro x1 g2 z1 hz1 ez1
 unfold A0o at hz1
 refine lr (fun u4 hu4=>sv rfl (A1 (A5 (cc rfl hz1 (fun c1 hz1=> ?_) (fun c1 hz1=> ?_)))))
 refine A9 (A5 (A6 (lr (fun u5 hu5=>bs hz1 fun v1 hv1 hz1=>sd rfl (F1 rfl rfl hv1 rfl) (sd rfl (C7 rfl hv1 rfl rfl) (sn rfl rfl (sst rfl G_hit [(dl L5 v1.Parts),(di v1.Signal_)] rfl (A1 (A5 (lr (fun u6 hu6=>sp rfl rfl (sl rfl G_hit rfl (sv rfl (A1 (cc rfl hz1 (fun c2 hz1=> ?_) (fun c2 hz1=> ?_))))))))))))))))
 refine C21 rfl (B8 fun u7 hu7=>sv rfl (sv rfl (A1 (G4 ?_))))
 cases hz1
 exact ⟨rfl,g2,(G9 ⟨.of rfl, .of rfl, .of rfl, .of rfl, .of rfl, .of rfl, .of rfl,trivial⟩ (sg rfl (H4 (gq rfl) trivial)))⟩
 refine A9 (lr (fun u8 hu8=>sp rfl rfl (sl rfl G_hit rfl (sd rfl (D3 rfl) (sv rfl (A1 (bs hz1 fun y2 hy2 hz1=>E1 (fun s=> ∃g3:Nat,Sb ⟨T [(1,(di p2)),(2,(di p3)),(3,(.ptr (3,u1) 0)),(7,(oS y2 (50,g3))),(13,(dl V2 p1.Zones)),(14,(di (p1.Zones.length:Int))),(15,(di x1.2))],G [((3,u1),some (.box 27 (X2 p1))),((50,g3),oB 2 1 A3 y2)]⟩ s) ?_ ?_)))))))
 refine A6 (E4 (A0n p1 p2 p3 v1) (fun (x2:((List Int)×Int)) (g4:Nat)=>⟨T [(1,(di p2)),(2,(di p3)),(3,(.ptr (3,u1) 0)),(7,(oS x2.1 (50,g4))),(9,(.ptr (9,u5) 0)),(13,(dl V2 p1.Zones)),(14,(di (p1.Zones.length:Int))),(15,(di x1.2)),(23,(dl L5 v1.Parts)),(24,(di (v1.Parts.length:Int))),(25,(di x2.2))],G [((3,u1),some (.box 27 (X2 p1))),((9,u5),some (.box 45 [(dl L5 v1.Parts),(di v1.Signal_)])),((50,g4),oB 2 1 A3 x2.1)]⟩) (x1.1,0) g2 _ hy2 (G9 ⟨.of rfl, .of rfl, .of rfl, .of rfl, .of rfl, .of rfl, .of rfl, .of rfl, .of rfl, .of rfl, .of rfl,trivial⟩ (sg rfl (B9 G_hit (.of rfl) (H4 (gq rfl) trivial)))) ?_)
 intro x2 g4 z2 hz2 ez2
 unfold A0n at hz2
 refine lr (fun u9 hu9=>sv rfl (A1 (A5 (cc rfl hz2 (fun c3 hz2=> ?_) (fun c3 hz2=> ?_)))))
 refine A9 (A5 (A6 (lr (fun u10 hu10=>bs hz2 fun v2 hv2 hz2=>sd rfl (F1 rfl rfl hv2 rfl) (sd rfl (C7 rfl hv2 rfl rfl) (sn rfl rfl (sst rfl G_hit (A8m v2) rfl (A1 (lr (fun u11 hu11=>sp rfl rfl (sl rfl G_hit rfl (sv rfl (sv rfl (sv rfl (gp rfl (A0k rfl) (fun _=>rfl) (gt rfl (vl rfl (gq rfl) rfl) (gp rfl (A0k rfl) (fun _=>rfl) (gt rfl (vl rfl (gq rfl) rfl) (gt rfl (vb rfl rfl rfl) (bs hz2 fun v3 hv3 hz2=>gt rfl (fun w6=>(F1 (A4 w6) (A4 w6) (C8 w6 hv3) rfl)) (gt rfl (fun w7=>(C7 (A4 w7) (C8 w7 hv3) rfl rfl)) (gt rfl (fun _=>rfl) (gt rfl (fun _=>rfl) (bs hz2 fun v4 hv4 hz2=> ?_))))))))))))))))))))))))
 refine L7 _ (bo v4) (A0k rfl) (fun w10=>⟨_,[(.d (.agg [(i64 v3.Offset),(.list (List.map W0 v3.Phases))])),(di p2),(di p3)],_,_,(by simp only [A4 w10];rfl),rfl,A2,B0i _ _ _ _ (C8 w10 hv4),(.inl rfl)⟩) ?_
 refine A28 _ (.d (bo (!v4))) rfl (A0k rfl) (fun w11=>(by simp only [A4 w11];rfl)) ?_
 refine sa rfl rfl rfl (A1 (cc rfl hz2 (fun c4 hz2=> ?_) (fun c4 hz2=> ?_)))
 refine A8 (s0:=⟨T [(1,(di p2)),(2,(di p3)),(3,(.ptr (3,u1) 0)),(7,(oS x2.1 (50,g4))),(9,(.ptr (9,u5) 0)),(11,(.ptr (11,u10) 0)),(13,(dl V2 p1.Zones)),(14,(di (p1.Zones.length:Int))),(15,(di x1.2)),(23,(dl L5 v1.Parts)),(24,(di (v1.Parts.length:Int))),(25,(di x2.2))],G [((3,u1),some (.box 27 (X2 p1))),((50,g4),oB 2 1 A3 x2.1),((9,u5),some (.box 45 [(dl L5 v1.Parts),(di v1.Signal_)])),((11,u10),some (.box 91 (A8m v2)))]⟩) (G9 ⟨.of rfl, .of rfl, .of rfl, .of rfl, .of rfl, .of rfl, .of rfl, .of rfl, .of rfl, .of rfl, .of rfl, .of rfl,trivial⟩ (sg rfl (H4 (gq rfl) (sg rfl (B9 G_hit (.of rfl) trivial))))) ?_
 refine B8 fun u12 hu12=>F6 (oS x2.1 (50,g4)) rfl rfl (sp rfl rfl (sl rfl (gq rfl) rfl (F6 (dl A3 [v2.From]) rfl rfl (bs hz2 fun v5 hv5 hz2=>Y8 A3 (50,g4) x2.1 v2.From [] _ (P3 (fun _=>rfl)) rfl (gq rfl) hv5 (ss rfl (A1 (G3 (A8 (s0:=⟨T [(1,(.d _)),(2,(.d _)),(3,(.ptr _ _)),(7,(.sl _)),(9,(.ptr _ _)),(13,(.d _)),(14,(.d _)),(15,(.d _)),(23,(.d _)),(24,(.d _)),(25,(.d _))],G [((3,u1),some (.box 27 _)),((50,u12),some _),((9,u5),some (.box 45 _))]⟩) (sbr rfl rfl) ?_))))))))
 refine B8 fun u13 hu13=>sv rfl (sv rfl (A1 (G4 ?_)))
 cases hz2
 exact ⟨rfl,u12,(G9 ⟨.of rfl, .of rfl, .of rfl,(.of (B0y (A3d hv5)).symm), .of rfl, .of rfl, .of rfl, .of rfl, .of rfl, .of rfl, .of rfl,trivial⟩ (B9 G_hit (.of rfl) (sg rfl (A3e (gq rfl) trivial))))⟩
 refine A9 (G3 (A8 (s0:=⟨T [(1,(di p2)),(2,(di p3)),(3,(.ptr (3,u1) 0)),(7,(oS x2.1 (50,g4))),(9,(.ptr (9,u5) 0)),(13,(dl V2 p1.Zones)),(14,(di (p1.Zones.length:Int))),(15,(di x1.2)),(23,(dl L5 v1.Parts)),(24,(di (v1.Parts.length:Int))),(25,(di x2.2))],G [((3,u1),some (.box 27 (X2 p1))),((50,g4),oB 2 1 A3 x2.1),((9,u5),some (.box 45 [(dl L5 v1.Parts),(di v1.Signal_)]))]⟩) (G9 ⟨.of rfl, .of rfl, .of rfl, .of rfl, .of rfl, .of rfl, .of rfl, .of rfl, .of rfl, .of rfl, .of rfl,trivial⟩ (sg rfl (H4 (gq rfl) (sg rfl trivial)))) ?_))
 refine B8 fun u14 hu14=>sv rfl (sv rfl (A1 (G4 ?_)))
 cases hz2
 exact ⟨rfl,g4,(G9 ⟨.of rfl, .of rfl, .of rfl, .of rfl, .of rfl, .of rfl, .of rfl, .of rfl, .of rfl, .of rfl, .of rfl,trivial⟩ (B9 G_hit (.of rfl) (sg rfl (H4 (gq rfl) trivial))))⟩
 refine C4 rfl ?_
 cases hz2
 obtain rfl:=ez2 _ rfl
 refine ⟨nofun,C1 rfl (l_j ?_)⟩
 exact ⟨g4,(G9 ⟨.of rfl, .of rfl, .of rfl, .of rfl, .of rfl, .of rfl, .of rfl,trivial⟩ (B9 G_hit (.of rfl) (H4 (gq rfl) trivial)))⟩
 rintro _ ⟨g3,q1⟩
 refine G3 (A8 q1 (B8 fun u15 hu15=>sv rfl (sv rfl (A1 (G4 ?_)))))
 cases hz1
 exact ⟨rfl,g3,(G9 ⟨.of rfl, .of rfl, .of rfl, .of rfl, .of rfl, .of rfl, .of rfl,trivial⟩ (B9 G_hit (.of rfl) (H4 (gq rfl) trivial)))⟩
 refine C4 rfl ?_
 cases hz1
 obtain rfl:=ez1 _ rfl
 refine ⟨nofun,C1 rfl (l_j ?_)⟩
 exact ⟨g2,(G9 ⟨.of rfl,trivial⟩ (H4 (gq rfl) trivial))⟩
 rintro _ ⟨g1,q2⟩
 refine A8 q2 (A5 ?_)
 rcases C5i h with ⟨e1,h⟩|⟨e1,h⟩
 refine A8 (s0:=⟨T [(7,(.d .nilS))],G []⟩) (G9 ⟨.of (D26 e1),trivial⟩ trivial) ?_
 refine B8 fun u19 hu19=>sv rfl (bs h fun v8 hv8 h=>C69 (v:= .d (.tup [])) (us:= []) (oc_f [] _ rfl rfl A2 (A5k _ hv8) rfl rfl) (A1 (lr (fun u20 hu20=>sv rfl (C69 (v:= .d .nilS) (us:= []) (oc_f [] _ rfl rfl A2 D0i rfl rfl) (sv rfl (A1 (B1 ?_))))))))
 cases h
 exact A7 (.inr rfl) (B7 (B0 rfl) F7) DLe.nil
 refine A8 (s0:=⟨T [(7,(.sl (50,g1)))],G [((50,g1),some (.arr 2 1 (List.map A3 y1)))]⟩) (G9 ⟨.of (B0y e1),trivial⟩ (B9 (D00 G_hit e1) (.of rfl) trivial)) ?_
 refine B8 fun u17 hu17=>ss rfl (bs h fun v6 hv6 h=>C69 (v:= .d (.tup [])) (us:= [(50,g1)]) (C8o (A5j _ _ hv6) [(50,g1)] [(50,g1)] _ (((50,g1),some (.arr 2 1 (List.map A3 v6)))::_) rfl A8w (V1 C7n A8v) (A1f G_hit A6p) ⟨⟨_,G_hit, .of rfl⟩,trivial⟩ (fun _ h=>h) nd1 rfl rfl rfl) (A1 (lr (fun u18 hu18=>ss rfl (bs h fun v7 hv7 h=>C69 (v:= .sl (10140010,u18)) (us:= [(50,g1),(10140010,u18)]) (C8o (D37 _ _ hv7) [(50,g1)] [(50,g1)] _ (((10140010,u18),some (.arr 2 1 (List.map A3 v7)))::((50,g1),none)::_) rfl A8w (V1 C7n A8v) (A1f G_hit A6p) ⟨⟨_,G_hit, .of rfl⟩,trivial⟩ (fun _ h=>h) nd1 rfl rfl rfl) (ss rfl (A1 (B1 ?_))))))))
 cases h
 exact A7 (.inr rfl) (B7 (B0 rfl) (C7g G_hit)) (.refl _)
noncomputable def A7f (p1:Map)(p2:Int)(p3:Int):Option (List Int):=
  ((cond (!(decide (p3<0))) (A4f p1 p2) (some default))).bind fun v1=>cond ((decide (p3<0))||(!v1)) (some []) ((A98 p1 p2 p3).bind fun v2=>some v2)
theorem B9s (p1:Map)(p2:Int)(p3:Int)(r:(List Int))(h:A7f p1 p2 p3=some r):PCall Tryz.prog 54 [(.agg (Y0 p1)),(i64 p2),(i64 p3)] (.list (List.map A3 r)):=by
 refine C6 (fk Tryz.func54 Tryz.ntmps54 m0 (by with_unfolding_all rfl)) (nl rfl) ?_
 unfold A7f at h
 refine A8 (s0:=⟨T [(0,(.d _)),(1,(.d _)),(2,(.d _))],G []⟩) (sbr rfl rfl) ?_
 refine lr (fun u1 hu1=>sn rfl rfl (sv rfl (A1 (A5 (lr (fun u2 hu2=>sv rfl (sv rfl (sv rfl (gf rfl (fun w1=>(B6 rfl G_hit rfl rfl)) (gf rfl (fun _=>rfl) (bs h fun v1 hv1 h=> ?_)))))))))))
 refine L7 _ (bo v1) (X8 rfl) (fun w3=>⟨_,[(.d (.agg (Y0 p1))),(di p2)],_,_,(by simp only [A4 w3];rfl),rfl,A2,A7w _ _ _ (C8 w3 hv1),(.inl rfl)⟩) ?_
 refine A28 _ (.d (bo (!v1))) rfl (X8 rfl) (fun w4=>(by simp only [A4 w4];rfl)) ?_
 refine sd rfl (A3g rfl rfl (fun hc=>A4 (Q3 hc))) (A1 (cc rfl h (fun c1 h=> ?_) (fun c1 h=> ?_)))
 refine lr (fun u3 hu3=>sv rfl (A1 (B1 ?_)))
 cases h
 exact A7 (.inr rfl) (B7 (B0 rfl) F7) DLe.nil
 refine A9 (lr (fun u4 hu4=>sd rfl (B6 rfl G_hit rfl rfl) (sv rfl (sv rfl (bs h fun v2 hv2 h=>C0 rfl rfl A2 (B9r _ _ _ _ hv2) (.inl rfl) (sv rfl (A1 (B1 ?_))))))))
 cases h
 exact A7 (.inr rfl) (B7 (B0 rfl) F7) (.refl _)
noncomputable def A0u (p1:Zone)(p2:Int)(x1:Int):Option (Stp Int (Sum Unit (Part×Bool))):=
  cond (decide (x1< (p1.Parts.length:Int))) ((F0 p1.Parts x1).bind fun v1=>cond (v1.Lane_==p2) ((F0 p1.Parts x1).bind fun v2=>some (.out (.inr (v2,true)))) (some (.go (w64 (x1+1))))) (some (.out (.inl ())))
noncomputable def A9w (p1:Zone)(p2:Int):Option (Part×Bool):=
  thenS (loop (A0u p1 p2) 0) (fun _=>some ((Part.mk 0 0 0 0),false)) (fun r=>some r)
theorem B87 (p1:Zone)(p2:Int)(r:(Part×Bool))(h:A9w p1 p2=some r):PCall Tryz.prog 148 [(.agg [(.list (List.map L5 p1.Parts)),(i64 p1.Signal_)]),(i64 p2)] (.tup [(.agg (L5 r.1)),(bo r.2)]):=by
 refine C6 (fk Tryz.func148 Tryz.ntmps148 m0 (by with_unfolding_all rfl)) (nl rfl) ?_
 unfold A9w at h
 refine A8 (s0:=⟨T [(0,(.d _)),(1,(.d _))],G []⟩) (sbr rfl rfl) ?_
 refine lr (fun u1 hu1=>sn rfl rfl (sn rfl rfl (sv rfl (A1 (A5 (lr (fun u2 hu2=>sv rfl (A1 (js h fun z1 hz1 h=>E1 (fun s=> ∃(y1:Unit) (g1:Unit),z1= .inl y1∧Sb ⟨T [(4,(.ptr (4,u1) 0))],G [((4,u1),some (.box 91 (zs 4)))]⟩ s) ?_ ?_)))))))))
 refine A6 (E4 (A0u p1 p2) (fun (x1:Int) (g2:Unit)=>⟨T [(1,(di p2)),(2,(.ptr (2,u1) 0)),(4,(.ptr (4,u1) 0)),(6,(di x1))],G [((2,u1),some (.box 45 [(dl L5 p1.Parts),(di p1.Signal_)])),((4,u1),some (.box 91 (zs 4)))]⟩) 0 () _ hz1 (sbr rfl rfl) ?_)
 intro x1 g2 z2 hz2 ez2
 unfold A0u at hz2
 refine A5 (lr (fun u3 hu3=>sv rfl (sp rfl rfl (sl rfl G_hit rfl (sd rfl (D3 rfl) (sv rfl (A1 (cc rfl hz2 (fun c1 hz2=> ?_) (fun c1 hz2=> ?_)))))))))
 refine A9 (A5 (A6 (lr (fun u4 hu4=>sp rfl rfl (sl rfl G_hit rfl (sv rfl (bs hz2 fun v1 hv1 hz2=>sd rfl (F1 rfl rfl hv1 rfl) (sv rfl (sd rfl (E6 rfl hv1 rfl) (sv rfl (sv rfl (A1 (cc rfl hz2 (fun c2 hz2=> ?_) (fun c2 hz2=> ?_))))))))))))))
 refine lr (fun u5 hu5=>sp rfl rfl (sl rfl G_hit rfl (sv rfl (bs hz2 fun v2 hv2 hz2=>sd rfl (F1 rfl rfl hv2 rfl) (sd rfl (C7 rfl hv2 rfl rfl) (sst rfl (gq rfl) (A8m v2) rfl (sv rfl (A1 (B1 ?_)))))))))
 cases hz2
 obtain rfl:=ez2 _ rfl
 refine ⟨nofun,D4 ?_⟩
 rw [Sum.elim_inr]at h
 cases h
 exact A7 (.inr rfl) (C50 (A0y rfl G_hit (nl rfl) rfl) (B0 rfl) F7 F7) (.refl _)
 refine A9 (G3 (B8 fun u6 hu6=>sv rfl (sv rfl (sv rfl (A1 (G4 ?_))))))
 cases hz2
 exact ⟨rfl,(),(sbr rfl rfl)⟩
 refine C4 rfl ?_
 cases hz2
 obtain rfl:=ez2 _ rfl
 refine ⟨nofun,C1 rfl (l_j ?_)⟩
 exact ⟨_,(),rfl,(sbr rfl rfl)⟩
 rintro _ ⟨y1,g1,rfl,q1⟩
 rw [Sum.elim_inl]at h
 refine A8 q1 (lr (fun u7 hu7=>sv rfl (sst rfl G_hit (zs 4) rfl (sv rfl (A1 (B1 ?_))))))
 cases h
 exact A7 (.inr rfl) (C50 (A0y rfl G_hit (nl rfl) rfl) (B0 rfl) F7 F7) (.refl _)
noncomputable def W3 (x1:((List Int)×Int))(v2:(Part×Bool))(x2:Int):Option (Stp Int Int):=
  ((cond (decide (x2< (x1.1.length:Int))) (F0 x1.1 x2) (some default))).bind fun v5=>cond ((decide (x2< (x1.1.length:Int)))&& (decide (v5<v2.1.From))) (some (.go (w64 (x2+1)))) (some (.out x2))
noncomputable def W4 (p1:Map)(p2:Int)(p3:Int)(x1:((List Int)×Int)):Option (Stp ((List Int)×Int) (List Int)):=
  cond (decide (x1.2< (p1.Zones.length:Int))) ((F0 p1.Zones x1.2).bind fun v1=>(A9w v1 p2).bind fun v2=>((cond (!((!v2.2)||(v1.Signal_==0))) (F0 p1.Signals (w64 (v1.Signal_ - 1))) (some default))).bind fun v3=>((cond (!((!v2.2)||(v1.Signal_==0))) (A45 v3 p2 p3) (some default))).bind fun v4=>cond (((!v2.2)||(v1.Signal_==0))||v4) (some (.go (x1.1,(w64 (x1.2+1))))) ((loop (W3 x1 v2) 0).bind fun y2=>((cond (decide (y2< (x1.1.length:Int))) (F0 x1.1 y2) (some default))).bind fun v6=>cond ((decide (y2< (x1.1.length:Int)))&& (v6==v2.1.From)) (some (.go (x1.1,(w64 (x1.2+1))))) ((B71 x1.1 0 y2).bind fun v7=>(A7b ([]:List Int) v7).bind fun v8=>(A7b v8 [v2.1.From]).bind fun v9=>(B71 x1.1 y2 (x1.1.length:Int)).bind fun v10=>(A7b v9 v10).bind fun v11=>some (.go (v11,(w64 (x1.2+1))))))) (some (.out x1.1))
noncomputable def A7y (p1:Map)(p2:Int)(p3:Int):Option (List Int):=
  (loop (W4 p1 p2 p3) ([],0)).bind fun y1=>some y1
theorem B6d (p1:Map)(p2:Int)(p3:Int)(r:(List Int))(h:A7y p1 p2 p3=some r):PCall Tryz.prog 164 [(.agg (Y0 p1)),(i64 p2),(i64 p3)] (.list (List.map A3 r)):=by
 refine C6 (fk Tryz.func164 Tryz.ntmps164 (fun r=>if r==12 then [1007]else []) (by with_unfolding_all rfl)) (nl rfl) ?_
 unfold A7y at h
 refine A8 (s0:=⟨T [(0,(.d _)),(1,(.d _)),(2,(.d _))],G []⟩) (sbr rfl rfl) ?_
 refine lr (fun u1 hu1=>sn rfl rfl (sv rfl (A1 (lr (fun u2 hu2=>sv rfl (A1 (A5 (lr (fun u3 hu3=>sv rfl (A1 (bs h fun y1 hy1 h=>E1 (fun s=> ∃g1:Unit,Sb ⟨T [(7,(dl A3 y1))],G []⟩ s) ?_ ?_)))))))))))
 refine A6 (E4 (W4 p1 p2 p3) (fun (x1:((List Int)×Int)) (g2:Unit)=>⟨T [(1,(di p2)),(2,(di p3)),(3,(.ptr (3,u1) 0)),(7,(dl A3 x1.1)),(8,(di x1.2))],G [((3,u1),some (.box 27 (X2 p1)))]⟩) ([],0) () _ hy1 (G9 ⟨.of rfl, .of rfl, .of rfl,(DLe.d DLe.nil), .of rfl,trivial⟩ (B9 G_hit (.of rfl) trivial)) ?_)
 intro x1 g2 z1 hz1 ez1
 unfold W4 at hz1
 refine A5 (lr (fun u4 hu4=>sv rfl (sp rfl rfl (sl rfl G_hit rfl (sd rfl (D3 rfl) (sv rfl (A1 (cc rfl hz1 (fun c1 hz1=> ?_) (fun c1 hz1=> ?_)))))))))
 refine A9 (A5 (A6 (lr (fun u5 hu5=>sp rfl rfl (sl rfl G_hit rfl (sv rfl (bs hz1 fun v1 hv1 hz1=>sd rfl (F1 rfl rfl hv1 rfl) (sd rfl (C7 rfl hv1 rfl rfl) (sn rfl rfl (sst rfl G_hit [(dl L5 v1.Parts),(di v1.Signal_)] rfl (A1 (lr (fun u6 hu6=>sd rfl (B6 rfl G_hit rfl rfl) (sv rfl (bs hz1 fun v2 hv2 hz1=>C0 rfl rfl A2 (B87 _ _ _ hv2) (.inl rfl) (sv rfl (sv rfl (sv rfl (sn rfl rfl (sst rfl G_hit (A8m v2.1) rfl (sv rfl (A1 (A5 (A5 (A8 (s0:=⟨T [(1,(.d _)),(2,(.d _)),(3,(.ptr _ _)),(7,(.d _)),(8,(.d _)),(9,(.ptr _ _)),(10,(.ptr _ _)),(11,(.d _))],G [((3,u1),some (.box 27 _)),((9,u5),some (.box 45 _)),((10,u6),some (.box 91 _))]⟩) (sbr rfl rfl) ?_)))))))))))))))))))))))))
 refine B8 fun u7 hu7=>sv rfl (F6 (.d (bo (!v2.2))) rfl rfl (sv rfl (gp rfl (X8 rfl) (fun _=>rfl) (gf rfl (vl rfl (gq rfl) rfl) (gf rfl (vb rfl rfl rfl) (sd rfl (A3g rfl rfl (fun hc=>A4 (Q3 hc))) (sv rfl (gp rfl (X8 rfl) (fun _=>rfl) (gf rfl (vl rfl G_hit rfl) (gp rfl (X8 rfl) (fun _=>rfl) (gf rfl (vl rfl (gq rfl) rfl) (gf rfl (vb rfl rfl rfl) (bs hz1 fun v3 hv3 hz1=>gf rfl (fun w9=>(F1 (A4 w9) (A4 w9) (C8 w9 hv3) rfl)) (gf rfl (fun w10=>(C7 (A4 w10) (C8 w10 hv3) rfl rfl)) (gf rfl (fun _=>rfl) (gf rfl (fun _=>rfl) (bs hz1 fun v4 hv4 hz1=> ?_)))))))))))))))))
 refine L7 _ (bo v4) (X8 rfl) (fun w13=>⟨_,[(.d (.agg [(i64 v3.Offset),(.list (List.map W0 v3.Phases))])),(di p2),(di p3)],_,_,(by simp only [A4 w13];rfl),rfl,A2,B0k _ _ _ _ (C8 w13 hv4),(.inl rfl)⟩) ?_
 refine sd rfl (A3g rfl rfl (fun hc=>A4 (Q3 hc))) (A1 (cc rfl hz1 (fun c2 hz1=> ?_) (fun c2 hz1=> ?_)))
 refine C21 rfl (A8 (s0:=⟨T [(1,(.d _)),(2,(.d _)),(3,(.ptr _ _)),(7,(.d _)),(8,(.d _))],G [((3,u1),some (.box 27 _))]⟩) (sbr rfl rfl) ?_)
 refine B8 fun u8 hu8=>sv rfl (sv rfl (sv rfl (A1 (G4 ?_))))
 cases hz1
 exact ⟨rfl,(),(sbr rfl rfl)⟩
 refine A9 (A5 (A8 (s0:=⟨T [(1,(.d _)),(2,(.d _)),(3,(.ptr _ _)),(7,(.d _)),(8,(.d _)),(10,(.ptr _ _))],G [((3,u1),some (.box 27 _)),((10,u6),some (.box 91 _))]⟩) (sbr rfl rfl) ?_))
 refine B8 fun u9 hu9=>sv rfl (A1 (A5 (bs hz1 fun y2 hy2 hz1=>E1 (fun s=> ∃g3:Unit,Sb ⟨T [(1,(di p2)),(2,(di p3)),(3,(.ptr (3,u1) 0)),(7,(dl A3 x1.1)),(8,(di x1.2)),(10,(.ptr (10,u6) 0)),(12,(di y2))],G [((3,u1),some (.box 27 (X2 p1))),((10,u6),some (.box 91 (A8m v2.1)))]⟩ s) ?_ ?_)))
 refine A6 (E4 (W3 x1 v2) (fun (x2:Int) (g4:Unit)=>⟨T [(1,(di p2)),(2,(di p3)),(3,(.ptr (3,u1) 0)),(7,(dl A3 x1.1)),(8,(di x1.2)),(10,(.ptr (10,u6) 0)),(12,(di x2))],G [((3,u1),some (.box 27 (X2 p1))),((10,u6),some (.box 91 (A8m v2.1)))]⟩) 0 () _ hy2 (sbr rfl rfl) ?_)
 intro x2 g4 z2 hz2 ez2
 unfold W3 at hz2
 refine A5 (A5 (R6 rfl fun u10 hu10=>sv rfl (sv rfl (sd rfl (D3 rfl) (sv rfl (sv rfl (gt rfl (fun _=>rfl) (gt rfl (fun _=>rfl) (bs hz2 fun v5 hv5 hz2=>gt rfl (fun w16=>(F1 (A4 w16) (A4 w16) (C8 w16 hv5) rfl)) (gt rfl (fun w17=>(E6 (A4 w17) (C8 w17 hv5) rfl)) (gp rfl (A0k rfl) (fun _=>rfl) (gt rfl (vl rfl (gq rfl) rfl) (gt rfl (fun w20=>(A0a (A4 w20) (A4 w20) rfl)) (sa rfl rfl rfl (A1 (cc rfl hz2 (fun c3 hz2=> ?_) (fun c3 hz2=> ?_)))))))))))))))))
 refine A9 (A6 (B8 fun u11 hu11=>sv rfl (sv rfl (sv rfl (A1 (G3 (G4 ?_)))))))
 cases hz2
 exact ⟨rfl,(),(sbr rfl rfl)⟩
 refine C4 rfl ?_
 cases hz2
 obtain rfl:=ez2 _ rfl
 refine ⟨nofun,C1 rfl (l_j ?_)⟩
 exact ⟨(),(sbr rfl rfl)⟩
 rintro _ ⟨g3,q1⟩
 refine A8 q1 (A5 (A5 (R6 rfl fun u12 hu12=>sv rfl (sv rfl (sd rfl (D3 rfl) (sv rfl (sv rfl (gt rfl (fun _=>rfl) (gt rfl (fun _=>rfl) (bs hz1 fun v6 hv6 hz1=>gt rfl (fun w23=>(F1 (A4 w23) (A4 w23) (C8 w23 hv6) rfl)) (gt rfl (fun w24=>(E6 (A4 w24) (C8 w24 hv6) rfl)) (gp rfl (A0k rfl) (fun _=>rfl) (gt rfl (vl rfl (gq rfl) rfl) (gt rfl (fun w27=>(A0a (A4 w27) (A4 w27) rfl)) (sa rfl rfl rfl (A1 (cc rfl hz1 (fun c4 hz1=> ?_) (fun c4 hz1=> ?_))))))))))))))))))
 refine C21 rfl (B8 fun u13 hu13=>sv rfl (sv rfl (sv rfl (A1 (G4 ?_)))))
 cases hz1
 exact ⟨rfl,(),(sbr rfl rfl)⟩
 refine A9 (D01 fun u14 hu14=>D30 (.sl _) (.arr 2 1 (List.map A3 ([]:List Int))) rfl rfl (B63 (.d _) rfl rfl (B63 (.d _) rfl rfl (bs hz1 fun v7 hv7 hz1=>B63 (.d _) rfl (C3i rfl (fun _=>rfl) D1t (D0x rfl) hv7) (bs hz1 fun v8 hv8 hz1=>B7z A3 _ _ _ _ (P3 (fun _=>rfl)) rfl G_hit hv8 (B63 (.ptr _ _) rfl rfl (B63 (.d _) rfl (B4r rfl (gq rfl) rfl) (B63 (dl A3 [v2.1.From]) rfl rfl (bs hz1 fun v9 hv9 hz1=>B7z A3 _ _ _ _ (P3 (fun _=>rfl)) rfl G_hit hv9 (B63 (.d _) rfl rfl (B63 (.d _) rfl rfl (bs hz1 fun v10 hv10 hz1=>B63 (.d _) rfl (C3i rfl (fun _=>rfl) (D0x rfl) B9a hv10) (bs hz1 fun v11 hv11 hz1=>B7z A3 _ _ _ _ (P3 (fun _=>rfl)) rfl G_hit hv11 (B63 (.sl _) rfl rfl (D2z ⟨rfl,?_⟩)))))))))))))))
 refine G3 (l_fr [(90,u14)] [(1,(di p2)),(2,(di p3)),(3,(.ptr (3,u1) 0)),(7,(dl A3 v11)),(8,(di x1.2)),(10,(.ptr (10,u6) 0)),(12,(di y2)),(65,(di y2)),(66,(dl A3 x1.1)),(67,(di (x1.1.length:Int))),(68,(.d (bo (decide (y2< (x1.1.length:Int)))))),(69,(.d (bo (decide (y2< (x1.1.length:Int)))))),(77,(.d (bo ((decide (y2< (x1.1.length:Int)))&& (v6==v2.1.From))))),(79,(dl A3 x1.1)),(80,(di y2)),(81,(dl A3 v7)),(83,(.ptr (10,u6) 1)),(84,(di v2.1.From)),(85,(dl A3 [v2.1.From])),(87,(dl A3 x1.1)),(88,(di y2)),(89,(dl A3 v10)),(90,(dl A3 v11))] [((3,u1),some (.box 27 (X2 p1))),((10,u6),some (.box 91 (A8m v2.1)))] ⟨A6u rfl,A6u rfl,A6u rfl,(fr_d (C7g (D09 (.head _) G_hit)) (.refl _)),A6u rfl,A6u rfl,A6u rfl,A6u rfl,A6u rfl,A6u rfl,A6u rfl,A6u rfl,A6u rfl,A6u rfl,A6u rfl,A6u rfl,A6u rfl,A6u rfl,A6u rfl,A6u rfl,A6u rfl,A6u rfl,(fr_d (C7g (D09 (.head _) G_hit)) (.refl _)),trivial⟩ (C8q (gq rfl) (C5g (B9h rfl) C8r) (C8q (gq rfl) (C5g (B9h rfl) C8r) trivial)) (A8 (s0:=⟨T [(1,(.d _)),(2,(.d _)),(3,(.ptr _ _)),(7,(.d _)),(8,(.d _))],G [((3,u1),some (.box 27 _))]⟩) (sbr rfl rfl) ?_))
 refine B8 fun u15 hu15=>sv rfl (sv rfl (sv rfl (A1 (G4 ?_))))
 cases hz1
 exact ⟨rfl,(),(sbr rfl rfl)⟩
 refine C4 rfl ?_
 cases hz1
 obtain rfl:=ez1 _ rfl
 refine ⟨nofun,C1 rfl (l_j ?_)⟩
 exact ⟨(),(sbr rfl rfl)⟩
 rintro _ ⟨g1,q2⟩
 refine A8 q2 (lr (fun u16 hu16=>sv rfl (sv rfl (A1 (B1 ?_)))))
 cases h
 exact A7 (.inr rfl) (B7 (B0 rfl) F7) (.refl _)
noncomputable def A99 (p1:Map)(p2:Int)(p3:Int):Option (List Int):=
  (A44 p1 p2).bind fun v1=>cond ((!v1)||(decide (p3<0))) (some []) ((A7y p1 p2 p3).bind fun v2=>some v2)
theorem B9t (p1:Map)(p2:Int)(p3:Int)(r:(List Int))(h:A99 p1 p2 p3=some r):PCall Tryz.prog 55 [(.agg (Y0 p1)),(i64 p2),(i64 p3)] (.list (List.map A3 r)):=by
 refine C6 (fk Tryz.func55 Tryz.ntmps55 m0 (by with_unfolding_all rfl)) (nl rfl) ?_
 unfold A99 at h
 refine A8 (s0:=⟨T [(0,(.d _)),(1,(.d _)),(2,(.d _))],G []⟩) (sbr rfl rfl) ?_
 refine lr (fun u1 hu1=>sn rfl rfl (sv rfl (A1 (A5 (lr (fun u2 hu2=>sd rfl (B6 rfl G_hit rfl rfl) (sv rfl (bs h fun v1 hv1 h=>C0 rfl rfl A2 (A7x _ _ _ hv1) (.inl rfl) (F6 (.d (bo (!v1))) rfl rfl (sv rfl (gf rfl (fun _=>rfl) (gf rfl (vb rfl rfl rfl) (sd rfl (A3g rfl rfl (fun hc=>A4 (Q3 hc))) (A1 (cc rfl h (fun c1 h=> ?_) (fun c1 h=> ?_))))))))))))))))
 refine lr (fun u3 hu3=>sv rfl (A1 (B1 ?_)))
 cases h
 exact A7 (.inr rfl) (B7 (B0 rfl) F7) DLe.nil
 refine A9 (lr (fun u4 hu4=>sd rfl (B6 rfl G_hit rfl rfl) (sv rfl (sv rfl (bs h fun v2 hv2 h=>C0 rfl rfl A2 (B6d _ _ _ _ hv2) (.inl rfl) (sv rfl (A1 (B1 ?_))))))))
 cases h
 exact A7 (.inr rfl) (B7 (B0 rfl) F7) (.refl _)
noncomputable def A12 (p1:(List Int))(p2:(List Int))(x1:Int):Option (Stp Int (Sum Unit Bool)):=
  cond ((decide (x1< (p1.length:Int)))&& (decide (x1< (p2.length:Int)))) ((F0 p1 x1).bind fun v1=>(F0 p2 x1).bind fun v2=>cond (v1 !=v2) (some (.out (.inr false))) (some (.go (w64 (x1+1))))) (some (.out (.inl ())))
noncomputable def A3n (p1:(List Int))(p2:(List Int)):Option Bool:=
  thenS (loop (A12 p1 p2) 0) (fun _=>some ((p1.length:Int)==(p2.length:Int))) (fun r=>some r)
theorem B3k (p1:(List Int))(p2:(List Int))(r:Bool)(h:A3n p1 p2=some r):PCall Tryz.prog 40 [(.list (List.map A3 p1)),(.list (List.map A3 p2))] (bo r):=by
 refine C6 (fk Tryz.func40 Tryz.ntmps40 m0 (by with_unfolding_all rfl)) (nl rfl) ?_
 unfold A3n at h
 refine A8 (s0:=⟨T [(0,(.d _)),(1,(.d _))],G []⟩) (sbr rfl rfl) ?_
 refine lr (fun u1 hu1=>sv rfl (A1 (A5 (lr (fun u2 hu2=>sv rfl (A1 (js h fun z1 hz1 h=>E1 (fun s=> ∃(y1:Unit) (g1:Unit),z1= .inl y1∧Sb ⟨T [(0,(dl A3 p1)),(1,(dl A3 p2))],G []⟩ s) ?_ ?_)))))))
 refine A6 (E4 (A12 p1 p2) (fun (x1:Int) (g2:Unit)=>⟨T [(0,(dl A3 p1)),(1,(dl A3 p2)),(5,(di x1))],G []⟩) 0 () _ hz1 (sbr rfl rfl) ?_)
 intro x1 g2 z2 hz2 ez2
 unfold A12 at hz2
 refine A5 (lr (fun u3 hu3=>sv rfl (sv rfl (sd rfl (D3 rfl) (sv rfl (sv rfl (gt rfl (fun _=>rfl) (gt rfl (fun _=>rfl) (gt rfl (fun w3=>(D3 (A4 w3))) (gt rfl (fun w4=>(A0a (A4 w4) (A4 w4) rfl)) (sa rfl rfl rfl (A1 (cc rfl hz2 (fun c1 hz2=> ?_) (fun c1 hz2=> ?_))))))))))))))
 refine A9 (A5 (A6 (A5 (R6 rfl fun u4 hu4=>sv rfl (sv rfl (bs hz2 fun v1 hv1 hz2=>sd rfl (F1 rfl rfl hv1 rfl) (sd rfl (E6 rfl hv1 rfl) (sv rfl (sv rfl (bs hz2 fun v2 hv2 hz2=>sd rfl (F1 rfl rfl hv2 rfl) (sd rfl (E6 rfl hv2 rfl) (sv rfl (A1 (cc rfl hz2 (fun c2 hz2=> ?_) (fun c2 hz2=> ?_)))))))))))))))
 refine lr (fun u5 hu5=>sv rfl (A1 (B1 ?_)))
 cases hz2
 obtain rfl:=ez2 _ rfl
 refine ⟨nofun,D4 ?_⟩
 rw [Sum.elim_inr]at h
 cases h
 exact A7 (.inr rfl) (B7 (B0 rfl) F7) (.refl _)
 refine A9 (G3 (B8 fun u6 hu6=>sv rfl (sv rfl (sv rfl (A1 (G4 ?_))))))
 cases hz2
 exact ⟨rfl,(),(sbr rfl rfl)⟩
 refine C4 rfl ?_
 cases hz2
 obtain rfl:=ez2 _ rfl
 refine ⟨nofun,C1 rfl (l_j ?_)⟩
 exact ⟨_,(),rfl,(sbr rfl rfl)⟩
 rintro _ ⟨y1,g1,rfl,q1⟩
 rw [Sum.elim_inl]at h
 refine A8 q1 (lr (fun u7 hu7=>sv rfl (sd rfl (D3 rfl) (sv rfl (sd rfl (D3 rfl) (sv rfl (sv rfl (A1 (B1 ?_)))))))))
 cases h
 exact A7 (.inr rfl) (B7 (B0 rfl) F7) (.refl _)
noncomputable def A4y (p1:Map)(p2:Int):Option Int:=
  (F0 p1.Lanes p2).bind fun v1=>(A0m v1.Curve_).bind fun v2=>some v2
theorem B5a (p1:Map)(p2:Int)(r:Int)(h:A4y p1 p2=some r):PCall Tryz.prog 166 [(.agg (Y0 p1)),(i64 p2)] (i64 r):=by
 refine C6 (fk Tryz.func166 Tryz.ntmps166 m0 (by with_unfolding_all rfl)) (nl rfl) ?_
 unfold A4y at h
 refine A8 (s0:=⟨T [(0,(.d _)),(1,(.d _))],G []⟩) (sbr rfl rfl) ?_
 refine lr (fun u1 hu1=>sn rfl rfl (sv rfl (A1 (lr (fun u2 hu2=>sp rfl rfl (sl rfl G_hit rfl (sv rfl (bs h fun v1 hv1 h=>sd rfl (F1 rfl rfl hv1 rfl) (sv rfl (sd rfl (C7 rfl hv1 rfl rfl) (bs h fun v2 hv2 h=>C0 rfl rfl A2 (A61 _ _ hv2) (.inl rfl) (sv rfl (A1 (B1 ?_))))))))))))))
 cases h
 exact A7 (.inr rfl) (B7 (B0 rfl) F7) (.refl _)
noncomputable def A2r (p1:Map)(p2:Int)(p3:Int)(p4:Int)(x1:(Int×Int)):Option (Stp (Int×Int) Int):=
  cond (decide (x1.2< (p1.Works.length:Int))) ((F0 p1.Works x1.2).bind fun v4=>cond (((((v4.Lane_==p2)&& (decide (p3≥v4.From)))&& (decide (p3≤v4.To)))&& (decide (p4≥v4.Begin)))&& (decide (p4<v4.End))) (some (.go ((mm2 false x1.1 v4.Limit),(w64 (x1.2+1))))) (some (.go (x1.1,(w64 (x1.2+1)))))) (some (.out x1.1))
noncomputable def A65 (p1:Map)(p2:Int)(p3:Int)(p4:Int):Option Int:=
  (A44 p1 p2).bind fun v1=>((cond (!((!v1)||(decide (p3<0)))) (A4y p1 p2) (some default))).bind fun v2=>cond (((!v1)||(decide (p3<0)))||(decide (p3>v2))) (some 0) ((F0 p1.Lanes p2).bind fun v3=>(loop (A2r p1 p2 p3 p4) (v3.Limit,0)).bind fun y1=>some y1)
theorem B6e (p1:Map)(p2:Int)(p3:Int)(p4:Int)(r:Int)(h:A65 p1 p2 p3 p4=some r):PCall Tryz.prog 57 [(.agg (Y0 p1)),(i64 p2),(i64 p3),(i64 p4)] (i64 r):=by
 refine C6 (fk Tryz.func57 Tryz.ntmps57 m0 (by with_unfolding_all rfl)) (nl rfl) ?_
 unfold A65 at h
 refine A8 (s0:=⟨T [(0,(.d _)),(1,(.d _)),(2,(.d _)),(3,(.d _))],G []⟩) (sbr rfl rfl) ?_
 refine lr (fun u1 hu1=>sn rfl rfl (sv rfl (A1 (A5 (lr (fun u2 hu2=>sd rfl (B6 rfl G_hit rfl rfl) (sv rfl (bs h fun v1 hv1 h=>C0 rfl rfl A2 (A7x _ _ _ hv1) (.inl rfl) (F6 (.d (bo (!v1))) rfl rfl (sv rfl (gf rfl (fun _=>rfl) (gf rfl (vb rfl rfl rfl) (sd rfl (A3g rfl rfl (fun hc=>A4 (Q3 hc))) (sv rfl (gf rfl (fun _=>rfl) (gf rfl (fun w4=>(B6 rfl G_hit rfl rfl)) (gf rfl (fun _=>rfl) (bs h fun v2 hv2 h=> ?_))))))))))))))))))
 refine L7 _ (i64 v2) (X8 rfl) (fun w6=>⟨_,[(.d (.agg (Y0 p1))),(di p2)],_,_,(by simp only [A4 w6];rfl),rfl,A2,B5a _ _ _ (C8 w6 hv2),(.inl rfl)⟩) ?_
 refine gf rfl (fun w7=>(A0a (A4 w7) (A4 w7) rfl)) (sd rfl (A3g rfl rfl (fun hc=>A4 (Q3 hc))) (A1 (cc rfl h (fun c1 h=> ?_) (fun c1 h=> ?_))))
 refine lr (fun u3 hu3=>sv rfl (A1 (B1 ?_)))
 cases h
 exact A7 (.inr rfl) (B7 (B0 rfl) F7) (.refl _)
 refine A9 (lr (fun u4 hu4=>sp rfl rfl (sl rfl G_hit rfl (sv rfl (bs h fun v3 hv3 h=>sd rfl (F1 rfl rfl hv3 rfl) (sv rfl (sd rfl (E6 rfl hv3 rfl) (sv rfl (A1 (A5 (A5 (A8 (s0:=⟨T [(1,(.d _)),(2,(.d _)),(3,(.d _)),(4,(.ptr _ _)),(9,(.d _))],G [((4,u1),some (.box 27 _))]⟩) (sbr rfl rfl) ?_))))))))))))
 refine B8 fun u5 hu5=>sv rfl (A1 (bs h fun y1 hy1 h=>E1 (fun s=> ∃g1:Unit,Sb ⟨T [(9,(di y1))],G []⟩ s) ?_ ?_))
 refine A6 (E4 (A2r p1 p2 p3 p4) (fun (x1:(Int×Int)) (g2:Unit)=>⟨T [(1,(di p2)),(2,(di p3)),(3,(di p4)),(4,(.ptr (4,u1) 0)),(9,(di x1.1)),(10,(di x1.2))],G [((4,u1),some (.box 27 (X2 p1)))]⟩) (v3.Limit,0) () _ hy1 (sbr rfl rfl) ?_)
 intro x1 g2 z1 hz1 ez1
 unfold A2r at hz1
 refine A5 (lr (fun u6 hu6=>sv rfl (sp rfl rfl (sl rfl G_hit rfl (sd rfl (D3 rfl) (sv rfl (A1 (cc rfl hz1 (fun c2 hz1=> ?_) (fun c2 hz1=> ?_)))))))))
 refine A9 (A5 (A6 (lr (fun u7 hu7=>sp rfl rfl (sl rfl G_hit rfl (sv rfl (bs hz1 fun v4 hv4 hz1=>sd rfl (F1 rfl rfl hv4 rfl) (sd rfl (C7 rfl hv4 rfl rfl) (sn rfl rfl (sst rfl G_hit (D0g v4) rfl (A1 (lr (fun u8 hu8=>sp rfl rfl (sl rfl G_hit rfl (sv rfl (sv rfl (sv rfl (gt rfl (fun _=>rfl) (gp rfl (A0k rfl) (fun _=>rfl) (gt rfl (vl rfl G_hit rfl) (gt rfl (fun w11=>(A0a (A4 w11) (A4 w11) rfl)) (sa rfl rfl rfl (sv rfl (gt rfl (fun _=>rfl) (gp rfl (A0k rfl) (fun _=>rfl) (gt rfl (vl rfl G_hit rfl) (gt rfl (fun w15=>(A0a (A4 w15) (A4 w15) rfl)) (sa rfl rfl rfl (sv rfl (gt rfl (fun _=>rfl) (gp rfl (A0k rfl) (fun _=>rfl) (gt rfl (vl rfl G_hit rfl) (gt rfl (fun w19=>(A0a (A4 w19) (A4 w19) rfl)) (sa rfl rfl rfl (sv rfl (gt rfl (fun _=>rfl) (gp rfl (A0k rfl) (fun _=>rfl) (gt rfl (vl rfl G_hit rfl) (gt rfl (fun w23=>(A0a (A4 w23) (A4 w23) rfl)) (sa rfl rfl rfl (A1 (cc rfl hz1 (fun c3 hz1=> ?_) (fun c3 hz1=> ?_)))))))))))))))))))))))))))))))))))))))))))
 refine A8 (s0:=⟨T [(1,(.d _)),(2,(.d _)),(3,(.d _)),(4,(.ptr _ _)),(9,(.d _)),(10,(.d _)),(11,(.ptr _ _))],G [((4,u1),some (.box 27 _)),((11,u7),some (.box 50 _))]⟩) (sbr rfl rfl) ?_
 refine B8 fun u9 hu9=>sv rfl (sp rfl rfl (sl rfl (gq rfl) rfl (sv rfl (sv rfl (A1 (G3 (B8 fun u10 hu10=>sv rfl (sv rfl (sv rfl (A1 (G4 ?_)))))))))))
 cases hz1
 exact ⟨rfl,(),(sbr rfl rfl)⟩
 refine A9 (G3 (A8 (s0:=⟨T [(1,(.d _)),(2,(.d _)),(3,(.d _)),(4,(.ptr _ _)),(9,(.d _)),(10,(.d _))],G [((4,u1),some (.box 27 _))]⟩) (sbr rfl rfl) ?_))
 refine B8 fun u11 hu11=>sv rfl (sv rfl (sv rfl (A1 (G4 ?_))))
 cases hz1
 exact ⟨rfl,(),(sbr rfl rfl)⟩
 refine C4 rfl ?_
 cases hz1
 obtain rfl:=ez1 _ rfl
 refine ⟨nofun,C1 rfl (l_j ?_)⟩
 exact ⟨(),(sbr rfl rfl)⟩
 rintro _ ⟨g1,q1⟩
 refine A8 q1 (lr (fun u12 hu12=>sv rfl (sv rfl (A1 (B1 ?_)))))
 cases h
 exact A7 (.inr rfl) (B7 (B0 rfl) F7) (.refl _)
noncomputable def A1e (p1:Map)(p2:Int)(p3:Int)(p4:Int)(p5:Int):Option Bool:=
  (A8z p1).bind fun v1=>cond (!v1) ((A1s).bind fun v2=>some v2) ((A5z p1 p2 p3 p5).bind fun v3=>(A63 p1 p2 p3 p5).bind fun v4=>((cond (v3==v4) (A7f p1 p3 p5) (some default))).bind fun v5=>((cond (v3==v4) (A99 p1 p3 p5) (some default))).bind fun v6=>((cond (v3==v4) (A3n v5 v6) (some default))).bind fun v7=>((cond ((v3==v4)&&v7) (A1r p1 p3 p4 p5) (some default))).bind fun v8=>((cond ((v3==v4)&&v7) (A65 p1 p3 p4 p5) (some default))).bind fun v9=>((cond (((v3==v4)&&v7)&& (v8==v9)) (A1s) (some default))).bind fun v10=>some ((((v3==v4)&&v7)&& (v8==v9))&&v10))
theorem A9a (p1:Map)(p2:Int)(p3:Int)(p4:Int)(p5:Int)(r:Bool)(h:A1e p1 p2 p3 p4 p5=some r):PCall Tryz.prog 11 [(.agg (Y0 p1)),(i64 p2),(i64 p3),(i64 p4),(i64 p5)] (bo r):=by
 refine C6 (fk Tryz.func11 Tryz.ntmps11 m0 (by with_unfolding_all rfl)) (nl rfl) ?_
 unfold A1e at h
 refine A8 (s0:=⟨T [(0,(.d _)),(1,(.d _)),(2,(.d _)),(3,(.d _)),(4,(.d _))],G []⟩) (sbr rfl rfl) ?_
 refine lr (fun u1 hu1=>sn rfl rfl (sv rfl (A1 (A5 (lr (fun u2 hu2=>sd rfl (B6 rfl G_hit rfl rfl) (bs h fun v1 hv1 h=>C0 rfl rfl A2 (B9m _ _ hv1) (.inl rfl) (F6 (.d (bo (!v1))) rfl rfl (A1 (cc rfl h (fun c1 h=> ?_) (fun c1 h=> ?_)))))))))))
 refine lr (fun u3 hu3=>bs h fun v2 hv2 h=>C0 rfl rfl A2 (B0h _ hv2) (.inl rfl) (sv rfl (A1 (B1 ?_))))
 cases h
 exact A7 (.inr rfl) (B7 (B0 rfl) F7) (.refl _)
 refine A9 (A5 (R6 rfl fun u4 hu4=>sd rfl (B6 rfl G_hit rfl rfl) (sv rfl (sv rfl (sv rfl (bs h fun v3 hv3 h=>C0 rfl rfl A2 (B69 _ _ _ _ _ hv3) (.inl rfl) (sd rfl (B6 rfl G_hit rfl rfl) (sv rfl (sv rfl (sv rfl (bs h fun v4 hv4 h=>C0 rfl rfl A2 (B6c _ _ _ _ _ hv4) (.inl rfl) (F6 (.d (bo (v3==v4))) rfl rfl (sv rfl (gt rfl (fun w1=>(B6 rfl G_hit rfl rfl)) (gt rfl (fun _=>rfl) (gt rfl (fun _=>rfl) (bs h fun v5 hv5 h=> ?_)))))))))))))))))
 refine L7 _ (.list (List.map A3 v5)) (A0k rfl) (fun w4=>⟨_,[(.d (.agg (Y0 p1))),(di p3),(di p5)],_,_,(by simp only [A4 w4];rfl),rfl,A2,B9s _ _ _ _ (C8 w4 hv5),(.inl rfl)⟩) ?_
 refine gt rfl (fun w5=>(B6 rfl G_hit rfl rfl)) (gt rfl (fun _=>rfl) (gt rfl (fun _=>rfl) (bs h fun v6 hv6 h=> ?_)))
 refine L7 _ (.list (List.map A3 v6)) (A0k rfl) (fun w8=>⟨_,[(.d (.agg (Y0 p1))),(di p3),(di p5)],_,_,(by simp only [A4 w8];rfl),rfl,A2,B9t _ _ _ _ (C8 w8 hv6),(.inl rfl)⟩) ?_
 refine bs h fun v7 hv7 h=> ?_
 refine L7 _ (bo v7) (A0k rfl) (fun w9=>⟨_,[(dl A3 v5),(dl A3 v6)],_,_,(by simp only [A4 w9];rfl),rfl,A2,B3k _ _ _ (C8 w9 hv7),(.inl rfl)⟩) ?_
 refine sa rfl rfl rfl (sv rfl (gt rfl (fun w10=>(B6 rfl G_hit rfl rfl)) (gt rfl (fun _=>rfl) (gt rfl (fun _=>rfl) (gt rfl (fun _=>rfl) (bs h fun v8 hv8 h=> ?_))))))
 refine L7 _ (i64 v8) (A0k rfl) (fun w14=>⟨_,[(.d (.agg (Y0 p1))),(di p3),(di p4),(di p5)],_,_,(by simp only [A4 w14];rfl),rfl,A2,B0g _ _ _ _ _ (C8 w14 hv8),(.inl rfl)⟩) ?_
 refine gt rfl (fun w15=>(B6 rfl G_hit rfl rfl)) (gt rfl (fun _=>rfl) (gt rfl (fun _=>rfl) (gt rfl (fun _=>rfl) (bs h fun v9 hv9 h=> ?_))))
 refine L7 _ (i64 v9) (A0k rfl) (fun w19=>⟨_,[(.d (.agg (Y0 p1))),(di p3),(di p4),(di p5)],_,_,(by simp only [A4 w19];rfl),rfl,A2,B6e _ _ _ _ _ (C8 w19 hv9),(.inl rfl)⟩) ?_
 refine gt rfl (fun w20=>(A0a (A4 w20) (A4 w20) rfl)) (sa rfl rfl rfl (sv rfl (bs h fun v10 hv10 h=>L7 _ (bo v10) (A0k rfl) (fun w21=>⟨_,_,_,_,rfl,rfl,A2,B0h _ (C8 w21 hv10),(.inl rfl)⟩) (sa rfl rfl rfl (sv rfl (A1 (B1 ?_)))))))
 cases h
 exact A7 (.inr rfl) (B7 (B0 rfl) F7) (.refl _)
end Go.Abs.Roadsz
