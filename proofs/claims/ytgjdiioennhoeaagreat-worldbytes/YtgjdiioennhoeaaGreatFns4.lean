/-
  The functions, part 4.
-/
import Derived.Test.YtgjdiioennhoeaaGreatFns3
set_option maxRecDepth 20000
set_option maxHeartbeats 4000000
set_option linter.unusedVariables false
namespace Go.Abs.World
noncomputable section
open Go Go.Abs Go.Proofs Tryz
attribute [local irreducible] K1 Di Z9
def Lm (v21:Int)(x15:((List Int)×Int)):Option (Stp ((List Int)×Int) (List Int)):=
  cond (decide (x15.2≥0)) ((Yk .u64 (IntKind.wrap .u64 v21) (IntKind.wrap .u64 x15.2)).bind fun v22=>(Y4 x15.1 [(IntKind.wrap .u8 v22)]).bind fun v23=>some (.go (v23,(J6 (x15.2 - 8))))) (some (.out x15.1))
def Ln [Lp](v20:Stay)(x14:((List Int)×Int)):Option (Stp ((List Int)×Int) (List Int)):=
  cond (decide (x14.2< ([v20.Agent_,v20.Zone_,v20.Since,v20.Rank].length:Int))) ((F2 [v20.Agent_,v20.Zone_,v20.Since,v20.Rank] x14.2).bind fun v21=>(loop (Lm v21) (x14.1,56)).bind fun y21=>some (.go (y21,(J6 (x14.2+1))))) (some (.out x14.1))
def Lq [Lp](x13:((List Int)×Int))(v20:Stay):Option (List Int):=
  (loop (Ln v20) (x13.1,0)).bind fun y20=>some y20
def Z8 [Lp](p1:State)(x13:((List Int)×Int)):Option (Stp ((List Int)×Int) (List Int)):=
  cond (decide (x13.2< (p1.In.length:Int))) ((F2 p1.In x13.2).bind fun v20=>(Lq x13 v20).bind fun y19=>some (.go (y19,(J6 (x13.2+1))))) (some (.out x13.1))
def Lr (v17:Int)(x12:((List Int)×Int)):Option (Stp ((List Int)×Int) (List Int)):=
  cond (decide (x12.2≥0)) ((Yk .u64 (IntKind.wrap .u64 v17) (IntKind.wrap .u64 x12.2)).bind fun v18=>(Y4 x12.1 [(IntKind.wrap .u8 v18)]).bind fun v19=>some (.go (v19,(J6 (x12.2 - 8))))) (some (.out x12.1))
def Ls [Lp](p1:State)(x11:((List Int)×Int)):Option (Stp ((List Int)×Int) (List Int)):=
  cond (decide (x11.2< ([(p1.In.length:Int)].length:Int))) ((F2 [(p1.In.length:Int)] x11.2).bind fun v17=>(loop (Lr v17) (x11.1,56)).bind fun y17=>some (.go (y17,(J6 (x11.2+1))))) (some (.out x11.1))
def Lu [Lp](p1:State)(y4:(List Int)):Option (List Int):=
  (loop (Ls p1) (y4,0)).bind fun y16=>some y16
def Lv (v14:Int)(x10:((List Int)×Int)):Option (Stp ((List Int)×Int) (List Int)):=
  cond (decide (x10.2≥0)) ((Yk .u64 (IntKind.wrap .u64 v14) (IntKind.wrap .u64 x10.2)).bind fun v15=>(Y4 x10.1 [(IntKind.wrap .u8 v15)]).bind fun v16=>some (.go (v16,(J6 (x10.2 - 8))))) (some (.out x10.1))
def Lw [Lp](v4:Agent)(v12:Int)(v13:Int)(x9:((List Int)×Int)):Option (Stp ((List Int)×Int) (List Int)):=
  cond (decide (x9.2< ([v4.S,v4.V,v4.Len,v4.Begin,v12,v13].length:Int))) ((F2 [v4.S,v4.V,v4.Len,v4.Begin,v12,v13] x9.2).bind fun v14=>(loop (Lv v14) (x9.1,56)).bind fun y14=>some (.go (y14,(J6 (x9.2+1))))) (some (.out x9.1))
def Lx [Lp](v4:Agent)(y8:(List Int))(v12:Int)(v13:Int):Option (List Int):=
  (loop (Lw v4 v12 v13) (y8,0)).bind fun y13=>some y13
def Ly (v9:Int)(x8:((List Int)×Int)):Option (Stp ((List Int)×Int) (List Int)):=
  cond (decide (x8.2≥0)) ((Yk .u64 (IntKind.wrap .u64 v9) (IntKind.wrap .u64 x8.2)).bind fun v10=>(Y4 x8.1 [(IntKind.wrap .u8 v10)]).bind fun v11=>some (.go (v11,(J6 (x8.2 - 8))))) (some (.out x8.1))
def Lz [Lp](v8:Int)(x7:((List Int)×Int)):Option (Stp ((List Int)×Int) (List Int)):=
  cond (decide (x7.2< ([v8].length:Int))) ((F2 [v8] x7.2).bind fun v9=>(loop (Ly v9) (x7.1,56)).bind fun y11=>some (.go (y11,(J6 (x7.2+1))))) (some (.out x7.1))
def Ns [Lp](x6:((List Int)×Int))(v8:Int):Option (List Int):=
  (loop (Lz v8) (x6.1,0)).bind fun y10=>some y10
def Au [Lp](v4:Agent)(x6:((List Int)×Int)):Option (Stp ((List Int)×Int) (List Int)):=
  cond (decide (x6.2< (v4.Route.length:Int))) ((F2 v4.Route x6.2).bind fun v8=>(Ns x6 v8).bind fun y9=>some (.go (y9,(J6 (x6.2+1))))) (some (.out x6.1))
def Nt (v5:Int)(x5:((List Int)×Int)):Option (Stp ((List Int)×Int) (List Int)):=
  cond (decide (x5.2≥0)) ((Yk .u64 (IntKind.wrap .u64 v5) (IntKind.wrap .u64 x5.2)).bind fun v6=>(Y4 x5.1 [(IntKind.wrap .u8 v6)]).bind fun v7=>some (.go (v7,(J6 (x5.2 - 8))))) (some (.out x5.1))
def Nu [Lp](v4:Agent)(x4:((List Int)×Int)):Option (Stp ((List Int)×Int) (List Int)):=
  cond (decide (x4.2< ([(v4.Route.length:Int)].length:Int))) ((F2 [(v4.Route.length:Int)] x4.2).bind fun v5=>(loop (Nt v5) (x4.1,56)).bind fun y7=>some (.go (y7,(J6 (x4.2+1))))) (some (.out x4.1))
def Nv [Lp](x3:((List Int)×Int))(v4:Agent):Option (List Int):=
  (loop (Nu v4) (x3.1,0)).bind fun y6=>some y6
def Av [Lp](p1:State)(x3:((List Int)×Int)):Option (Stp ((List Int)×Int) (List Int)):=
  cond (decide (x3.2< (p1.Agents.length:Int))) ((F2 p1.Agents x3.2).bind fun v4=>(Nv x3 v4).bind fun y5=>(loop (Au v4) (y5,0)).bind fun y8=>(Px v4.Obey).bind fun v12=>(Px v4.Gone).bind fun v13=>(Lx v4 y8 v12 v13).bind fun y12=>some (.go (y12,(J6 (x3.2+1))))) (some (.out x3.1))
def Nw (v1:Int)(x2:((List Int)×Int)):Option (Stp ((List Int)×Int) (List Int)):=
  cond (decide (x2.2≥0)) ((Yk .u64 (IntKind.wrap .u64 v1) (IntKind.wrap .u64 x2.2)).bind fun v2=>(Y4 x2.1 [(IntKind.wrap .u8 v2)]).bind fun v3=>some (.go (v3,(J6 (x2.2 - 8))))) (some (.out x2.1))
def Nx [Lp](p1:State)(x1:((List Int)×Int)):Option (Stp ((List Int)×Int) (List Int)):=
  cond (decide (x1.2< ([p1.Tick,(p1.Agents.length:Int)].length:Int))) ((F2 [p1.Tick,(p1.Agents.length:Int)] x1.2).bind fun v1=>(loop (Nw v1) (x1.1,56)).bind fun y3=>some (.go (y3,(J6 (x1.2+1))))) (some (.out x1.1))
def Ny [Lp](p1:State):Option (List Int):=
  (loop (Nx p1) ([107,98,119,49],0)).bind fun y2=>some y2
def Kt [Lp](p1:State):Option ByteArray:=
  (Ny p1).bind fun y1=>(loop (Av p1) (y1,0)).bind fun y4=>(Lu p1 y4).bind fun y15=>(loop (Z8 p1) (y15,0)).bind fun y18=>some (K9 y18)
theorem BE(p1 r)(h:Kt p1=some r):PCall prog 53 [(.agg (N9 p1))] (Al r):=by
 refine C7 (fk func53 ntmps53 (fun r=>if r==1 then [8,1001,1007]else if r==5 then [5,1004]else if r==9 then [3,1002]else if r==11 then [16,1015]else if r==13 then [5,1004]else if r==17 then [10,1009]else []) (by with_unfolding_all rfl)) (nl W) ?_
 unfold Kt at h
 refine B6 (s0:=⟨T [(0,(.d _))],G []⟩) (G0 W W) ?_
 refine lr<|fun u1 _=>sm W<|sv W<|A1<|lr<|fun u2 _=>DF (.sl _) (.arr 5 1 (List.map H4 ([107,98,119,49]:List Int))) W W (C2 (.sl _) W (WJ W A2<|List.cons_ne_nil _ _) (sq W<|sl W (gq W) W (sq W<|sl W (gq W) W (sd W (E3 W)<|C2 (dl A4 [p1.Tick,(p1.Agents.length:Int)]) W W (bs h fun y1 hy1 h=>Jo (fk func115 ntmps115 (fun r=>if r==7 then [1007]else []) (by with_unfolding_all rfl)) (fun (g1:({d:Nat // d∈ [10,26]}×Nat))=> [(1,(.ptr (1,u1) 0)),(18,(oS y1 (g1.1.val,g1.2)))]) (fun (g1:({d:Nat // d∈ [10,26]}×Nat))=> [((1,u1),some<|.box 25 (E1 p1)),((g1.1.val,g1.2),oB 5 1 H4 y1)]) W (nl W) ?_ ?_)))))
 unfold Ny at hy1
 refine B6 (s0:=⟨T [(0,(.sl _)),(1,(.d _))],G [((10,u2),some _),((1,u1),some<|.box 25 _)]⟩) (G0 W W) ?_
 refine B3<|sv W<|A1<|A6<|B3<|C2 (dl A4 [p1.Tick,(p1.Agents.length:Int)]) W W (sd W (E3 W)<|sv W<|A1<|bs hy1 fun y2 hy2 hy1=>D3 (fun s=> ∃g2:({d:Nat // d∈ [10,26]}×Nat),Sb ⟨T [(0,(oS y2 (g2.1.val,g2.2)))],G [((1,u1),some<|.box 25 (E1 p1)),((g2.1.val,g2.2),oB 5 1 H4 y2)]⟩ s) ?_ ?_)
 refine A7<|D7 (Nx p1) (fun (x1:((List Int)×Int)) (g3:({d:Nat // d∈ [10,26]}×Nat))=>⟨T [(0,(oS x1.1 (g3.1.val,g3.2))),(8,(dl A4 [p1.Tick,(p1.Agents.length:Int)])),(9,(di ([p1.Tick,(p1.Agents.length:Int)].length:Int))),(10,(di x1.2))],G [((1,u1),some<|.box 25 (E1 p1)),((g3.1.val,g3.2),oB 5 1 H4 x1.1)]⟩) ([107,98,119,49],0) (⟨10, .head _⟩,u2) _ hy2 (D0 ⟨(.of (Ap<|List.cons_ne_nil _ _).symm), .of W, .of W, .of W,trivial⟩<|sg W<|U5 A2 trivial) ?_
 intro x1 g3 z1 hz1 ez1
 unfold Nx at hz1
 refine B3<|sv W<|A1<|A6<|cc W hz1 (fun c1 hz1=> ?_)<|fun c1 hz1=> ?_
 refine B0<|A6<|A7<|B3<|bs hz1 fun v1 hv1 hz1=>sd W (E7 W W hv1 W)<|sd W (H8 W hv1 W)<|sv W<|A1<|B3<|sv W<|A1<|bs hz1 fun y3 hy3 hz1=>D3 (fun s=> ∃g4:({d:Nat // d∈ [10,26]}×Nat),Sb ⟨T [(0,(oS y3 (g4.1.val,g4.2))),(8,(dl A4 [p1.Tick,(p1.Agents.length:Int)])),(9,(di ([p1.Tick,(p1.Agents.length:Int)].length:Int))),(10,(di x1.2))],G [((1,u1),some<|.box 25 (E1 p1)),((g4.1.val,g4.2),oB 5 1 H4 y3)]⟩ s) ?_ ?_
 refine A7<|D7 (Nw v1) (fun (x2:((List Int)×Int)) (g5:({d:Nat // d∈ [10,26]}×Nat))=>⟨T [(0,(oS x2.1 (g5.1.val,g5.2))),(6,(di v1)),(7,(di x2.2)),(8,(dl A4 [p1.Tick,(p1.Agents.length:Int)])),(9,(di ([p1.Tick,(p1.Agents.length:Int)].length:Int))),(10,(di x1.2))],G [((1,u1),some<|.box 25 (E1 p1)),((g5.1.val,g5.2),oB 5 1 H4 x2.1)]⟩) (x1.1,56) (g3.1,g3.2) _ hy3 (D0 (S5 W)<|A8 A2 (.of W)<|B4 (B5 (Mn g3.1.property W) A2) trivial) ?_
 intro x2 g5 z2 hz2 ez2
 unfold Nw at hz2
 refine A6<|lr<|fun u8 _=>sv W<|sv W<|A1<|cc W hz2 (fun c2 hz2=> ?_)<|fun c2 hz2=> ?_
 refine B0<|A6<|A7<|Ag fun u9 _=>C2 (oS x2.1 (g5.1.val,g5.2)) W W (sv W<|sv W<|sv W<|sv W<|bs hz2 fun v2 hv2 hz2=>sd W (AS W W hv2)<|sv W<|C2 (dl H4 [(IntKind.wrap .u8 v2)]) W W (bs hz2 fun _ hv3 hz2=>P1 H4 (g5.1.val,g5.2) x2.1 (IntKind.wrap .u8 v2) [] _ (J9<|fun _=>W) W (B5 (Mn g5.1.property W) A2) hv3 (ss W<|A1<|E5<|C3<|sv W<|sv W<|sv W<|A1<|E0 ?_)))
 cases hz2
 exact ⟨W,(⟨26, .tail _ (.head _)⟩,u9),(D0 ⟨(.of (Ap<|S7 hv3).symm), .of W, .of W, .of W, .of W, .of W,trivial⟩<|A8 (B5 W<|B5 (Rc g5.1.property W) A2) (.of W) (U5 A2 trivial))⟩
 refine D1 W ?_
 cases hz2
 obtain rfl:=ez2 _ rfl
 refine ⟨nofun,C5 W<|U6 ?_⟩
 exact ⟨(g5.1,g5.2),(D0 (S5 W)<|A8 A2 (.of W)<|B4 (B5 (Mn g5.1.property W) A2) trivial)⟩
 rintro _ ⟨g4,q1⟩
 refine E5<|B6 q1<|C3<|sv W<|sv W<|A1<|E0 ?_
 cases hz1
 exact ⟨W,(g4.1,g4.2),(D0 (S5 W)<|A8 A2 (.of W)<|B4 (B5 (Mn g4.1.property W) A2) trivial)⟩
 refine D1 W ?_
 cases hz1
 obtain rfl:=ez1 _ rfl
 refine ⟨nofun,C5 W<|U6 ?_⟩
 exact ⟨(g3.1,g3.2),(D0 ⟨.of W,trivial⟩<|A8 A2 (.of W)<|B4 (B5 (Mn g3.1.property W) A2) trivial)⟩
 rintro _ ⟨g2,q2⟩
 refine B6 q2<|B3<|C2 (oS y2 (g2.1.val,g2.2)) W W (C2 (oS y2 (g2.1.val,g2.2)) W W (A1<|B7 ?_))
 obtain rfl:=(lC hy1)
 exact Mk (.inr W) (Ub<|B8 W) (g2.1,g2.2) (S5 W) (A8 A2 (.of W)<|B4 (B5 (Mn g2.1.property W) A2) trivial)
 intro g1
 intro u13 hu13
 refine C2 (oS y1 (g1.1.val,g1.2)) W W (A1<|A6<|B3<|sq W<|sl W A2 W<|sd W (E3 W)<|sv W<|A1<|bs h fun y4 hy4 h=>D3 (fun s=> ∃g6:({d:Nat // d∈ [10,26]}×Nat),Sb ⟨T [(1,(.ptr (1,u1) 0)),(3,(oS y4 (g6.1.val,g6.2)))],G [((1,u1),some<|.box 25 (E1 p1)),((g6.1.val,g6.2),oB 5 1 H4 y4)]⟩ s) ?_ ?_)
 refine A7<|D7 (Av p1) (fun (x3:((List Int)×Int)) (g7:({d:Nat // d∈ [10,26]}×Nat))=>⟨T [(1,(.ptr (1,u1) 0)),(3,(oS x3.1 (g7.1.val,g7.2))),(20,(dl C4 p1.Agents)),(21,(di (p1.Agents.length:Int))),(22,(di x3.2))],G [((1,u1),some<|.box 25 (E1 p1)),((g7.1.val,g7.2),oB 5 1 H4 x3.1)]⟩) (y1,0) (g1.1,g1.2) _ hy4 (D0 (S5 W)<|A8 A2 (.of W)<|B4 (B5 (Mn g1.1.property W) A2) trivial) ?_
 intro x3 g7 z3 hz3 ez3
 unfold Av at hz3
 refine B3<|sv W<|A1<|A6<|cc W hz3 (fun c3 hz3=> ?_)<|fun c3 hz3=> ?_
 refine B0<|A6<|A7<|lr<|fun u16 _=>bs hz3 fun v4 hv4 hz3=>sd W (E7 W W hv4 W)<|sd W (E6 W hv4 W W)<|sm W<|T6 W A2 (M5 v4) W (A1<|B3<|C2 (oS x3.1 (g7.1.val,g7.2)) W W (sq W<|sl W A2 W<|sd W (E3 W)<|C2 (dl A4 [(v4.Route.length:Int)]) W W (bs hz3 fun y5 hy5 hz3=>Jo (fk func115 ntmps115 (fun r=>if r==7 then [1007]else []) (by with_unfolding_all rfl)) (fun (g8:({d:Nat // d∈ [10,26]}×Nat))=> [(1,(.ptr (1,u1) 0)),(5,(.ptr (5,u16) 0)),(20,(dl C4 p1.Agents)),(21,(di (p1.Agents.length:Int))),(22,(di x3.2)),(31,(oS y5 (g8.1.val,g8.2)))]) (fun (g8:({d:Nat // d∈ [10,26]}×Nat))=> [((1,u1),some<|.box 25 (E1 p1)),((5,u16),some<|.box 45 (M5 v4)),((g8.1.val,g8.2),oB 5 1 H4 y5)]) W (nl W) ?_ ?_)))
 unfold Nv at hy5
 refine B6 (s0:=⟨T [(0,(oS x3.1 (g7.1.val,g7.2))),(1,(dl A4 [(v4.Route.length:Int)]))],G [((g7.1.val,g7.2),oB 5 1 H4 x3.1),((1,u1),some<|.box 25 (E1 p1)),((5,u16),some<|.box 45 (M5 v4))]⟩) (D0 (S5 W)<|B4 (Oi g7.1.property 3 W A2)<|sg W<|A8 A2 (.of W) trivial) ?_
 refine B3<|sv W<|A1<|A6<|B3<|C2 (dl A4 [(v4.Route.length:Int)]) W W (sd W (E3 W)<|sv W<|A1<|bs hy5 fun y6 hy6 hy5=>D3 (fun s=> ∃g9:({d:Nat // d∈ [10,26]}×Nat),Sb ⟨T [(0,(oS y6 (g9.1.val,g9.2)))],G [((1,u1),some<|.box 25 (E1 p1)),((5,u16),some<|.box 45 (M5 v4)),((g9.1.val,g9.2),oB 5 1 H4 y6)]⟩ s) ?_ ?_)
 refine A7<|D7 (Nu v4) (fun (x4:((List Int)×Int)) (g10:({d:Nat // d∈ [10,26]}×Nat))=>⟨T [(0,(oS x4.1 (g10.1.val,g10.2))),(8,(dl A4 [(v4.Route.length:Int)])),(9,(di ([(v4.Route.length:Int)].length:Int))),(10,(di x4.2))],G [((1,u1),some<|.box 25 (E1 p1)),((5,u16),some<|.box 45 (M5 v4)),((g10.1.val,g10.2),oB 5 1 H4 x4.1)]⟩) (x3.1,0) (g7.1,g7.2) _ hy6 (D0 (S5 W)<|A8 (B5 (Rc g7.1.property W) A2) (.of W) (A8 (B5 (Rc g7.1.property W)<|gq W) (.of W) (B4 A2 trivial))) ?_
 intro x4 g10 z4 hz4 ez4
 unfold Nu at hz4
 refine B3<|sv W<|A1<|A6<|cc W hz4 (fun c4 hz4=> ?_)<|fun c4 hz4=> ?_
 refine B0<|A6<|A7<|B3<|bs hz4 fun v5 hv5 hz4=>sd W (E7 W W hv5 W)<|sd W (H8 W hv5 W)<|sv W<|A1<|B3<|sv W<|A1<|bs hz4 fun y7 hy7 hz4=>D3 (fun s=> ∃g11:({d:Nat // d∈ [10,26]}×Nat),Sb ⟨T [(0,(oS y7 (g11.1.val,g11.2))),(8,(dl A4 [(v4.Route.length:Int)])),(9,(di ([(v4.Route.length:Int)].length:Int))),(10,(di x4.2))],G [((1,u1),some<|.box 25 (E1 p1)),((5,u16),some<|.box 45 (M5 v4)),((g11.1.val,g11.2),oB 5 1 H4 y7)]⟩ s) ?_ ?_
 refine A7<|D7 (Nt v5) (fun (x5:((List Int)×Int)) (g12:({d:Nat // d∈ [10,26]}×Nat))=>⟨T [(0,(oS x5.1 (g12.1.val,g12.2))),(6,(di v5)),(7,(di x5.2)),(8,(dl A4 [(v4.Route.length:Int)])),(9,(di ([(v4.Route.length:Int)].length:Int))),(10,(di x4.2))],G [((1,u1),some<|.box 25 (E1 p1)),((5,u16),some<|.box 45 (M5 v4)),((g12.1.val,g12.2),oB 5 1 H4 x5.1)]⟩) (x4.1,56) (g10.1,g10.2) _ hy7 (D0 (S5 W)<|A8 A2 (.of W)<|sg W<|B4 (Oi g10.1.property 2 W A2) trivial) ?_
 intro x5 g12 z5 hz5 ez5
 unfold Nt at hz5
 refine A6<|B3<|sv W<|sv W<|A1<|cc W hz5 (fun c5 hz5=> ?_)<|fun c5 hz5=> ?_
 refine B0<|A6<|A7<|Ag fun u24 _=>C2 (oS x5.1 (g12.1.val,g12.2)) W W (sv W<|sv W<|sv W<|sv W<|bs hz5 fun v6 hv6 hz5=>sd W (AS W W hv6)<|sv W<|C2 (dl H4 [(IntKind.wrap .u8 v6)]) W W (bs hz5 fun _ hv7 hz5=>P1 H4 (g12.1.val,g12.2) x5.1 (IntKind.wrap .u8 v6) [] _ (J9<|fun _=>W) W (B5 (Mn g12.1.property W)<|B5 (Mn g12.1.property W) A2) hv7 (ss W<|A1<|E5<|C3<|sv W<|sv W<|sv W<|A1<|E0 ?_)))
 cases hz5
 exact ⟨W,(⟨26, .tail _ (.head _)⟩,u24),(D0 ⟨(.of (Ap<|S7 hv7).symm), .of W, .of W, .of W, .of W, .of W,trivial⟩<|A8 (B5 W<|B5 (Rc g12.1.property W) A2) (.of W) (A8 (B5 W<|B5 (Rc g12.1.property W)<|gq W) (.of W) (U5 A2 trivial)))⟩
 refine D1 W ?_
 cases hz5
 obtain rfl:=ez5 _ rfl
 refine ⟨nofun,C5 W<|U6 ?_⟩
 exact ⟨(g12.1,g12.2),(D0 (S5 W)<|A8 A2 (.of W)<|sg W<|B4 (Oi g12.1.property 2 W A2) trivial)⟩
 rintro _ ⟨g11,q3⟩
 refine E5<|B6 q3<|C3<|sv W<|sv W<|A1<|E0 ?_
 cases hz4
 exact ⟨W,(g11.1,g11.2),(D0 (S5 W)<|A8 A2 (.of W)<|sg W<|B4 (Oi g11.1.property 2 W A2) trivial)⟩
 refine D1 W ?_
 cases hz4
 obtain rfl:=ez4 _ rfl
 refine ⟨nofun,C5 W<|U6 ?_⟩
 exact ⟨(g10.1,g10.2),(D0 ⟨.of W,trivial⟩<|A8 A2 (.of W)<|sg W<|B4 (Oi g10.1.property 2 W A2) trivial)⟩
 rintro _ ⟨g9,q4⟩
 refine B6 q4<|B3<|C2 (oS y6 (g9.1.val,g9.2)) W W (C2 (oS y6 (g9.1.val,g9.2)) W W (A1<|B7 ?_))
 obtain rfl:=(lC hy5)
 exact Mk (.inr W) (Ub<|B8 W) (g9.1,g9.2) (S5 W) (A8 A2 (.of W)<|sg W<|B4 (Oi g9.1.property 2 W A2) trivial)
 intro g8
 intro u28 hu28
 refine C2 (oS y5 (g8.1.val,g8.2)) W W (A1<|A6<|B3<|sq W<|sl W (gq W) W (sd W (E3 W)<|sv W<|A1<|bs hz3 fun y8 hy8 hz3=>D3 (fun s=> ∃g13:({d:Nat // d∈ [10,26]}×Nat),Sb ⟨T [(1,(.ptr (1,u1) 0)),(3,(oS y8 (g13.1.val,g13.2))),(5,(.ptr (5,u16) 0)),(20,(dl C4 p1.Agents)),(21,(di (p1.Agents.length:Int))),(22,(di x3.2))],G [((1,u1),some<|.box 25 (E1 p1)),((5,u16),some<|.box 45 (M5 v4)),((g13.1.val,g13.2),oB 5 1 H4 y8)]⟩ s) ?_ ?_))
 refine A7<|D7 (Au v4) (fun (x6:((List Int)×Int)) (g14:({d:Nat // d∈ [10,26]}×Nat))=>⟨T [(1,(.ptr (1,u1) 0)),(3,(oS x6.1 (g14.1.val,g14.2))),(5,(.ptr (5,u16) 0)),(20,(dl C4 p1.Agents)),(21,(di (p1.Agents.length:Int))),(22,(di x3.2)),(33,(dl A4 v4.Route)),(34,(di (v4.Route.length:Int))),(35,(di x6.2))],G [((1,u1),some<|.box 25 (E1 p1)),((5,u16),some<|.box 45 (M5 v4)),((g14.1.val,g14.2),oB 5 1 H4 x6.1)]⟩) (y5,0) (g8.1,g8.2) _ hy8 (D0 (S5 W)<|A8 A2 (.of W)<|sg W<|B4 (Oi g8.1.property 2 W A2) trivial) ?_
 intro x6 g14 z6 hz6 ez6
 unfold Au at hz6
 refine B3<|sv W<|A1<|A6<|cc W hz6 (fun c6 hz6=> ?_)<|fun c6 hz6=> ?_
 refine B0<|A6<|A7<|B3<|bs hz6 fun v8 hv8 hz6=>sd W (E7 W W hv8 W)<|sd W (H8 W hv8 W)<|sv W<|A1<|C3<|C2 (oS x6.1 (g14.1.val,g14.2)) W W (sv W<|C2 (dl A4 [v8]) W W (bs hz6 fun y9 hy9 hz6=>Jo (fk func115 ntmps115 (fun r=>if r==7 then [1007]else []) (by with_unfolding_all rfl)) (fun (g15:({d:Nat // d∈ [10,26]}×Nat))=> [(1,(.ptr (1,u1) 0)),(5,(.ptr (5,u16) 0)),(20,(dl C4 p1.Agents)),(21,(di (p1.Agents.length:Int))),(22,(di x3.2)),(33,(dl A4 v4.Route)),(34,(di (v4.Route.length:Int))),(35,(di x6.2)),(42,(oS y9 (g15.1.val,g15.2)))]) (fun (g15:({d:Nat // d∈ [10,26]}×Nat))=> [((1,u1),some<|.box 25 (E1 p1)),((5,u16),some<|.box 45 (M5 v4)),((g15.1.val,g15.2),oB 5 1 H4 y9)]) W (nl W) ?_ ?_))
 unfold Ns at hy9
 refine B6 (s0:=⟨T [(0,(oS x6.1 (g14.1.val,g14.2))),(1,(dl A4 [v8]))],G [((g14.1.val,g14.2),oB 5 1 H4 x6.1),((1,u1),some<|.box 25 (E1 p1)),((5,u16),some<|.box 45 (M5 v4))]⟩) (D0 (S5 W)<|B4 (Oi g14.1.property 2 W A2)<|A8 A2 (.of W)<|sg W trivial) ?_
 refine B3<|sv W<|A1<|A6<|B3<|C2 (dl A4 [v8]) W W (sd W (E3 W)<|sv W<|A1<|bs hy9 fun y10 hy10 hy9=>D3 (fun s=> ∃g16:({d:Nat // d∈ [10,26]}×Nat),Sb ⟨T [(0,(oS y10 (g16.1.val,g16.2)))],G [((1,u1),some<|.box 25 (E1 p1)),((5,u16),some<|.box 45 (M5 v4)),((g16.1.val,g16.2),oB 5 1 H4 y10)]⟩ s) ?_ ?_)
 refine A7<|D7 (Lz v8) (fun (x7:((List Int)×Int)) (g17:({d:Nat // d∈ [10,26]}×Nat))=>⟨T [(0,(oS x7.1 (g17.1.val,g17.2))),(8,(dl A4 [v8])),(9,(di ([v8].length:Int))),(10,(di x7.2))],G [((1,u1),some<|.box 25 (E1 p1)),((5,u16),some<|.box 45 (M5 v4)),((g17.1.val,g17.2),oB 5 1 H4 x7.1)]⟩) (x6.1,0) (g14.1,g14.2) _ hy10 (D0 (S5 W)<|A8 (B5 (Rc g14.1.property W) A2) (.of W) (A8 (B5 (Rc g14.1.property W)<|gq W) (.of W) (B4 A2 trivial))) ?_
 intro x7 g17 z7 hz7 ez7
 unfold Lz at hz7
 refine B3<|sv W<|A1<|A6<|cc W hz7 (fun c7 hz7=> ?_)<|fun c7 hz7=> ?_
 refine B0<|A6<|A7<|B3<|bs hz7 fun v9 hv9 hz7=>sd W (E7 W W hv9 W)<|sd W (H8 W hv9 W)<|sv W<|A1<|B3<|sv W<|A1<|bs hz7 fun y11 hy11 hz7=>D3 (fun s=> ∃g18:({d:Nat // d∈ [10,26]}×Nat),Sb ⟨T [(0,(oS y11 (g18.1.val,g18.2))),(8,(dl A4 [v8])),(9,(di ([v8].length:Int))),(10,(di x7.2))],G [((1,u1),some<|.box 25 (E1 p1)),((5,u16),some<|.box 45 (M5 v4)),((g18.1.val,g18.2),oB 5 1 H4 y11)]⟩ s) ?_ ?_
 refine A7<|D7 (Ly v9) (fun (x8:((List Int)×Int)) (g19:({d:Nat // d∈ [10,26]}×Nat))=>⟨T [(0,(oS x8.1 (g19.1.val,g19.2))),(6,(di v9)),(7,(di x8.2)),(8,(dl A4 [v8])),(9,(di ([v8].length:Int))),(10,(di x7.2))],G [((1,u1),some<|.box 25 (E1 p1)),((5,u16),some<|.box 45 (M5 v4)),((g19.1.val,g19.2),oB 5 1 H4 x8.1)]⟩) (x7.1,56) (g17.1,g17.2) _ hy11 (D0 (S5 W)<|A8 A2 (.of W)<|sg W<|B4 (Oi g17.1.property 2 W A2) trivial) ?_
 intro x8 g19 z8 hz8 ez8
 unfold Ly at hz8
 refine A6<|B3<|sv W<|sv W<|A1<|cc W hz8 (fun c8 hz8=> ?_)<|fun c8 hz8=> ?_
 refine B0<|A6<|A7<|Ag fun u39 _=>C2 (oS x8.1 (g19.1.val,g19.2)) W W (sv W<|sv W<|sv W<|sv W<|bs hz8 fun v10 hv10 hz8=>sd W (AS W W hv10)<|sv W<|C2 (dl H4 [(IntKind.wrap .u8 v10)]) W W (bs hz8 fun _ hv11 hz8=>P1 H4 (g19.1.val,g19.2) x8.1 (IntKind.wrap .u8 v10) [] _ (J9<|fun _=>W) W (B5 (Mn g19.1.property W)<|B5 (Mn g19.1.property W) A2) hv11 (ss W<|A1<|E5<|C3<|sv W<|sv W<|sv W<|A1<|E0 ?_)))
 cases hz8
 exact ⟨W,(⟨26, .tail _ (.head _)⟩,u39),(D0 ⟨(.of (Ap<|S7 hv11).symm), .of W, .of W, .of W, .of W, .of W,trivial⟩<|A8 (B5 W<|B5 (Rc g19.1.property W) A2) (.of W) (A8 (B5 W<|B5 (Rc g19.1.property W)<|gq W) (.of W) (U5 A2 trivial)))⟩
 refine D1 W ?_
 cases hz8
 obtain rfl:=ez8 _ rfl
 refine ⟨nofun,C5 W<|U6 ?_⟩
 exact ⟨(g19.1,g19.2),(D0 (S5 W)<|A8 A2 (.of W)<|sg W<|B4 (Oi g19.1.property 2 W A2) trivial)⟩
 rintro _ ⟨g18,q5⟩
 refine E5<|B6 q5<|C3<|sv W<|sv W<|A1<|E0 ?_
 cases hz7
 exact ⟨W,(g18.1,g18.2),(D0 (S5 W)<|A8 A2 (.of W)<|sg W<|B4 (Oi g18.1.property 2 W A2) trivial)⟩
 refine D1 W ?_
 cases hz7
 obtain rfl:=ez7 _ rfl
 refine ⟨nofun,C5 W<|U6 ?_⟩
 exact ⟨(g17.1,g17.2),(D0 ⟨.of W,trivial⟩<|A8 A2 (.of W)<|sg W<|B4 (Oi g17.1.property 2 W A2) trivial)⟩
 rintro _ ⟨g16,q6⟩
 refine B6 q6<|B3<|C2 (oS y10 (g16.1.val,g16.2)) W W (C2 (oS y10 (g16.1.val,g16.2)) W W (A1<|B7 ?_))
 obtain rfl:=(lC hy9)
 exact Mk (.inr W) (Ub<|B8 W) (g16.1,g16.2) (S5 W) (A8 A2 (.of W)<|sg W<|B4 (Oi g16.1.property 2 W A2) trivial)
 intro g15
 intro u43 hu43
 refine C2 (oS y9 (g15.1.val,g15.2)) W W (A1<|E5<|C3<|sv W<|sv W<|A1<|E0 ?_)
 cases hz6
 exact ⟨W,(g15.1,g15.2),(D0 (S5 W)<|A8 A2 (.of W)<|sg W<|B4 (Oi g15.1.property 2 W A2) trivial)⟩
 refine D1 W ?_
 cases hz6
 obtain rfl:=ez6 _ rfl
 refine ⟨nofun,C5 W<|U6 ?_⟩
 exact ⟨(g14.1,g14.2),(D0 (S5 W)<|A8 A2 (.of W)<|sg W<|B4 (Oi g14.1.property 2 W A2) trivial)⟩
 rintro _ ⟨g13,q7⟩
 refine B6 q7<|WI W fun _ _=>C2 (oS y8 (g13.1.val,g13.2)) W W (sq W<|sl W (gq W) W (sq W<|sl W (gq W) W (sq W<|sl W (gq W) W (sq W<|sl W (gq W) W (sq W<|sl W (gq W) W (bs hz3 fun v12 hv12 hz3=>B9 W W A3 (Wi _ _ hv12) (.inl W) (sq W<|sl W (gq W) W (bs hz3 fun v13 hv13 hz3=>B9 W W A3 (Wi _ _ hv13) (.inl W) (C2 (dl A4 [v4.S,v4.V,v4.Len,v4.Begin,v12,v13]) W W (A1 ?_))))))))))
 intro u46 hu46
 refine bs hz3 fun y12 hy12 hz3=>Jo (fk func115 ntmps115 (fun r=>if r==7 then [1007]else []) (by with_unfolding_all rfl)) (fun (g20:({d:Nat // d∈ [10,26]}×Nat))=> [(1,(.ptr (1,u1) 0)),(20,(dl C4 p1.Agents)),(21,(di (p1.Agents.length:Int))),(22,(di x3.2)),(60,(oS y12 (g20.1.val,g20.2)))]) (fun (g20:({d:Nat // d∈ [10,26]}×Nat))=> [((1,u1),some<|.box 25 (E1 p1)),((g20.1.val,g20.2),oB 5 1 H4 y12)]) W (nl W) ?_ ?_
 unfold Lx at hy12
 refine B6 (s0:=⟨T [(0,(oS y8 (g13.1.val,g13.2))),(1,(dl A4 [v4.S,v4.V,v4.Len,v4.Begin,v12,v13]))],G [((g13.1.val,g13.2),oB 5 1 H4 y8),((1,u1),some<|.box 25 (E1 p1))]⟩) (D0 (S5 W)<|B4 (Oi g13.1.property 2 W A2)<|A8 A2 (.of W) trivial) ?_
 refine B3<|sv W<|A1<|A6<|B3<|C2 (dl A4 [v4.S,v4.V,v4.Len,v4.Begin,v12,v13]) W W (sd W (E3 W)<|sv W<|A1<|bs hy12 fun y13 hy13 hy12=>D3 (fun s=> ∃g21:({d:Nat // d∈ [10,26]}×Nat),Sb ⟨T [(0,(oS y13 (g21.1.val,g21.2)))],G [((1,u1),some<|.box 25 (E1 p1)),((g21.1.val,g21.2),oB 5 1 H4 y13)]⟩ s) ?_ ?_)
 refine A7<|D7 (Lw v4 v12 v13) (fun (x9:((List Int)×Int)) (g22:({d:Nat // d∈ [10,26]}×Nat))=>⟨T [(0,(oS x9.1 (g22.1.val,g22.2))),(8,(dl A4 [v4.S,v4.V,v4.Len,v4.Begin,v12,v13])),(9,(di ([v4.S,v4.V,v4.Len,v4.Begin,v12,v13].length:Int))),(10,(di x9.2))],G [((1,u1),some<|.box 25 (E1 p1)),((g22.1.val,g22.2),oB 5 1 H4 x9.1)]⟩) (y8,0) (g13.1,g13.2) _ hy13 (D0 (S5 W)<|A8 (B5 (Rc g13.1.property W) A2) (.of W) (B4 A2 trivial)) ?_
 intro x9 g22 z9 hz9 ez9
 unfold Lw at hz9
 refine B3<|sv W<|A1<|A6<|cc W hz9 (fun c9 hz9=> ?_)<|fun c9 hz9=> ?_
 refine B0<|A6<|A7<|B3<|bs hz9 fun v14 hv14 hz9=>sd W (E7 W W hv14 W)<|sd W (H8 W hv14 W)<|sv W<|A1<|B3<|sv W<|A1<|bs hz9 fun y14 hy14 hz9=>D3 (fun s=> ∃g23:({d:Nat // d∈ [10,26]}×Nat),Sb ⟨T [(0,(oS y14 (g23.1.val,g23.2))),(8,(dl A4 [v4.S,v4.V,v4.Len,v4.Begin,v12,v13])),(9,(di ([v4.S,v4.V,v4.Len,v4.Begin,v12,v13].length:Int))),(10,(di x9.2))],G [((1,u1),some<|.box 25 (E1 p1)),((g23.1.val,g23.2),oB 5 1 H4 y14)]⟩ s) ?_ ?_
 refine A7<|D7 (Lv v14) (fun (x10:((List Int)×Int)) (g24:({d:Nat // d∈ [10,26]}×Nat))=>⟨T [(0,(oS x10.1 (g24.1.val,g24.2))),(6,(di v14)),(7,(di x10.2)),(8,(dl A4 [v4.S,v4.V,v4.Len,v4.Begin,v12,v13])),(9,(di ([v4.S,v4.V,v4.Len,v4.Begin,v12,v13].length:Int))),(10,(di x9.2))],G [((1,u1),some<|.box 25 (E1 p1)),((g24.1.val,g24.2),oB 5 1 H4 x10.1)]⟩) (x9.1,56) (g22.1,g22.2) _ hy14 (D0 (S5 W)<|A8 A2 (.of W)<|B4 (B5 (Mn g22.1.property W) A2) trivial) ?_
 intro x10 g24 z10 hz10 ez10
 unfold Lv at hz10
 refine A6<|B3<|sv W<|sv W<|A1<|cc W hz10 (fun c10 hz10=> ?_)<|fun c10 hz10=> ?_
 refine B0<|A6<|A7<|Ag fun u53 _=>C2 (oS x10.1 (g24.1.val,g24.2)) W W (sv W<|sv W<|sv W<|sv W<|bs hz10 fun v15 hv15 hz10=>sd W (AS W W hv15)<|sv W<|C2 (dl H4 [(IntKind.wrap .u8 v15)]) W W (bs hz10 fun _ hv16 hz10=>P1 H4 (g24.1.val,g24.2) x10.1 (IntKind.wrap .u8 v15) [] _ (J9<|fun _=>W) W (B5 (Mn g24.1.property W) A2) hv16 (ss W<|A1<|E5<|C3<|sv W<|sv W<|sv W<|A1<|E0 ?_)))
 cases hz10
 exact ⟨W,(⟨26, .tail _ (.head _)⟩,u53),(D0 ⟨(.of (Ap<|S7 hv16).symm), .of W, .of W, .of W, .of W, .of W,trivial⟩<|A8 (B5 W<|B5 (Rc g24.1.property W) A2) (.of W) (U5 A2 trivial))⟩
 refine D1 W ?_
 cases hz10
 obtain rfl:=ez10 _ rfl
 refine ⟨nofun,C5 W<|U6 ?_⟩
 exact ⟨(g24.1,g24.2),(D0 (S5 W)<|A8 A2 (.of W)<|B4 (B5 (Mn g24.1.property W) A2) trivial)⟩
 rintro _ ⟨g23,q8⟩
 refine E5<|B6 q8<|C3<|sv W<|sv W<|A1<|E0 ?_
 cases hz9
 exact ⟨W,(g23.1,g23.2),(D0 (S5 W)<|A8 A2 (.of W)<|B4 (B5 (Mn g23.1.property W) A2) trivial)⟩
 refine D1 W ?_
 cases hz9
 obtain rfl:=ez9 _ rfl
 refine ⟨nofun,C5 W<|U6 ?_⟩
 exact ⟨(g22.1,g22.2),(D0 ⟨.of W,trivial⟩<|A8 A2 (.of W)<|B4 (B5 (Mn g22.1.property W) A2) trivial)⟩
 rintro _ ⟨g21,q9⟩
 refine B6 q9<|B3<|C2 (oS y13 (g21.1.val,g21.2)) W W (C2 (oS y13 (g21.1.val,g21.2)) W W (A1<|B7 ?_))
 obtain rfl:=(lC hy12)
 exact Mk (.inr W) (Ub<|B8 W) (g21.1,g21.2) (S5 W) (A8 A2 (.of W)<|B4 (B5 (Mn g21.1.property W) A2) trivial)
 intro g20
 intro u57 hu57
 refine C2 (oS y12 (g20.1.val,g20.2)) W W (A1<|E5<|C3<|sv W<|sv W<|A1<|E0 ?_)
 cases hz3
 exact ⟨W,(g20.1,g20.2),(D0 (S5 W)<|A8 A2 (.of W)<|B4 (B5 (Mn g20.1.property W) A2) trivial)⟩
 refine D1 W ?_
 cases hz3
 obtain rfl:=ez3 _ rfl
 refine ⟨nofun,C5 W<|U6 ?_⟩
 exact ⟨(g7.1,g7.2),(D0 (S5 W)<|A8 A2 (.of W)<|B4 (B5 (Mn g7.1.property W) A2) trivial)⟩
 rintro _ ⟨g6,q10⟩
 refine B6 q10<|B3<|C2 (oS y4 (g6.1.val,g6.2)) W W (sq W<|sl W A2 W<|sd W (E3 W)<|C2 (dl A4 [(p1.In.length:Int)]) W W (bs h fun y15 hy15 h=>Jo (fk func115 ntmps115 (fun r=>if r==7 then [1007]else []) (by with_unfolding_all rfl)) (fun (g25:({d:Nat // d∈ [10,26]}×Nat))=> [(1,(.ptr (1,u1) 0)),(67,(oS y15 (g25.1.val,g25.2)))]) (fun (g25:({d:Nat // d∈ [10,26]}×Nat))=> [((1,u1),some<|.box 25 (E1 p1)),((g25.1.val,g25.2),oB 5 1 H4 y15)]) W (nl W) ?_ ?_))
 unfold Lu at hy15
 refine B6 (s0:=⟨T [(0,(oS y4 (g6.1.val,g6.2))),(1,(dl A4 [(p1.In.length:Int)]))],G [((g6.1.val,g6.2),oB 5 1 H4 y4),((1,u1),some<|.box 25 (E1 p1))]⟩) (D0 (S5 W)<|B4 (B5 (Mn g6.1.property W) A2)<|A8 A2 (.of W) trivial) ?_
 refine B3<|sv W<|A1<|A6<|B3<|C2 (dl A4 [(p1.In.length:Int)]) W W (sd W (E3 W)<|sv W<|A1<|bs hy15 fun y16 hy16 hy15=>D3 (fun s=> ∃g26:({d:Nat // d∈ [10,26]}×Nat),Sb ⟨T [(0,(oS y16 (g26.1.val,g26.2)))],G [((1,u1),some<|.box 25 (E1 p1)),((g26.1.val,g26.2),oB 5 1 H4 y16)]⟩ s) ?_ ?_)
 refine A7<|D7 (Ls p1) (fun (x11:((List Int)×Int)) (g27:({d:Nat // d∈ [10,26]}×Nat))=>⟨T [(0,(oS x11.1 (g27.1.val,g27.2))),(8,(dl A4 [(p1.In.length:Int)])),(9,(di ([(p1.In.length:Int)].length:Int))),(10,(di x11.2))],G [((1,u1),some<|.box 25 (E1 p1)),((g27.1.val,g27.2),oB 5 1 H4 x11.1)]⟩) (y4,0) (g6.1,g6.2) _ hy16 (D0 (S5 W)<|A8 (B5 (Rc g6.1.property W) A2) (.of W) (B4 A2 trivial)) ?_
 intro x11 g27 z11 hz11 ez11
 unfold Ls at hz11
 refine B3<|sv W<|A1<|A6<|cc W hz11 (fun c11 hz11=> ?_)<|fun c11 hz11=> ?_
 refine B0<|A6<|A7<|B3<|bs hz11 fun v17 hv17 hz11=>sd W (E7 W W hv17 W)<|sd W (H8 W hv17 W)<|sv W<|A1<|B3<|sv W<|A1<|bs hz11 fun y17 hy17 hz11=>D3 (fun s=> ∃g28:({d:Nat // d∈ [10,26]}×Nat),Sb ⟨T [(0,(oS y17 (g28.1.val,g28.2))),(8,(dl A4 [(p1.In.length:Int)])),(9,(di ([(p1.In.length:Int)].length:Int))),(10,(di x11.2))],G [((1,u1),some<|.box 25 (E1 p1)),((g28.1.val,g28.2),oB 5 1 H4 y17)]⟩ s) ?_ ?_
 refine A7<|D7 (Lr v17) (fun (x12:((List Int)×Int)) (g29:({d:Nat // d∈ [10,26]}×Nat))=>⟨T [(0,(oS x12.1 (g29.1.val,g29.2))),(6,(di v17)),(7,(di x12.2)),(8,(dl A4 [(p1.In.length:Int)])),(9,(di ([(p1.In.length:Int)].length:Int))),(10,(di x11.2))],G [((1,u1),some<|.box 25 (E1 p1)),((g29.1.val,g29.2),oB 5 1 H4 x12.1)]⟩) (x11.1,56) (g27.1,g27.2) _ hy17 (D0 (S5 W)<|A8 A2 (.of W)<|B4 (B5 (Mn g27.1.property W) A2) trivial) ?_
 intro x12 g29 z12 hz12 ez12
 unfold Lr at hz12
 refine A6<|B3<|sv W<|sv W<|A1<|cc W hz12 (fun c12 hz12=> ?_)<|fun c12 hz12=> ?_
 refine B0<|A6<|A7<|Ag fun u66 _=>C2 (oS x12.1 (g29.1.val,g29.2)) W W (sv W<|sv W<|sv W<|sv W<|bs hz12 fun v18 hv18 hz12=>sd W (AS W W hv18)<|sv W<|C2 (dl H4 [(IntKind.wrap .u8 v18)]) W W (bs hz12 fun _ hv19 hz12=>P1 H4 (g29.1.val,g29.2) x12.1 (IntKind.wrap .u8 v18) [] _ (J9<|fun _=>W) W (B5 (Mn g29.1.property W) A2) hv19 (ss W<|A1<|E5<|C3<|sv W<|sv W<|sv W<|A1<|E0 ?_)))
 cases hz12
 exact ⟨W,(⟨26, .tail _ (.head _)⟩,u66),(D0 ⟨(.of (Ap<|S7 hv19).symm), .of W, .of W, .of W, .of W, .of W,trivial⟩<|A8 (B5 W<|B5 (Rc g29.1.property W) A2) (.of W) (U5 A2 trivial))⟩
 refine D1 W ?_
 cases hz12
 obtain rfl:=ez12 _ rfl
 refine ⟨nofun,C5 W<|U6 ?_⟩
 exact ⟨(g29.1,g29.2),(D0 (S5 W)<|A8 A2 (.of W)<|B4 (B5 (Mn g29.1.property W) A2) trivial)⟩
 rintro _ ⟨g28,q11⟩
 refine E5<|B6 q11<|C3<|sv W<|sv W<|A1<|E0 ?_
 cases hz11
 exact ⟨W,(g28.1,g28.2),(D0 (S5 W)<|A8 A2 (.of W)<|B4 (B5 (Mn g28.1.property W) A2) trivial)⟩
 refine D1 W ?_
 cases hz11
 obtain rfl:=ez11 _ rfl
 refine ⟨nofun,C5 W<|U6 ?_⟩
 exact ⟨(g27.1,g27.2),(D0 ⟨.of W,trivial⟩<|A8 A2 (.of W)<|B4 (B5 (Mn g27.1.property W) A2) trivial)⟩
 rintro _ ⟨g26,q12⟩
 refine B6 q12<|B3<|C2 (oS y16 (g26.1.val,g26.2)) W W (C2 (oS y16 (g26.1.val,g26.2)) W W (A1<|B7 ?_))
 obtain rfl:=(lC hy15)
 exact Mk (.inr W) (Ub<|B8 W) (g26.1,g26.2) (S5 W) (A8 A2 (.of W)<|B4 (B5 (Mn g26.1.property W) A2) trivial)
 intro g25
 intro u70 hu70
 refine C2 (oS y15 (g25.1.val,g25.2)) W W (A1<|A6<|B3<|sq W<|sl W A2 W<|sd W (E3 W)<|sv W<|A1<|bs h fun y18 hy18 h=>D3 (fun s=> ∃g30:({d:Nat // d∈ [10,26]}×Nat),Sb ⟨T [(3,(oS y18 (g30.1.val,g30.2)))],G [((g30.1.val,g30.2),oB 5 1 H4 y18)]⟩ s) ?_ ?_)
 refine A7<|D7 (Z8 p1) (fun (x13:((List Int)×Int)) (g31:({d:Nat // d∈ [10,26]}×Nat))=>⟨T [(3,(oS x13.1 (g31.1.val,g31.2))),(69,(dl F8 p1.In)),(70,(di (p1.In.length:Int))),(71,(di x13.2))],G [((g31.1.val,g31.2),oB 5 1 H4 x13.1)]⟩) (y15,0) (g25.1,g25.2) _ hy18 (D0 (S5 W)<|B4 (B5 (Mn g25.1.property W) A2) trivial) ?_
 intro x13 g31 z13 hz13 ez13
 unfold Z8 at hz13
 refine B3<|sv W<|A1<|A6<|cc W hz13 (fun c13 hz13=> ?_)<|fun c13 hz13=> ?_
 refine B0<|A6<|A7<|B3<|bs hz13 fun v20 hv20 hz13=>sd W (E7 W W hv20 W)<|sd W (E6 W hv20 W W)<|sm W<|T6 W A2 (Si v20) W (A1<|C3<|C2 (oS x13.1 (g31.1.val,g31.2)) W W (sq W<|sl W A2 W<|sq W<|sl W A2 W<|sq W<|sl W A2 W<|sq W<|sl W A2 W<|C2 (dl A4 [v20.Agent_,v20.Zone_,v20.Since,v20.Rank]) W W (bs hz13 fun y19 hy19 hz13=>Jo (fk func115 ntmps115 (fun r=>if r==7 then [1007]else []) (by with_unfolding_all rfl)) (fun (g32:({d:Nat // d∈ [10,26]}×Nat))=> [(69,(dl F8 p1.In)),(70,(di (p1.In.length:Int))),(71,(di x13.2)),(85,(oS y19 (g32.1.val,g32.2)))]) (fun (g32:({d:Nat // d∈ [10,26]}×Nat))=> [((g32.1.val,g32.2),oB 5 1 H4 y19)]) W (nl W) ?_ ?_)))
 unfold Lq at hy19
 refine B6 (s0:=⟨T [(0,(oS x13.1 (g31.1.val,g31.2))),(1,(dl A4 [v20.Agent_,v20.Zone_,v20.Since,v20.Rank]))],G [((g31.1.val,g31.2),oB 5 1 H4 x13.1)]⟩) (D0 (S5 W)<|B4 (Oi g31.1.property 2 W A2) trivial) ?_
 refine B3<|sv W<|A1<|A6<|B3<|C2 (dl A4 [v20.Agent_,v20.Zone_,v20.Since,v20.Rank]) W W (sd W (E3 W)<|sv W<|A1<|bs hy19 fun y20 hy20 hy19=>D3 (fun s=> ∃g33:({d:Nat // d∈ [10,26]}×Nat),Sb ⟨T [(0,(oS y20 (g33.1.val,g33.2)))],G [((g33.1.val,g33.2),oB 5 1 H4 y20)]⟩ s) ?_ ?_)
 refine A7<|D7 (Ln v20) (fun (x14:((List Int)×Int)) (g34:({d:Nat // d∈ [10,26]}×Nat))=>⟨T [(0,(oS x14.1 (g34.1.val,g34.2))),(8,(dl A4 [v20.Agent_,v20.Zone_,v20.Since,v20.Rank])),(9,(di ([v20.Agent_,v20.Zone_,v20.Since,v20.Rank].length:Int))),(10,(di x14.2))],G [((g34.1.val,g34.2),oB 5 1 H4 x14.1)]⟩) (x13.1,0) (g31.1,g31.2) _ hy20 (D0 (S5 W)<|B4 A2 trivial) ?_
 intro x14 g34 z14 hz14 ez14
 unfold Ln at hz14
 refine B3<|sv W<|A1<|A6<|cc W hz14 (fun c14 hz14=> ?_)<|fun c14 hz14=> ?_
 refine B0<|A6<|A7<|B3<|bs hz14 fun v21 hv21 hz14=>sd W (E7 W W hv21 W)<|sd W (H8 W hv21 W)<|sv W<|A1<|B3<|sv W<|A1<|bs hz14 fun y21 hy21 hz14=>D3 (fun s=> ∃g35:({d:Nat // d∈ [10,26]}×Nat),Sb ⟨T [(0,(oS y21 (g35.1.val,g35.2))),(8,(dl A4 [v20.Agent_,v20.Zone_,v20.Since,v20.Rank])),(9,(di ([v20.Agent_,v20.Zone_,v20.Since,v20.Rank].length:Int))),(10,(di x14.2))],G [((g35.1.val,g35.2),oB 5 1 H4 y21)]⟩ s) ?_ ?_
 refine A7<|D7 (Lm v21) (fun (x15:((List Int)×Int)) (g36:({d:Nat // d∈ [10,26]}×Nat))=>⟨T [(0,(oS x15.1 (g36.1.val,g36.2))),(6,(di v21)),(7,(di x15.2)),(8,(dl A4 [v20.Agent_,v20.Zone_,v20.Since,v20.Rank])),(9,(di ([v20.Agent_,v20.Zone_,v20.Since,v20.Rank].length:Int))),(10,(di x14.2))],G [((g36.1.val,g36.2),oB 5 1 H4 x15.1)]⟩) (x14.1,56) (g34.1,g34.2) _ hy21 (D0 (S5 W)<|B4 A2 trivial) ?_
 intro x15 g36 z15 hz15 ez15
 unfold Lm at hz15
 refine A6<|B3<|sv W<|sv W<|A1<|cc W hz15 (fun c15 hz15=> ?_)<|fun c15 hz15=> ?_
 refine B0<|A6<|A7<|Ag fun u81 _=>C2 (oS x15.1 (g36.1.val,g36.2)) W W (sv W<|sv W<|sv W<|sv W<|bs hz15 fun v22 hv22 hz15=>sd W (AS W W hv22)<|sv W<|C2 (dl H4 [(IntKind.wrap .u8 v22)]) W W (bs hz15 fun _ hv23 hz15=>P1 H4 (g36.1.val,g36.2) x15.1 (IntKind.wrap .u8 v22) [] _ (J9<|fun _=>W) W A2 hv23 (ss W<|A1<|E5<|C3<|sv W<|sv W<|sv W<|A1<|E0 ?_)))
 cases hz15
 exact ⟨W,(⟨26, .tail _ (.head _)⟩,u81),(D0 ⟨(.of (Ap<|S7 hv23).symm), .of W, .of W, .of W, .of W, .of W,trivial⟩<|U5 A2 trivial)⟩
 refine D1 W ?_
 cases hz15
 obtain rfl:=ez15 _ rfl
 refine ⟨nofun,C5 W<|U6 ?_⟩
 exact ⟨(g36.1,g36.2),(D0 (S5 W)<|B4 A2 trivial)⟩
 rintro _ ⟨g35,q13⟩
 refine E5<|B6 q13<|C3<|sv W<|sv W<|A1<|E0 ?_
 cases hz14
 exact ⟨W,(g35.1,g35.2),(D0 (S5 W)<|B4 A2 trivial)⟩
 refine D1 W ?_
 cases hz14
 obtain rfl:=ez14 _ rfl
 refine ⟨nofun,C5 W<|U6 ?_⟩
 exact ⟨(g34.1,g34.2),(D0 ⟨.of W,trivial⟩<|B4 A2 trivial)⟩
 rintro _ ⟨g33,q14⟩
 refine B6 q14<|B3<|C2 (oS y20 (g33.1.val,g33.2)) W W (C2 (oS y20 (g33.1.val,g33.2)) W W (A1<|B7 ?_))
 obtain rfl:=(lC hy19)
 exact Mk (.inr W) (Ub<|B8 W) (g33.1,g33.2) (S5 W) (B4 A2 trivial)
 intro g32
 intro u85 hu85
 refine C2 (oS y19 (g32.1.val,g32.2)) W W (A1<|E5<|C3<|sv W<|sv W<|A1<|E0 ?_)
 cases hz13
 exact ⟨W,(g32.1,g32.2),(D0 (S5 W)<|B4 A2 trivial)⟩
 refine D1 W ?_
 cases hz13
 obtain rfl:=ez13 _ rfl
 refine ⟨nofun,C5 W<|U6 ?_⟩
 exact ⟨(g31.1,g31.2),(D0 ⟨.of W,trivial⟩<|B4 A2 trivial)⟩
 rintro _ ⟨g30,q15⟩
 refine B6 q15<|A6<|WG [(g30.1.val,g30.2)] [(3,(dl H4 y18))] [] ⟨(SS (U8<|AP (.head _) A2) U7),trivial⟩ trivial (C3<|sv W<|sd W (SV (xs:=y18) W)<|sv W<|A1<|B7 ?_)
 cases h
 exact A9 (.inr W) (C0 (B8 W) C6) (.refl _)
def Bo (p1:(List Int))(x1:((List Int)×Int))(x2:((List Int)×Int)):Option (Stp ((List Int)×Int) (List Int)):=
  cond (decide (x2.2≥0)) ((F2 p1 x1.2).bind fun v1=>(Yk .u64 (IntKind.wrap .u64 v1) (IntKind.wrap .u64 (J6 (8*x2.2)))).bind fun v2=>(Y4 x2.1 [(IntKind.wrap .u8 v2)]).bind fun v3=>some (.go (v3,(J6 (x2.2 - 1))))) (some (.out x2.1))
def Bp [Lp](p1:(List Int))(x1:((List Int)×Int)):Option (Stp ((List Int)×Int) (List Int)):=
  cond (decide (x1.2< (p1.length:Int))) ((loop (Bo p1 x1) (x1.1,7)).bind fun y2=>some (.go (y2,(J6 (x1.2+1))))) (some (.out x1.1))
def Y9 [Lp](p1:(List Int)):Option ByteArray:=
  (loop (Bp p1) ([],0)).bind fun y1=>some (K9 y1)
theorem Bq(p1 r)(h:Y9 p1=some r):PCall prog 117 [(.list (List.map A4 p1))] (Al r):=by
 refine C7 (fk func117 ntmps117 (fun r=>if r==8 then [1011]else []) (by with_unfolding_all rfl)) (nl W) ?_
 unfold Y9 at h
 refine B6 (s0:=⟨T [(0,(.d _))],G []⟩) (G0 W W) ?_
 refine B3<|sv W<|A1<|B3<|sv W<|A1<|A6<|B3<|sv W<|A1<|bs h fun y1 hy1 h=>D3 (fun s=> ∃g1:Nat,Sb ⟨T [(3,(oS y1 (28,g1)))],G [((28,g1),oB 5 1 H4 y1)]⟩ s) ?_ ?_
 refine A7<|D7 (Bp p1) (fun (x1:((List Int)×Int)) (g2:Nat)=>⟨T [(0,(dl A4 p1)),(3,(oS x1.1 (28,g2))),(4,(di x1.2))],G [((28,g2),oB 5 1 H4 x1.1)]⟩) ([],0) 0 _ hy1 (D0 (S5 W)<|Y5 trivial) ?_
 intro x1 g2 z1 hz1 ez1
 unfold Bp at hz1
 refine A6<|B3<|sv W<|sv W<|sd W (E3 W)<|sv W<|A1<|cc W hz1 (fun c1 hz1=> ?_)<|fun c1 hz1=> ?_
 refine B0<|A6<|A7<|B3<|sv W<|A1<|bs hz1 fun y2 hy2 hz1=>D3 (fun s=> ∃g3:Nat,Sb ⟨T [(0,(dl A4 p1)),(3,(oS y2 (28,g3))),(4,(di x1.2))],G [((28,g3),oB 5 1 H4 y2)]⟩ s) ?_ ?_
 refine A7<|D7 (Bo p1 x1) (fun (x2:((List Int)×Int)) (g4:Nat)=>⟨T [(0,(dl A4 p1)),(3,(oS x2.1 (28,g4))),(4,(di x1.2)),(5,(di x2.2))],G [((28,g4),oB 5 1 H4 x2.1)]⟩) (x1.1,7) g2 _ hy2 (D0 (S5 W)<|B4 A2 trivial) ?_
 intro x2 g4 z2 hz2 ez2
 unfold Bo at hz2
 refine A6<|B3<|sv W<|sv W<|A1<|cc W hz2 (fun c2 hz2=> ?_)<|fun c2 hz2=> ?_
 refine B0<|A6<|A7<|Ag fun u7 _=>C2 (oS x2.1 (28,g4)) W W (sv W<|sv W<|bs hz2 fun _ hv1 hz2=>sd W (E7 W W hv1 W)<|sd W (H8 W hv1 W)<|sv W<|sv W<|sv W<|sv W<|bs hz2 fun v2 hv2 hz2=>sd W (AS W W hv2)<|sv W<|C2 (dl H4 [(IntKind.wrap .u8 v2)]) W W (bs hz2 fun _ hv3 hz2=>P1 H4 (28,g4) x2.1 (IntKind.wrap .u8 v2) [] _ (J9<|fun _=>W) W A2 hv3 (ss W<|A1<|E5<|Ag fun u8 _=>sv W<|sv W<|sv W<|A1<|E0 ?_)))
 cases hz2
 exact ⟨W,u7,(D0 ⟨.of W,(.of (Ap<|S7 hv3).symm), .of W, .of W,trivial⟩<|U5 A2 trivial)⟩
 refine D1 W ?_
 cases hz2
 obtain rfl:=ez2 _ rfl
 refine ⟨nofun,C5 W<|U6 ?_⟩
 exact ⟨g4,(D0 (S5 W)<|B4 A2 trivial)⟩
 rintro _ ⟨g3,q1⟩
 refine E5<|B6 q1<|C3<|sv W<|sv W<|sv W<|A1<|E0 ?_
 cases hz1
 exact ⟨W,g3,(D0 (S5 W)<|B4 A2 trivial)⟩
 refine D1 W ?_
 cases hz1
 obtain rfl:=ez1 _ rfl
 refine ⟨nofun,C5 W<|U6 ?_⟩
 exact ⟨g2,(D0 ⟨.of W,trivial⟩<|B4 A2 trivial)⟩
 rintro _ ⟨g1,q2⟩
 refine B6 q2<|A6<|WG [(28,g1)] [(3,(dl H4 y1))] [] ⟨(SS (U8<|AP (.head _) A2) U7),trivial⟩ trivial (C3<|sv W<|sd W (SV (xs:=y1) W)<|sv W<|A1<|B7 ?_)
 cases h
 exact A9 (.inr W) (C0 (B8 W) C6) (.refl _)
def Aw [Lp](p1:State)(x3:(ByteArray×Int)):Option (Stp (ByteArray×Int) ByteArray):=
  cond (decide (x3.2< (p1.In.length:Int))) ((F2 p1.In x3.2).bind fun v13=>(F2 p1.In x3.2).bind fun v14=>(F2 p1.In x3.2).bind fun v15=>(F2 p1.In x3.2).bind fun v16=>(Y9 [v13.Agent_,v14.Zone_,v15.Since,v16.Rank]).bind fun v17=>(CE x3.1 v17).bind fun v18=>some (.go (v18,(J6 (x3.2+1))))) (some (.out x3.1))
def Ax [Lp](v3:Agent)(x2:(ByteArray×Int)):Option (Stp (ByteArray×Int) ByteArray):=
  cond (decide (x2.2< (v3.Route.length:Int))) ((F2 v3.Route x2.2).bind fun v6=>(Y9 [v6]).bind fun v7=>(CE x2.1 v7).bind fun v8=>some (.go (v8,(J6 (x2.2+1))))) (some (.out x2.1))
def Ay [Lp](p1:State)(x1:(ByteArray×Int)):Option (Stp (ByteArray×Int) ByteArray):=
  cond (decide (x1.2< (p1.Agents.length:Int))) (((F2 p1.Agents x1.2).bind fun v3=>(Y9 [(v3.Route.length:Int)]).bind fun v4=>(CE x1.1 v4).bind fun v5=>(loop (Ax v3) (v5,0)).bind fun y3=>(cond v3.Obey (some 1) (some 0)).bind fun y4=>(cond v3.Gone (some 1) (some 0)).bind fun y5=>(Y9 [v3.S,v3.V,v3.Len,v3.Begin,y4,y5]).bind fun v9=>(CE y3 v9).bind fun v10=>some v10).bind fun y2=>some (.go (y2,(J6 (x1.2+1))))) (some (.out x1.1))
def Ku [Lp](p1:State):Option ByteArray:=
  (Y9 [p1.Tick,(p1.Agents.length:Int)]).bind fun v1=>(CE (ByteArray.mk #[107,98,119,49]) v1).bind fun v2=>(loop (Ay p1) (v2,0)).bind fun y1=>(Y9 [(p1.In.length:Int)]).bind fun v11=>(CE y1 v11).bind fun v12=>(loop (Aw p1) (v12,0)).bind fun y6=>some y6
theorem BF(p1 r)(h:Ku p1=some r):PCall prog 54 [(.agg (N9 p1))] (Al r):=by
 refine C7 (fk func54 ntmps54 (fun r=>if r==1 then [1005]else if r==6 then [1004]else if r==10 then [1006]else if r==16 then [1011]else if r==17 then [1004]else if r==21 then [1025]else []) (by with_unfolding_all rfl)) (nl W) ?_
 unfold Ku at h
 refine B6 (s0:=⟨T [(0,(.d _))],G []⟩) (G0 W W) ?_
 refine lr<|fun u1 _=>sm W<|sv W<|A1<|B3<|sq W<|sl W A2 W<|sq W<|sl W A2 W<|sd W (E3 W)<|C2 (dl A4 [p1.Tick,(p1.Agents.length:Int)]) W W (bs h fun _ hv1 h=>B9 W W A3 (Bq _ _ hv1) (.inl W) (bs h fun v2 hv2 h=>sd W (Xe W W hv2)<|sv W<|A1<|A6<|B3<|sv W<|A1<|bs h fun y1 hy1 h=>D3 (fun s=> ∃g1:Unit,Sb ⟨T [(1,(.ptr (1,u1) 0)),(3,(.d (Al y1)))],G [((1,u1),some<|.box 25 (E1 p1))]⟩ s) ?_ ?_))
 refine A7<|D7 (Ay p1) (fun (x1:(ByteArray×Int)) (g2:Unit)=>⟨T [(1,(.ptr (1,u1) 0)),(3,(.d (Al x1.1))),(4,(di x1.2))],G [((1,u1),some<|.box 25 (E1 p1))]⟩) (v2,0) () _ hy1 (G0 W W) ?_
 intro x1 g2 z1 hz1 ez1
 unfold Ay at hz1
 refine A6<|B3<|sv W<|sq W<|sl W A2 W<|sd W (E3 W)<|sv W<|A1<|cc W hz1 (fun c1 hz1=> ?_)<|fun c1 hz1=> ?_
 refine B0<|A6<|bs hz1 fun y2 hy2 hz1=>D3 (fun s=> ∃g3:Unit,Sb ⟨T [(1,(.ptr (1,u1) 0)),(3,(.d (Al y2))),(4,(di x1.2))],G [((1,u1),some<|.box 25 (E1 p1))]⟩ s) ?_ ?_
 refine A7<|lr<|fun u5 _=>sq W<|sl W A2 W<|sv W<|bs hy2 fun v3 hv3 hy2=>sd W (E7 W W hv3 W)<|sd W (E6 W hv3 W W)<|sm W<|T6 W A2 (M5 v3) W (A1<|B3<|sv W<|sq W<|sl W A2 W<|sd W (E3 W)<|C2 (dl A4 [(v3.Route.length:Int)]) W W (bs hy2 fun _ hv4 hy2=>B9 W W A3 (Bq _ _ hv4) (.inl W) (bs hy2 fun v5 hv5 hy2=>sd W (Xe W W hv5)<|sv W<|A1<|A6<|B3<|sv W<|A1<|bs hy2 fun y3 hy3 hy2=>D3 (fun s=> ∃g4:Unit,Sb ⟨T [(1,(.ptr (1,u1) 0)),(3,(.d (Al y3))),(4,(di x1.2)),(5,(.ptr (5,u5) 0))],G [((1,u1),some<|.box 25 (E1 p1)),((5,u5),some<|.box 45 (M5 v3))]⟩ s) ?_ ?_)))
 refine A7<|D7 (Ax v3) (fun (x2:(ByteArray×Int)) (g5:Unit)=>⟨T [(1,(.ptr (1,u1) 0)),(3,(.d (Al x2.1))),(4,(di x1.2)),(5,(.ptr (5,u5) 0)),(6,(di x2.2))],G [((1,u1),some<|.box 25 (E1 p1)),((5,u5),some<|.box 45 (M5 v3))]⟩) (v5,0) () _ hy3 (G0 W W) ?_
 intro x2 g5 z2 hz2 ez2
 unfold Ax at hz2
 refine A6<|B3<|sv W<|sq W<|sl W (gq W) W (sd W (E3 W)<|sv W<|A1<|cc W hz2 (fun c2 hz2=> ?_)<|fun c2 hz2=> ?_)
 refine B0<|A6<|A7<|C3<|sv W<|sq W<|sl W (gq W) W (sv W<|bs hz2 fun v6 hv6 hz2=>sd W (E7 W W hv6 W)<|sd W (H8 W hv6 W)<|C2 (dl A4 [v6]) W W (bs hz2 fun _ hv7 hz2=>B9 W W A3 (Bq _ _ hv7) (.inl W) (bs hz2 fun _ hv8 hz2=>sd W (Xe W W hv8)<|sv W<|A1<|E5<|C3<|sv W<|sv W<|sv W<|A1<|E0 ?_)))
 cases hz2
 exact ⟨W,(),(G0 W W)⟩
 refine D1 W ?_
 cases hz2
 obtain rfl:=ez2 _ rfl
 refine ⟨nofun,C5 W<|U6 ?_⟩
 exact ⟨(),(G0 W W)⟩
 rintro _ ⟨g4,q1⟩
 refine B6 q1<|B3<|sv W<|sv W<|A1<|A6<|B3<|sq W<|sl W (gq W) W (A1<|bs hy2 fun y4 hy4 hy2=>D3 (fun s=> ∃g6:Unit,Sb ⟨T [(1,(.ptr (1,u1) 0)),(3,(.d (Al y3))),(4,(di x1.2)),(5,(.ptr (5,u5) 0)),(7,(di y4)),(8,(di 0))],G [((1,u1),some<|.box 25 (E1 p1)),((5,u5),some<|.box 45 (M5 v3))]⟩ s) ?_ ?_)
 refine cc W hy4 (fun c3 hy4=> ?_)<|fun c3 hy4=> ?_
 refine C3<|sv W<|A1 ?_
 cases hy4
 exact U6 ⟨(),(G0 W W)⟩
 refine B0 ?_
 cases hy4
 exact U6 ⟨(),(G0 W W)⟩
 rintro _ ⟨g6,q2⟩
 refine B6 q2<|A6<|B3<|sq W<|sl W (gq W) W (A1<|bs hy2 fun y5 hy5 hy2=>D3 (fun s=> ∃g7:Unit,Sb ⟨T [(1,(.ptr (1,u1) 0)),(3,(.d (Al y3))),(4,(di x1.2)),(5,(.ptr (5,u5) 0)),(7,(di y4)),(8,(di y5))],G [((1,u1),some<|.box 25 (E1 p1)),((5,u5),some<|.box 45 (M5 v3))]⟩ s) ?_ ?_)
 refine cc W hy5 (fun c4 hy5=> ?_)<|fun c4 hy5=> ?_
 refine C3<|sv W<|A1 ?_
 cases hy5
 exact U6 ⟨(),(G0 W W)⟩
 refine B0 ?_
 cases hy5
 exact U6 ⟨(),(G0 W W)⟩
 rintro _ ⟨g7,q3⟩
 refine B6 q3<|C3<|sv W<|sq W<|sl W (gq W) W (sq W<|sl W (gq W) W (sq W<|sl W (gq W) W (sq W<|sl W (gq W) W (sv W<|sv W<|C2 (dl A4 [v3.S,v3.V,v3.Len,v3.Begin,y4,y5]) W W (bs hy2 fun _ hv9 hy2=>B9 W W A3 (Bq _ _ hv9) (.inl W) (bs hy2 fun _ hv10 hy2=>sd W (Xe W W hv10)<|sv W<|A1<|E5 ?_))))))
 obtain rfl:=(lC hy2)
 exact U6 ⟨(),(G0 W W)⟩
 rintro _ ⟨g3,q4⟩
 refine B6 q4<|C3<|sv W<|sv W<|sv W<|A1<|E0 ?_
 cases hz1
 exact ⟨W,(),(G0 W W)⟩
 refine D1 W ?_
 cases hz1
 obtain rfl:=ez1 _ rfl
 refine ⟨nofun,C5 W<|U6 ?_⟩
 exact ⟨(),(G0 W W)⟩
 rintro _ ⟨g1,q5⟩
 refine B6 q5<|B3<|sv W<|sq W<|sl W A2 W<|sd W (E3 W)<|C2 (dl A4 [(p1.In.length:Int)]) W W (bs h fun _ hv11 h=>B9 W W A3 (Bq _ _ hv11) (.inl W) (bs h fun v12 hv12 h=>sd W (Xe W W hv12)<|sv W<|A1<|A6<|B3<|sv W<|A1<|bs h fun y6 hy6 h=>D3 (fun s=> ∃g8:Unit,Sb ⟨T [(3,(.d (Al y6)))],G []⟩ s) ?_ ?_))
 refine A7<|D7 (Aw p1) (fun (x3:(ByteArray×Int)) (g9:Unit)=>⟨T [(1,(.ptr (1,u1) 0)),(3,(.d (Al x3.1))),(9,(di x3.2))],G [((1,u1),some<|.box 25 (E1 p1))]⟩) (v12,0) () _ hy6 (G0 W W) ?_
 intro x3 g9 z3 hz3 ez3
 unfold Aw at hz3
 refine A6<|B3<|sv W<|sq W<|sl W A2 W<|sd W (E3 W)<|sv W<|A1<|cc W hz3 (fun c5 hz3=> ?_)<|fun c5 hz3=> ?_
 refine B0<|A6<|A7<|K6 W<|sv W<|sq W<|sl W A2 W<|sv W<|bs hz3 fun v13 hv13 hz3=>sd W (E7 W W hv13 W)<|sv W<|sd W (H8 W hv13 W)<|sq W<|sl W A2 W<|sv W<|bs hz3 fun v14 hv14 hz3=>sd W (E7 W W hv14 W)<|sv W<|sd W (H8 W hv14 W)<|sq W<|sl W A2 W<|sv W<|bs hz3 fun v15 hv15 hz3=>sd W (E7 W W hv15 W)<|sv W<|sd W (H8 W hv15 W)<|sq W<|sl W A2 W<|sv W<|bs hz3 fun v16 hv16 hz3=>sd W (E7 W W hv16 W)<|sv W<|sd W (H8 W hv16 W)<|C2 (dl A4 [v13.Agent_,v14.Zone_,v15.Since,v16.Rank]) W W (bs hz3 fun _ hv17 hz3=>B9 W W A3 (Bq _ _ hv17) (.inl W) (bs hz3 fun _ hv18 hz3=>sd W (Xe W W hv18)<|sv W<|A1<|E5<|C3<|sv W<|sv W<|sv W<|A1<|E0 ?_))
 cases hz3
 exact ⟨W,(),(G0 W W)⟩
 refine D1 W ?_
 cases hz3
 obtain rfl:=ez3 _ rfl
 refine ⟨nofun,C5 W<|U6 ?_⟩
 exact ⟨(),(G0 W W)⟩
 rintro _ ⟨g8,q6⟩
 refine B6 q6<|B3<|sv W<|sv W<|A1<|B7 ?_
 cases h
 exact A9 (.inr W) (C0 (B8 W) C6) (.refl _)
def W0 (p1:(List Int))(p2:(List Int))(x1:Int):Option (Stp Int (Sum Unit Bool)):=
  cond (decide (x1< (p1.length:Int))) ((F2 p1 x1).bind fun v1=>(F2 p2 x1).bind fun v2=>cond (v1 !=v2) (some (.out (.inr false))) (some (.go (J6 (x1+1))))) (some (.out (.inl ())))
def Cd [Lp](p1:(List Int))(p2:(List Int)):Option Bool:=
  cond ((p1.length:Int) !=(p2.length:Int)) (some false) (thenS (loop (W0 p1 p2) 0) (fun _=>some true) (fun r=>some r))
theorem Py(p1 p2 r)(h:Cd p1 p2=some r):PCall prog 192 [(.list (List.map A4 p1)),(.list (List.map A4 p2))] (bo r):=by
 refine C7 (fk func192 ntmps192 m0 (by with_unfolding_all rfl)) (nl W) ?_
 unfold Cd at h
 refine B6 (s0:=⟨T [(0,(.d _)),(1,(.d _))],G []⟩) (G0 W W) ?_
 refine B3<|sv W<|A1<|A6<|B3<|sv W<|sd W (E3 W)<|sv W<|sd W (E3 W)<|sv W<|A1<|cc W h (fun c1 h=> ?_)<|fun c1 h=> ?_
 refine B3<|sv W<|A1<|B7 ?_
 cases h
 exact A9 (.inr W) (C0 (B8 W) C6) (.refl _)
 refine B0<|A6<|B3<|sv W<|sd W (E3 W)<|sv W<|A1<|js h fun z1 hz1 h=>D3 (fun s=> ∃(y1:Unit) (g1:Unit),z1= .inl y1∧Sb ⟨T [],G []⟩ s) ?_ ?_
 refine A7<|D7 (W0 p1 p2) (fun (x1:Int) (g2:Unit)=>⟨T [(0,(dl A4 p1)),(1,(dl A4 p2)),(12,(di (p1.length:Int))),(13,(di x1))],G []⟩) 0 () _ hz1 (G0 W W) ?_
 intro x1 g2 z2 hz2 ez2
 unfold W0 at hz2
 refine B3<|sv W<|A1<|A6<|cc W hz2 (fun c2 hz2=> ?_)<|fun c2 hz2=> ?_
 refine B0<|A6<|A7<|B3<|sv W<|sv W<|A1<|A6<|K6 W<|sv W<|sv W<|bs hz2 fun _ hv1 hz2=>sd W (E7 W W hv1 W)<|sd W (H8 W hv1 W)<|sv W<|sv W<|bs hz2 fun _ hv2 hz2=>sd W (E7 W W hv2 W)<|sd W (H8 W hv2 W)<|sv W<|A1<|cc W hz2 (fun c3 hz2=> ?_)<|fun c3 hz2=> ?_
 refine B3<|sv W<|A1<|B7 ?_
 cases hz2
 obtain rfl:=ez2 _ rfl
 refine ⟨nofun,G4 ?_⟩
 rw [bI]at h
 cases h
 exact A9 (.inr W) (C0 (B8 W) C6) (.refl _)
 refine B0<|E5<|C3<|sv W<|sv W<|A1<|E0 ?_
 cases hz2
 exact ⟨W,(),(G0 W W)⟩
 refine D1 W ?_
 cases hz2
 obtain rfl:=ez2 _ rfl
 refine ⟨nofun,C5 W<|U6 ?_⟩
 exact ⟨_,(),W,(G0 W W)⟩
 rintro _ ⟨y1,g1,rfl,q1⟩
 rw [bH]at h
 refine B6 q1<|B3<|sv W<|A1<|B7 ?_
 cases h
 exact A9 (.inr W) (C0 (B8 W) C6) (.refl _)
def Ef [Lp](p1:Agent)(p2:Agent):Option Bool:=
  (Cd p1.Route p2.Route).bind fun v1=>cond (!v1) (some false) (some ((((((p1.S==p2.S)&& (p1.V==p2.V))&& (p1.Len==p2.Len))&& (p1.Begin==p2.Begin))&& (p1.Obey==p2.Obey))&& (p1.Gone==p2.Gone)))
theorem Va(p1 p2 r)(h:Ef p1 p2=some r):PCall prog 119 [(.agg (C4 p1)),(.agg (C4 p2))] (bo r):=by
 refine C7 (fk func119 ntmps119 m0 (by with_unfolding_all rfl)) (nl W) ?_
 unfold Ef at h
 refine B6 (s0:=⟨T [(0,(.d _)),(1,(.d _))],G []⟩) (G0 W W) ?_
 refine B3<|sm W<|sn W W<|sv W<|A1<|A6<|B3<|sq W<|sl W (gq W) W (sq W<|sl W A2 W<|bs h fun v1 hv1 h=>B9 W W A3 (Py _ _ _ hv1) (.inl W) (C2 (.d (bo (!v1))) W W (A1<|cc W h (fun c1 h=> ?_)<|fun c1 h=> ?_)))
 refine B3<|sv W<|A1<|B7 ?_
 cases h
 exact A9 (.inr W) (C0 (B8 W) C6) (.refl _)
 refine B0<|B3<|sq W<|sl W (gq W) W (sq W<|sl W A2 W<|sv W<|sv W<|gp W (M4 W) (fun _=>W) (gt W (vl W (gq W) W)<|gp W (M4 W) (fun _=>W) (gt W (vl W A2 W)<|gt W (fun w5=>(R1 (A5 w5) (A5 w5) W))<|sa W W W<|sv W<|gp W (M4 W) (fun _=>W) (gt W (vl W (gq W) W)<|gp W (M4 W) (fun _=>W) (gt W (vl W A2 W)<|gt W (fun w10=>(R1 (A5 w10) (A5 w10) W))<|sa W W W<|sv W<|gp W (M4 W) (fun _=>W) (gt W (vl W (gq W) W)<|gp W (M4 W) (fun _=>W) (gt W (vl W A2 W)<|gt W (fun w15=>(R1 (A5 w15) (A5 w15) W))<|sa W W W<|sv W<|gp W (M4 W) (fun _=>W) (gt W (vl W (gq W) W)<|gp W (M4 W) (fun _=>W) (gt W (vl W A2 W) ?_)))))))))
 refine P5 _ (.d (bo (p1.Obey==p2.Obey))) W (M4 W) (fun w20=>(by simp only [A5 w20];rfl)) ?_
 refine sa W W W<|sv W<|gp W (M4 W) (fun _=>W) (gt W (vl W (gq W) W)<|gp W (M4 W) (fun _=>W) (gt W (vl W A2 W) ?_))
 refine P5 _ (.d (bo (p1.Gone==p2.Gone))) W (M4 W) (fun w25=>(by simp only [A5 w25];rfl)) ?_
 refine sa W W W<|sv W<|A1<|B7 ?_
 cases h
 exact A9 (.inr W) (C0 (B8 W) C6) (.refl _)
def G1 [Lp](p1:(List Agent))(p2:(List Agent))(x1:Int):Option (Stp Int (Sum Unit Bool)):=
  cond (decide (x1< (p1.length:Int))) ((F2 p1 x1).bind fun v1=>(F2 p2 x1).bind fun v2=>(Ef v1 v2).bind fun v3=>cond (!v3) (some (.out (.inr false))) (some (.go (J6 (x1+1))))) (some (.out (.inl ())))
def K0 [Lp](p1:(List Agent))(p2:(List Agent)):Option Bool:=
  cond ((p1.length:Int) !=(p2.length:Int)) (some false) (thenS (loop (G1 p1 p2) 0) (fun _=>some true) (fun r=>some r))
theorem X7(p1 p2 r)(h:K0 p1 p2=some r):PCall prog 118 [(.list (List.map C4 p1)),(.list (List.map C4 p2)),(.fn (.func 119) [] [])] (bo r):=by
 refine C7 (fk func118 ntmps118 m0 (by with_unfolding_all rfl)) (nl W) ?_
 unfold K0 at h
 refine B6 (s0:=⟨T [(0,(.d _)),(1,(.d _)),(2,(.d _))],G []⟩) (G0 W W) ?_
 refine B3<|sv W<|A1<|A6<|B3<|sv W<|sd W (E3 W)<|sv W<|sd W (E3 W)<|sv W<|A1<|cc W h (fun c1 h=> ?_)<|fun c1 h=> ?_
 refine B3<|sv W<|A1<|B7 ?_
 cases h
 exact A9 (.inr W) (C0 (B8 W) C6) (.refl _)
 refine B0<|A6<|B3<|sv W<|sd W (E3 W)<|sv W<|A1<|js h fun z1 hz1 h=>D3 (fun s=> ∃(y1:Unit) (g1:Unit),z1= .inl y1∧Sb ⟨T [],G []⟩ s) ?_ ?_
 refine A7<|D7 (G1 p1 p2) (fun (x1:Int) (g2:Unit)=>⟨T [(1,(dl C4 p2)),(2,(.d (.fn (.func 119) [] []))),(15,(dl C4 p1)),(16,(di (p1.length:Int))),(17,(di x1))],G []⟩) 0 () _ hz1 (G0 W W) ?_
 intro x1 g2 z2 hz2 ez2
 unfold G1 at hz2
 refine B3<|sv W<|A1<|A6<|cc W hz2 (fun c2 hz2=> ?_)<|fun c2 hz2=> ?_
 refine B0<|A6<|A7<|B3<|sv W<|bs hz2 fun v1 hv1 hz2=>sd W (E7 W W hv1 W)<|sd W (E6 W hv1 W W)<|sm W<|sv W<|T6 W A2 (M5 v1) W (A1<|B3<|sv W<|sv W<|bs hz2 fun v2 hv2 hz2=>sd W (E7 W W hv2 W)<|sd W (E6 W hv2 W W)<|sm W<|T6 W A2 (M5 v2) W (A1<|B3<|sv W<|sd W (C1 W (gq W) W W)<|sd W (C1 W A2 W W)<|bs hz2 fun v3 hv3 hz2=>B9 W W A3 (Va _ _ _ hv3) (.inl W) (C2 (.d (bo (!v3))) W W (A1<|cc W hz2 (fun c3 hz2=> ?_)<|fun c3 hz2=> ?_))))
 refine B3<|sv W<|A1<|B7 ?_
 cases hz2
 obtain rfl:=ez2 _ rfl
 refine ⟨nofun,G4 ?_⟩
 rw [bI]at h
 cases h
 exact A9 (.inr W) (C0 (B8 W) C6) (.refl _)
 refine B0<|E5<|C3<|sv W<|sv W<|A1<|E0 ?_
 cases hz2
 exact ⟨W,(),(G0 W W)⟩
 refine D1 W ?_
 cases hz2
 obtain rfl:=ez2 _ rfl
 refine ⟨nofun,C5 W<|U6 ?_⟩
 exact ⟨_,(),W,(G0 W W)⟩
 rintro _ ⟨y1,g1,rfl,q1⟩
 rw [bH]at h
 refine B6 q1<|B3<|sv W<|A1<|B7 ?_
 cases h
 exact A9 (.inr W) (C0 (B8 W) C6) (.refl _)
def T7 (p1:(List Stay))(p2:(List Stay))(x1:Int):Option (Stp Int (Sum Unit Bool)):=
  cond (decide (x1< (p1.length:Int))) ((F2 p1 x1).bind fun v1=>(F2 p2 x1).bind fun v2=>cond (!(v1.Agent_==v2.Agent_&& (v1.Zone_==v2.Zone_&& (v1.Since==v2.Since&& (v1.Rank==v2.Rank&&true))))) (some (.out (.inr false))) (some (.go (J6 (x1+1))))) (some (.out (.inl ())))
def Af [Lp](p1:(List Stay))(p2:(List Stay)):Option Bool:=
  cond ((p1.length:Int) !=(p2.length:Int)) (some false) (thenS (loop (T7 p1 p2) 0) (fun _=>some true) (fun r=>some r))
theorem Od(p1 p2 r)(h:Af p1 p2=some r):PCall prog 120 [(.list (List.map F8 p1)),(.list (List.map F8 p2))] (bo r):=by
 refine C7 (fk func120 ntmps120 m0 (by with_unfolding_all rfl)) (nl W) ?_
 unfold Af at h
 refine B6 (s0:=⟨T [(0,(.d _)),(1,(.d _))],G []⟩) (G0 W W) ?_
 refine B3<|sv W<|A1<|A6<|B3<|sv W<|sd W (E3 W)<|sv W<|sd W (E3 W)<|sv W<|A1<|cc W h (fun c1 h=> ?_)<|fun c1 h=> ?_
 refine B3<|sv W<|A1<|B7 ?_
 cases h
 exact A9 (.inr W) (C0 (B8 W) C6) (.refl _)
 refine B0<|A6<|B3<|sv W<|sd W (E3 W)<|sv W<|A1<|js h fun z1 hz1 h=>D3 (fun s=> ∃(y1:Unit) (g1:Unit),z1= .inl y1∧Sb ⟨T [],G []⟩ s) ?_ ?_
 refine A7<|D7 (T7 p1 p2) (fun (x1:Int) (g2:Unit)=>⟨T [(0,(dl F8 p1)),(1,(dl F8 p2)),(12,(di (p1.length:Int))),(13,(di x1))],G []⟩) 0 () _ hz1 (G0 W W) ?_
 intro x1 g2 z2 hz2 ez2
 unfold T7 at hz2
 refine B3<|sv W<|A1<|A6<|cc W hz2 (fun c2 hz2=> ?_)<|fun c2 hz2=> ?_
 refine B0<|A6<|A7<|B3<|sv W<|sv W<|A1<|A6<|K6 W<|sv W<|sv W<|bs hz2 fun v1 hv1 hz2=>sd W (E7 W W hv1 W)<|sd W (E6 W hv1 W W)<|sv W<|sv W<|bs hz2 fun v2 hv2 hz2=>sd W (E7 W W hv2 W)<|sd W (E6 W hv2 W W)<|C2 (.d (bo (!(v1.Agent_==v2.Agent_&& (v1.Zone_==v2.Zone_&& (v1.Since==v2.Since&& (v1.Rank==v2.Rank&&true))))))) W W (A1<|cc W hz2 (fun c3 hz2=> ?_)<|fun c3 hz2=> ?_)
 refine B3<|sv W<|A1<|B7 ?_
 cases hz2
 obtain rfl:=ez2 _ rfl
 refine ⟨nofun,G4 ?_⟩
 rw [bI]at h
 cases h
 exact A9 (.inr W) (C0 (B8 W) C6) (.refl _)
 refine B0<|E5<|C3<|sv W<|sv W<|A1<|E0 ?_
 cases hz2
 exact ⟨W,(),(G0 W W)⟩
 refine D1 W ?_
 cases hz2
 obtain rfl:=ez2 _ rfl
 refine ⟨nofun,C5 W<|U6 ?_⟩
 exact ⟨_,(),W,(G0 W W)⟩
 rintro _ ⟨y1,g1,rfl,q1⟩
 rw [bH]at h
 refine B6 q1<|B3<|sv W<|A1<|B7 ?_
 cases h
 exact A9 (.inr W) (C0 (B8 W) C6) (.refl _)
def Jy [Lp](p1:State)(p2:State):Option Bool:=
  ((cond (p1.Tick==p2.Tick) (K0 p1.Agents p2.Agents) (some default))).bind fun v1=>((cond ((p1.Tick==p2.Tick)&&v1) (Af p1.In p2.In) (some default))).bind fun v2=>some (((p1.Tick==p2.Tick)&&v1)&&v2)
theorem Uk(p1 p2 r)(h:Jy p1 p2=some r):PCall prog 55 [(.agg (N9 p1)),(.agg (N9 p2))] (bo r):=by
 refine C7 (fk func55 ntmps55 m0 (by with_unfolding_all rfl)) (nl W) ?_
 unfold Jy at h
 refine B6 (s0:=⟨T [(0,(.d _)),(1,(.d _))],G []⟩) (G0 W W) ?_
 refine B3<|sm W<|sn W W<|sv W<|A1<|B3<|sq W<|sl W (gq W) W (sq W<|sl W A2 W<|sv W<|sv W<|gp W (M4 W) (fun _=>W) (gt W (vl W (gq W) W)<|gp W (M4 W) (fun _=>W) (gt W (vl W A2 W)<|bs h fun v1 hv1 h=> ?_)))
 refine N8 _ (bo v1) (M4 W) (fun w5=>⟨_,[(dl C4 p1.Agents),(dl C4 p2.Agents),(.d (.fn (.func 119) [] []))],_,_,(by simp only [A5 w5];rfl),W,A3,X7 _ _ _<|D8 w5 hv1,(.inl W)⟩) ?_
 refine sa W W W<|sv W<|gp W (M4 W) (fun _=>W) (gt W (vl W (gq W) W)<|gp W (M4 W) (fun _=>W) (gt W (vl W A2 W)<|bs h fun v2 hv2 h=> ?_))
 refine N8 _ (bo v2) (M4 W) (fun w10=>⟨_,[(dl F8 p1.In),(dl F8 p2.In)],_,_,(by simp only [A5 w10];rfl),W,A3,Od _ _ _<|D8 w10 hv2,(.inl W)⟩) ?_
 refine sa W W W<|sv W<|A1<|B7 ?_
 cases h
 exact A9 (.inr W) (C0 (B8 W) C6) (.refl _)
def Es (p1:State)(x1:(Int×State)):Option (Stp (Int×State) State):=
  cond (decide (x1.1< (p1.Agents.length:Int))) ((F2 p1.Agents x1.1).bind fun v2=>(Y4 ([]:List Int) v2.Route).bind fun v3=>(Y4 x1.2.Agents [(Agent.mk v3 v2.S v2.V v2.Len v2.Begin v2.Obey v2.Gone)]).bind fun v4=>some (.go ((J6 (x1.1+1)),(State.mk x1.2.Tick v4 x1.2.In)))) (some (.out x1.2))
def Nz [Lp](p1:State):Option State:=
  (Y4 ([]:List Stay) p1.In).bind fun v1=>(loop (Es p1) (0,(State.mk p1.Tick [] v1))).bind fun y1=>some y1
theorem CM(p1 r)(h:Nz p1=some r):PCall prog 23 [(.agg (N9 p1))] (.agg (N9 r)):=by
 refine C7 (fk func23 ntmps23 (fun r=>if r==7 then [1003]else []) (by with_unfolding_all rfl)) (nl W) ?_
 unfold Nz at h
 refine B6 (s0:=⟨T [(0,(.d _))],G []⟩) (G0 W W) ?_
 refine lr<|fun u1 _=>sm W<|sm W<|A1<|A6<|Kd fun u2 hu2=>N5 (.ptr _ _) W W (N5 (.d _) W (O8 W (gq W) W) (N5 (.ptr _ _) W W (N5 (.d _) W (O8 W (gq W) W) (bs h fun v1 hv1 h=>DP F8 p1.In _ (J9<|fun _=>W) W hv1 (Fc hu2) ?_))))
 refine N5 (W1 [(di p1.Tick),(.d .nilS),(oS v1 (10,u2))]) W (by generalize v1=x1;cases x1<;>rfl) ?_
 refine HO (.ptr _ _) (.box _ _) W W (Ke _ _ _ _ _ (S8 _) W W A2 (nl W) [(di p1.Tick),(.d .nilS),(oS v1 (10,u2))] W (Ua<|DQ (fun q=>⟨⟨by first|rfl|((generalize v1=l0;cases l0)<;>rfl),q⟩,⟨by first|rfl|((generalize v1=l0;cases l0)<;>rfl),q⟩⟩) ?_))
 refine A6<|B3<|sv W<|A1<|bs h fun y1 hy1 h=>D3 (fun s=> ∃g1:(Nat×Nat),Sb ⟨T [(2,(.ptr (2,u1) 0)),(3,(.ptr (3,u2) 0))],G [((2,u1),some<|.box 25 [(di 0),(.d .nilS),(.d .nilS)]),((3,u2),some<|.box 25 [(di y1.Tick),(oS y1.Agents (32,g1.1)),(oS y1.In (10,g1.2))]),((32,g1.1),oB 45 7 C4 y1.Agents),((10,g1.2),oB 127 4 F8 y1.In)]⟩ s) ?_ ?_
 refine A7<|D7 (Es p1) (fun (x1:(Int×State)) (g2:(Nat×Nat))=>⟨T [(1,(.ptr (1,u1) 0)),(2,(.ptr (2,u1) 0)),(3,(.ptr (3,u2) 0)),(4,(di x1.1))],G [((1,u1),some<|.box 25 (E1 p1)),((2,u1),some<|.box 25 [(di 0),(.d .nilS),(.d .nilS)]),((3,u2),some<|.box 25 [(di x1.2.Tick),(oS x1.2.Agents (32,g2.1)),(oS x1.2.In (10,g2.2))]),((32,g2.1),oB 45 7 C4 x1.2.Agents),((10,g2.2),oB 127 4 F8 x1.2.In)]⟩) (0,(State.mk p1.Tick [] v1)) (0,u2) _ hy1 (D0 (S5 W)<|sg W<|sg W<|A8 A2 (.of W)<|Y5<|B4 (gq W) trivial) ?_
 intro x1 g2 z1 hz1 ez1
 unfold Es at hz1
 refine A6<|B3<|sv W<|sq W<|sl W A2 W<|sd W (E3 W)<|sv W<|A1<|cc W hz1 (fun c1 hz1=> ?_)<|fun c1 hz1=> ?_
 refine B0<|A6<|A7<|lr<|fun u5 _=>sq W<|sl W A2 W<|sv W<|bs hz1 fun v2 hv2 hz1=>sd W (E7 W W hv2 W)<|sd W (E6 W hv2 W W)<|sm W<|T6 W A2 (M5 v2) W (A1<|lr<|fun u6 hu6=>sq W<|sl W A2 W<|bs hz1 fun v3 hv3 hz1=>OT A4 (26,u6) ([]:List Int) v2.Route _ (J9<|fun _=>W) W (Fc hu6) hv3 (Fc hu6) (sq W<|Fu _ _ _ _ _ (Mo _ _) W W (gq W) (nl W) ((M5 v2).set 0 (oS v3 (26,u6))) W (A1<|WG [(26,u6)] [(1,(.ptr (1,u1) 0)),(2,(.ptr (2,u1) 0)),(3,(.ptr (3,u2) 0)),(4,(di x1.1)),(5,(.ptr (5,u5) 0)),(12,(di x1.1)),(13,(.ptr (1,u1) 1)),(14,(dl C4 p1.Agents)),(15,(di (p1.Agents.length:Int))),(16,(.d (bo<|decide (x1.1< (p1.Agents.length:Int))))),(19,(.ptr (1,u1) 1)),(20,(dl C4 p1.Agents)),(21,(di x1.1)),(22,(.d (.lp (List.map C4 p1.Agents) (x1.1).toNat 0))),(23,(.d (.agg (C4 v2)))),(24,(.ptr (5,u5) 0)),(25,(dl A4 v2.Route)),(26,(dl A4 v3)),(27,(.ptr (5,u5) 0))] [((5,u5),some<|.box 45 ((M5 v2).set 0 (dl A4 v3))),((1,u1),some<|.box 25 (E1 p1)),((2,u1),some<|.box 25 [(di 0),(.d .nilS),(.d .nilS)]),((3,u2),some<|.box 25 [(di x1.2.Tick),(oS x1.2.Agents (32,g2.1)),(oS x1.2.In (10,g2.2))]),((32,g2.1),oB 45 7 C4 x1.2.Agents),((10,g2.2),oB 127 4 F8 x1.2.In)] ⟨P6 W,P6 W,P6 W,P6 W,P6 W,P6 W,P6 W,P6 W,P6 W,P6 W,P6 W,P6 W,P6 W,P6 W,P6 W,P6 W,P6 W,(SS (U8<|AP (.head _)<|gq W) U7),P6 W,trivial⟩ (MP A2 (Iv (Ky W) Nd) (.cons (SS (U8<|AP (.head _)<|gq W) U7) (.cons (P6 W) (.cons (P6 W) (.cons (P6 W) (.cons (P6 W) (.cons (P6 W) (.cons (P6 W) .nil))))))) (Xc (gq W) (Iv (Ky W) Nd) (Xc (gq W) (Iv (Ky W) Nd) (Xc (gq W) (Iv (Ky W) Nd) (KT (gq W) (Iv (Ky W) Nd) (KT (gq W) (Iv (Ky W) Nd) trivial)))))) (Ag fun u7 _=>sq W<|C2 (oS x1.2.Agents (32,g2.1)) W (O8 W (gq W) W) (sd W (C1 W A2 W W)<|C2 (dl C4 [(Agent.mk v3 v2.S v2.V v2.Len v2.Begin v2.Obey v2.Gone)]) W W (bs hz1 fun _ hv4 hz1=>P1 C4 (32,g2.1) x1.2.Agents (Agent.mk v3 v2.S v2.V v2.Len v2.Begin v2.Obey v2.Gone) [] _ (J9<|fun _=>W) W (gq W) hv4 (sq W<|T6 W (gq W) [(di x1.2.Tick),(.sl (32,u7)),(oS x1.2.In (10,g2.2))] W (A1<|E5<|C3<|sv W<|sv W<|sv W<|A1<|E0 ?_))))))))
 cases hz1
 exact ⟨W,(u7,g2.2),(D0 (S5 W)<|sg W<|sg W<|A8 A2 (.box (cv<|.cons (.of (Ap<|S7 hv4).symm) cw))<|U5 (gq W)<|B4 (gq W) trivial)⟩
 refine D1 W ?_
 cases hz1
 obtain rfl:=ez1 _ rfl
 refine ⟨nofun,C5 W<|U6 ?_⟩
 exact ⟨(g2.1,g2.2),(D0 (S5 W)<|sg W<|sg W<|B4 (gq W)<|B4 (gq W) trivial)⟩
 rintro _ ⟨g1,q1⟩
 refine B6 q1<|B3<|C2 (W1 [(di y1.Tick),(oS y1.Agents (32,g1.1)),(oS y1.In (10,g1.2))]) W (C1 W (gq W) W W) (Fu _ _ _ _ _ (S8 _) W W A2 (nl W) [(di y1.Tick),(oS y1.Agents (32,g1.1)),(oS y1.In (10,g1.2))] W (A1<|B7 ?_))
 cases h
 exact A9 (.inr W) (C0 (K7 W A2 (nl W) W)<|Iu<|rD<|D4 (U8<|gq W)<|D4 (U8<|gq W) E4) (.agg (ca W<|.cons ⟨U7,W⟩ (.cons ⟨U7,W⟩ .nil)))
def Gi [Lp](p1:State)(p2:State)(p3:ByteArray):Option Bool:=
  (Ig p1).bind fun v1=>((cond (!(!v1)) (Ig p2) (some default))).bind fun v2=>cond (((!v1)||(!v2))||(decide ((p3.size:Int)>3000))) ((Dr).bind fun v3=>some v3) ((Jw p3).bind fun v4=>(Jx p3).bind fun v5=>((cond (v4.2==v5.2) (Hy v4.1 v5.1) (some default))).bind fun v6=>((cond ((v4.2==v5.2)&&v6) (Kt p1) (some default))).bind fun v7=>((cond ((v4.2==v5.2)&&v6) (Ku p1) (some default))).bind fun v8=>((cond (((v4.2==v5.2)&&v6)&& (v7.toList==v8.toList)) (Jy p1 p2) (some default))).bind fun v9=>((cond (((v4.2==v5.2)&&v6)&& (v7.toList==v8.toList)) (Hy p1 p2) (some default))).bind fun v10=>((cond ((((v4.2==v5.2)&&v6)&& (v7.toList==v8.toList))&& (v9==v10)) (Nz p1) (some default))).bind fun v11=>((cond ((((v4.2==v5.2)&&v6)&& (v7.toList==v8.toList))&& (v9==v10)) (Jy p1 v11) (some default))).bind fun v12=>((cond (((((v4.2==v5.2)&&v6)&& (v7.toList==v8.toList))&& (v9==v10))&&v12) (Ci p1) (some default))).bind fun v13=>((cond (((((v4.2==v5.2)&&v6)&& (v7.toList==v8.toList))&& (v9==v10))&&v12) (Hy v13 p1) (some default))).bind fun v14=>((cond ((((((v4.2==v5.2)&&v6)&& (v7.toList==v8.toList))&& (v9==v10))&&v12)&&v14) (Dr) (some default))).bind fun v15=>some (((((((v4.2==v5.2)&&v6)&& (v7.toList==v8.toList))&& (v9==v10))&&v12)&&v14)&&v15))
theorem Tv(p1 p2 p3 r)(h:Gi p1 p2 p3=some r):PCall prog 14 [(.agg (N9 p1)),(.agg (N9 p2)),(Al p3)] (bo r):=by
 refine C7 (fk func14 ntmps14 m0 (by with_unfolding_all rfl)) (nl W) ?_
 unfold Gi at h
 refine B6 (s0:=⟨T [(0,(.d _)),(1,(.d _)),(2,(.d _))],G []⟩) (G0 W W) ?_
 refine B3<|sm W<|sn W W<|sv W<|A1<|A6<|B3<|sd W (C1 W (gq W) W W)<|bs h fun v1 hv1 h=>B9 W W A3 (Sj _ _ hv1) (.inl W) (C2 (.d (bo (!v1))) W W (sv W<|gf W (fun _=>(C1 W A2 W W))<|bs h fun v2 hv2 h=> ?_))
 refine N8 _ (bo v2) (N7 W) (fun w2=>⟨_,[(.d (.agg (N9 p2)))],_,_,(by simp only [A5 w2];rfl),W,A3,Sj _ _<|D8 w2 hv2,(.inl W)⟩) ?_
 refine P5 _ (.d (bo (!v2))) W (N7 W) (fun w3=>(by simp only [A5 w3];rfl)) ?_
 refine sd W (U2 W W<|fun hc=>A5<|N2 hc)<|sv W<|gf W (fun _=>W)<|gf W (fun w5=>(Sg<|A5 w5))<|gf W (vb W W W)<|sd W (U2 W W<|fun hc=>A5<|N2 hc)<|A1<|cc W h (fun c1 h=> ?_)<|fun c1 h=> ?_
 refine B3<|bs h fun _ hv3 h=>B9 W W A3 (Sv _ hv3) (.inl W) (sv W<|A1<|B7 ?_)
 cases h
 exact A9 (.inr W) (C0 (B8 W) C6) (.refl _)
 refine B0<|B3<|sv W<|bs h fun v4 hv4 h=>B9 W W A3 (CK _ _ hv4) (.inl W) (sv W<|sv W<|sv W<|sm W<|T6 W A2 (E1 v4.1) W (sv W<|A1<|B3<|sv W<|bs h fun v5 hv5 h=>B9 W W A3 (CL _ _ hv5) (.inl W) (sv W<|sv W<|sv W<|sm W<|T6 W A2 (E1 v5.1) W (sv W<|A1<|A6<|K6 W<|sv W<|sv W<|sv W<|sv W<|gt W (fun _=>(C1 W (gq W) W W))<|gt W (fun _=>(C1 W A2 W W))<|bs h fun v6 hv6 h=> ?_))))
 refine N8 _ (bo v6) (M4 W) (fun w9=>⟨_,[(.d (.agg (N9 v4.1))),(.d (.agg (N9 v5.1)))],_,_,(by simp only [A5 w9];rfl),W,A3,Pg _ _ _<|D8 w9 hv6,(.inl W)⟩) ?_
 refine sa W W W<|sv W<|gt W (fun _=>(C1 W (gq W) W W))<|bs h fun v7 hv7 h=> ?_
 refine N8 _ (Al v7) (M4 W) (fun w11=>⟨_,[(.d (.agg (N9 p1)))],_,_,(by simp only [A5 w11];rfl),W,A3,BE _ _<|D8 w11 hv7,(.inl W)⟩) ?_
 refine gt W (fun _=>(C1 W (gq W) W W))<|bs h fun v8 hv8 h=> ?_
 refine N8 _ (Al v8) (M4 W) (fun w13=>⟨_,[(.d (.agg (N9 p1)))],_,_,(by simp only [A5 w13];rfl),W,A3,BF _ _<|D8 w13 hv8,(.inl W)⟩) ?_
 refine gt W (fun w14=>(SW (A5 w14)<|A5 w14))<|sa W W W<|sv W<|gt W (fun _=>(C1 W (gq W) W W))<|gt W (fun _=>(C1 W (gq W) W W))<|bs h fun v9 hv9 h=> ?_
 refine N8 _ (bo v9) (M4 W) (fun w17=>⟨_,[(.d (.agg (N9 p1))),(.d (.agg (N9 p2)))],_,_,(by simp only [A5 w17];rfl),W,A3,Uk _ _ _<|D8 w17 hv9,(.inl W)⟩) ?_
 refine gt W (fun _=>(C1 W (gq W) W W))<|gt W (fun _=>(C1 W (gq W) W W))<|bs h fun v10 hv10 h=> ?_
 refine N8 _ (bo v10) (M4 W) (fun w20=>⟨_,[(.d (.agg (N9 p1))),(.d (.agg (N9 p2)))],_,_,(by simp only [A5 w20];rfl),W,A3,Pg _ _ _<|D8 w20 hv10,(.inl W)⟩) ?_
 refine P5 _ (.d (bo (v9==v10))) W (M4 W) (fun w21=>(by simp only [A5 w21];rfl)) ?_
 refine sa W W W<|sv W<|gt W (fun _=>(C1 W (gq W) W W))<|gt W (fun _=>(C1 W (gq W) W W))<|bs h fun v11 hv11 h=> ?_
 refine N8 _ (.agg (N9 v11)) (M4 W) (fun w24=>⟨_,[(.d (.agg (N9 p1)))],_,_,(by simp only [A5 w24];rfl),W,A3,CM _ _<|D8 w24 hv11,(.inl W)⟩) ?_
 refine bs h fun v12 hv12 h=> ?_
 refine N8 _ (bo v12) (M4 W) (fun w25=>⟨_,[(.d (.agg (N9 p1))),(.d (.agg (N9 v11)))],_,_,(by simp only [A5 w25];rfl),W,A3,Uk _ _ _<|D8 w25 hv12,(.inl W)⟩) ?_
 refine sa W W W<|sv W<|gt W (fun _=>(C1 W (gq W) W W))<|bs h fun v13 hv13 h=> ?_
 refine N8 _ (.agg (N9 v13)) (M4 W) (fun w27=>⟨_,[(.d (.agg (N9 p1)))],_,_,(by simp only [A5 w27];rfl),W,A3,Ox _ _<|D8 w27 hv13,(.inl W)⟩) ?_
 refine gt W (fun _=>(C1 W (gq W) W W))<|bs h fun v14 hv14 h=> ?_
 refine N8 _ (bo v14) (M4 W) (fun w29=>⟨_,[(.d (.agg (N9 v13))),(.d (.agg (N9 p1)))],_,_,(by simp only [A5 w29];rfl),W,A3,Pg _ _ _<|D8 w29 hv14,(.inl W)⟩) ?_
 refine sa W W W<|sv W<|bs h fun v15 hv15 h=>N8 _ (bo v15) (M4 W) (fun w30=>⟨_,_,_,_,W,W,A3,Sv _<|D8 w30 hv15,(.inl W)⟩) (sa W W W<|sv W<|A1<|B7 ?_)
 cases h
 exact A9 (.inr W) (C0 (B8 W) C6) (.refl _)
end
end Go.Abs.World
