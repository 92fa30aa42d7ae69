/-
  The functions, part 5.
-/
import Derived.Test.YtgjdiioennhoeaaGreatFns4
set_option maxRecDepth 20000
set_option maxHeartbeats 4000000
set_option linter.unusedVariables false
namespace Go.Abs.World
noncomputable section
open Go Go.Abs Go.Proofs Tryz
attribute [local irreducible] K1 Ly Bt
def Df [Lp](p4:(List Int))(v4:Lane)(v5:Agent)(v8:(WorldSpan×Bool))(x3:(Int×Int×Scan)):Option (Stp (Int×Int×Scan) (Int×Scan)):=
  cond v8.2 ((Hm v4.Curve_ x3.1).bind fun v9=>(Z2 50 x3.2.1 p4).bind fun v10=>(Z2 50 v10.2 p4).bind fun v11=>(Z2 5 v11.2 p4).bind fun v12=>(Fk x3.2.2.Points [(Point.mk (C9 (v9.X+v10.1)) (C9 (v9.Y+v11.1)) (C9 (v5.V+v12.1)))]).bind fun v13=>cond (x3.1==v8.1.to) (some (.out (v12.2,(Scan.mk x3.2.2.Stamp x3.2.2.Seen v13)))) (some (.go ((He false (C9 (x3.1+500)) v8.1.to),v12.2,(Scan.mk x3.2.2.Stamp x3.2.2.Seen v13))))) (some (.out (x3.2.1,x3.2.2)))
def Z3 [Lp](p1:Map)(p2:State)(p4:(List Int))(v3:Span)(v4:Lane)(x2:(Int×Int×Scan)):Option (Stp (Int×Int×Scan) (Int×Scan)):=
  cond (decide (x2.1< (p2.Agents.length:Int))) ((C8 p2.Agents x2.1).bind fun v5=>((cond (!(x2.1==0)) (Ce p2 x2.1) (some default))).bind fun v6=>cond ((x2.1==0)||(!v6)) (some (.go ((C9 (x2.1+1)),x2.2.1,x2.2.2))) ((Cw p1 v5).bind fun v7=>(Pq v7 v3).bind fun v8=>(loop (Df p4 v4 v5 v8) (v8.1.from_,x2.2.1,x2.2.2)).bind fun y3=>some (.go ((C9 (x2.1+1)),y3.1,y3.2)))) (some (.out (x2.2.1,x2.2.2)))
def Dg [Lp](p1:Map)(p2:State)(p4:(List Int))(v2:(List Span))(x1:(Int×Int×Scan)):Option (Stp (Int×Int×Scan) Scan):=
  cond (decide (x1.1< (v2.length:Int))) ((C8 v2 x1.1).bind fun v3=>(C8 p1.Lanes v3.Lane_).bind fun v4=>(loop (Z3 p1 p2 p4 v3 v4) (0,x1.2.1,x1.2.2)).bind fun y2=>some (.go ((C9 (x1.1+1)),y2.1,y2.2))) (some (.out x1.2.2))
def Jn [Lp](p1:Map)(p2:State)(p3:Int)(p4:(List Int)):Option Scan:=
  (Oi p1 p2 p3).bind fun v1=>cond (!v1) (some (Scan.mk 0 [] [])) ((Gx p1 p2 p3).bind fun v2=>(loop (Dg p1 p2 p4 v2) (0,0,(Scan.mk p2.Tick v2 []))).bind fun y1=>some y1)
theorem JA(p1 p2 p3 p4 r)(h:Jn p1 p2 p3 p4=some r):PCall prog 61 [(.agg (O8 p1)),(.agg (U5 p2)),(i64 p3),(.list (List.map A5 p4))] (.agg (FN r)):=by
 refine C0 (fk func61 ntmps61 (fun r=>if r==19 then [1019003]else if r==20 then [1020003]else if r==21 then [1021003]else if r==22 then [1003]else []) (by with_unfolding_all rfl)) (nl W) ?_
 unfold Jn at h
 refine B5 (s0:=⟨T [(0,(.d _)),(1,(.d _)),(2,(.d _)),(3,(.d _))],G []⟩) (E3 W W) ?_
 refine lr<|fun u1 _=>sm W<|sm W<|sn W W<|sm W<|A1<|A4<|B1<|sd W (A6 W (gq W) W W)<|sd W (A6 W (gq W) W W)<|sv W<|bs h fun v1 hv1 h=>B0 W W A2 (AD _ _ _ _ hv1) (.inl W) (B9 (.d (bo (!v1))) W W (A1<|cc W h (fun c1 h=> ?_)<|fun c1 h=> ?_))
 refine B1<|sv W<|Q4 W G_hit [(di 0),(.d .nilS),(.d .nilS)] W (A1<|B2 ?_)
 cases h
 exact A7 (.inr W) (B4 (G5 W G_hit (nl W) W) B8) (.agg (ca W<|.cons ⟨DLe.nil,W⟩ (.cons ⟨DLe.nil,W⟩ .nil)))
 refine A8<|lr<|fun u4 _=>sm W<|Q4 W G_hit [(di 0)] W (A1<|B1<|B9 (.fn _ _ _) W W (B9 (.fn _ _ _) W W (A1<|A4<|Fj W fun u6 _=>sq W<|sl W (gq W) W (sd W (A6 W (gq W) W W)<|sd W (A6 W (gq W) W W)<|sv W<|bs h fun v2 hv2 h=>B0 W W A2 (AF _ _ _ _ hv2) (.inl W) (sv W<|sm W<|Q4 W G_hit [(di p2.Tick),(dl J2 v2),(.d .nilS)] W (A1<|A4<|B1<|sq W<|sl W G_hit W<|sd W (D0 W)<|sv W<|A1<|bs h fun y1 hy1 h=>D3 (fun s=> ∃g1:Nat,Sb ⟨T [(8,(.ptr (8,u1) 0)),(11,(.ptr (11,u6) 0))],G [((8,u1),some<|.box 99 [(di 0),(.d .nilS),(.d .nilS)]),((11,u6),some<|.box 99 [(di y1.Stamp),(dl J2 y1.Seen),(oS y1.Points (107,g1))]),((107,g1),oB 107 3 Ip y1.Points)]⟩ s) ?_ ?_))))))
 refine A9<|D7 (Dg p1 p2 p4 v2) (fun (x1:(Int×Int×Scan)) (g2:Nat)=>⟨T [(4,(.ptr (4,u1) 0)),(5,(.ptr (5,u1) 0)),(8,(.ptr (8,u1) 0)),(10,(.fn (.func 128) [] [(.ptr (9,u4) 0),(.ptr (7,u1) 0)])),(11,(.ptr (11,u6) 0)),(37,(dl J2 v2)),(38,(di (v2.length:Int))),(39,(di x1.1))],G [((4,u1),some<|.box 33 (K7 p1)),((5,u1),some<|.box 25 (J8 p2)),((8,u1),some<|.box 99 [(di 0),(.d .nilS),(.d .nilS)]),((9,u4),some<|.box 3 [(di x1.2.1)]),((7,u1),some<|.box 48 [(dl A5 p4)]),((11,u6),some<|.box 99 [(di x1.2.2.Stamp),(dl J2 x1.2.2.Seen),(oS x1.2.2.Points (107,g2))]),((107,g2),oB 107 3 Ip x1.2.2.Points)]⟩) (0,0,(Scan.mk p2.Tick v2 [])) 0 _ hy1 (D2 (X5 W)<|sg W<|sg W<|sg W<|sg W<|sg W<|B6 G_hit (.of W)<|O9 trivial) ?_
 intro x1 g2 z1 hz1 ez1
 unfold Dg at hz1
 refine B1<|sv W<|A1<|A4<|cc W hz1 (fun c2 hz1=> ?_)<|fun c2 hz1=> ?_
 refine A8<|A4<|A9<|lr<|fun u9 _=>bs hz1 fun v3 hv3 hz1=>sd W (C5 W W hv3 W)<|sd W (C7 W hv3 W W)<|sm W<|Q4 W G_hit (Pj v3) W (A1<|lr<|fun u10 _=>sq W<|sl W (gq W) W (sq W<|sl W G_hit W<|bs hz1 fun v4 hv4 hz1=>sd W (C5 W W hv4 W)<|sv W<|sd W (C7 W hv4 W W)<|sm W<|Q4 W G_hit [(dl Q3 v4.Curve_.Pts)] W (A1<|B1<|sq W<|sl W (gq W) W (sd W (D0 W)<|sv W<|A1<|bs hz1 fun y2 hy2 hz1=>D3 (fun s=> ∃g3:Nat,Sb ⟨T [(4,(.ptr (4,u1) 0)),(5,(.ptr (5,u1) 0)),(8,(.ptr (8,u1) 0)),(10,(.fn (.func 128) [] [(.ptr (9,u4) 0),(.ptr (7,u1) 0)])),(11,(.ptr (11,u6) 0)),(37,(dl J2 v2)),(38,(di (v2.length:Int))),(39,(di x1.1))],G [((4,u1),some<|.box 33 (K7 p1)),((5,u1),some<|.box 25 (J8 p2)),((8,u1),some<|.box 99 [(di 0),(.d .nilS),(.d .nilS)]),((9,u4),some<|.box 3 [(di y2.1)]),((7,u1),some<|.box 48 [(dl A5 p4)]),((11,u6),some<|.box 99 [(di y2.2.Stamp),(dl J2 y2.2.Seen),(oS y2.2.Points (107,g3))]),((107,g3),oB 107 3 Ip y2.2.Points)]⟩ s) ?_ ?_))))
 refine A9<|D7 (Z3 p1 p2 p4 v3 v4) (fun (x2:(Int×Int×Scan)) (g4:Nat)=>⟨T [(4,(.ptr (4,u1) 0)),(5,(.ptr (5,u1) 0)),(8,(.ptr (8,u1) 0)),(10,(.fn (.func 128) [] [(.ptr (9,u4) 0),(.ptr (7,u1) 0)])),(11,(.ptr (11,u6) 0)),(13,(.ptr (13,u9) 0)),(14,(.ptr (14,u10) 0)),(37,(dl J2 v2)),(38,(di (v2.length:Int))),(39,(di x1.1)),(51,(dl E4 p2.Agents)),(52,(di (p2.Agents.length:Int))),(53,(di x2.1))],G [((4,u1),some<|.box 33 (K7 p1)),((5,u1),some<|.box 25 (J8 p2)),((8,u1),some<|.box 99 [(di 0),(.d .nilS),(.d .nilS)]),((9,u4),some<|.box 3 [(di x2.2.1)]),((7,u1),some<|.box 48 [(dl A5 p4)]),((11,u6),some<|.box 99 [(di x2.2.2.Stamp),(dl J2 x2.2.2.Seen),(oS x2.2.2.Points (107,g4))]),((13,u9),some<|.box 93 (Pj v3)),((14,u10),some<|.box 61 [(dl Q3 v4.Curve_.Pts)]),((107,g4),oB 107 3 Ip x2.2.2.Points)]⟩) (0,x1.2.1,x1.2.2) g2 _ hy2 (D2 (X5 W)<|sg W<|sg W<|sg W<|sg W<|sg W<|sg W<|sg W<|B6 G_hit (.of W)<|B7 (gq W) trivial) ?_
 intro x2 g4 z2 hz2 ez2
 unfold Z3 at hz2
 refine B1<|sv W<|A1<|A4<|cc W hz2 (fun c3 hz2=> ?_)<|fun c3 hz2=> ?_
 refine A8<|A4<|A9<|lr<|fun u13 _=>sv W<|bs hz2 fun v5 hv5 hz2=>sd W (C5 W W hv5 W)<|sd W (C7 W hv5 W W)<|sm W<|sv W<|Q4 W G_hit (W9 v5) W (A1<|A4<|B1<|sv W<|sv W<|sv W<|gf W (fun _=>(A6 W (gq W) W W))<|gf W (fun _=>W)<|bs hz2 fun v6 hv6 hz2=> ?_)
 refine I9 _ (bo v6) (H8 W) (fun w3=>⟨_,[(.d (.agg (U5 p2))),(di x2.1)],_,_,(by simp only [A3 w3];rfl),W,A2,Fo _ _ _<|C2 w3 hv6,(.inl W)⟩) ?_
 refine M5 _ (.d (bo (!v6))) W (H8 W) (fun w4=>(by simp only [A3 w4];rfl)) ?_
 refine sd W (L8 W W<|fun hc=>A3<|G0 hc)<|A1<|cc W hz2 (fun c4 hz2=> ?_)<|fun c4 hz2=> ?_
 refine Mx W<|C1<|sv W<|sv W<|A1<|D6 ?_
 cases hz2
 exact ⟨W,g4,(D2 (X5 W)<|sg W<|sg W<|sg W<|sg W<|sg W<|sg W<|sg W<|sg W<|B7 (gq W) trivial)⟩
 refine A8<|A4<|Fj W fun u16 _=>sd W (A6 W (gq W) W W)<|sd W (A6 W G_hit W W)<|bs hz2 fun _ hv7 hz2=>B0 W W A2 (Ou _ _ _ hv7) (.inl W) (sd W (A6 W (gq W) W W)<|bs hz2 fun v8 hv8 hz2=>B0 W W A2 (Yn _ _ _ hv8) (.inl W) (sv W<|sv W<|sv W<|sm W<|Q4 W G_hit [(di v8.1.from_),(di v8.1.to)] W (sv W<|A1<|B1<|sq W<|sl W G_hit W<|sv W<|A1<|bs hz2 fun y3 hy3 hz2=>D3 (fun s=> ∃g5:Nat,Sb ⟨T [(4,(.ptr (4,u1) 0)),(5,(.ptr (5,u1) 0)),(8,(.ptr (8,u1) 0)),(10,(.fn (.func 128) [] [(.ptr (9,u4) 0),(.ptr (7,u1) 0)])),(11,(.ptr (11,u6) 0)),(13,(.ptr (13,u9) 0)),(14,(.ptr (14,u10) 0)),(37,(dl J2 v2)),(38,(di (v2.length:Int))),(39,(di x1.1)),(51,(dl E4 p2.Agents)),(52,(di (p2.Agents.length:Int))),(53,(di x2.1))],G [((4,u1),some<|.box 33 (K7 p1)),((5,u1),some<|.box 25 (J8 p2)),((8,u1),some<|.box 99 [(di 0),(.d .nilS),(.d .nilS)]),((9,u4),some<|.box 3 [(di y3.1)]),((7,u1),some<|.box 48 [(dl A5 p4)]),((11,u6),some<|.box 99 [(di y3.2.Stamp),(dl J2 y3.2.Seen),(oS y3.2.Points (107,g5))]),((13,u9),some<|.box 93 (Pj v3)),((14,u10),some<|.box 61 [(dl Q3 v4.Curve_.Pts)]),((107,g5),oB 107 3 Ip y3.2.Points)]⟩ s) ?_ ?_)))
 refine A9<|D7 (Df p4 v4 v5 v8) (fun (x3:(Int×Int×Scan)) (g6:Nat)=>⟨T [(4,(.ptr (4,u1) 0)),(5,(.ptr (5,u1) 0)),(8,(.ptr (8,u1) 0)),(10,(.fn (.func 128) [] [(.ptr (9,u4) 0),(.ptr (7,u1) 0)])),(11,(.ptr (11,u6) 0)),(13,(.ptr (13,u9) 0)),(14,(.ptr (14,u10) 0)),(16,(.ptr (16,u13) 0)),(17,(.ptr (17,u16) 0)),(18,(.d (bo v8.2))),(19,(di x3.1)),(37,(dl J2 v2)),(38,(di (v2.length:Int))),(39,(di x1.1)),(51,(dl E4 p2.Agents)),(52,(di (p2.Agents.length:Int))),(53,(di x2.1))],G [((4,u1),some<|.box 33 (K7 p1)),((5,u1),some<|.box 25 (J8 p2)),((8,u1),some<|.box 99 [(di 0),(.d .nilS),(.d .nilS)]),((9,u4),some<|.box 3 [(di x3.2.1)]),((7,u1),some<|.box 48 [(dl A5 p4)]),((11,u6),some<|.box 99 [(di x3.2.2.Stamp),(dl J2 x3.2.2.Seen),(oS x3.2.2.Points (107,g6))]),((13,u9),some<|.box 93 (Pj v3)),((14,u10),some<|.box 61 [(dl Q3 v4.Curve_.Pts)]),((16,u13),some<|.box 45 (W9 v5)),((17,u16),some<|.box 191 [(di v8.1.from_),(di v8.1.to)]),((107,g6),oB 107 3 Ip x3.2.2.Points)]⟩) (v8.1.from_,x2.2.1,x2.2.2) g4 _ hy3 (D2 (X5 W)<|sg W<|sg W<|sg W<|sg W<|sg W<|sg W<|sg W<|sg W<|sg W<|B6 G_hit (.of W)<|B7 (gq W) trivial) ?_
 intro x3 g6 z3 hz3 ez3
 unfold Df at hz3
 refine A4<|B1<|sv W<|A1<|cc W hz3 (fun c5 hz3=> ?_)<|fun c5 hz3=> ?_
 refine A8<|A4<|A9<|B1<|sd W (A6 W (gq W) W W)<|sv W<|bs hz3 fun v9 hv9 hz3=>B0 W W A2 (Tg _ _ _ hv9) (.inl W) (sm W<|Q4 W G_hit [(di v9.X),(di v9.Y)] W (A1<|A4<|Qv fun _ _=>Q0 (.ptr _ _) W W (Q0 (.d _) W (N8 W G_hit W) (Q0 (.fn _ _ _) W W (bs hz3 fun v10 hv10 hz3=>cC (v:= .d (i64 v10.1)) (us:= [(9,u4),(7,u1)]) (EI (Jm _ _ _ _ hv10) [(9,u4),(7,u1)] [(9,u4),(7,u1)] _ (((7,u1),some<|.box 48 [(dl A5 p4)])::(((9,u4),some<|.box 3 [(di v10.2)])::_)) W Is (R4 Xy<|R4 (AZ (C4 W<|C4 W<|C4 W<|C4 W<|C4 W G_hit) W)<|R4 (AZ (C4 W<|C4 W<|C4 W<|C4 W<|C4 W<|C4 W G_hit) W) Px) (Ah (C4 W<|C4 W<|C4 W<|C4 W<|C4 W G_hit)<|Ah (C4 W<|C4 W<|C4 W<|C4 W<|C4 W<|C4 W G_hit) Eb) ⟨⟨_,(C4 W<|C4 W<|C4 W<|C4 W<|C4 W G_hit), .of W⟩,⟨_,(C4 W<|C4 W<|C4 W<|C4 W<|C4 W<|C4 W G_hit), .of W⟩,trivial⟩ (fun _ h=>h) (hQ<|OA W) W W W) (Q0 (.d _) W W (Q0 (.d _) W W (aV (.ptr _ _) (.box _ _) W W (Tc _ _ _ _ _ W W W G_hit (nl W) [(di<|C9 (v9.X+v10.1)),(di 0),(di 0)] W (CQ ⟨W,?_⟩))))))))))
 refine A4<|Qv fun _ _=>Q0 (.ptr _ _) W W (Q0 (.d _) W (N8 W (gq W) W) (Q0 (.fn _ _ _) W W (bs hz3 fun v11 hv11 hz3=>cC (v:= .d (i64 v11.1)) (us:= [(9,u4),(7,u1)]) (EI (Jm _ _ _ _ hv11) [(9,u4),(7,u1)] [(9,u4),(7,u1)] _ (((7,u1),some<|.box 48 [(dl A5 p4)])::(((9,u4),some<|.box 3 [(di v11.2)])::_)) W Is (R4 Xy<|R4 (AZ (C4 W<|C4 W<|C4 W G_hit) W)<|R4 (AZ (C4 W<|C4 W G_hit) W) Px) (Ah (C4 W<|C4 W<|C4 W G_hit)<|Ah (C4 W<|C4 W G_hit) Eb) ⟨⟨_,(C4 W<|C4 W<|C4 W G_hit), .of W⟩,⟨_,(C4 W<|C4 W G_hit), .of W⟩,trivial⟩ (fun _ h=>h) (hQ<|OA W) W W W) (Q0 (.d _) W W (Q0 (.ptr _ _) W W (Tc _ _ _ _ _ W W W (gq W) (nl W) [(di<|C9 (v9.X+v10.1)),(di<|C9 (v9.Y+v11.1)),(di 0)] W (CQ ⟨W,?_⟩)))))))
 refine A4<|Qv fun _ _=>Q0 (.ptr _ _) W W (Q0 (.d _) W (N8 W (gq W) W) (Q0 (.fn _ _ _) W W (bs hz3 fun v12 hv12 hz3=>cC (v:= .d (i64 v12.1)) (us:= [(9,u4),(7,u1)]) (EI (Jm _ _ _ _ hv12) [(9,u4),(7,u1)] [(9,u4),(7,u1)] _ (((7,u1),some<|.box 48 [(dl A5 p4)])::(((9,u4),some<|.box 3 [(di v12.2)])::_)) W Is (R4 Xy<|R4 (AZ (C4 W<|C4 W G_hit) W)<|R4 (AZ (C4 W G_hit) W) Px) (Ah (C4 W<|C4 W G_hit)<|Ah (C4 W G_hit) Eb) ⟨⟨_,(C4 W<|C4 W G_hit), .of W⟩,⟨_,(C4 W G_hit), .of W⟩,trivial⟩ (fun _ h=>h) (hQ<|OA W) W W W) (Q0 (.d _) W W (Q0 (.ptr _ _) W W (Tc _ _ _ _ _ W W W (gq W) (nl W) [(di<|C9 (v9.X+v10.1)),(di<|C9 (v9.Y+v11.1)),(di<|C9 (v5.V+v12.1))] W (CQ ⟨W,?_⟩)))))))
 refine lr<|fun u23 _=>sq W<|B9 (oS x3.2.2.Points (107,g6)) W (N8 W (gq W) W) (sd W (A6 W G_hit W W)<|B9 (dl Ip [(Point.mk (C9 (v9.X+v10.1)) (C9 (v9.Y+v11.1)) (C9 (v5.V+v12.1)))]) W W (bs hz3 fun _ hv13 hz3=>O1 Ip (107,g6) x3.2.2.Points (Point.mk (C9 (v9.X+v10.1)) (C9 (v9.Y+v11.1)) (C9 (v5.V+v12.1))) [] _ (M0<|fun _=>W) W (gq W) hv13 (sq W<|Q4 W (gq W) [(di x3.2.2.Stamp),(dl J2 x3.2.2.Seen),(.sl (107,u23))] W (A1<|B1<|sv W<|sq W<|sl W (gq W) W (sv W<|A1<|cc W hz3 (fun c6 hz3=> ?_)<|fun c6 hz3=> ?_)))))
 refine C6 W ?_
 cases hz3
 obtain rfl:=ez3 _ rfl
 refine ⟨nofun,C3 W<|T4 ?_⟩
 exact ⟨u23,(D2 (X5 W)<|sg W<|sg W<|sg W<|sg W<|sg W<|B6 G_hit (.box (cv<|cv<|.cons (.of (S5<|T0 hv13).symm) .nil))<|sg W<|sg W<|L9 (gq W) trivial)⟩
 refine A8<|D4<|C1<|sv W<|sv W<|sq W<|sl W (gq W) W (sv W<|sv W<|A1<|D6 ?_)
 cases hz3
 exact ⟨W,u23,(D2 (X5 W)<|sg W<|sg W<|sg W<|sg W<|sg W<|B6 G_hit (.box (cv<|cv<|.cons (.of (S5<|T0 hv13).symm) .nil))<|sg W<|sg W<|sg W<|sg W<|L9 (gq W) trivial)⟩
 refine C6 W ?_
 cases hz3
 obtain rfl:=ez3 _ rfl
 refine ⟨nofun,C3 W<|T4 ?_⟩
 exact ⟨g6,(D2 (X5 W)<|B6 G_hit (.of W)<|sg W<|sg W<|sg W<|sg W<|sg W<|sg W<|sg W<|B7 (gq W) trivial)⟩
 rintro _ ⟨g5,q1⟩
 refine D4<|B5 q1<|C1<|sv W<|sv W<|A1<|D6 ?_
 cases hz2
 exact ⟨W,g5,(D2 (X5 W)<|B6 G_hit (.of W)<|sg W<|sg W<|sg W<|sg W<|sg W<|sg W<|sg W<|B7 (gq W) trivial)⟩
 refine C6 W ?_
 cases hz2
 obtain rfl:=ez2 _ rfl
 refine ⟨nofun,C3 W<|T4 ?_⟩
 exact ⟨g4,(D2 (X5 W)<|B6 G_hit (.of W)<|sg W<|sg W<|sg W<|sg W<|sg W<|B7 (gq W) trivial)⟩
 rintro _ ⟨g3,q2⟩
 refine D4<|B5 q2<|C1<|sv W<|sv W<|A1<|D6 ?_
 cases hz1
 exact ⟨W,g3,(D2 (X5 W)<|B6 G_hit (.of W)<|sg W<|sg W<|sg W<|sg W<|sg W<|B7 (gq W) trivial)⟩
 refine C6 W ?_
 cases hz1
 obtain rfl:=ez1 _ rfl
 refine ⟨nofun,C3 W<|T4 ?_⟩
 exact ⟨g2,(D2 (X5 W)<|sg W<|sg W<|B7 (gq W) trivial)⟩
 rintro _ ⟨g1,q3⟩
 refine B5 q3<|B1<|B9 (Y6 [(di y1.Stamp),(dl J2 y1.Seen),(oS y1.Points (107,g1))]) W (A6 W (gq W) W W) (Ll _ _ _ _ _ (X4 _) W W G_hit (nl W) [(di y1.Stamp),(dl J2 y1.Seen),(oS y1.Points (107,g1))] W (A1<|B2 ?_))
 cases h
 exact A7 (.inr W) (B4 (G5 W G_hit (nl W) W)<|Mz<|rD<|rD<|E0 (U4<|gq W) F0) (.agg (ca W<|ca W<|.cons ⟨U3,W⟩ .nil))
def Uq (p1:Int)(p2:Int):Option Int:=
  (Xr p1 p2).bind fun v1=>cond (decide (v1<0)) (some (C9 (v1+p2))) (some v1)
theorem OK(p1 p2 r)(h:Uq p1 p2=some r):PCall prog 107 [(i64 p1),(i64 p2)] (i64 r):=by
 refine C0 (fk func107 ntmps107 m0 (by with_unfolding_all rfl)) (nl W) ?_
 unfold Uq at h
 refine B5 (s0:=⟨T [(0,(.d _)),(1,(.d _))],G []⟩) (E3 W W) ?_
 refine B1<|sv W<|A1<|B1<|sv W<|sv W<|bs h fun _ hv1 h=>sd W (CP W W hv1)<|sv W<|A1<|A4<|B1<|sv W<|sv W<|A1<|cc W h (fun c1 h=> ?_)<|fun c1 h=> ?_
 refine C1<|sv W<|sv W<|sv W<|sv W<|A1<|B1<|sv W<|sv W<|A1<|B2 ?_
 cases h
 exact A7 (.inr W) (B4 (B3 W) B8) (.refl _)
 refine A8<|B1<|sv W<|sv W<|A1<|B2 ?_
 cases h
 exact A7 (.inr W) (B4 (B3 W) B8) (.refl _)
def Mb (p1:(List Int))(p2:Int):Option (Int× (List Int)):=
  cond ((p1.length:Int)==0) (some (0,[])) ((C8 p1 0).bind fun v1=>(Uq v1 (C9 ((C9 (2*p2))+1))).bind fun v2=>(QD p1 1 (p1.length:Int)).bind fun v3=>some ((C9 (v2 - p2)),v3))
theorem Tx(p1 p2 r)(h:Mb p1 p2=some r):PCall prog 132 [(.list (List.map A5 p1)),(i64 p2)] (.tup [(i64 r.1),(.list (List.map A5 r.2))]):=by
 refine C0 (fk func132 ntmps132 m0 (by with_unfolding_all rfl)) (nl W) ?_
 unfold Mb at h
 refine B5 (s0:=⟨T [(0,(.d _)),(1,(.d _))],G []⟩) (E3 W W) ?_
 refine B1<|sv W<|sv W<|A1<|A4<|B1<|sv W<|sd W (D0 W)<|sv W<|A1<|cc W h (fun c1 h=> ?_)<|fun c1 h=> ?_
 refine B1<|sv W<|sv W<|A1<|B2 ?_
 cases h
 exact A7 (.inr W) (Iz (B3 W) (B3 W) B8 B8) (.tup (.cons (.refl _) (.cons DLe.nil .nil)))
 refine A8<|A4<|D5 W<|sv W<|bs h fun _ hv1 h=>sd W (C5 W W hv1 W)<|sd W (D1 W hv1 W)<|sv W<|sv W<|sv W<|bs h fun _ hv2 h=>B0 W W A2 (OK _ _ _ hv2) (.inl W) (sv W<|sv W<|sv W<|bs h fun _ hv3 h=>sd W (gZ W (fun _=>W) (kC W) aU hv3)<|sv W<|sv W<|A1<|B2 ?_)
 cases h
 exact A7 (.inr W) (Iz (B3 W) (B3 W) B8 B8) (.refl _)
def Gb [Lp](p1:Map)(p2:State)(x2:((List Int)×Int×Scan))(v5:(Span×Bool))(x3:((List Int)×Int×Scan)):Option (Stp ((List Int)×Int×Scan) ((List Int)×Scan)):=
  (C8 p1.Lanes v5.1.Lane_).bind fun v7=>(No v7.Curve_ x3.2.1).bind fun v8=>(Mb x3.1 50).bind fun v9=>(Mb v9.2 50).bind fun v10=>(Mb v10.2 5).bind fun v11=>(C8 p2.Agents x2.2.1).bind fun v12=>(Fk x3.2.2.Points [(Point.mk (C9 (v8.X+v9.1)) (C9 (v8.Y+v10.1)) (C9 (v12.V+v11.1)))]).bind fun v13=>cond (x3.2.1==v5.1.To) (some (.out (v11.2,(Scan.mk x3.2.2.Stamp x3.2.2.Seen v13)))) (some (.go (v11.2,(He false (C9 (x3.2.1+500)) v5.1.To),(Scan.mk x3.2.2.Stamp x3.2.2.Seen v13))))
def Bd [Lp](p1:Map)(p2:State)(x1:((List Int)×Int×Scan))(x2:((List Int)×Int×Scan)):Option (Stp ((List Int)×Int×Scan) ((List Int)×Scan)):=
  cond (decide (x2.2.1< (p2.Agents.length:Int))) ((C8 p2.Agents x2.2.1).bind fun v3=>(C8 x2.2.2.Seen x1.2.1).bind fun v4=>(Un p1 v3 v4).bind fun v5=>((cond (!(!v5.2)) (Mr p2 x2.2.1) (some default))).bind fun v6=>cond ((!v5.2)||(!v6)) (some (.go (x2.1,(C9 (x2.2.1+1)),x2.2.2))) ((loop (Gb p1 p2 x2 v5) (x2.1,v5.1.From,x2.2.2)).bind fun y3=>some (.go (y3.1,(C9 (x2.2.1+1)),y3.2)))) (some (.out (x2.1,x2.2.2)))
def Dh [Lp](p1:Map)(p2:State)(x1:((List Int)×Int×Scan)):Option (Stp ((List Int)×Int×Scan) Scan):=
  cond (decide (x1.2.1< (x1.2.2.Seen.length:Int))) ((loop (Bd p1 p2 x1) (x1.1,1,x1.2.2)).bind fun y2=>some (.go (y2.1,(C9 (x1.2.1+1)),y2.2))) (some (.out x1.2.2))
def Jo [Lp](p1:Map)(p2:State)(p3:Int)(p4:(List Int)):Option Scan:=
  (Mp p1 p2).bind fun v1=>cond (((v1 !=0)||(decide (p3<0)))||(decide (p3>16777216))) (some (Scan.mk 0 [] [])) ((Hb p1 p2 p3).bind fun v2=>(loop (Dh p1 p2) (p4,0,(Scan.mk p2.Tick v2 []))).bind fun y1=>some y1)
theorem JB(p1 p2 p3 p4 r)(h:Jo p1 p2 p3 p4=some r):PCall prog 62 [(.agg (O8 p1)),(.agg (U5 p2)),(i64 p3),(.list (List.map A5 p4))] (.agg (FN r)):=by
 refine C0 (fk func62 ntmps62 (fun r=>if r==18 then [1019]else []) (by with_unfolding_all rfl)) (nl W) ?_
 unfold Jo at h
 refine B5 (s0:=⟨T [(0,(.d _)),(1,(.d _)),(2,(.d _)),(3,(.d _))],G []⟩) (E3 W W) ?_
 refine lr<|fun u1 _=>sm W<|sm W<|sn W W<|A1<|A4<|B1<|sd W (A6 W (gq W) W W)<|sd W (A6 W (gq W) W W)<|bs h fun _ hv1 h=>B0 W W A2 (Yq _ _ _ hv1) (.inl W) (sv W<|sv W<|gf W (fun _=>W)<|gf W (vb W W W)<|sd W (L8 W W<|fun hc=>A3<|G0 hc)<|sv W<|gf W (fun _=>W)<|gf W (vb W W W)<|sd W (L8 W W<|fun hc=>A3<|G0 hc)<|A1<|cc W h (fun c1 h=> ?_)<|fun c1 h=> ?_)
 refine B1<|sv W<|Q4 W G_hit [(di 0),(.d .nilS),(.d .nilS)] W (A1<|B2 ?_)
 cases h
 exact A7 (.inr W) (B4 (G5 W G_hit (nl W) W) B8) (.agg (ca W<|.cons ⟨DLe.nil,W⟩ (.cons ⟨DLe.nil,W⟩ .nil)))
 refine A8<|A4<|Fj W fun u4 _=>sq W<|sl W (gq W) W (sd W (A6 W (gq W) W W)<|sd W (A6 W (gq W) W W)<|sv W<|bs h fun v2 hv2 h=>B0 W W A2 (AH _ _ _ _ hv2) (.inl W) (sv W<|sm W<|Q4 W G_hit [(di p2.Tick),(dl J2 v2),(.d .nilS)] W (A1<|A4<|B1<|sv W<|A1<|bs h fun y1 hy1 h=>D3 (fun s=> ∃g1:Nat,Sb ⟨T [(8,(.ptr (8,u1) 0)),(9,(.ptr (9,u4) 0))],G [((8,u1),some<|.box 99 [(di 0),(.d .nilS),(.d .nilS)]),((9,u4),some<|.box 99 [(di y1.Stamp),(dl J2 y1.Seen),(oS y1.Points (124,g1))]),((124,g1),oB 107 3 Ip y1.Points)]⟩ s) ?_ ?_)))
 refine A9<|D7 (Dh p1 p2) (fun (x1:((List Int)×Int×Scan)) (g2:Nat)=>⟨T [(3,(dl A5 x1.1)),(4,(.ptr (4,u1) 0)),(5,(.ptr (5,u1) 0)),(8,(.ptr (8,u1) 0)),(9,(.ptr (9,u4) 0)),(10,(di x1.2.1))],G [((4,u1),some<|.box 33 (K7 p1)),((5,u1),some<|.box 25 (J8 p2)),((8,u1),some<|.box 99 [(di 0),(.d .nilS),(.d .nilS)]),((9,u4),some<|.box 99 [(di x1.2.2.Stamp),(dl J2 x1.2.2.Seen),(oS x1.2.2.Points (124,g2))]),((124,g2),oB 107 3 Ip x1.2.2.Points)]⟩) (p4,0,(Scan.mk p2.Tick v2 [])) 0 _ hy1 (D2 (X5 W)<|sg W<|sg W<|sg W<|B6 G_hit (.of W)<|O9 trivial) ?_
 intro x1 g2 z1 hz1 ez1
 unfold Dh at hz1
 refine A4<|B1<|sv W<|sq W<|sl W (gq W) W (sd W (D0 W)<|sv W<|A1<|cc W hz1 (fun c2 hz1=> ?_)<|fun c2 hz1=> ?_)
 refine A8<|A4<|A9<|B1<|sv W<|A1<|bs hz1 fun y2 hy2 hz1=>D3 (fun s=> ∃g3:Nat,Sb ⟨T [(3,(dl A5 y2.1)),(4,(.ptr (4,u1) 0)),(5,(.ptr (5,u1) 0)),(8,(.ptr (8,u1) 0)),(9,(.ptr (9,u4) 0)),(10,(di x1.2.1))],G [((4,u1),some<|.box 33 (K7 p1)),((5,u1),some<|.box 25 (J8 p2)),((8,u1),some<|.box 99 [(di 0),(.d .nilS),(.d .nilS)]),((9,u4),some<|.box 99 [(di y2.2.Stamp),(dl J2 y2.2.Seen),(oS y2.2.Points (124,g3))]),((124,g3),oB 107 3 Ip y2.2.Points)]⟩ s) ?_ ?_
 refine A9<|D7 (Bd p1 p2 x1) (fun (x2:((List Int)×Int×Scan)) (g4:Nat)=>⟨T [(3,(dl A5 x2.1)),(4,(.ptr (4,u1) 0)),(5,(.ptr (5,u1) 0)),(8,(.ptr (8,u1) 0)),(9,(.ptr (9,u4) 0)),(10,(di x1.2.1)),(11,(di x2.2.1))],G [((4,u1),some<|.box 33 (K7 p1)),((5,u1),some<|.box 25 (J8 p2)),((8,u1),some<|.box 99 [(di 0),(.d .nilS),(.d .nilS)]),((9,u4),some<|.box 99 [(di x2.2.2.Stamp),(dl J2 x2.2.2.Seen),(oS x2.2.2.Points (124,g4))]),((124,g4),oB 107 3 Ip x2.2.2.Points)]⟩) (x1.1,1,x1.2.2) g2 _ hy2 (D2 (X5 W)<|B6 G_hit (.of W)<|sg W<|sg W<|sg W<|B7 (gq W) trivial) ?_
 intro x2 g4 z2 hz2 ez2
 unfold Bd at hz2
 refine A4<|B1<|sv W<|sq W<|sl W (gq W) W (sd W (D0 W)<|sv W<|A1<|cc W hz2 (fun c3 hz2=> ?_)<|fun c3 hz2=> ?_)
 refine A8<|A4<|A9<|A4<|Fj W fun u9 _=>sd W (A6 W G_hit W W)<|sq W<|sl W (gq W) W (sv W<|bs hz2 fun _ hv3 hz2=>sd W (C5 W W hv3 W)<|sd W (C7 W hv3 W W)<|sq W<|sl W (gq W) W (sv W<|bs hz2 fun _ hv4 hz2=>sd W (C5 W W hv4 W)<|sd W (C7 W hv4 W W)<|bs hz2 fun v5 hv5 hz2=>B0 W W A2 (FQ _ _ _ _ hv5) (.inl W) (sv W<|sv W<|sv W<|sm W<|Q4 W G_hit (Pj v5.1) W (sv W<|A1<|A4<|B1<|sv W<|B9 (.d (bo (!v5.2))) W W (sv W<|gf W (fun _=>(A6 W (gq W) W W))<|gf W (fun _=>W)<|bs hz2 fun v6 hv6 hz2=> ?_)))))
 refine I9 _ (bo v6) (H8 W) (fun w7=>⟨_,[(.d (.agg (U5 p2))),(di x2.2.1)],_,_,(by simp only [A3 w7];rfl),W,A2,Ys _ _ _<|C2 w7 hv6,(.inl W)⟩) ?_
 refine M5 _ (.d (bo (!v6))) W (H8 W) (fun w8=>(by simp only [A3 w8];rfl)) ?_
 refine sd W (L8 W W<|fun hc=>A3<|G0 hc)<|A1<|cc W hz2 (fun c4 hz2=> ?_)<|fun c4 hz2=> ?_
 refine Mx W<|C1<|sv W<|sv W<|sv W<|A1<|D6 ?_
 cases hz2
 exact ⟨W,g4,(D2 (X5 W)<|sg W<|sg W<|sg W<|sg W<|B7 (gq W) trivial)⟩
 refine A8<|B1<|sq W<|sl W G_hit W<|sv W<|A1<|bs hz2 fun y3 hy3 hz2=>D3 (fun s=> ∃g5:Nat,Sb ⟨T [(3,(dl A5 y3.1)),(4,(.ptr (4,u1) 0)),(5,(.ptr (5,u1) 0)),(8,(.ptr (8,u1) 0)),(9,(.ptr (9,u4) 0)),(10,(di x1.2.1)),(11,(di x2.2.1))],G [((4,u1),some<|.box 33 (K7 p1)),((5,u1),some<|.box 25 (J8 p2)),((8,u1),some<|.box 99 [(di 0),(.d .nilS),(.d .nilS)]),((9,u4),some<|.box 99 [(di y3.2.Stamp),(dl J2 y3.2.Seen),(oS y3.2.Points (124,g5))]),((124,g5),oB 107 3 Ip y3.2.Points)]⟩ s) ?_ ?_
 refine A9<|D7 (Gb p1 p2 x2 v5) (fun (x3:((List Int)×Int×Scan)) (g6:Nat)=>⟨T [(3,(dl A5 x3.1)),(4,(.ptr (4,u1) 0)),(5,(.ptr (5,u1) 0)),(8,(.ptr (8,u1) 0)),(9,(.ptr (9,u4) 0)),(10,(di x1.2.1)),(11,(di x2.2.1)),(12,(.ptr (12,u9) 0)),(14,(di x3.2.1))],G [((4,u1),some<|.box 33 (K7 p1)),((5,u1),some<|.box 25 (J8 p2)),((8,u1),some<|.box 99 [(di 0),(.d .nilS),(.d .nilS)]),((9,u4),some<|.box 99 [(di x3.2.2.Stamp),(dl J2 x3.2.2.Seen),(oS x3.2.2.Points (124,g6))]),((12,u9),some<|.box 93 (Pj v5.1)),((124,g6),oB 107 3 Ip x3.2.2.Points)]⟩) (x2.1,v5.1.From,x2.2.2) g4 _ hy3 (D2 (X5 W)<|sg W<|sg W<|sg W<|sg W<|B6 G_hit (.of W)<|B7 (gq W) trivial) ?_
 intro x3 g6 z3 hz3 ez3
 unfold Gb at hz3
 refine A9<|B1<|sq W<|sl W G_hit W<|sq W<|sl W (gq W) W (bs hz3 fun _ hv7 hz3=>sd W (C5 W W hv7 W)<|sv W<|sd W (C7 W hv7 W W)<|sv W<|bs hz3 fun v8 hv8 hz3=>B0 W W A2 (Th _ _ _ hv8) (.inl W) (sm W<|Q4 W G_hit [(di v8.X),(di v8.Y)] W (A1<|B1<|sv W<|bs hz3 fun v9 hv9 hz3=>B0 W W A2 (Tx _ _ _ hv9) (.inl W) (sv W<|sv W<|sv W<|sv W<|sv W<|A1<|B1<|sv W<|bs hz3 fun v10 hv10 hz3=>B0 W W A2 (Tx _ _ _ hv10) (.inl W) (sv W<|sv W<|sv W<|sv W<|sv W<|A1<|B1<|sv W<|bs hz3 fun v11 hv11 hz3=>B0 W W A2 (Tx _ _ _ hv11) (.inl W) (sv W<|sv W<|sv W<|sv W<|sv W<|A1<|B1<|sv W<|sv W<|A1<|A4<|Fj W fun u18 _=>sq W<|B9 (oS x3.2.2.Points (124,g6)) W (N8 W (gq W) W) (sp W W ?_)))))))
 refine sl W G_hit W<|sv W<|sv W<|sq W<|sl W G_hit W<|sv W<|sv W<|sq W<|sl W (gq W) W (sv W<|bs hz3 fun v12 hv12 hz3=>sd W (C5 W W hv12 W)<|sv W<|sd W (D1 W hv12 W)<|sv W<|sv W<|sv W<|B9 (dl Ip [(Point.mk (C9 (v8.X+v9.1)) (C9 (v8.Y+v10.1)) (C9 (v12.V+v11.1)))]) W W (bs hz3 fun _ hv13 hz3=>O1 Ip (124,g6) x3.2.2.Points (Point.mk (C9 (v8.X+v9.1)) (C9 (v8.Y+v10.1)) (C9 (v12.V+v11.1))) [] _ (M0<|fun _=>W) W (gq W) hv13 (sq W<|Q4 W (gq W) [(di x3.2.2.Stamp),(dl J2 x3.2.2.Seen),(.sl (124,u18))] W (A1<|A4<|B1<|sv W<|sq W<|sl W (gq W) W (sv W<|A1<|cc W hz3 (fun c5 hz3=> ?_)<|fun c5 hz3=> ?_)))))
 refine C6 W ?_
 cases hz3
 obtain rfl:=ez3 _ rfl
 refine ⟨nofun,C3 W<|T4 ?_⟩
 exact ⟨u18,(D2 (X5 W)<|sg W<|sg W<|sg W<|B6 G_hit (.box (cv<|cv<|.cons (.of (S5<|T0 hv13).symm) .nil))<|L9 (gq W) trivial)⟩
 refine A8<|C1<|sv W<|sv W<|sq W<|sl W (gq W) W (sv W<|sv W<|A1<|D4<|D6 ?_)
 cases hz3
 exact ⟨W,u18,(D2 (X5 W)<|sg W<|sg W<|sg W<|B6 G_hit (.box (cv<|cv<|.cons (.of (S5<|T0 hv13).symm) .nil))<|sg W<|L9 (gq W) trivial)⟩
 rintro _ ⟨g5,q1⟩
 refine D4<|B5 q1<|C1<|sv W<|sv W<|sv W<|A1<|D6 ?_
 cases hz2
 exact ⟨W,g5,(D2 (X5 W)<|B6 G_hit (.of W)<|sg W<|sg W<|sg W<|B7 (gq W) trivial)⟩
 refine C6 W ?_
 cases hz2
 obtain rfl:=ez2 _ rfl
 refine ⟨nofun,C3 W<|T4 ?_⟩
 exact ⟨g4,(D2 (X5 W)<|B6 G_hit (.of W)<|sg W<|sg W<|sg W<|B7 (gq W) trivial)⟩
 rintro _ ⟨g3,q2⟩
 refine D4<|B5 q2<|C1<|sv W<|sv W<|sv W<|A1<|D6 ?_
 cases hz1
 exact ⟨W,g3,(D2 (X5 W)<|B6 G_hit (.of W)<|sg W<|sg W<|sg W<|B7 (gq W) trivial)⟩
 refine C6 W ?_
 cases hz1
 obtain rfl:=ez1 _ rfl
 refine ⟨nofun,C3 W<|T4 ?_⟩
 exact ⟨g2,(D2 (X5 W)<|sg W<|sg W<|B7 (gq W) trivial)⟩
 rintro _ ⟨g1,q3⟩
 refine B5 q3<|B1<|B9 (Y6 [(di y1.Stamp),(dl J2 y1.Seen),(oS y1.Points (124,g1))]) W (A6 W (gq W) W W) (Ll _ _ _ _ _ (X4 _) W W G_hit (nl W) [(di y1.Stamp),(dl J2 y1.Seen),(oS y1.Points (124,g1))] W (A1<|B2 ?_))
 cases h
 exact A7 (.inr W) (B4 (G5 W G_hit (nl W) W)<|Mz<|rD<|rD<|E0 (U4<|gq W) F0) (.agg (ca W<|ca W<|.cons ⟨U3,W⟩ .nil))
def Dx (p1:Scan)(p2:Scan)(x1:Int):Option (Stp Int (Sum Unit Bool)):=
  cond (decide (x1< (p1.Points.length:Int))) ((C8 p1.Points x1).bind fun v2=>(C8 p2.Points x1).bind fun v3=>cond (!(v2.X==v3.X&& (v2.Y==v3.Y&& (v2.V==v3.V&&true)))) (some (.out (.inr false))) (some (.go (C9 (x1+1))))) (some (.out (.inl ())))
def Hc [Lp](p1:Scan)(p2:Scan):Option Bool:=
  ((cond (!(p1.Stamp !=p2.Stamp)) (Io p1.Seen p2.Seen) (some default))).bind fun v1=>cond (((p1.Stamp !=p2.Stamp)||(!v1))||((p1.Points.length:Int) !=(p2.Points.length:Int))) (some false) (thenS (loop (Dx p1 p2) 0) (fun _=>some true) (fun r=>some r))
theorem GN(p1 p2 r)(h:Hc p1 p2=some r):PCall prog 60 [(.agg (FN p1)),(.agg (FN p2))] (bo r):=by
 refine C0 (fk func60 ntmps60 m0 (by with_unfolding_all rfl)) (nl W) ?_
 unfold Hc at h
 refine B5 (s0:=⟨T [(0,(.d _)),(1,(.d _))],G []⟩) (E3 W W) ?_
 refine lr<|fun u1 _=>sm W<|sm W<|sv W<|A1<|A4<|B1<|sq W<|sl W (gq W) W (sq W<|sl W G_hit W<|sv W<|sv W<|gp W (H8 W) (fun _=>W) (gf W (vl W (gq W) W)<|gp W (H8 W) (fun _=>W) (gf W (vl W G_hit W)<|bs h fun v1 hv1 h=> ?_)))
 refine I9 _ (bo v1) (H8 W) (fun w5=>⟨_,[(dl J2 p1.Seen),(dl J2 p2.Seen)],_,_,(by simp only [A3 w5];rfl),W,A2,Uo _ _ _<|C2 w5 hv1,(.inl W)⟩) ?_
 refine M5 _ (.d (bo (!v1))) W (H8 W) (fun w6=>(by simp only [A3 w6];rfl)) ?_
 refine sd W (L8 W W<|fun hc=>A3<|G0 hc)<|sv W<|gp W (H8 W) (fun _=>W) (gf W (vl W (gq W) W)<|gf W (fun w9=>(D0<|A3 w9))<|gp W (H8 W) (fun _=>W) (gf W (vl W G_hit W)<|gf W (fun w12=>(D0<|A3 w12))<|gf W (fun w13=>(L4 (A3 w13) (A3 w13) W))<|sd W (L8 W W<|fun hc=>A3<|G0 hc)<|A1<|cc W h (fun c1 h=> ?_)<|fun c1 h=> ?_))
 refine B1<|sv W<|A1<|B2 ?_
 cases h
 exact A7 (.inr W) (B4 (B3 W) B8) (.refl _)
 refine A8<|A4<|B1<|sv W<|A1<|js h fun z1 hz1 h=>D3 (fun s=> ∃(y1:Unit) (g1:Unit),z1= .inl y1∧Sb ⟨T [],G []⟩ s) ?_ ?_
 refine A9<|D7 (Dx p1 p2) (fun (x1:Int) (g2:Unit)=>⟨T [(2,(.ptr (2,u1) 0)),(3,(.ptr (3,u1) 0)),(5,(di x1))],G [((2,u1),some<|.box 99 (iC p1)),((3,u1),some<|.box 99 (iC p2))]⟩) 0 () _ hz1 (E3 W W) ?_
 intro x1 g2 z2 hz2 ez2
 unfold Dx at hz2
 refine A4<|B1<|sv W<|sq W<|sl W G_hit W<|sd W (D0 W)<|sv W<|A1<|cc W hz2 (fun c2 hz2=> ?_)<|fun c2 hz2=> ?_
 refine A8<|A4<|A9<|A4<|D5 W<|sq W<|sl W G_hit W<|sv W<|bs hz2 fun v2 hv2 hz2=>sd W (C5 W W hv2 W)<|sd W (C7 W hv2 W W)<|sq W<|sl W (gq W) W (sv W<|bs hz2 fun v3 hv3 hz2=>sd W (C5 W W hv3 W)<|sd W (C7 W hv3 W W)<|B9 (.d (bo (!(v2.X==v3.X&& (v2.Y==v3.Y&& (v2.V==v3.V&&true)))))) W W (A1<|cc W hz2 (fun c3 hz2=> ?_)<|fun c3 hz2=> ?_))
 refine B1<|sv W<|A1<|B2 ?_
 cases hz2
 obtain rfl:=ez2 _ rfl
 refine ⟨nofun,E5 ?_⟩
 rw [bT]at h
 cases h
 exact A7 (.inr W) (B4 (B3 W) B8) (.refl _)
 refine A8<|D4<|C1<|sv W<|sv W<|sv W<|A1<|D6 ?_
 cases hz2
 exact ⟨W,(),(E3 W W)⟩
 refine C6 W ?_
 cases hz2
 obtain rfl:=ez2 _ rfl
 refine ⟨nofun,C3 W<|T4 ?_⟩
 exact ⟨_,(),W,(E3 W W)⟩
 rintro _ ⟨y1,g1,rfl,q1⟩
 rw [bS]at h
 refine B5 q1<|B1<|sv W<|A1<|B2 ?_
 cases h
 exact A7 (.inr W) (B4 (B3 W) B8) (.refl _)
def Ki [Lp](p1:Int)(p2:State)(p3:Int)(p4:(List Int)):Option Bool:=
  (Pk p2).bind fun v1=>cond ((!v1)||(decide ((p4.length:Int)>60))) ((Gl).bind fun v2=>some v2) ((Zj p1).bind fun v3=>(Gx v3 p2 p3).bind fun v4=>(Hb v3 p2 p3).bind fun v5=>(Io v4 v5).bind fun v6=>((cond v6 (Jn v3 p2 p3 p4) (some default))).bind fun v7=>((cond v6 (Jo v3 p2 p3 p4) (some default))).bind fun v8=>((cond v6 (Hc v7 v8) (some default))).bind fun v9=>((cond (v6&&v9) (Gl) (some default))).bind fun v10=>some ((v6&&v9)&&v10))
theorem Zr(p1 p2 p3 p4 r)(h:Ki p1 p2 p3 p4=some r):PCall prog 17 [(i64 p1),(.agg (U5 p2)),(i64 p3),(.list (List.map A5 p4))] (bo r):=by
 refine C0 (fk func17 ntmps17 m0 (by with_unfolding_all rfl)) (nl W) ?_
 unfold Ki at h
 refine B5 (s0:=⟨T [(0,(.d _)),(1,(.d _)),(2,(.d _)),(3,(.d _))],G []⟩) (E3 W W) ?_
 refine B1<|sm W<|sv W<|A1<|A4<|B1<|sd W (A6 W G_hit W W)<|bs h fun v1 hv1 h=>B0 W W A2 (IL _ _ hv1) (.inl W) (B9 (.d (bo (!v1))) W W (sv W<|gf W (fun _=>W)<|gf W (fun w2=>(D0<|A3 w2))<|gf W (vb W W W)<|sd W (L8 W W<|fun hc=>A3<|G0 hc)<|A1<|cc W h (fun c1 h=> ?_)<|fun c1 h=> ?_))
 refine B1<|bs h fun _ hv2 h=>B0 W W A2 (Yk _ hv2) (.inl W) (sv W<|A1<|B2 ?_)
 cases h
 exact A7 (.inr W) (B4 (B3 W) B8) (.refl _)
 refine A8<|B1<|sv W<|bs h fun v3 hv3 h=>B0 W W A2 (TZ _ _ hv3) (.inl W) (sm W<|Q4 W G_hit (K7 v3) W (A1<|A4<|D5 W<|sd W (A6 W G_hit W W)<|sd W (A6 W (gq W) W W)<|sv W<|bs h fun _ hv4 h=>B0 W W A2 (AF _ _ _ _ hv4) (.inl W) (sd W (A6 W G_hit W W)<|sd W (A6 W (gq W) W W)<|sv W<|bs h fun _ hv5 h=>B0 W W A2 (AH _ _ _ _ hv5) (.inl W) (bs h fun v6 hv6 h=>B0 W W A2 (Uo _ _ _ hv6) (.inl W) (sv W<|gt W (fun _=>(A6 W G_hit W W))<|gt W (fun _=>(A6 W (gq W) W W))<|gt W (fun _=>W)<|gt W (fun _=>W)<|bs h fun v7 hv7 h=> ?_)))))
 refine I9 v6 (.agg (FN v7)) (I8 W) (fun w8=>⟨_,[(.d (.agg (O8 v3))),(.d (.agg (U5 p2))),(di p3),(dl A5 p4)],_,_,(by simp only [A3 w8];rfl),W,A2,JA _ _ _ _ _<|C2 w8 hv7,(.inl W)⟩) ?_
 refine gt W (fun _=>(A6 W G_hit W W))<|gt W (fun _=>(A6 W (gq W) W W))<|gt W (fun _=>W)<|gt W (fun _=>W)<|bs h fun v8 hv8 h=> ?_
 refine I9 v6 (.agg (FN v8)) (I8 W) (fun w13=>⟨_,[(.d (.agg (O8 v3))),(.d (.agg (U5 p2))),(di p3),(dl A5 p4)],_,_,(by simp only [A3 w13];rfl),W,A2,JB _ _ _ _ _<|C2 w13 hv8,(.inl W)⟩) ?_
 refine bs h fun v9 hv9 h=> ?_
 refine I9 v6 (bo v9) (I8 W) (fun w14=>⟨_,[(.d (.agg (FN v7))),(.d (.agg (FN v8)))],_,_,(by simp only [A3 w14];rfl),W,A2,GN _ _ _<|C2 w14 hv9,(.inl W)⟩) ?_
 refine sa W W W<|sv W<|bs h fun v10 hv10 h=>I9 _ (bo v10) (I8 W) (fun w15=>⟨_,_,_,_,W,W,A2,Yk _<|C2 w15 hv10,(.inl W)⟩) (sa W W W<|sv W<|A1<|B2 ?_)
 cases h
 exact A7 (.inr W) (B4 (B3 W) B8) (.refl _)
end
end Go.Abs.World
