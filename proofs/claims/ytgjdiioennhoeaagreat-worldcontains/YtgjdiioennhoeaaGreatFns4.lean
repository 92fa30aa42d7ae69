/-
  The functions, part 4.
-/
import Derived.Test.YtgjdiioennhoeaaGreatFns3
set_option maxRecDepth 20000
set_option maxHeartbeats 4000000
set_option linter.unusedVariables false
namespace Go.Abs.World
noncomputable section
open Go Go.Abs Go.Proofs Tryz
attribute [local irreducible] K9 Cv Cb
def W4 [Lp](p1:WorldScene)(p2:Int)(p3:Int)(p4:Int):Option Bool:=
  (P0 p1 p2 p4).bind fun v1=>((cond v1 (P0 p1 p3 p4) (some default))).bind fun v2=>((cond (v1&&v2) (C3 p1.before.Agents p2) (some default))).bind fun v3=>((cond (v1&&v2) (Cn p1.m v3.Route p4) (some default))).bind fun v4=>((cond (v1&&v2) (C3 p1.before.Agents p3) (some default))).bind fun v5=>((cond (v1&&v2) (Cn p1.m v5.Route p4) (some default))).bind fun v6=>some ((v1&&v2)&& (v4 !=v6))
theorem Lz(p1 p2 p3 p4 r)(h:W4 p1 p2 p3 p4=some r):PCall prog 82 [(.bp (Nu p1) 0),(i64 p2),(i64 p3),(i64 p4)] (bo r):=by
 refine C2 (fk func82 ntmps82 m0 (by with_unfolding_all rfl)) (nl W) ?_
 unfold W4 at h
 refine B4 (s0:=⟨T [(0,(.d _)),(1,(.d _)),(2,(.d _)),(3,(.d _))],G []⟩) (F0 W W) ?_
 refine B0<|sv W<|A1<|A5<|E8 W<|sv W<|sv W<|sv W<|bs h fun v1 hv1 h=>A9 W W A3 (Ay _ _ _ _ hv1) (.inl W) (sv W<|gt W (fun _=>W)<|gt W (fun _=>W)<|gt W (fun _=>W)<|bs h fun v2 hv2 h=> ?_)
 refine N4 v1 (bo v2) (K3 W) (fun w4=>⟨_,[(.d (.bp (Nu p1) 0)),(di p3),(di p4)],_,_,(by simp only [A2 w4];rfl),W,A3,Ay _ _ _ _<|C1 w4 hv2,(.inl W)⟩) ?_
 refine sa W W W<|sv W<|gt W (fun _=>W) ?_
 refine gt W (fun w6=>(by simp only [A2 w6];rfl)) ?_
 refine gt W (fun w7=>(by simp only [A2 w7];rfl)) ?_
 refine gt W (fun w8=>(by simp only [A2 w8];rfl)) ?_
 refine gt W (fun _=>W) ?_
 refine gt W (fun w10=>(by simp only [A2 w10];rfl)) ?_
 refine gt W (fun w11=>(by simp only [A2 w11];rfl)) ?_
 refine gt W (fun w12=>(by simp only [A2 w12];rfl)) ?_
 refine gt W (fun w13=>(by simp only [A2 w13];rfl)) ?_
 refine gt W (fun _=>W)<|bs h fun v3 hv3 h=>gt W (fun w15=>(C4 (A2 w15) (A2 w15) (C1 w15 hv3) W)) ?_
 refine gt W (fun w16=>(by simp only [A2 w16];rfl)) ?_
 refine gt W (fun w17=>(C9 (A2 w17) (C1 w17 hv3) W))<|gt W (fun _=>W)<|bs h fun v4 hv4 h=> ?_
 refine N4 _ (i64 v4) (K3 W) (fun w19=>⟨_,[(.d (.agg (P6 p1.m))),(dl A4 v3.Route),(di p4)],_,_,(by simp only [A2 w19];rfl),W,A3,Ql _ _ _ _<|C1 w19 hv4,(.inl W)⟩) ?_
 refine gt W (fun _=>W) ?_
 refine gt W (fun w21=>(by simp only [A2 w21];rfl)) ?_
 refine gt W (fun w22=>(by simp only [A2 w22];rfl)) ?_
 refine gt W (fun w23=>(by simp only [A2 w23];rfl)) ?_
 refine gt W (fun _=>W) ?_
 refine gt W (fun w25=>(by simp only [A2 w25];rfl)) ?_
 refine gt W (fun w26=>(by simp only [A2 w26];rfl)) ?_
 refine gt W (fun w27=>(by simp only [A2 w27];rfl)) ?_
 refine gt W (fun w28=>(by simp only [A2 w28];rfl)) ?_
 refine gt W (fun _=>W)<|bs h fun v5 hv5 h=>gt W (fun w30=>(C4 (A2 w30) (A2 w30) (C1 w30 hv5) W)) ?_
 refine gt W (fun w31=>(by simp only [A2 w31];rfl)) ?_
 refine gt W (fun w32=>(C9 (A2 w32) (C1 w32 hv5) W))<|gt W (fun _=>W)<|bs h fun v6 hv6 h=> ?_
 refine N4 _ (i64 v6) (K3 W) (fun w34=>⟨_,[(.d (.agg (P6 p1.m))),(dl A4 v5.Route),(di p4)],_,_,(by simp only [A2 w34];rfl),W,A3,Ql _ _ _ _<|C1 w34 hv6,(.inl W)⟩) ?_
 refine gt W (fun w35=>(M4 (A2 w35) (A2 w35) W))<|sa W W W<|sv W<|A1<|B1 ?_
 cases h
 exact A6 (.inr W) (B6 (B3 W) C0) (.refl _)
def Jm [Lp](p1:Map)(v5:WorldScene)(a1:(Int×Int))(x2:Int):Option (Stp Int (Sum Unit (State×Int))):=
  cond (decide (x2< (p1.Zones.length:Int))) ((W4 v5 a1.1 a1.2 x2).bind fun v10=>cond v10 (some (.out (.inr ((State.mk 0 [] []),12)))) (some (.go (D9 (x2+1))))) (some (.out (.inl ())))
def Jn [Lp](p1:Map)(p2:(List Agent))(v5:WorldScene)(x1:Unit)(a1:(Int×Int)):Option (Stp Unit (Sum Unit (State×Int))):=
  (C3 p2 a1.1).bind fun v7=>(C3 p2 a1.2).bind fun v8=>(Bh p1 v7 v8).bind fun v9=>cond v9 (some (.out (.inr ((State.mk 0 [] []),12)))) (thenS (loop (Jm p1 v5 a1) 0) (fun _=>some (.go ())) (fun r=>some (.out (.inr r))))
def BT:Option Unit:=
  some ()
def Pn [Lp](p1:Map)(p2:(List Agent)):Option (State×Int):=
  (Ks (State.mk 0 p2 [])).bind fun v1=>(Cl p1 v1).bind fun v2=>cond (v2 !=0) (some ((State.mk 0 [] []),v2)) ((J8 p2).bind fun v3=>cond v3 (some ((State.mk 0 [] []),10)) ((Ks v1).bind fun v4=>(Z4 (WorldScene.mk p1 v1 v4 [] [])).bind fun v5=>(BT).bind fun y1=>thenS ((MQ v5.before).bind fun v6=>loopL (Jn p1 p2 v5) (fun (x1:Unit)=> .inl ()) v6 ()) (fun _=>some (v5.after,0)) (fun r=>some r)))
theorem MR(p1 p2 r)(h:Pn p1 p2=some r):PCall prog 27 [(.agg (P6 p1)),(.list (List.map C6 p2))] (.tup [(.agg (Y1 r.1)),(i64 r.2)]):=by
 refine C2 (fk func27 ntmps27 (fun r=>if r==8 then [1008001]else if r==9 then [1]else []) (by with_unfolding_all rfl)) (nl W) ?_
 unfold Pn at h
 refine B4 (s0:=⟨T [(0,(.d _)),(1,(.d _))],G []⟩) (F0 W W) ?_
 refine lr<|fun u1 _=>sm W<|sm W<|sn W W<|sm W<|A1<|B0<|sl W (gq W) W (sv W<|bs h fun v1 hv1 h=>A9 W W (.cons (.agg (ca W<|ca W<|.cons ⟨DLe.nil,W⟩ .nil)) .nil) (Ye _ _ hv1) (.inl W) (sm W<|S5 W G_hit (K1 v1) W (A1<|A5<|B0<|sd W (B2 W (gq W) W W)<|sd W (B2 W G_hit W W)<|bs h fun v2 hv2 h=>A9 W W A3 (Qk _ _ _ hv2) (.inl W) (sv W<|A1<|B0<|sv W<|sv W<|A1<|cc W h (fun c1 h=> ?_)<|fun c1 h=> ?_))))
 refine B0<|sv W<|sv W<|S5 W (gq W) [(di 0),(.d .nilS),(.d .nilS)] W (S5 W (gq W) [(di v2)] W (A1<|B1 ?_))
 cases h
 exact A6 (.inr W) (Jt (H5 W (gq W) (nl W) W) (Vx W G_hit W) C0 C0) (.tup (.cons (.agg (ca W<|.cons ⟨DLe.nil,W⟩ (.cons ⟨DLe.nil,W⟩ .nil))) A3))
 refine A8<|A5<|B0<|sl W (gq W) W (bs h fun _ hv3 h=>A9 W W A3 (Eu _ _ hv3) (.inl W) (A1<|cc W h (fun c2 h=> ?_)<|fun c2 h=> ?_))
 refine B0<|sv W<|S5 W (gq W) [(di 0),(.d .nilS),(.d .nilS)] W (S5 W (gq W) [(di 10)] W (A1<|B1 ?_))
 cases h
 exact A6 (.inr W) (Jt (H5 W (gq W) (nl W) W) (Vx W G_hit W) C0 C0) (.tup (.cons (.agg (ca W<|.cons ⟨DLe.nil,W⟩ (.cons ⟨DLe.nil,W⟩ .nil))) A3))
 refine A8<|A5<|Lj W fun u8 _=>sd W (B2 W (gq W) W W)<|sd W (B2 W G_hit W W)<|sd W (B2 W G_hit W W)<|bs h fun _ hv4 h=>A9 W W A3 (Ye _ _ hv4) (.inl W) (sv W<|sm W<|sn W W<|S5 W G_hit [(.ptr (30,u8) 0)] W (A1<|B0<|sp W (P8 W G_hit W)<|bs h fun v5 hv5 h=>CW (v:= .d (.tup [])) (us:= [(30,u8)]) (JD (Tx _ _ hv5) [(30,u8)] [(30,u8)] _ (((30,u8),some<|.box 135 (V2 v5))::_) W Ll (X1 (gN (F1 W<|F1 W G_hit) W) Ry) (Jf (F1 W<|F1 W G_hit) Gz) ⟨⟨_,(F1 W<|F1 W G_hit), .box (.cons (.of W) (.cons (.of W) (.cons (.of W) (.cons (.of W) (.cons (.of W) (.cons (.of W) (.cons (.of W) (.cons (.of W) (.cons (.of W) (.cons (.of W) (.cons (.of W) (.cons (DLe.d DLe.nil) (.cons (DLe.d DLe.nil) .nil)))))))))))))⟩,trivial⟩ (fun _ h=>h) nd1 W W W) (A1<|A5<|B0<|sp W (P8 W (gq W) W)<|bs h fun _ hy1 h=>Zj (fk func81 ntmps81 m0 (by with_unfolding_all rfl)) (fun (g1:Nat)=> [(2,(.ptr (2,u1) 0)),(3,(.ptr (3,u1) 0)),(4,(.ptr (4,u1) 0)),(5,(.ptr (5,u1) 0)),(8,(.ptr (8,u8) 0)),(34,(.fn (.func 174) [] [(.ptr (1,g1) 0)]))]) (fun (g1:Nat)=> [((2,u1),some<|.box 33 (L4 p1)),((3,u1),some<|.box 22 [(dl C6 p2)]),((4,u1),some<|.box 25 [(di 0),(.d .nilS),(.d .nilS)]),((5,u1),some<|.box 36 [(di 0)]),((8,u8),some<|.box 133 [(.ptr (30,u8) 0)]),((30,u8),some<|.box 135 (V2 v5)),((1,g1),some<|.box 133 [(.ptr (30,u8) 0)])]) W (nl W) ?_ ?_)))
 unfold BT at hy1
 refine B4 (s0:=⟨T [(0,(.ptr _ _))],G [((30,u8),some<|.box 135 _),((2,u1),some<|.box 33 _),((3,u1),some<|.box 22 _),((4,u1),some<|.box 25 _),((5,u1),some<|.box 36 _),((8,u8),some<|.box 133 _)]⟩) (F0 W W) ?_
 refine lr<|fun u11 _=>sm W<|sv W<|A1<|B0<|B8 (.fn _ _ _) W W (B8 (.fn _ _ _) W W (A1<|B1 ?_))
 cases hy1
 exact ML (.inr W) (OT<|B3 W) u11 (Y0 W) (sg W<|sg W<|sg W<|sg W<|sg W<|sg W<|B5 G_hit (.of W) trivial)
 intro g1
 intro u13 hu13
 refine A1<|js h fun z1 hz1 h=>D6 (fun s=> ∃(y2:Unit) (g2:Unit),z1= .inl y2∧Sb ⟨T [(4,(.ptr (4,u1) 0)),(5,(.ptr (5,u1) 0)),(8,(.ptr (8,u8) 0))],G [((4,u1),some<|.box 25 [(di 0),(.d .nilS),(.d .nilS)]),((5,u1),some<|.box 36 [(di 0)]),((8,u8),some<|.box 133 [(.ptr (30,u8) 0)]),((30,u8),some<|.box 135 (V2 v5))]⟩ s) ?_ ?_
 refine A7<|bs hz1 fun v6 hv6 hz1=>B4 (s0:=⟨T [(2,(.ptr _ _)),(3,(.ptr _ _)),(4,(.ptr _ _)),(5,(.ptr _ _)),(8,(.ptr _ _)),(34,(.fn _ _ _))],G [((2,u1),some<|.box 33 _),((3,u1),some<|.box 22 _),((4,u1),some<|.box 25 _),((5,u1),some<|.box 36 _),((8,u8),some<|.box 133 _),((30,u8),some<|.box 135 _),((1,g1),some<|.box 133 _)]⟩) (F0 W W) ?_
 refine PB (.fn (.func 174) [] [(.ptr (1,g1) 0)]) (Ty (1,g1) (30,u8) v5.before) HQ v6 (Jn p1 p2 v5) (fun (x1:Unit)=>(.inl ():Sum Unit (State×Int))) (fun (x1:Unit) (g3:Unit)=> [((2,u1),some<|.box 33 (L4 p1)),((3,u1),some<|.box 22 [(dl C6 p2)]),((4,u1),some<|.box 25 [(di 0),(.d .nilS),(.d .nilS)]),((5,u1),some<|.box 36 [(di 0)]),((8,u8),some<|.box 133 [(.ptr (30,u8) 0)]),((1,g1),some<|.box 133 [(.ptr (30,u8) 0)]),((30,u8),some<|.box 135 (V2 v5))]) () () _ W (HR hv6 _ _) (fun x1 g3 _ _=>⟨F1 W<|gq W,_,_,_,_,_,_,_,_,_,_,F1 W<|gq W⟩) (fun _=>W) hz1 (F0 W W) nofun ?_ ?_
 intro u15 hu15 hku15
 refine ⟨fun x1 g3=>(F1 W<|F1 W<|F1 W<|F1 W<|F1 W<|F1 W<|F1 W W),?_⟩
 intro r1 x1 g3 a1 z2 hrr1 hz2 ez2
 unfold Jn at hz2
 show Cb _ _ _ _ _ _ ⟨T [(36,(di a1.2)),(35,(di a1.1)),(2,(.ptr (2,u1) 0)),(3,(.ptr (3,u1) 0)),(4,(.ptr (4,u1) 0)),(5,(.ptr (5,u1) 0)),(8,(.ptr (8,u8) 0)),(34,(.fn (.func 174) [] [(.ptr (1,g1) 0)]))],G [((1000000,u15),some (.obj (T [(2,(.ptr (2,u1) 0)),(3,(.ptr (3,u1) 0)),(4,(.ptr (4,u1) 0)),(5,(.ptr (5,u1) 0)),(8,(.ptr (8,u8) 0)),(34,(.fn (.func 174) [] [(.ptr (1,g1) 0)]))]) r1)),((2,u1),some (.box 33 (L4 p1))),((3,u1),some (.box 22 [(dl C6 p2)])),((4,u1),some (.box 25 [(di 0),(.d .nilS),(.d .nilS)])),((5,u1),some (.box 36 [(di 0)])),((8,u8),some (.box 133 [(.ptr (30,u8) 0)])),((1,g1),some (.box 133 [(.ptr (30,u8) 0)])),((30,u8),some (.box 135 (V2 v5)))]⟩
 refine B0<|sv W<|A1<|B9<|sv W<|A1<|U1<|RR G_hit ?_
 refine A7<|A5<|A5<|E8 W<|sd W (B2 W (gq W) W W)<|sl W (gq W) W (sv W<|bs hz2 fun _ hv7 hz2=>sd W (C4 W W hv7 W)<|sd W (D1 W hv7 W W)<|sl W (gq W) W (sv W<|bs hz2 fun _ hv8 hz2=>sd W (C4 W W hv8 W)<|sd W (D1 W hv8 W W)<|bs hz2 fun _ hv9 hz2=>A9 W W A3 (BS _ _ _ _ hv9) (.inl W) (A1<|cc W hz2 (fun c3 hz2=> ?_)<|fun c3 hz2=> ?_)))
 refine B0<|sv W<|S5 W (gq W) [(di 0),(.d .nilS),(.d .nilS)] W (S5 W (gq W) [(di 12)] W (A1<|B1 ?_))
 cases hz2
 obtain rfl:=ez2 _ rfl
 refine TH (gq W) nofun (F2 ?_)
 rw [bX]at h
 cases h
 exact A6 (.inr W) (Jt (H5 W (gq W) (nl W) W) (Vx W (gq W) W) C0 C0) (.tup (.cons (.agg (ca W<|.cons ⟨DLe.nil,W⟩ (.cons ⟨DLe.nil,W⟩ .nil))) A3))
 refine A8<|B0<|sq W<|sl W (gq W) W (sd W (D3 W)<|sv W<|A1<|js hz2 fun z3 hz3 hz2=>D6 (fun s=> ∃(y3:Unit) (g4:Unit),z3= .inl y3∧Sb ⟨T [],G [((2,u1),some<|.box 33 (L4 p1)),((3,u1),some<|.box 22 [(dl C6 p2)]),((4,u1),some<|.box 25 [(di 0),(.d .nilS),(.d .nilS)]),((5,u1),some<|.box 36 [(di 0)]),((8,u8),some<|.box 133 [(.ptr (30,u8) 0)]),((1,g1),some<|.box 133 [(.ptr (30,u8) 0)]),((1000000,u15),some<|.obj (T [(2,(.ptr (2,u1) 0)),(3,(.ptr (3,u1) 0)),(4,(.ptr (4,u1) 0)),(5,(.ptr (5,u1) 0)),(8,(.ptr (8,u8) 0)),(34,(.fn (.func 174) [] [(.ptr (1,g1) 0)]))]) {r1 with state:= .busy}),((30,u8),some<|.box 135 (V2 v5))]⟩ s) ?_ ?_)
 refine A7<|E1 (Jm p1 v5 a1) (fun (x2:Int) (g5:Unit)=>⟨T [(4,(.ptr (4,u1) 0)),(5,(.ptr (5,u1) 0)),(8,(.ptr (8,u8) 0)),(9,(di a1.1)),(10,(di a1.2)),(50,(di (p1.Zones.length:Int))),(51,(di x2))],G [((4,u1),some<|.box 25 [(di 0),(.d .nilS),(.d .nilS)]),((5,u1),some<|.box 36 [(di 0)]),((8,u8),some<|.box 133 [(.ptr (30,u8) 0)]),((2,u1),some<|.box 33 (L4 p1)),((3,u1),some<|.box 22 [(dl C6 p2)]),((1,g1),some<|.box 133 [(.ptr (30,u8) 0)]),((1000000,u15),some<|.obj (T [(2,(.ptr (2,u1) 0)),(3,(.ptr (3,u1) 0)),(4,(.ptr (4,u1) 0)),(5,(.ptr (5,u1) 0)),(8,(.ptr (8,u8) 0)),(34,(.fn (.func 174) [] [(.ptr (1,g1) 0)]))]) {r1 with state:= .busy}),((30,u8),some<|.box 135 (V2 v5))]⟩) 0 () _ hz3 (F0 W W) ?_
 intro x2 g5 z4 hz4 ez4
 unfold Jm at hz4
 refine B0<|sv W<|A1<|A5<|cc W hz4 (fun c4 hz4=> ?_)<|fun c4 hz4=> ?_
 refine A8<|A5<|A7<|B0<|sv W<|sv W<|A1<|B0<|sp W (P8 W (gq W) W)<|sv W<|sv W<|sv W<|bs hz4 fun _ hv10 hz4=>A9 W (E4 (Aj (gq W)<|rD<|rD<|rD<|rD<|rD<|rD<|rD<|rD<|rD<|rD<|rD<|rD<|rD F9)<|rD<|rD<|rD F9) A3 (Lz _ _ _ _ _ hv10) (.inr W) (A1<|cc W hz4 (fun c5 hz4=> ?_)<|fun c5 hz4=> ?_)
 refine B0<|sv W<|S5 W G_hit [(di 0),(.d .nilS),(.d .nilS)] W (S5 W (gq W) [(di 12)] W (A1<|B1 ?_))
 cases hz4
 obtain rfl:=ez4 _ rfl
 refine ⟨nofun,F2 ?_⟩
 rw [bX]at hz2
 cases hz2
 obtain rfl:=ez2 _ rfl
 refine TH (gq W) nofun (F2 ?_)
 rw [bX]at h
 cases h
 exact A6 (.inr W) (Jt (H5 W (gq W) (nl W) W) (Vx W (gq W) W) C0 C0) (.tup (.cons (.agg (ca W<|.cons ⟨DLe.nil,W⟩ (.cons ⟨DLe.nil,W⟩ .nil))) A3))
 refine A8<|E0<|B9<|sv W<|sv W<|A1<|E2 ?_
 cases hz4
 exact ⟨W,(),(F0 W W)⟩
 refine C7 W ?_
 cases hz4
 obtain rfl:=ez4 _ rfl
 refine ⟨nofun,C5 W<|U1 ?_⟩
 exact ⟨_,(),W,(F0 W W)⟩
 rintro _ ⟨y3,g4,rfl,q1⟩
 rw [bW]at hz2
 refine E0<|E2 ?_
 cases hz2
 exact dL q1 (gq W) () (B5 G_hit (.of W)<|sg W<|sg W<|sg W<|sg W<|sg W<|sg W trivial)
 rintro x1 g3 _ rfl qx1
 refine E0<|U1 ?_
 exact ⟨_,(),W,(Sb.after qx1<|F0 W W)⟩
 rintro _ ⟨y2,g2,rfl,q2⟩
 rw [bW]at h
 refine B4 q2<|B0<|sp W (P8 W (gq W) W)<|sq W<|sp W W<|sd W (B2 W (gq W) W W)<|S5 W G_hit (K1 v5.after) W (S5 W (gq W) [(di 0)] W (A1<|B1 ?_))
 cases h
 exact A6 (.inr W) (Jt (H5 W (gq W) (nl W) W) (Vx W G_hit W) C0 C0) (.refl _)
def On (p1:Int):Option Int:=
  (cond (decide (p1≥4294967296)) (some ((p1.fdiv (2^ (min (32:Int).toNat (IntKind.bits .u64)))),32)) (some (p1,0))).bind fun y1=>(cond (decide (y1.1≥65536)) (some ((y1.1.fdiv (2^ (min (16:Int).toNat (IntKind.bits .u64)))),(D9 (y1.2+16)))) (some (y1.1,y1.2))).bind fun y2=>cond (decide (y2.1≥256)) ((eA (ByteArray.mk #[0,1,2,2,3,3,3,3,4,4,4,4,4,4,4,4,5,5,5,5,5,5,5,5,5,5,5,5,5,5,5,5,6,6,6,6,6,6,6,6,6,6,6,6,6,6,6,6,6,6,6,6,6,6,6,6,6,6,6,6,6,6,6,6,7,7,7,7,7,7,7,7,7,7,7,7,7,7,7,7,7,7,7,7,7,7,7,7,7,7,7,7,7,7,7,7,7,7,7,7,7,7,7,7,7,7,7,7,7,7,7,7,7,7,7,7,7,7,7,7,7,7,7,7,7,7,7,7,8,8,8,8,8,8,8,8,8,8,8,8,8,8,8,8,8,8,8,8,8,8,8,8,8,8,8,8,8,8,8,8,8,8,8,8,8,8,8,8,8,8,8,8,8,8,8,8,8,8,8,8,8,8,8,8,8,8,8,8,8,8,8,8,8,8,8,8,8,8,8,8,8,8,8,8,8,8,8,8,8,8,8,8,8,8,8,8,8,8,8,8,8,8,8,8,8,8,8,8,8,8,8,8,8,8,8,8,8,8,8,8,8,8,8,8,8,8,8,8,8,8,8,8,8,8,8,8]) (IntKind.wrap .u8 (y2.1.fdiv (2^ (min (8:Int).toNat (IntKind.bits .u64)))))).bind fun v1=>some (D9 ((D9 (y2.2+8))+ (D9 v1)))) ((eA (ByteArray.mk #[0,1,2,2,3,3,3,3,4,4,4,4,4,4,4,4,5,5,5,5,5,5,5,5,5,5,5,5,5,5,5,5,6,6,6,6,6,6,6,6,6,6,6,6,6,6,6,6,6,6,6,6,6,6,6,6,6,6,6,6,6,6,6,6,7,7,7,7,7,7,7,7,7,7,7,7,7,7,7,7,7,7,7,7,7,7,7,7,7,7,7,7,7,7,7,7,7,7,7,7,7,7,7,7,7,7,7,7,7,7,7,7,7,7,7,7,7,7,7,7,7,7,7,7,7,7,7,7,8,8,8,8,8,8,8,8,8,8,8,8,8,8,8,8,8,8,8,8,8,8,8,8,8,8,8,8,8,8,8,8,8,8,8,8,8,8,8,8,8,8,8,8,8,8,8,8,8,8,8,8,8,8,8,8,8,8,8,8,8,8,8,8,8,8,8,8,8,8,8,8,8,8,8,8,8,8,8,8,8,8,8,8,8,8,8,8,8,8,8,8,8,8,8,8,8,8,8,8,8,8,8,8,8,8,8,8,8,8,8,8,8,8,8,8,8,8,8,8,8,8,8,8,8,8,8,8]) (IntKind.wrap .u8 y2.1)).bind fun v2=>some (D9 (y2.2+ (D9 v2))))
theorem Zp(p1 r)(h:On p1=some r):PCall prog 281 [(.v (.int .u64 p1))] (i64 r):=by
 refine C2 (fk func281 ntmps281 m0 (by with_unfolding_all rfl)) (nl W) ?_
 unfold On at h
 refine B4 (s0:=⟨T [(0,(.d _))],G []⟩) (F0 W W) ?_
 refine B0<|sv W<|A1<|A5<|B0<|sv W<|sv W<|A1<|bs h fun y1 hy1 h=>D6 (fun s=> ∃g1:Unit,Sb ⟨T [(0,(.d (.v (.int .u64 y1.1)))),(2,(di y1.2))],G []⟩ s) ?_ ?_
 refine cc W hy1 (fun c1 hy1=> ?_)<|fun c1 hy1=> ?_
 refine B0<|sv W<|sv W<|sv W<|A1<|B9<|sv W<|A1 ?_
 cases hy1
 exact U1 ⟨(),(F0 W W)⟩
 refine A8 ?_
 cases hy1
 exact U1 ⟨(),(F0 W W)⟩
 rintro _ ⟨g1,q1⟩
 refine B4 q1<|A5<|B0<|sv W<|sv W<|A1<|bs h fun y2 hy2 h=>D6 (fun s=> ∃g2:Unit,Sb ⟨T [(0,(.d (.v (.int .u64 y2.1)))),(2,(di y2.2))],G []⟩ s) ?_ ?_
 refine cc W hy2 (fun c2 hy2=> ?_)<|fun c2 hy2=> ?_
 refine B0<|sv W<|sv W<|sv W<|A1<|B9<|sv W<|sv W<|sv W<|A1 ?_
 cases hy2
 exact U1 ⟨(),(F0 W W)⟩
 refine A8 ?_
 cases hy2
 exact U1 ⟨(),(F0 W W)⟩
 rintro _ ⟨g2,q2⟩
 refine B4 q2<|A5<|B0<|sv W<|sv W<|A1<|cc W h (fun c3 h=> ?_)<|fun c3 h=> ?_
 refine B0<|sv W<|sv W<|sv W<|A1<|B9<|sv W<|sv W<|sv W<|A1<|B0<|sv W<|sv W<|sv W<|bs h fun _ hv1 h=>sd W (ZP W W hv1)<|sv W<|sv W<|sv W<|A1<|B1 ?_
 cases h
 exact A6 (.inr W) (B6 (B3 W) C0) (.refl _)
 refine A8<|B0<|sv W<|sv W<|sv W<|bs h fun _ hv2 h=>sd W (ZP W W hv2)<|sv W<|sv W<|sv W<|A1<|B1 ?_
 cases h
 exact A6 (.inr W) (B6 (B3 W) C0) (.refl _)
def Nl (p1:Int):Option Int:=
  (On p1).bind fun v1=>some v1
theorem Sx(p1 r)(h:Nl p1=some r):PCall prog 267 [(.v (.int .u64 p1))] (i64 r):=by
 refine C2 (fk func267 ntmps267 m0 (by with_unfolding_all rfl)) (nl W) ?_
 unfold Nl at h
 refine B4 (s0:=⟨T [(0,(.d _))],G []⟩) (F0 W W) ?_
 refine B0<|sv W<|A1<|A5<|Rk W<|A8<|B0<|sv W<|bs h fun _ hv1 h=>A9 W W A3 (Zp _ _ hv1) (.inl W) (sv W<|A1<|B1 ?_)
 cases h
 exact A6 (.inr W) (B6 (B3 W) C0) (.refl _)
def Qm (p1:Int)(p2:Int):Option Bool:=
  (Ac p1).bind fun v1=>((cond v1 (Ac p2) (some default))).bind fun v2=>some ((v1&& (!v2))||(decide (p1<p2)))
theorem BU(p1 p2 r)(h:Qm p1 p2=some r):PCall prog 277 [(i64 p1),(i64 p2)] (bo r):=by
 refine C2 (fk func277 ntmps277 m0 (by with_unfolding_all rfl)) (nl W) ?_
 unfold Qm at h
 refine B4 (s0:=⟨T [(0,(.d _)),(1,(.d _))],G []⟩) (F0 W W) ?_
 refine B0<|sv W<|A1<|B0<|sv W<|bs h fun v1 hv1 h=>A9 W W A3 (Gr _ _ hv1) (.inl W) (sv W<|gt W (fun _=>W)<|bs h fun v2 hv2 h=> ?_)
 refine N4 v1 (bo v2) (K3 W) (fun w2=>⟨_,[(di p2)],_,_,(by simp only [A2 w2];rfl),W,A3,Gr _ _<|C1 w2 hv2,(.inl W)⟩) ?_
 refine M5 _ (.d (bo (!v2))) W (K3 W) (fun w3=>(by simp only [A2 w3];rfl)) ?_
 refine sa W W W<|sv W<|gf W (fun _=>W)<|gf W (fun _=>W)<|gf W (fun w6=>(M4 (A2 w6) (A2 w6) W))<|sd W (O5 W W<|fun hc=>A2<|J6 hc)<|sv W<|A1<|B1 ?_
 cases h
 exact A6 (.inr W) (B6 (B3 W) C0) (.refl _)
def V5 (p2:Int)(x2:(Int× (List Int))):Option (Stp (Int× (List Int)) (List Int)):=
  ((cond (decide (x2.1>p2)) (C3 x2.2 x2.1) (some default))).bind fun v1=>((cond (decide (x2.1>p2)) (C3 x2.2 (D9 (x2.1 - 1))) (some default))).bind fun v2=>((cond (decide (x2.1>p2)) (Qm v1 v2) (some default))).bind fun v3=>cond ((decide (x2.1>p2))&&v3) ((C3 x2.2 (D9 (x2.1 - 1))).bind fun v4=>(C3 x2.2 x2.1).bind fun v5=>(C3 x2.2 x2.1).bind fun v6=>(C3 (Mh x2.2 x2.1 v4) (D9 (x2.1 - 1))).bind fun v7=>some (.go ((D9 (x2.1 - 1)),(Mh (Mh x2.2 x2.1 v4) (D9 (x2.1 - 1)) v5)))) (some (.out x2.2))
def L7 [Lp](p2:Int)(p3:Int)(x1:(Int× (List Int))):Option (Stp (Int× (List Int)) (List Int)):=
  cond (decide (x1.1<p3)) ((loop (V5 p2) (x1.1,x1.2)).bind fun y1=>some (.go ((D9 (x1.1+1)),y1))) (some (.out (x1.2)))
def M8 [Lp](p1:(List Int))(p2:Int)(p3:Int):Option (List Int):=
  loop (L7 p2 p3) ((D9 (p2+1)),p1)
theorem Ix(p1 p2 p3 r)(h:M8 p1 p2 p3=some r):MCall prog 271 [(.sl (900000,0)),(di p2),(di p3)] [(.arr 2 1 (List.map A4 p1))] (.d (.tup [])) [some (.arr 2 1 (List.map A4 r))] []:=by
 refine Tk (fk func271 ntmps271 m0 (by with_unfolding_all rfl)) W (nl W) ?_
 unfold M8 at h
 refine B4 (s0:=⟨T [(0,(.sl _)),(1,(.d _)),(2,(.d _))],G [((900000,0),some _)]⟩) (F0 W W) ?_
 refine B0<|sv W<|sv W<|sv W<|A1<|A7<|E1 (L7 p2 p3) (fun (x1:(Int× (List Int))) (g1:Unit)=>⟨T [(0,(.sl (900000,0))),(1,(di p2)),(2,(di p3)),(6,(di x1.1))],G [((900000,0),some<|.arr 2 1 (List.map A4 x1.2))]⟩) ((D9 (p2+1)),p1) () _ h (F0 W W) ?_
 intro x1 g1 z1 hz1 ez1
 unfold L7 at hz1
 refine A5<|B0<|sv W<|sv W<|sv W<|A1<|cc W hz1 (fun c1 hz1=> ?_)<|fun c1 hz1=> ?_
 refine A8<|A5<|A7<|B0<|sv W<|sv W<|A1<|bs hz1 fun y1 hy1 hz1=>D6 (fun s=> ∃g2:Unit,Sb ⟨T [(0,(.sl (900000,0))),(1,(di p2)),(2,(di p3)),(6,(di x1.1))],G [((900000,0),some<|.arr 2 1 (List.map A4 y1))]⟩ s) ?_ ?_
 refine A7<|E1 (V5 p2) (fun (x2:(Int× (List Int))) (g3:Unit)=>⟨T [(0,(.sl (900000,0))),(1,(di p2)),(2,(di p3)),(6,(di x1.1)),(7,(di x2.1))],G [((900000,0),some<|.arr 2 1 (List.map A4 x2.2))]⟩) (x1.1,x1.2) () _ hy1 (F0 W W) ?_
 intro x2 g3 z2 hz2 ez2
 unfold V5 at hz2
 refine A5<|A5<|E8 W<|sv W<|sv W<|sv W<|sv W<|M5 _ (.sl _) W (K3 W) (fun _=>W) (gt W (fun _=>W)<|bs hz2 fun v1 hv1 hz2=>M5 _ (.aptr _ _ _ _) W (K3 W) (fun w3=>(Ij (A2 w3) (A2 w3) G_hit (C1 w3 hv1))) (gt W (fun w4=>(Ni (A2 w4) G_hit (C1 w4 hv1) W))<|M5 _ (.sl _) W (K3 W) (fun _=>W) (gt W (fun _=>W)<|gt W (vb W W W)<|bs hz2 fun v2 hv2 hz2=>M5 _ (.aptr _ _ _ _) W (K3 W) (fun w8=>(Ij (A2 w8) (A2 w8) G_hit (C1 w8 hv2))) (gt W (fun w9=>(Ni (A2 w9) G_hit (C1 w9 hv2) W))<|bs hz2 fun v3 hv3 hz2=> ?_))))
 refine N4 _ (bo v3) (K3 W) (fun w10=>⟨_,[(di v1),(di v2)],_,_,(by simp only [A2 w10];rfl),W,A3,BU _ _ _<|C1 w10 hv3,(.inl W)⟩) ?_
 refine sa W W W<|A1<|cc W hz2 (fun c2 hz2=> ?_)<|fun c2 hz2=> ?_
 refine A8<|A5<|A7<|E8 W<|ss W<|sv W<|ss W<|sv W<|sv W<|ss W<|sv W<|sv W<|bs hz2 fun v4 hv4 hz2=>B8 (.aptr _ _ _ _) W (Ij W W G_hit hv4) (sd W (Ni W G_hit hv4 W)<|ss W<|sv W<|bs hz2 fun v5 hv5 hz2=>B8 (.aptr _ _ _ _) W (Ij W W G_hit hv5) (sd W (Ni W G_hit hv5 W)<|bs hz2 fun _ hv6 hz2=>B8 (.aptr _ _ _ _) W (Ij W W G_hit hv6) (Ns A4 _ _ _ (x2.1) _ v4 [(i64 v4)] W W W G_hit hv6 (nl W) W (bs hz2 fun _ hv7 hz2=>B8 (.aptr _ _ _ _) W (Ij W W G_hit hv7) (Ns A4 _ _ _ ((D9 (x2.1 - 1))) _ v5 [(i64 v5)] W W W G_hit hv7 (nl W) W (A1<|E0<|B9<|sv W<|sv W<|sv W<|A1<|E2 ?_))))))
 cases hz2
 exact ⟨W,(),(F0 W W)⟩
 refine C7 W ?_
 cases hz2
 obtain rfl:=ez2 _ rfl
 refine ⟨nofun,C5 W<|U1 ?_⟩
 exact ⟨(),(F0 W W)⟩
 rintro _ ⟨g2,q1⟩
 refine E0<|B4 q1<|B9<|sv W<|sv W<|sv W<|A1<|E2 ?_
 cases hz1
 exact ⟨W,(),(F0 W W)⟩
 refine C7 W ?_
 cases hz1
 obtain rfl:=ez1 _ rfl
 refine ⟨nofun,C5 W<|E2 ?_⟩
 exact Ze (.inl W) [] Zf (.refl _) ⟨⟨G_hit,El⟩,trivial⟩
def N5 [Lp](p1:(List Int))(x1:(Int×Int×Int×Bool×Bool)):Option (Stp (Int×Int×Int×Bool×Bool) (List Int)):=
  cond (decide ((D9 (x1.2.1 - x1.1))≤12)) ((M8 p1 x1.1 x1.2.1).bind fun v1=>some (.out (v1))) (cond (x1.2.2.1==0) (none) ((cond (!x1.2.2.2.1) (none) (some ())).bind fun _=>none))
def P2 [Lp](p1:(List Int))(p2:Int)(p3:Int)(p4:Int):Option (List Int):=
  loop (N5 p1) (p2,p3,p4,true,true)
theorem Ma(p1 p2 p3 p4 r)(h:P2 p1 p2 p3 p4=some r):MCall prog 266 [(.sl (900000,0)),(di p2),(di p3),(di p4)] [(.arr 2 1 (List.map A4 p1))] (.d (.tup [])) [some (.arr 2 1 (List.map A4 r))] []:=by
 refine Tk (fk func266 ntmps266 (fun r=>if r==4 then [1004003]else []) (by with_unfolding_all rfl)) W (nl W) ?_
 unfold P2 at h
 refine B4 (s0:=⟨T [(0,(.sl _)),(1,(.d _)),(2,(.d _)),(3,(.d _))],G [((900000,0),some _)]⟩) (F0 W W) ?_
 refine B0<|sv W<|A1<|B0<|sv W<|A1<|A7<|E1 (N5 p1) (fun (x1:(Int×Int×Int×Bool×Bool)) (g1:Unit)=>⟨T [(0,(.sl (900000,0))),(1,(di x1.1)),(2,(di x1.2.1)),(3,(di x1.2.2.1)),(8,(.d (bo x1.2.2.2.1))),(9,(.d (bo x1.2.2.2.2)))],G [((900000,0),some<|.arr 2 1 (List.map A4 p1))]⟩) (p2,p3,p4,true,true) () _ h (F0 W W) ?_
 intro x1 g1 z1 hz1 ez1
 unfold N5 at hz1
 refine A7<|B0<|sv W<|sv W<|sv W<|sv W<|A1<|A5<|B0<|sv W<|sv W<|A1<|cc W hz1 (fun c1 hz1=> ?_)<|fun c1 hz1=> ?_
 refine B0<|ss W<|sv W<|sv W<|bs hz1 fun v1 hv1 hz1=>CW (v:= .d (.tup [])) (us:= [(900000,0)]) (JD (Ix _ _ _ _ hv1) [(900000,0)] [(900000,0)] _ (((900000,0),some<|.arr 2 1 (List.map A4 v1))::_) W Ll (X1 BH<|X1 Zd<|X1 Zd Ry) (Jf G_hit Gz) ⟨⟨_,G_hit, .of W⟩,trivial⟩ (fun _ h=>h) nd1 W W W) (A1<|B1 ?_)
 cases hz1
 obtain rfl:=ez1 _ rfl
 refine ⟨nofun,F2 ?_⟩
 exact Ze (.inr W) [] Zf (.refl _) ⟨⟨G_hit,El⟩,trivial⟩
 refine A8<|A5<|B0<|sv W<|sv W<|A1<|cc W hz1 (fun c2 hz1=> ?_)<|fun c2 hz1=> ?_
 refine B0<|ss W<|sv W<|sv W ?_
 cases hz1
 refine A8<|A5<|B0<|sv W<|B8 (.d (bo (!x1.2.2.2.1))) W W (A1<|bs hz1 fun _ hy1 hz1=>D6 (fun s=> ∃g2:Unit,Sb ⟨T [(0,(.sl (900000,0))),(1,(di x1.1)),(2,(di x1.2.1)),(3,(di x1.2.2.1)),(8,(.d (bo x1.2.2.2.1))),(9,(.d (bo x1.2.2.2.2))),(10,(di<|D9 (x1.2.1 - x1.1)))],G [((900000,0),some<|.arr 2 1 (List.map A4 p1))]⟩ s) ?_ ?_)
 refine cc W hy1 (fun c3 hy1=> ?_)<|fun c3 hy1=> ?_
 refine B0<|ss W<|sv W<|sv W ?_
 cases hy1
 refine A8 ?_
 cases hy1
 exact U1 ⟨(),(F0 W W)⟩
 rintro _ ⟨g2,q1⟩
 refine B4 q1<|B0<|ss W<|sv W<|sv W ?_
 cases hz1
def T1 [Lp](p1:(List Int)):Option (List Int):=
  (Nl (IntKind.wrap .u64 (p1.length:Int))).bind fun v1=>(P2 p1 0 (p1.length:Int) v1).bind fun v2=>some v2
theorem Oo(p1 r)(h:T1 p1=some r):MCall prog 252 [(.sl (900000,0))] [(.arr 2 1 (List.map A4 p1))] (.d (.tup [])) [some (.arr 2 1 (List.map A4 r))] []:=by
 refine Tk (fk func252 ntmps252 (fun r=>if r==1 then [1001005]else []) (by with_unfolding_all rfl)) W (nl W) ?_
 unfold T1 at h
 refine B4 (s0:=⟨T [(0,(.sl _))],G [((900000,0),some _)]⟩) (F0 W W) ?_
 refine B0<|ss W<|sd W (RS (f:=A4) W G_hit)<|sv W<|A1<|B9<|ss W<|sv W<|sv W<|sv W<|bs h fun _ hv1 h=>A9 W W A3 (Sx _ _ hv1) (.inl W) (bs h fun v2 hv2 h=>CW (v:= .d (.tup [])) (us:= [(900000,0)]) (JD (Ma _ _ _ _ _ hv2) [(900000,0)] [(900000,0)] _ (((900000,0),some<|.arr 2 1 (List.map A4 v2))::_) W Ll (X1 BH<|X1 Zd<|X1 Zd<|X1 Zd Ry) (Jf G_hit Gz) ⟨⟨_,G_hit, .of W⟩,trivial⟩ (fun _ h=>h) nd1 W W W) (A1<|E2 ?_))
 obtain rfl:=(lD h)
 exact Ze (.inl W) [] Zf (.refl _) ⟨⟨G_hit,El⟩,trivial⟩
section
open Go.RowKit Go.Lib
def jY:Go.Shelf.Ren:=⟨fun n=>if n=43 then 253 else 0,fun t=>if t=22 then 48 else if t=23 then 2 else t,fun x=>x⟩
theorem cmp_lay:SlLaysE.n43 prog jY where
  mixed:=by kernel_rfl
  f43:=⟨Tryz.f253.name,by decide,by kernel_rfl⟩
  t0:=Tryz.underlying0
  a0:=Tryz.isAgg0
  z0:=Tryz.sizeOf0
  v0:=Tryz.zeroValue0
  t3:=Tryz.underlying3
  a3:=Tryz.isAgg3
  z3:=Tryz.sizeOf3
  v3:=Tryz.zeroValue3
  t4:=Tryz.underlying4
  a4:=Tryz.isAgg4
  z4:=Tryz.sizeOf4
  v4:=Tryz.zeroValue4
  t22:=Tryz.underlying48
  a22:=Tryz.isAgg48
  z22:=Tryz.sizeOf48
  v22:=Tryz.zeroValue48
  a23:=Tryz.isAgg2
  z23:=Tryz.sizeOf2
theorem VJ (g cap:Nat)(d:Array Int)(w:World)(hH:Go.Sort.Holds (Value.int .i64) w g 0 d)(hsz:d.size≤9223372036854775807)(hcap:d.size≤cap):
    Calls prog 253 #[.slice (some ⟨g,0,none⟩) d.size cap] w fun e w'=>e= .returned (.slice (some ⟨g,0,none⟩) (Go.Lib.compactUpTo d d.size).length cap)∧∃q,w'=Go.Sort.putRow (Value.int .i64) (Go.Sort.ahead w q) g 0 (Go.Lib.compactUpTo d d.size++List.replicate (d.size - (Go.Lib.compactUpTo d d.size).length) 0).toArray:=
  AnyE.slices_Compact cmp_lay (Value.int .i64) (fun _=>rfl) (.intD _ _ _) (.intD _ _ _) 0 Tryz.zeroValue2 g 0 cap d w hH hsz hcap
theorem eB (d:Array Int):(Go.Lib.compactUpTo d d.size).length≤d.size:=by
  unfold Go.Lib.compactUpTo
  rw [lS]
  refine Nat.le_trans (List.length_filter_le _ _) ?_
  rw [List.length_range];exact wA _
theorem KP (xs:List Int): ∀m,m≤xs.length→Go.Lib.compactUpTo xs.toArray m=Oh (xs.take m)
  |0,_=>rfl
  |m+1,h=>by
   rw [Go.Lib.compactUpTo_succ,KP xs m (by omega),List.take_add_one,lH (by omega),Option.toList_some,ED]
   congr 1
   have hm:m<xs.length:=by omega
   have e1:xs.toArray[m]! =xs[m]:=by rw [getElem!_pos xs.toArray m (by simpa using hm)];simp
   rw [Go.Lib.keeps,e1]
   cases m with
   |zero=>simp
   |succ k=>
    have e2:xs.toArray[k]! =xs[k]:=by rw [getElem!_pos xs.toArray k (by rw [List.size_toArray];omega)];simp
    have e3:(xs.take (k+1)).getLast? =some xs[k]:=by rw [List.take_add_one,lH (by omega),Option.toList_some,List.getLast?_append];simp
    rw [Nat.add_sub_cancel,e2,e3]
    by_cases e:xs[k+1]=xs[k]
    ·simp [e]
    ·rw [bJ (by simp [e]),bK (fun q=>e (lD q).symm)]
theorem jA (xs r:List Int)(hr:HF xs=some r):MCall prog 253 [.sl (900000,0)] [.arr 2 1 (List.map A4 xs)] (.sl (800000,0)) [none] [some (.arr 2 1 (List.map A4 r))]:=by
  obtain ⟨hx,rfl⟩:=MK hr
  clear hr
  refine ⟨W,fun vs w=> ?_,fun w I ρ vs H hlen hrep=> ?_⟩
  ·have hn': ¬Tryz.f253.name= "runtime.NumGoroutine" :=by decide
   have hb: ∃c,Tryz.f253.body=some c:=⟨_,rfl⟩
   obtain ⟨c,hb⟩:=hb
   simp [callFunc,func253,hb,hn']
  have hnx:0<xs.length:=List.length_pos_iff.2 hx
  obtain ⟨a,rfl⟩: ∃a,vs= [a]:=by
    match vs,hlen with
    | [a],_=>exact ⟨a,rfl⟩
  have r0:=hrep 0 _ rfl
  simp only [List.getD_cons_zero]at r0
  have hb0:G (Va 0 [Blk.arr 2 1 (List.map A4 xs)]) (Y6 0)=some (.arr 2 1 (List.map A4 xs)):=rfl
  obtain ⟨x0,cx,p1,p2,p3,p4⟩:=H.blk _ _ hb0
  have e0:a=x0:=by
    cases r0 with
    |sl _ _ h=>exact lD (h.symm.trans p1)
  subst e0
  obtain ⟨hxl,hx'|⟨g,c,cur,rfl,_,hg,hnc,hcm,hcs,hxc⟩⟩:=p2
  ·rw [lS]at hx';omega
  rw [lS]at hxl hnc hxc
  have hval: ∀i (hi:i<xs.length),cur[i]? =some (.int .i64 xs[i]):=by
    intro i hi
    obtain ⟨_,g2⟩:=p4 i 0 (.v (.int .i64 xs[i])) (by simp [Rw,hi,A4])
    have:cx.getD (i*1+0) undef= .int .i64 xs[i]:=by generalize cx.getD (i*1+0) undef=y at g2;cases g2;rfl
    rw [← hxc,List.getD,l8,bJ (by omega),Nat.mul_one,Nat.add_zero,Array.getElem?_toList]at this
    rw [Array.getElem?_eq_getElem (by omega)]at this ⊢
    rw [Option.getD_some]at this
    rw [this]
  have hH:Go.Sort.Holds (Value.int .i64) w g 0 xs.toArray:=by
    intro j hj
    rw [List.size_toArray]at hj
    have h2:=hval j hj
    refine ⟨?_,by simp [World.frozen?,hg]⟩
    simp [World.cell?,hg,h2,hj]
  have locx:N8 ρ (Y6 0) (.arr 2 1 (List.map A4 xs))=some g:=by simp [N8,p1,Value.ownBlock]
  have hca:=VJ g c xs.toArray w hH (by rw [List.size_toArray];unfold maxLen at hcm;omega) (by rw [List.size_toArray];exact hnc)
  have hcl:=eB xs.toArray
  rw [List.size_toArray]at hca hcl
  rw [lS]
  refine hca.mono ?_
  rintro e w' ⟨rfl,q,hw'⟩
  have hheap: ∀k,w'.heap[k]? =if k=g then some (.cells (Go.Sort.putCells (Value.int .i64) 0 (Go.Lib.compactUpTo xs.toArray xs.length++List.replicate (xs.length - (Go.Lib.compactUpTo xs.toArray xs.length).length) 0).toArray cur) 2 (0,0))else w.heap[k]?:=by
    intro k
    rw [hw']
    show (w.heap.modify g _)[k]? =_
    rw [Array.getElem?_modify]
    by_cases e:g=k
    ·subst e;rw [bJ rfl,bJ rfl,hg];rfl
    ·rw [bK e,bK (Ne.symm e)]
  have hos:w'.os=w.os∧w'.tape=w.tape∧w'.output=w.output∧w'.heap.size=w.heap.size:=by rw [hw'];exact ⟨rfl,rfl,rfl,by simp⟩
  clear hw' hca hH
  generalize hC:Go.Lib.compactUpTo xs.toArray xs.length=C at hcl hheap ⊢
  have hCc:Oh xs=C:=by rw [← hC,KP xs _ (wA _),List.take_length]
  rw [hCc]
  obtain ⟨Z,hZ⟩: ∃Z:Array Int,Z=(C++List.replicate (xs.length - C.length) 0).toArray:=⟨_,rfl⟩
  rw [← hZ]at hheap
  have hZs:Z.size=xs.length:=by rw [hZ];simp;omega
  have hZg: ∀i (hi:i<C.length),Z[i]! =C[i]:=by
    intro i hi
    have hlt:i<Z.size:=by omega
    rw [getElem!_pos Z i hlt]
    subst hZ
    rw [List.getElem_toArray,List.getElem_append_left hi]
  clear hZ hC hCc
  obtain ⟨u0,hu0⟩:=H.fresh
  have hk0:ρ (7,u0)=none:=hu0 7 u0 (wA _)
  have hgI: ¬I g:=H.notI _ _ g hb0 locx
  have hgo:own ρ (G (Va 0 [Blk.arr 2 1 (List.map A4 xs)])) g:=⟨_,_,hb0,locx⟩
  have hother: ∀k,k≠g→w'.heap[k]? =w.heap[k]?:=fun k hk=>by rw [hheap,bK hk]
  have hI': ∀b,I b→w'.heap[b]? =w.heap[b]?:=fun b hb=>hother b (fun e=>hgI (e▸hb))
  have H0:HeapOK w' I ρ (fun _=>none):=⟨fun k b hb=>(by cases hb),fun k k' b b' g h1=>(by cases h1),fun k b g h1=>(by cases h1),fun k b g h1=>(by cases h1),fun b hb=>by rw [hos.2.2.2];exact H.ilt b hb,⟨u0,hu0⟩,H.rone⟩
  have hloc: ∀k,N8 (Ah ρ (7,u0) (some (Value.slice (some ⟨g,0,none⟩) C.length c))) (7,u0) (.arr 2 1 (List.map A4 C))=some k→k=g:=by
    intro k hk
    have:some g=some k:=by simpa [N8,G7,Value.ownBlock] using hk
    exact (lD this).symm
  have hown: ∀g,¬own ρ (fun _=>none) g:=fun g ⟨k,b,h,_⟩=>by cases h
  have hsz:(Go.Sort.putCells (Value.int .i64) 0 Z cur).size=c:=by unfold Go.Sort.putCells;rw [Array.size_mapIdx,hcs,Nat.mul_one]
  have Hn:=NP H0 (7,u0) (Value.slice (some ⟨g,0,none⟩) C.length c) (.arr 2 1 (List.map A4 C)) hk0 rfl (fun k hk=>by
    rw [hloc k hk]
    exact ⟨hown g,hgI,by rw [hos.2.2.2];exact H.lt _ _ g hb0 locx⟩)
    ⟨_,C.map (Value.int .i64),G7 _ _ _,⟨by simp, .inr ⟨g,c,_,by rw [lS],wB _,by rw [hheap,bJ rfl],by rw [lS];omega,hcm,by rw [hsz,Nat.mul_one],by
      rw [lS,Nat.mul_one]
      apply List.ext_getElem
      ·have h3:(Go.Sort.putCells (Value.int .i64) 0 Z cur).toList.length=c:=hsz
       rw [lV,h3,lS];omega
      ·intro i h1 h2
       rw [lS]at h2
       rw [List.getElem_take,Array.getElem_toList,List.getElem_map]
       unfold Go.Sort.putCells
       rw [Array.getElem_mapIdx,bJ ⟨wB _,by omega⟩,Nat.sub_zero,hZg i h2]⟩⟩,by
      intro q hq
      obtain ⟨z,_,rfl⟩:=List.mem_map.1 hq
      rfl,by
      intro r j d' hd'
      unfold Rw at hd'
      rw [lK]at hd'
      cases hr:C[r]? with
      |none=>rw [hr]at hd';cases hd'
      |some z=>
       rw [hr]at hd'
       match j,hd' with
       |0,hd'=>
        cases hd'
        refine ⟨W,?_⟩
        rw [Nat.mul_one,Nat.add_zero,List.getD,lK,hr]
        exact .v _
       |j+1,hd'=>simp [A4]at hd'⟩
  refine ⟨_, .sl (7,u0),I,_,_,W, .sl _ _ (G7 _ _ _),Hn,⟨hos.1,hos.2.1,hos.2.2.1,by rw [hos.2.2.2];exact wA _,fun b hb hn'=>hother b<|fun e=>hn' (e▸hgo),fun _ hb=>hb,fun _ hb _=> .inl hb,?_,LL hk0⟩,fun _=>(7,u0),W,?_,?_,?_,?_⟩
  ·rintro k ⟨k',b',h1,h2⟩ hl
   by_cases ek:k'=(7,u0)
   ·subst ek
    rw [G7]at h1
    cases h1
    rw [hloc k h2];exact hgo
   ·rw [L5 _ _ _ _ ek]at h1;cases h1
  ·intro j b hb
   match j,hb with
   |0,hb=>cases hb
   |j+1,hb=>simp at hb
  ·intro j b hb
   match j,hb with
   |0,hb=>cases hb;exact G7 _ _ _
   |j+1,hb=>simp at hb
  ·intro j _ i _ e;simp only [Y6,Prod.mk.injEq]at e;omega
  ·intro j j' h1 h2 _
   simp only [lL,lN]at h1 h2
   omega
theorem ZS (A:Option Addr)(w:World):Calls prog 253 #[.slice A 0 0] w fun e w'=>e= .returned (.slice A 0 0)∧∃q,w'=w.drewN q:=by
  have mixed:=cmp_lay.mixed
  have v0:=Tryz.zeroValue2
  go_enter func253,ntmps253
  go_wp2
  go_ret
  exact ⟨W,0,W⟩
theorem eC:PCall prog 253 [.nilS] .nilS:=by
  refine ⟨fun vs w=> ?_,fun w I vs hI hlen hrep=> ?_⟩
  ·have hn': ¬Tryz.f253.name= "runtime.NumGoroutine" :=by decide
   have hb: ∃c,Tryz.f253.body=some c:=⟨_,rfl⟩
   obtain ⟨c,hb⟩:=hb
   simp [callFunc,func253,hb,hn']
  obtain ⟨a,rfl⟩: ∃a,vs= [a]:=by
    match vs,hlen with
    | [a],_=>exact ⟨a,rfl⟩
  have r0:=hrep 0 _ rfl
  simp only [List.getD_cons_zero]at r0
  cases r0 with
  |nilS A=>
   refine (ZS A w).mono ?_
   rintro e w' ⟨rfl,q,rfl⟩
   exact ⟨_,I,W, .nilS A,W,W,W,wA _,fun _ _=>W,fun _ hb=>hb,fun _ hb _=>hb,hI⟩
end
def V6 (p1:Int)(x2:Int):Option (Stp Int Unit):=
  ((cond (decide (x2>p1)) ((none:Option Unit)) (some default))).bind fun v1=>cond ((decide (x2>p1))&&false) (none) (some (.out ()))
def L8 [Lp](p1:Int)(p2:Int)(x1:Int):Option (Stp Int Unit):=
  cond (decide (x1<p2)) ((loop (V6 p1) x1).bind fun _=>some (.go (D9 (x1+1)))) (some (.out (())))
def M9 [Lp](p1:Int)(p2:Int):Option Unit:=
  loop (L8 p1 p2) (D9 (p1+1))
theorem Iy(p1 p2 r)(h:M9 p1 p2=some r):PCall prog 271 [.nilS,(i64 p1),(i64 p2)] (.tup []):=by
 refine C2 (fk func271 ntmps271 m0 (by with_unfolding_all rfl)) (nl W) ?_
 unfold M9 at h
 refine B4 (s0:=⟨T [(0,(.d _)),(1,(.d _)),(2,(.d _))],G []⟩) (F0 W W) ?_
 refine B0<|sv W<|sv W<|sv W<|A1<|A7<|E1 (L8 p1 p2) (fun (x1:Int) (g1:Unit)=>⟨T [(0,(.d .nilS)),(1,(di p1)),(2,(di p2)),(6,(di x1))],G []⟩) (D9 (p1+1)) () _ h (F0 W W) ?_
 intro x1 g1 z1 hz1 ez1
 unfold L8 at hz1
 refine A5<|B0<|sv W<|sv W<|sv W<|A1<|cc W hz1 (fun c1 hz1=> ?_)<|fun c1 hz1=> ?_
 refine A8<|A5<|A7<|B0<|sv W<|sv W<|A1<|bs hz1 fun _ hy1 hz1=>D6 (fun s=> ∃g2:Unit,Sb ⟨T [(0,(.d .nilS)),(1,(di p1)),(2,(di p2)),(6,(di x1))],G []⟩ s) ?_ ?_
 refine A7<|E1 (V6 p1) (fun (x2:Int) (g3:Unit)=>⟨T [(0,(.d .nilS)),(1,(di p1)),(2,(di p2)),(6,(di x1)),(7,(di x2))],G []⟩) x1 () _ hy1 (F0 W W) ?_
 intro x2 g3 z2 hz2 ez2
 unfold V6 at hz2
 refine A5<|A5<|E8 W<|sv W<|sv W<|sv W<|sv W<|gt W (fun _=>W)<|gt W (fun _=>W)<|bs hz2 fun _ hv1 hz2=>M5 _ (.d (.tup [])) W (K3 W) (fun w3=>nomatch C1 w3 hv1) (M5 _ (di 0) W (K3 W) (fun w4=>nomatch C1 w4 hv1) (M5 _ (.d (.tup [])) W (K3 W) (fun w5=>nomatch C1 w5 hv1) (M5 _ (di 0) W (K3 W) (fun w6=>nomatch C1 w6 hv1) (M5 _ (di 0) W (K3 W) (fun w7=>nomatch C1 w7 hv1) (M5 _ (.d (.tup [])) W (K3 W) (fun w8=>nomatch C1 w8 hv1) (M5 _ (di 0) W (K3 W) (fun w9=>nomatch C1 w9 hv1) (N4 _ (bo false) (K3 W) (fun w10=>nomatch C1 w10 hv1) (sa W W W<|A1<|cc W hz2 (fun c2 hz2=> ?_)<|fun c2 hz2=> ?_))))))))
 refine A8<|A5<|A7<|E8 W<|sv W<|sv W<|sv W<|sv W<|sv W<|sv W<|sv W<|sv W ?_
 cases hz2
 refine C7 W ?_
 cases hz2
 obtain rfl:=ez2 _ rfl
 refine ⟨nofun,C5 W<|U1 ?_⟩
 exact ⟨(),(F0 W W)⟩
 rintro _ ⟨g2,q1⟩
 refine E0<|B4 q1<|B9<|sv W<|sv W<|sv W<|A1<|E2 ?_
 cases hz1
 exact ⟨W,(),(F0 W W)⟩
 refine C7 W ?_
 cases hz1
 obtain rfl:=ez1 _ rfl
 refine ⟨nofun,C5 W<|E2 ?_⟩
 exact A6 (.inl W) W (.refl _)
def N6 [Lp](x1:(Int×Int×Int×Bool×Bool)):Option (Stp (Int×Int×Int×Bool×Bool) Unit):=
  cond (decide ((D9 (x1.2.1 - x1.1))≤12)) ((M9 x1.1 x1.2.1).bind fun v1=>some (.out (()))) (cond (x1.2.2.1==0) (none) ((cond (!x1.2.2.2.1) (none) (some ())).bind fun _=>none))
def P3 [Lp](p1:Int)(p2:Int)(p3:Int):Option Unit:=
  loop (N6) (p1,p2,p3,true,true)
theorem Mb(p1 p2 p3 r)(h:P3 p1 p2 p3=some r):PCall prog 266 [.nilS,(i64 p1),(i64 p2),(i64 p3)] (.tup []):=by
 refine C2 (fk func266 ntmps266 m0 (by with_unfolding_all rfl)) (nl W) ?_
 unfold P3 at h
 refine B4 (s0:=⟨T [(0,(.d _)),(1,(.d _)),(2,(.d _)),(3,(.d _))],G []⟩) (F0 W W) ?_
 refine B0<|sv W<|A1<|B0<|sv W<|A1<|A7<|E1 (N6) (fun (x1:(Int×Int×Int×Bool×Bool)) (g1:Unit)=>⟨T [(0,(.d .nilS)),(1,(di x1.1)),(2,(di x1.2.1)),(3,(di x1.2.2.1)),(8,(.d (bo x1.2.2.2.1))),(9,(.d (bo x1.2.2.2.2)))],G []⟩) (p1,p2,p3,true,true) () _ h (F0 W W) ?_
 intro x1 g1 z1 hz1 ez1
 unfold N6 at hz1
 refine A7<|B0<|sv W<|sv W<|sv W<|sv W<|A1<|A5<|B0<|sv W<|sv W<|A1<|cc W hz1 (fun c1 hz1=> ?_)<|fun c1 hz1=> ?_
 refine B0<|sv W<|sv W<|sv W<|bs hz1 fun _ hv1 hz1=>A9 W W A3 (Iy _ _ _ hv1) (.inl W) (A1<|B1 ?_)
 cases hz1
 obtain rfl:=ez1 _ rfl
 refine ⟨nofun,F2 ?_⟩
 exact A6 (.inr W) W (.refl _)
 refine A8<|A5<|B0<|sv W<|sv W<|A1<|cc W hz1 (fun c2 hz1=> ?_)<|fun c2 hz1=> ?_
 refine B0<|sv W<|sv W<|sv W ?_
 cases hz1
 refine A8<|A5<|B0<|sv W<|B8 (.d (bo (!x1.2.2.2.1))) W W (A1<|bs hz1 fun _ hy1 hz1=>D6 (fun s=> ∃g2:Unit,Sb ⟨T [(0,(.d .nilS)),(1,(di x1.1)),(2,(di x1.2.1)),(3,(di x1.2.2.1)),(8,(.d (bo x1.2.2.2.1))),(9,(.d (bo x1.2.2.2.2))),(10,(di<|D9 (x1.2.1 - x1.1)))],G []⟩ s) ?_ ?_)
 refine cc W hy1 (fun c3 hy1=> ?_)<|fun c3 hy1=> ?_
 refine B0<|sv W<|sv W<|sv W ?_
 cases hy1
 refine A8 ?_
 cases hy1
 exact U1 ⟨(),(F0 W W)⟩
 rintro _ ⟨g2,q1⟩
 refine B4 q1<|B0<|sv W<|sv W<|sv W ?_
 cases hz1
def T3 [Lp]:Option Unit:=
  (Nl (IntKind.wrap .u64 0)).bind fun v1=>(P3 0 0 v1).bind fun v2=>some ()
theorem Oq(r)(h:T3=some r):PCall prog 252 [.nilS] (.tup []):=by
 refine C2 (fk func252 ntmps252 m0 (by with_unfolding_all rfl)) (nl W) ?_
 unfold T3 at h
 refine B4 (s0:=⟨T [(0,(.d _))],G []⟩) (F0 W W) ?_
 refine B0<|sv W<|sv W<|sv W<|A1<|B9<|sv W<|sv W<|sv W<|sv W<|bs h fun _ hv1 h=>A9 W W A3 (Sx _ _ hv1) (.inl W) (bs h fun _ hv2 h=>A9 W W A3 (Mb _ _ _ _ hv2) (.inl W) (A1<|E2 ?_))
 cases h
 exact A6 (.inl W) W (.refl _)
def Jo [Lp](p1:Map)(p2:Int)(p3:Int)(v1:Zone)(x2:((List Int)×Int)):Option (Stp ((List Int)×Int) (List Int)):=
  cond (decide (x2.2< (v1.Parts.length:Int))) ((C3 v1.Parts x2.2).bind fun v2=>((cond (v2.Lane_==p2) (C3 p1.Signals (D9 (v1.Signal_ - 1))) (some default))).bind fun v3=>((cond (v2.Lane_==p2) (Eh v3 p2 p3) (some default))).bind fun v4=>cond ((v2.Lane_==p2)&& (!v4)) ((Au x2.1 [v2.From]).bind fun v5=>some (.go (v5,(D9 (x2.2+1))))) (some (.go (x2.1,(D9 (x2.2+1)))))) (some (.out x2.1))
def Jp [Lp](p1:Map)(p2:Int)(p3:Int)(x1:((List Int)×Int)):Option (Stp ((List Int)×Int) (List Int)):=
  cond (decide (x1.2< (p1.Zones.length:Int))) ((C3 p1.Zones x1.2).bind fun v1=>cond (v1.Signal_==0) (some (.go (x1.1,(D9 (x1.2+1))))) ((loop (Jo p1 p2 p3 v1) (x1.1,0)).bind fun y2=>some (.go (y2,(D9 (x1.2+1)))))) (some (.out x1.1))
def Po [Lp](p1:Map)(p2:Int)(p3:Int):Option (List Int):=
  (loop (Jp p1 p2 p3) ([],0)).bind fun y1=>cond (List.isEmpty y1) ((T3).bind fun v8=>some []) ((T1 y1).bind fun v6=>(HF v6).bind fun v7=>some v7)
theorem MS(p1 p2 p3 r)(h:Po p1 p2 p3=some r):PCall prog 223 [(.agg (P6 p1)),(i64 p2),(i64 p3)] (.list (List.map A4 r)):=by
 refine C2 (fk func223 ntmps223 (fun r=>if r==10 then [1003]else if r==13 then [1013001]else if r==14 then [1014001]else []) (by with_unfolding_all rfl)) (nl W) ?_
 unfold Po at h
 refine B4 (s0:=⟨T [(0,(.d _)),(1,(.d _)),(2,(.d _))],G []⟩) (F0 W W) ?_
 refine lr<|fun u1 _=>sm W<|sv W<|A1<|B0<|sv W<|A1<|A5<|B0<|sq W<|sl W G_hit W<|sd W (D3 W)<|sv W<|A1<|bs h fun y1 hy1 h=>D6 (fun s=> ∃g1:Nat,Sb ⟨T [(7,(oS y1 (50,g1)))],G [((50,g1),oB 2 1 A4 y1)]⟩ s) ?_ ?_
 refine A7<|E1 (Jp p1 p2 p3) (fun (x1:((List Int)×Int)) (g2:Nat)=>⟨T [(1,(di p2)),(2,(di p3)),(3,(.ptr (3,u1) 0)),(7,(oS x1.1 (50,g2))),(13,(dl Ew p1.Zones)),(14,(di (p1.Zones.length:Int))),(15,(di x1.2))],G [((3,u1),some<|.box 33 (L4 p1)),((50,g2),oB 2 1 A4 x1.1)]⟩) ([],0) 0 _ hy1 (D8 (Y0 W)<|B5 G_hit (.of W)<|R6 trivial) ?_
 intro x1 g2 z1 hz1 ez1
 unfold Jp at hz1
 refine B0<|sv W<|A1<|A5<|cc W hz1 (fun c1 hz1=> ?_)<|fun c1 hz1=> ?_
 refine A8<|A5<|A7<|lr<|fun u5 _=>bs hz1 fun v1 hv1 hz1=>sd W (C4 W W hv1 W)<|sd W (D1 W hv1 W W)<|sm W<|S5 W G_hit [(dl At v1.Parts),(di v1.Signal_)] W (A1<|A5<|B0<|sq W<|sl W G_hit W<|sv W<|A1<|cc W hz1 (fun c2 hz1=> ?_)<|fun c2 hz1=> ?_)
 refine Tj W<|B9<|sv W<|sv W<|A1<|E2 ?_
 cases hz1
 exact ⟨W,g2,(D8 (Y0 W)<|sg W<|B7 (gq W) trivial)⟩
 refine A8<|B0<|sq W<|sl W G_hit W<|sd W (D3 W)<|sv W<|A1<|bs hz1 fun y2 hy2 hz1=>D6 (fun s=> ∃g3:Nat,Sb ⟨T [(1,(di p2)),(2,(di p3)),(3,(.ptr (3,u1) 0)),(7,(oS y2 (50,g3))),(13,(dl Ew p1.Zones)),(14,(di (p1.Zones.length:Int))),(15,(di x1.2))],G [((3,u1),some<|.box 33 (L4 p1)),((50,g3),oB 2 1 A4 y2)]⟩ s) ?_ ?_
 refine A7<|E1 (Jo p1 p2 p3 v1) (fun (x2:((List Int)×Int)) (g4:Nat)=>⟨T [(1,(di p2)),(2,(di p3)),(3,(.ptr (3,u1) 0)),(7,(oS x2.1 (50,g4))),(9,(.ptr (9,u5) 0)),(13,(dl Ew p1.Zones)),(14,(di (p1.Zones.length:Int))),(15,(di x1.2)),(23,(dl At v1.Parts)),(24,(di (v1.Parts.length:Int))),(25,(di x2.2))],G [((3,u1),some<|.box 33 (L4 p1)),((9,u5),some<|.box 117 [(dl At v1.Parts),(di v1.Signal_)]),((50,g4),oB 2 1 A4 x2.1)]⟩) (x1.1,0) g2 _ hy2 (D8 (Y0 W)<|sg W<|B5 G_hit (.of W)<|B7 (gq W) trivial) ?_
 intro x2 g4 z2 hz2 ez2
 unfold Jo at hz2
 refine B0<|sv W<|A1<|A5<|cc W hz2 (fun c3 hz2=> ?_)<|fun c3 hz2=> ?_
 refine A8<|A5<|A7<|B0<|bs hz2 fun v2 hv2 hz2=>sd W (C4 W W hv2 W)<|sd W (D1 W hv2 W W)<|sm W<|S5 W G_hit (Ya v2) W (A1<|B0<|sq W<|sl W G_hit W<|sv W<|sv W<|sv W<|gp W (K3 W) (fun _=>W) (gt W (vl W (gq W) W)<|gp W (K3 W) (fun _=>W) (gt W (vl W (gq W) W)<|gt W (vb W W W)<|bs hz2 fun v3 hv3 hz2=>gt W (fun w6=>(C4 (A2 w6) (A2 w6) (C1 w6 hv3) W))<|gt W (fun w7=>(D1 (A2 w7) (C1 w7 hv3) W W))<|gt W (fun _=>W)<|gt W (fun _=>W)<|bs hz2 fun v4 hv4 hz2=> ?_)))
 refine N4 _ (bo v4) (K3 W) (fun w10=>⟨_,[(.d (.agg [(i64 v3.Offset),(.list (List.map Ak v3.Phases))])),(di p2),(di p3)],_,_,(by simp only [A2 w10];rfl),W,A3,Wo _ _ _ _<|C1 w10 hv4,(.inl W)⟩) ?_
 refine M5 _ (.d (bo (!v4))) W (K3 W) (fun w11=>(by simp only [A2 w11];rfl)) ?_
 refine sa W W W<|A1<|cc W hz2 (fun c4 hz2=> ?_)<|fun c4 hz2=> ?_
 refine As fun u12 _=>B8 (oS x2.1 (50,g4)) W W (sq W<|sl W G_hit W<|B8 (dl A4 [v2.From]) W W (bs hz2 fun _ hv5 hz2=>P1 A4 (50,g4) x2.1 v2.From [] _ (L3<|fun _=>W) W (gq W) hv5 (ss W<|A1<|E0<|B9<|sv W<|sv W<|A1<|E2 ?_)))
 cases hz2
 exact ⟨W,u12,(D8 ⟨.of W, .of W, .of W,(.of (T9<|U2 hv5).symm), .of W, .of W, .of W, .of W, .of W, .of W, .of W,trivial⟩<|sg W<|sg W<|N0 G_hit trivial)⟩
 refine A8<|E0<|B9<|sv W<|sv W<|A1<|E2 ?_
 cases hz2
 exact ⟨W,g4,(D8 (Y0 W)<|sg W<|sg W<|B7 (gq W) trivial)⟩
 refine C7 W ?_
 cases hz2
 obtain rfl:=ez2 _ rfl
 refine ⟨nofun,C5 W<|U1 ?_⟩
 exact ⟨g4,(D8 (Y0 W)<|B5 G_hit (.of W)<|B7 (gq W) trivial)⟩
 rintro _ ⟨g3,q1⟩
 refine E0<|B4 q1<|B9<|sv W<|sv W<|A1<|E2 ?_
 cases hz1
 exact ⟨W,g3,(D8 (Y0 W)<|B5 G_hit (.of W)<|B7 (gq W) trivial)⟩
 refine C7 W ?_
 cases hz1
 obtain rfl:=ez1 _ rfl
 refine ⟨nofun,C5 W<|U1 ?_⟩
 exact ⟨g2,(D8 ⟨.of W,trivial⟩<|B7 (gq W) trivial)⟩
 rintro _ ⟨g1,q2⟩
 refine B4 q2<|A5 ?_
 rcases KN h with ⟨e1,h⟩|⟨e1,h⟩
 refine B4 (s0:=⟨T [(7,(.d .nilS))],G []⟩) (D8 ⟨.of (ZQ e1),trivial⟩ trivial) ?_
 refine B9<|sv W<|bs h fun _ hv8 h=>CW (v:= .d (.tup [])) (us:= []) (dV [] _ W W A3 (Oq _ hv8) W W) (A1<|B0<|sv W<|CW (v:= .d .nilS) (us:= []) (dV [] _ W W A3 eC W W) (sv W<|A1<|B1 ?_))
 cases h
 exact A6 (.inr W) (B6 (B3 W) C0) DLe.nil
 refine B4 (s0:=⟨T [(7,(.sl (50,g1)))],G [((50,g1),some<|.arr 2 1 (List.map A4 y1))]⟩) (D8 ⟨.of (T9 e1),trivial⟩<|B5 (Gh G_hit e1) (.of W) trivial) ?_
 refine B9<|ss W<|bs h fun v6 hv6 h=>CW (v:= .d (.tup [])) (us:= [(50,g1)]) (JD (Oo _ _ hv6) [(50,g1)] [(50,g1)] _ (((50,g1),some<|.arr 2 1 (List.map A4 v6))::_) W Ll (X1 BH Ry) (Jf G_hit Gz) ⟨⟨_,G_hit, .of W⟩,trivial⟩ (fun _ h=>h) nd1 W W W) (A1<|lr<|fun u18 _=>ss W<|bs h fun v7 hv7 h=>CW (v:= .sl (10140010,u18)) (us:= [(50,g1),(10140010,u18)]) (JD (jA _ _ hv7) [(50,g1)] [(50,g1)] _ (((10140010,u18),some<|.arr 2 1 (List.map A4 v7))::((50,g1),none)::_) W Ll (X1 BH Ry) (Jf G_hit Gz) ⟨⟨_,G_hit, .of W⟩,trivial⟩ (fun _ h=>h) nd1 W W W) (ss W<|A1<|B1 ?_))
 cases h
 exact A6 (.inr W) (B6 (B3 W)<|KH G_hit) (.refl _)
def Pp [Lp](p1:Map)(p2:Int)(p3:Int):Option (List Int):=
  ((cond (!(decide (p3<0))) (Ke p1 p2) (some default))).bind fun v1=>cond ((decide (p3<0))||(!v1)) (some []) ((Po p1 p2 p3).bind fun v2=>some v2)
theorem MT(p1 p2 p3 r)(h:Pp p1 p2 p3=some r):PCall prog 180 [(.agg (P6 p1)),(i64 p2),(i64 p3)] (.list (List.map A4 r)):=by
 refine C2 (fk func180 ntmps180 m0 (by with_unfolding_all rfl)) (nl W) ?_
 unfold Pp at h
 refine B4 (s0:=⟨T [(0,(.d _)),(1,(.d _)),(2,(.d _))],G []⟩) (F0 W W) ?_
 refine B0<|sm W<|sv W<|A1<|A5<|B0<|sv W<|sv W<|sv W<|gf W (fun _=>(B2 W G_hit W W))<|gf W (fun _=>W)<|bs h fun v1 hv1 h=> ?_
 refine N4 _ (bo v1) (K6 W) (fun w3=>⟨_,[(.d (.agg (P6 p1))),(di p2)],_,_,(by simp only [A2 w3];rfl),W,A3,Wn _ _ _<|C1 w3 hv1,(.inl W)⟩) ?_
 refine M5 _ (.d (bo (!v1))) W (K6 W) (fun w4=>(by simp only [A2 w4];rfl)) ?_
 refine sd W (O5 W W<|fun hc=>A2<|J6 hc)<|A1<|cc W h (fun c1 h=> ?_)<|fun c1 h=> ?_
 refine B0<|sv W<|A1<|B1 ?_
 cases h
 exact A6 (.inr W) (B6 (B3 W) C0) DLe.nil
 refine A8<|B0<|sd W (B2 W G_hit W W)<|sv W<|sv W<|bs h fun _ hv2 h=>A9 W W A3 (MS _ _ _ _ hv2) (.inl W) (sv W<|A1<|B1 ?_)
 cases h
 exact A6 (.inr W) (B6 (B3 W) C0) (.refl _)
def Jq (p1:Int)(p2:Agent)(p3:Int):Option Int:=
  some (Ps true 0 (Ps false (D9 (p2.V+p1)) p3))
theorem Ow(p1 p2 p3 r)(h:Jq p1 p2 p3=some r):PCall prog 179 [(i64 p1),(.bp (C6 p2) 0),(.bp [(i64 p3)] 0)] (i64 r):=by
 refine C2 (fk func179 ntmps179 m0 (by with_unfolding_all rfl)) (nl W) ?_
 unfold Jq at h
 refine B4 (s0:=⟨T [(0,(.d _)),(1,(.d _)),(2,(.d _))],G []⟩) (F0 W W) ?_
 refine B0<|sv W<|A1<|B0<|sv W<|sv W<|sv W<|sv W<|sv W<|sv W<|sv W<|sv W<|A1<|B1 ?_
 cases h
 exact A6 (.inr W) (B6 (B3 W) C0) (.refl _)
def Qn (p1:Int)(p2:Int):Option Int:=
  cond ((decide (p1<1))||(decide (p2<1))) (some 0) ((OK .i64 (D9 ((Ps false p1 1000000) - 1)) (Ps false p2 1000000)).bind fun v1=>some (D9 ((D9 (v1* (Ps false p1 1000000))) - (D9 ((Ps false p2 1000000)* (D9 ((D9 (v1* (D9 (v1+1)))).tdiv 2)))))))
theorem Sh(p1 p2 r)(h:Qn p1 p2=some r):PCall prog 41 [(i64 p1),(i64 p2)] (i64 r):=by
 refine C2 (fk func41 ntmps41 m0 (by with_unfolding_all rfl)) (nl W) ?_
 unfold Qn at h
 refine B4 (s0:=⟨T [(0,(.d _)),(1,(.d _))],G []⟩) (F0 W W) ?_
 refine B0<|sv W<|A1<|A5<|B0<|sv W<|sv W<|sv W<|gf W (fun _=>W)<|gf W (vb W W W)<|sd W (O5 W W<|fun hc=>A2<|J6 hc)<|A1<|cc W h (fun c1 h=> ?_)<|fun c1 h=> ?_
 refine B0<|sv W<|A1<|B1 ?_
 cases h
 exact A6 (.inr W) (B6 (B3 W) C0) (.refl _)
 refine A8<|B0<|sv W<|sv W<|sv W<|sv W<|sv W<|sv W<|A1<|B0<|sv W<|sv W<|sv W<|bs h fun _ hv1 h=>sd W (YW W W hv1)<|sv W<|A1<|B0<|sv W<|sv W<|sv W<|sv W<|sv W<|sv W<|sv W<|sv W<|sv W<|sv W<|sv W<|sv W<|A1<|B1 ?_
 cases h
 exact A6 (.inr W) (B6 (B3 W) C0) (.refl _)
def Ib (p1:Int)(p2:Int)(p3:Int)(p4:Int)(p5:Int):Option Bool:=
  ((cond (decide (p1>p2)) (Qn p3 p4) (some default))).bind fun v1=>((cond ((decide (p1>p2))&& (decide ((D9 (p2+v1))<p1))) (Qn p5 p4) (some default))).bind fun v2=>some (((decide (p1>p2))&& (decide ((D9 (p2+v1))<p1)))&& (decide ((D9 ((D9 (p2+p5))+v2))≥p1)))
theorem Si(p1 p2 p3 p4 p5 r)(h:Ib p1 p2 p3 p4 p5=some r):PCall prog 225 [(i64 p1),(.bp [(i64 p2)] 0),(.bp [(i64 p3)] 0),(.bp [(i64 p4)] 0),(.bp [(i64 p5)] 0)] (bo r):=by
 refine C2 (fk func225 ntmps225 m0 (by with_unfolding_all rfl)) (nl W) ?_
 unfold Ib at h
 refine B4 (s0:=⟨T [(0,(.d _)),(1,(.d _)),(2,(.d _)),(3,(.d _)),(4,(.d _))],G []⟩) (F0 W W) ?_
 refine B0<|sv W<|A1<|A5<|E8 W<|sv W<|sv W<|sv W<|sv W<|gt W (fun _=>W)<|gt W (fun _=>W)<|gt W (fun _=>W)<|bs h fun v1 hv1 h=> ?_
 refine N4 _ (i64 v1) (K3 W) (fun w4=>⟨_,[(di p3),(di p4)],_,_,(by simp only [A2 w4];rfl),W,A3,Sh _ _ _<|C1 w4 hv1,(.inl W)⟩) ?_
 refine gt W (fun w5=>(M4 (A2 w5) (A2 w5) W))<|gt W (fun _=>W)<|gt W (fun w7=>(M4 (A2 w7) (A2 w7) W))<|sa W W W<|sv W<|gt W (fun _=>W)<|gt W (fun _=>W)<|gt W (fun w10=>(M4 (A2 w10) (A2 w10) W))<|gt W (fun _=>W)<|gt W (fun _=>W)<|bs h fun v2 hv2 h=> ?_
 refine N4 _ (i64 v2) (K3 W) (fun w13=>⟨_,[(di p5),(di p4)],_,_,(by simp only [A2 w13];rfl),W,A3,Sh _ _ _<|C1 w13 hv2,(.inl W)⟩) ?_
 refine gt W (fun w14=>(M4 (A2 w14) (A2 w14) W))<|gt W (fun _=>W)<|gt W (fun w16=>(M4 (A2 w16) (A2 w16) W))<|sa W W W<|sv W<|A1<|B1 ?_
 cases h
 exact A6 (.inr W) (B6 (B3 W) C0) (.refl _)
def P4 (p1:(List Int))(p2:Int)(p3:Int)(p4:Int)(p5:Int)(x1:Int):Option (Stp Int (Sum Unit Int)):=
  cond (decide (x1< (p1.length:Int))) ((C3 p1 x1).bind fun v1=>(Ib v1 p2 p3 p4 p5).bind fun v2=>cond v2 (some (.out (.inr x1))) (some (.go (D9 (x1+1))))) (some (.out (.inl ())))
def J2 [Lp](p1:(List Int))(p2:Int)(p3:Int)(p4:Int)(p5:Int):Option Int:=
  thenS (loop (P4 p1 p2 p3 p4 p5) 0) (fun _=>some (-1)) (fun r=>some r)
theorem Dh(p1 p2 p3 p4 p5 r)(h:J2 p1 p2 p3 p4 p5=some r):PCall prog 254 [(.list (List.map A4 p1)),(.fn (.func 225) [] [(.bp [(i64 p2)] 0),(.bp [(i64 p3)] 0),(.bp [(i64 p4)] 0),(.bp [(i64 p5)] 0)])] (i64 r):=by
 refine C2 (fk func254 ntmps254 m0 (by with_unfolding_all rfl)) (nl W) ?_
 unfold J2 at h
 refine B4 (s0:=⟨T [(0,(.d _)),(1,(.d _))],G []⟩) (F0 W W) ?_
 refine B0<|sv W<|A1<|A5<|B0<|sv W<|sd W (D3 W)<|sv W<|A1<|js h fun z1 hz1 h=>D6 (fun s=> ∃(y1:Unit) (g1:Unit),z1= .inl y1∧Sb ⟨T [],G []⟩ s) ?_ ?_
 refine A7<|E1 (P4 p1 p2 p3 p4 p5) (fun (x1:Int) (g2:Unit)=>⟨T [(0,(dl A4 p1)),(1,(.d (.fn (.func 225) [] [(.bp [(i64 p2)] 0),(.bp [(i64 p3)] 0),(.bp [(i64 p4)] 0),(.bp [(i64 p5)] 0)]))),(7,(di (p1.length:Int))),(8,(di x1))],G []⟩) 0 () _ hz1 (F0 W W) ?_
 intro x1 g2 z2 hz2 ez2
 unfold P4 at hz2
 refine B0<|sv W<|A1<|A5<|cc W hz2 (fun c1 hz2=> ?_)<|fun c1 hz2=> ?_
 refine A8<|A5<|A7<|B0<|sv W<|sv W<|A1<|B0<|sv W<|sv W<|sv W<|bs hz2 fun _ hv1 hz2=>sd W (C4 W W hv1 W)<|sd W (C9 W hv1 W)<|bs hz2 fun _ hv2 hz2=>A9 W W A3 (Si _ _ _ _ _ _ hv2) (.inl W) (A1<|cc W hz2 (fun c2 hz2=> ?_)<|fun c2 hz2=> ?_)
 refine B0<|sv W<|sv W<|A1<|B1 ?_
 cases hz2
 obtain rfl:=ez2 _ rfl
 refine ⟨nofun,F2 ?_⟩
 rw [bX]at h
 cases h
 exact A6 (.inr W) (B6 (B3 W) C0) (.refl _)
 refine A8<|E0<|B9<|sv W<|sv W<|A1<|E2 ?_
 cases hz2
 exact ⟨W,(),(F0 W W)⟩
 refine C7 W ?_
 cases hz2
 obtain rfl:=ez2 _ rfl
 refine ⟨nofun,C5 W<|U1 ?_⟩
 exact ⟨_,(),W,(F0 W W)⟩
 rintro _ ⟨y1,g1,rfl,q1⟩
 rw [bW]at h
 refine B4 q1<|B0<|sv W<|A1<|B1 ?_
 cases h
 exact A6 (.inr W) (B6 (B3 W) C0) (.refl _)
def I6 [Lp](p1:(List Int))(p2:Int)(p3:Int)(p4:Int)(p5:Int):Option Bool:=
  (J2 p1 p2 p3 p4 p5).bind fun v1=>some (decide (v1≥0))
theorem Ci(p1 p2 p3 p4 p5 r)(h:I6 p1 p2 p3 p4 p5=some r):PCall prog 224 [(.list (List.map A4 p1)),(.fn (.func 225) [] [(.bp [(i64 p2)] 0),(.bp [(i64 p3)] 0),(.bp [(i64 p4)] 0),(.bp [(i64 p5)] 0)])] (bo r):=by
 refine C2 (fk func224 ntmps224 m0 (by with_unfolding_all rfl)) (nl W) ?_
 unfold I6 at h
 refine B4 (s0:=⟨T [(0,(.d _)),(1,(.d _))],G []⟩) (F0 W W) ?_
 refine B0<|sv W<|A1<|B0<|sv W<|sv W<|bs h fun _ hv1 h=>A9 W W A3 (Dh _ _ _ _ _ _ hv1) (.inl W) (sv W<|sv W<|A1<|B1 ?_)
 cases h
 exact A6 (.inr W) (B6 (B3 W) C0) (.refl _)
def Lb [Lp](p1:(List Int))(p2:Int)(p3:Int)(p4:Int)(p5:Int):Option Bool:=
  (I6 p1 p2 p3 p5 p4).bind fun v1=>some (!v1)
theorem HS(p1 p2 p3 p4 p5 r)(h:Lb p1 p2 p3 p4 p5=some r):PCall prog 181 [(.list (List.map A4 p1)),(i64 p2),(i64 p3),(i64 p4),(i64 p5)] (bo r):=by
 refine C2 (fk func181 ntmps181 m0 (by with_unfolding_all rfl)) (nl W) ?_
 unfold Lb at h
 refine B4 (s0:=⟨T [(0,(.d _)),(1,(.d _)),(2,(.d _)),(3,(.d _)),(4,(.d _))],G []⟩) (F0 W W) ?_
 refine B0<|sm W<|sn W W<|sm W<|sn W W<|sv W<|A1<|B0<|sv W<|B8 (.fn _ _ _) W W (bs h fun v1 hv1 h=>A9 W (rD<|E4 (Xx F9<|E4 (Aj (gq W)<|rD F9)<|E4 (Aj (gq W)<|rD F9)<|E4 (Aj G_hit<|rD F9)<|E4 (Aj (gq W)<|rD F9) F9) F9) A3 (Ci _ _ _ _ _ _ hv1) (.inr W) (B8 (.d (bo (!v1))) W W (sv W<|A1<|B1 ?_)))
 cases h
 exact A6 (.inr W) (B6 (B3 W) C0) (.refl _)
def Ht [Lp](p2:Agent)(v1:(Int×Int))(v3:(Int×Int×Int))(v5:(List Int))(x1:Int):Option (Stp Int Int):=
  ((cond (decide (x1>(D9 (0 - v3.2.2)))) (Jq x1 p2 v3.1) (some default))).bind fun v6=>((cond (decide (x1>(D9 (0 - v3.2.2)))) (Lb v5 v1.2 p2.V v6 v3.2.2) (some default))).bind fun v7=>cond ((decide (x1>(D9 (0 - v3.2.2))))&& (!v7)) (some (.go (D9 (x1 - 1)))) (some (.out x1))
def Mz [Lp](p1:Map)(p2:Agent)(p3:Int)(p4:Int):Option Agent:=
  (Gn p1 p2).bind fun v1=>(C3 p1.Lanes v1.1).bind fun v2=>(Ea v2.Kind).bind fun v3=>((cond p2.Obey (Az p1 v1.1) (some default))).bind fun v4=>(cond (p2.Obey&& (decide (v1.2≤v4))) ((Pp p1 v1.1 p3).bind fun v5=>(loop (Ht p2 v1 v3 v5) (Ps true (D9 (0 - v3.2.2)) (Ps false p4 v3.2.1))).bind fun y2=>some y2) (some (Ps true (D9 (0 - v3.2.2)) (Ps false p4 v3.2.1)))).bind fun y1=>(Jq y1 p2 v3.1).bind fun v8=>(Gp p1 (Agent.mk p2.Route (D9 (p2.S+v8)) v8 p2.Len p2.Begin p2.Obey p2.Gone)).bind fun v9=>some (Agent.mk p2.Route (D9 (p2.S+v8)) v8 p2.Len p2.Begin p2.Obey v9)
theorem JK(p1 p2 p3 p4 r)(h:Mz p1 p2 p3 p4=some r):PCall prog 88 [(.agg (P6 p1)),(.agg (C6 p2)),(i64 p3),(i64 p4)] (.agg (C6 r)):=by
 refine C2 (fk func88 ntmps88 m0 (by with_unfolding_all rfl)) (nl W) ?_
 unfold Mz at h
 refine B4 (s0:=⟨T [(0,(.d _)),(1,(.d _)),(2,(.d _)),(3,(.d _))],G []⟩) (F0 W W) ?_
 refine lr<|fun u1 _=>sm W<|sm W<|sn W W<|A1<|B0<|sd W (B2 W (gq W) W W)<|sd W (B2 W (gq W) W W)<|bs h fun v1 hv1 h=>A9 W W A3 (Yh _ _ _ hv1) (.inl W) (sv W<|sv W<|sv W<|sv W<|sv W<|A1<|lr<|fun u3 _=>sq W<|sl W (gq W) W (sv W<|bs h fun _ hv2 h=>sd W (C4 W W hv2 W)<|sv W<|sd W (C9 W hv2 W)<|bs h fun v3 hv3 h=>A9 W W A3 (Km _ _ hv3) (.inl W) (sv W<|sv W<|sv W<|sv W<|sm W<|S5 W G_hit [(di v3.1)] W (sv W<|sv W<|A1<|B0<|B8 (.fn _ _ _) W W (B8 (.fn _ _ _) W W (A1<|B0<|sv W<|B8 (di<|D9 (0 - v3.2.2)) W W (sv W<|sv W<|sv W<|sv W<|sv W<|A1<|A5<|B0<|sq W<|sl W (gq W) W (sv W<|gt W (fun _=>W) ?_))))))))
 refine gt W (fun _=>(B2 W (gq W) W W))<|gt W (fun _=>W)<|bs h fun v4 hv4 h=> ?_
 refine N4 p2.Obey (i64 v4) (K3 W) (fun w4=>⟨_,[(.d (.agg (P6 p1))),(di v1.1)],_,_,(by simp only [A2 w4];rfl),W,A3,Om _ _ _<|C1 w4 hv4,(.inl W)⟩) ?_
 refine gt W (fun w5=>(M4 (A2 w5) (A2 w5) W))<|sa W W W<|A1<|bs h fun y1 hy1 h=>D6 (fun s=> ∃g1:Unit,Sb ⟨T [(3,(di y1)),(4,(.ptr (4,u1) 0)),(5,(.ptr (5,u1) 0)),(8,(.ptr (8,u1) 0)),(14,(.fn (.func 179) [] [(.ptr (5,u1) 0),(.ptr (11,u3) 0)]))],G [((4,u1),some<|.box 33 (L4 p1)),((5,u1),some<|.box 45 (Q8 p2)),((8,u1),some<|.box 45 ([(.d .nilS)]++ (zs 4)++ [(.d (bo false)),(.d (bo false))])),((11,u3),some<|.box 2 [(di v3.1)])]⟩ s) ?_ ?_
 refine cc W hy1 (fun c1 hy1=> ?_)<|fun c1 hy1=> ?_
 refine B0<|sd W (B2 W (gq W) W W)<|sv W<|sv W<|bs hy1 fun v5 hv5 hy1=>A9 W W A3 (MT _ _ _ _ hv5) (.inl W) (sv W<|A1<|bs hy1 fun y2 hy2 hy1=>D6 (fun s=> ∃g2:Unit,Sb ⟨T [(3,(di y2)),(4,(.ptr (4,u1) 0)),(5,(.ptr (5,u1) 0)),(8,(.ptr (8,u1) 0)),(14,(.fn (.func 179) [] [(.ptr (5,u1) 0),(.ptr (11,u3) 0)]))],G [((4,u1),some<|.box 33 (L4 p1)),((5,u1),some<|.box 45 (Q8 p2)),((8,u1),some<|.box 45 ([(.d .nilS)]++ (zs 4)++ [(.d (bo false)),(.d (bo false))])),((11,u3),some<|.box 2 [(di v3.1)])]⟩ s) ?_ ?_)
 refine A7<|E1 (Ht p2 v1 v3 v5) (fun (x1:Int) (g3:Unit)=>⟨T [(3,(di x1)),(4,(.ptr (4,u1) 0)),(5,(.ptr (5,u1) 0)),(8,(.ptr (8,u1) 0)),(10,(di v1.2)),(13,(di v3.2.2)),(14,(.fn (.func 179) [] [(.ptr (5,u1) 0),(.ptr (11,u3) 0)])),(15,(dl A4 v5))],G [((4,u1),some<|.box 33 (L4 p1)),((5,u1),some<|.box 45 (Q8 p2)),((8,u1),some<|.box 45 ([(.d .nilS)]++ (zs 4)++ [(.d (bo false)),(.d (bo false))])),((11,u3),some<|.box 2 [(di v3.1)])]⟩) (Ps true (D9 (0 - v3.2.2))<|Ps false p4 v3.2.1) () _ hy2 (F0 W W) ?_
 intro x1 g3 z1 hz1 ez1
 unfold Ht at hz1
 refine A5<|A5<|E8 W<|sv W<|sv W<|B8 (di<|D9 (0 - v3.2.2)) W W (sv W<|sv W<|gt W (fun _=>W)<|gt W (fun _=>W)<|gp W (K3 W) (fun _=>W) (gt W (vl W (gq W) W)<|M5 _ (.fn _ _ _) W (K3 W) (fun _=>W) (gt W (fun _=>W)<|bs hz1 fun v6 hv6 hz1=> ?_)))
 refine N4 _ (i64 v6) (K3 W) (fun w12=>⟨_,[(di x1),(.ptr (5,u1) 0),(.ptr (11,u3) 0)],_,_,(by simp only [A2 w12];rfl),(rD<|E4 (Aj (gq W)<|rD<|rD<|rD<|rD<|rD<|rD<|rD F9)<|E4 (Aj (gq W)<|rD F9) F9),A3,Ow _ _ _ _<|C1 w12 hv6,(.inr W)⟩) ?_
 refine gt W (fun _=>W)<|bs hz1 fun v7 hv7 hz1=> ?_
 refine N4 _ (bo v7) (K3 W) (fun w14=>⟨_,[(dl A4 v5),(di v1.2),(di p2.V),(di v6),(di v3.2.2)],_,_,(by simp only [A2 w14];rfl),W,A3,HS _ _ _ _ _ _<|C1 w14 hv7,(.inl W)⟩) ?_
 refine M5 _ (.d (bo (!v7))) W (K3 W) (fun w15=>(by simp only [A2 w15];rfl)) ?_
 refine sa W W W<|A1<|cc W hz1 (fun c2 hz1=> ?_)<|fun c2 hz1=> ?_
 refine A8<|A7<|B9<|sv W<|sv W<|sv W<|A1<|E0<|E2 ?_
 cases hz1
 exact ⟨W,(),(F0 W W)⟩
 refine C7 W ?_
 cases hz1
 obtain rfl:=ez1 _ rfl
 refine ⟨nofun,C5 W<|U1 ?_⟩
 exact ⟨(),(F0 W W)⟩
 rintro _ ⟨g2,q1⟩
 obtain rfl:=(lD hy1)
 exact U1 ⟨(),(Sb.after q1<|F0 W W)⟩
 refine A8 ?_
 cases hy1
 exact U1 ⟨(),(F0 W W)⟩
 rintro _ ⟨g1,q2⟩
 refine B4 q2<|B0<|B8 (.fn _ _ _) W W (sv W<|bs h fun v8 hv8 h=>A9 W (rD<|E4 (Aj (gq W)<|rD<|rD<|rD<|rD<|rD<|rD<|rD F9)<|E4 (Aj (gq W)<|rD F9) F9) A3 (Ow _ _ _ _ hv8) (.inr W) (sq W<|S5 W (gq W) ((Q8 p2).set 2 (di v8)) W (A1<|B0<|sq W<|sl W G_hit W<|sq W<|sl W G_hit W<|sv W<|sq W<|S5 W G_hit (((Q8 p2).set 1 (di<|D9 (p2.S+v8))).set 2 (di v8)) W (A1<|B0<|sd W (B2 W (gq W) W W)<|sd W (B2 W G_hit W W)<|bs h fun v9 hv9 h=>A9 W W A3 (Yi _ _ _ hv9) (.inl W) (sq W<|S5 W G_hit ((((Q8 p2).set 1 (di<|D9 (p2.S+v8))).set 2 (di v8)).set 6 (.d (bo v9))) W (A1<|B0<|sd W (B2 W G_hit W W)<|S5 W (gq W) ((((Q8 p2).set 1 (di<|D9 (p2.S+v8))).set 2 (di v8)).set 6 (.d (bo v9))) W (A1<|B1 ?_)))))))
 cases h
 exact A6 (.inr W) (B6 (H5 W G_hit (nl W) W) C0) (.refl _)
def Na [Lp](p1:Map)(p2:State)(p3:Int)(p4:Int):Option Agent:=
  cond ((decide (p3<0))||(decide (p3≥(p2.Agents.length:Int)))) (some (Agent.mk [] 0 0 0 0 false false)) ((C3 p2.Agents p3).bind fun v1=>(Iu v1).bind fun v2=>(Gc p2 p3).bind fun v3=>((cond (!(!v3)) (Cl p1 p2) (some default))).bind fun v4=>cond ((!v3)||(v4 !=0)) (some v2) ((Mz p1 v2 p2.Tick p4).bind fun v5=>some v5))
theorem JL(p1 p2 p3 p4 r)(h:Na p1 p2 p3 p4=some r):PCall prog 29 [(.agg (P6 p1)),(.agg (Y1 p2)),(i64 p3),(i64 p4)] (.agg (C6 r)):=by
 refine C2 (fk func29 ntmps29 m0 (by with_unfolding_all rfl)) (nl W) ?_
 unfold Na at h
 refine B4 (s0:=⟨T [(0,(.d _)),(1,(.d _)),(2,(.d _)),(3,(.d _))],G []⟩) (F0 W W) ?_
 refine B0<|sm W<|sn W W<|sm W<|A1<|A5<|B0<|sv W<|sv W<|sv W<|gf W (fun _=>W)<|gp W (K6 W) (fun _=>W) (gf W (vl W (gq W) W)<|gf W (fun w4=>(D3<|A2 w4))<|gf W (fun w5=>(M4 (A2 w5) (A2 w5) W))<|sd W (O5 W W<|fun hc=>A2<|J6 hc)<|A1<|cc W h (fun c1 h=> ?_)<|fun c1 h=> ?_)
 refine B0<|sv W<|S5 W G_hit ([(.d .nilS)]++ (zs 4)++ [(.d (bo false)),(.d (bo false))]) W (A1<|B1 ?_)
 cases h
 exact A6 (.inr W) (B6 (H5 W G_hit (nl W) W) C0) (.agg (.cons ⟨DLe.nil,W⟩ (cz W)))
 refine A8<|B0<|sq W<|sl W (gq W) W (sv W<|bs h fun _ hv1 h=>sd W (C4 W W hv1 W)<|sd W (D1 W hv1 W W)<|bs h fun v2 hv2 h=>A9 W W A3 (Lv _ _ hv2) (.inl W) (sm W<|S5 W G_hit (Q8 v2) W (A1<|A5<|B0<|sd W (B2 W (gq W) W W)<|sv W<|bs h fun v3 hv3 h=>A9 W W A3 (Lw _ _ _ hv3) (.inl W) (B8 (.d (bo (!v3))) W W (sv W<|gf W (fun _=>(B2 W (gq W) W W))<|gf W (fun _=>(B2 W (gq W) W W))<|bs h fun v4 hv4 h=> ?_)))))
 refine N4 _ (i64 v4) (K6 W) (fun w8=>⟨_,[(.d (.agg (P6 p1))),(.d (.agg (Y1 p2)))],_,_,(by simp only [A2 w8];rfl),W,A3,Qk _ _ _<|C1 w8 hv4,(.inl W)⟩) ?_
 refine gf W (vb W W W)<|sd W (O5 W W<|fun hc=>A2<|J6 hc)<|A1<|cc W h (fun c2 h=> ?_)<|fun c2 h=> ?_
 refine B0<|sd W (B2 W G_hit W W)<|S5 W (gq W) (Q8 v2) W (A1<|B1 ?_)
 cases h
 exact A6 (.inr W) (B6 (H5 W G_hit (nl W) W) C0) (.refl _)
 refine A8<|B0<|sd W (B2 W (gq W) W W)<|sd W (B2 W G_hit W W)<|sq W<|sl W (gq W) W (sv W<|bs h fun v5 hv5 h=>A9 W W A3 (JK _ _ _ _ _ hv5) (.inl W) (S5 W (gq W) (Q8 v5) W (A1<|B1 ?_)))
 cases h
 exact A6 (.inr W) (B6 (H5 W G_hit (nl W) W) C0) (.refl _)
theorem Qo(p1 r)(h:Cd p1=some r):MCall prog 121 [.d (.list (List.map I7 p1))] [] (oE r (800000,0)) [] [oB 127 4 I7 r]:=by
  cases p1 with
  |nil=>
   have hr:r= []:=by obtain ⟨_,rfl⟩:=Hj h;rfl
   subst hr
   exact MCall.ofP<|Ju [] [] h
  |cons x xs=>
  have hr:Au ([]:List Stay) (x::xs)=some r:=h
  have e:=(Hj hr).2
  rw [lQ]at e
  rw [iS (U2 hr),YR (U2 hr)]
  refine MJ (fk func121 ntmps121 m0 (by with_unfolding_all rfl)) W (Nat.le_of_ble_eq_true W) ?_
  refine (B4 (s0:=⟨T [(0, .d (.list (List.map I7 (x::xs))))],G []⟩) (D8 ⟨.of W,trivial⟩ trivial) ?_)
  refine A5 ?_
  refine As fun _ _=> ?_
  refine B8 (.d .nilS) W W ?_
  refine A1 ?_
  refine A5 ?_
  refine A5 ?_
  refine As fun _ _=> ?_
  refine B8 (.d (.list (List.map I7 (x::xs)))) W W ?_
  refine B8 (.d (bo false)) W W ?_
  refine A1 ?_
  refine Rk W ?_
  refine A8 ?_
  refine A5 ?_
  refine As fun u3 _=> ?_
  refine Mj (.sl _) (.arr 127 4 (List.map I7 ([]:List Stay))) W W ?_
  refine B8 (.d (.list (List.map I7 (x::xs)))) W W ?_
  refine Vz I7 _ [] (x::xs) _ (L3<|fun _=>W) W G_hit hr ?_
  refine B8 (.sl _) W W ?_
  refine A1 ?_
  refine B1 ?_
  exact ZI (v1:= .sl (7,u3)) (.inr W) (OT<|B3 W) (.of W) [((7,u3),some<|.arr 127 4 (List.map I7 r))] (B5 G_hit (.of W) trivial) (ZH [(7,u3)] W trivial ⟨G_hit,trivial⟩ W (by simp only [lU,List.not_mem_nil,or_false,forall_eq];exact fun i=>ZG rfl i) nd1)
def Nb (p1:State)(x1:(Int×State)):Option (Stp (Int×State) State):=
  cond (decide (x1.1< (p1.Agents.length:Int))) ((C3 p1.Agents x1.1).bind fun v2=>(Iu v2).bind fun v3=>(Au x1.2.Agents [v3]).bind fun v4=>some (.go ((D9 (x1.1+1)),(State.mk x1.2.Tick v4 x1.2.In)))) (some (.out x1.2))
def Hu [Lp](p1:State):Option State:=
  (Cd p1.In).bind fun v1=>(loop (Nb p1) (0,(State.mk p1.Tick [] v1))).bind fun y1=>some y1
theorem DG(p1 r)(h:Hu p1=some r):MCall prog 56 [(.d (.agg (Y1 p1)))] [] (W2 [(di r.Tick),(oS r.Agents (800000,0)),(oE r.In (800001,0))]) [] [oB 45 7 C6 r.Agents,oB 127 4 I7 r.In]:=by
 refine MJ (fk func56 ntmps56 (fun r=>if r==1 then [1001004]else if r==5 then [1004]else []) (by with_unfolding_all rfl)) (by generalize r.Agents=x1;generalize r.In=x2;cases x1<;>cases x2<;>rfl) (nl W) ?_
 unfold Hu at h
 refine B4 (s0:=⟨T [(0,(.d _))],G []⟩) (F0 W W) ?_
 refine lr<|fun u1 _=>sm W<|sm W<|A1<|A5<|Pc fun u2 _=>N1 (.ptr _ _) W W (N1 (.d _) W (P8 W (gq W) W) (N1 (.ptr _ _) W W (N1 (.d _) W (P8 W (gq W) W) (bs h fun v1 hv1 h=> ?_))))
 refine gP (v:=oE v1 (10010040,u2)) (us:= [(10010040,u2)]) (ZL (Qo _ _ hv1) [] [] _ (((10010040,u2),oB 127 4 I7 v1)::_) W Ll W Gz trivial (fun _ h=>h) List.nodup_nil (by generalize v1=x1;cases x1<;>rfl) W (HD (W)) W) ?_
 refine N1 (W2 [(di p1.Tick),(.d .nilS),(oE v1 (10010040,u2))]) W (by generalize v1=x1;cases x1<;>rfl) ?_
 refine GX (.ptr _ _) (.box _ _) W W (Rl _ _ _ _ _ (V8 _) W W G_hit (nl W) [(di p1.Tick),(.d .nilS),(oE v1 (10010040,u2))] W (BD ⟨W,?_⟩))
 refine A5<|B0<|sq W<|sl W (gq W) W (sd W (D3 W)<|sv W<|A1<|bs h fun y1 hy1 h=>D6 (fun s=> ∃g1:(Nat×Nat),Sb ⟨T [(2,(.ptr (2,u1) 0)),(3,(.ptr (3,u2) 0))],G [((2,u1),some<|.box 25 [(di 0),(.d .nilS),(.d .nilS)]),((3,u2),some<|.box 25 [(di y1.Tick),(oS y1.Agents (24,g1.1)),(oE y1.In (10010040,g1.2))]),((24,g1.1),oB 45 7 C6 y1.Agents),((10010040,g1.2),oB 127 4 I7 y1.In)]⟩ s) ?_ ?_)
 refine A7<|E1 (Nb p1) (fun (x1:(Int×State)) (g2:(Nat×Nat))=>⟨T [(2,(.ptr (2,u1) 0)),(3,(.ptr (3,u2) 0)),(13,(dl C6 p1.Agents)),(14,(di (p1.Agents.length:Int))),(15,(di x1.1))],G [((2,u1),some<|.box 25 [(di 0),(.d .nilS),(.d .nilS)]),((3,u2),some<|.box 25 [(di x1.2.Tick),(oS x1.2.Agents (24,g2.1)),(oE x1.2.In (10010040,g2.2))]),((24,g2.1),oB 45 7 C6 x1.2.Agents),((10010040,g2.2),oB 127 4 I7 x1.2.In)]⟩) (0,(State.mk p1.Tick [] v1)) (0,u2) _ hy1 (D8 (Y0 W)<|sg W<|B5 G_hit (.of W)<|R6<|B7 (gq W) trivial) ?_
 intro x1 g2 z1 hz1 ez1
 unfold Nb at hz1
 refine B0<|sv W<|A1<|A5<|cc W hz1 (fun c1 hz1=> ?_)<|fun c1 hz1=> ?_
 refine A8<|A5<|A7<|B0<|bs hz1 fun v2 hv2 hz1=>sd W (C4 W W hv2 W)<|sd W (D1 W hv2 W W)<|sm W<|S5 W G_hit (Q8 v2) W (A1<|Lj W fun u6 _=>sq W<|B8 (oS x1.2.Agents (24,g2.1)) W (P8 W (gq W) W) (sd W (B2 W G_hit W W)<|bs hz1 fun v3 hv3 hz1=>A9 W W A3 (Lv _ _ hv3) (.inl W) (B8 (dl C6 [v3]) W W (bs hz1 fun _ hv4 hz1=>P1 C6 (24,g2.1) x1.2.Agents v3 [] _ (L3<|fun _=>W) W (gq W) hv4 (sq W<|S5 W (gq W) [(di x1.2.Tick),(.sl (24,u6)),(oE x1.2.In (10010040,g2.2))] W (A1<|E0<|B9<|sv W<|sv W<|A1<|E2 ?_))))))
 cases hz1
 exact ⟨W,(u6,g2.2),(D8 (Y0 W)<|sg W<|B5 G_hit (.box (cv<|.cons (.of (T9<|U2 hv4).symm) cw))<|N0 (gq W)<|B7 (gq W) trivial)⟩
 refine C7 W ?_
 cases hz1
 obtain rfl:=ez1 _ rfl
 refine ⟨nofun,C5 W<|U1 ?_⟩
 exact ⟨(g2.1,g2.2),(D8 (Y0 W)<|B5 G_hit (.of W)<|sg W<|B7 (gq W)<|B7 (gq W) trivial)⟩
 rintro _ ⟨g1,q1⟩
 refine B4 q1<|B0<|B8 (W2 [(di y1.Tick),(oS y1.Agents (24,g1.1)),(oE y1.In (10010040,g1.2))]) W (B2 W (gq W) W W) (Ie _ _ _ _ _ (V8 _) W W G_hit (nl W) [(di y1.Tick),(oS y1.Agents (24,g1.1)),(oE y1.In (10010040,g1.2))] W (A1<|B1 ?_))
 obtain rfl:=(lD h)
 exact ZI (v1:=(W2 [(di y1.Tick),(oS y1.Agents (24,g1.1)),(oE y1.In (10010040,g1.2))])) (.inr W) (OT<|H5 W G_hit (Nat.le_of_ble_eq_true W) W) (.of W) [((24,g1.1),oB 45 7 C6 y1.Agents),((10010040,g1.2),oB 127 4 I7 y1.In)] (B7 (gq W)<|B7 (gq W) trivial) (TM [(24,g1.1),(10010040,g1.2)] (by generalize y1.Agents=x1;generalize y1.In=x2;cases x1<;>cases x2<;>rfl) trivial ⟨(G_hit).trans oB_ren.symm,((gq W)).trans oB_ren.symm,trivial⟩ W (List.forall_mem_cons.2 ⟨fun i hi=>FN W hi,(List.forall_mem_cons.2 ⟨fun i hi=>FN W hi,(fun _ h=>nomatch h)⟩)⟩) (iF<|Lm W))
def W5 [Lp](p1:WorldScene)(p2:Int)(p3:Int):Option (Int×Bool):=
  (C3 p1.before.Agents p2).bind fun v1=>(T0 v1.Route p3).bind fun v2=>cond (decide (v2<0)) (some (0,false)) ((Ax p1.m v1.Route).bind fun v3=>(C3 v3 v2).bind fun v4=>some (v4,true))
theorem Mc(p1 p2 p3 r)(h:W5 p1 p2 p3=some r):PCall prog 227 [(.bp (Nu p1) 0),(i64 p2),(i64 p3)] (.tup [(i64 r.1),(bo r.2)]):=by
 refine C2 (fk func227 ntmps227 m0 (by with_unfolding_all rfl)) (nl W) ?_
 unfold W5 at h
 refine B4 (s0:=⟨T [(0,(.d _)),(1,(.d _)),(2,(.d _))],G []⟩) (F0 W W) ?_
 refine B0<|sv W<|sv W<|A1<|B0<|sv W<|sv W<|sv W<|sv W<|sv W<|sv W<|bs h fun _ hv1 h=>sd W (C4 W W hv1 W)<|sv W<|sd W (C9 W hv1 W)<|sv W<|A1<|B0<|sv W<|sv W<|bs h fun _ hv2 h=>A9 W W A3 (La _ _ _ hv2) (.inl W) (sv W<|A1<|A5<|B0<|sv W<|sv W<|A1<|cc W h (fun c1 h=> ?_)<|fun c1 h=> ?_)
 refine B0<|sv W<|sv W<|A1<|B1 ?_
 cases h
 exact A6 (.inr W) (Jt (B3 W) (B3 W) C0 C0) (.refl _)
 refine A8<|B0<|sv W<|sv W<|sv W<|sv W<|sv W<|bs h fun _ hv3 h=>A9 W W A3 (Ol _ _ _ hv3) (.inl W) (sv W<|bs h fun _ hv4 h=>sd W (C4 W W hv4 W)<|sd W (C9 W hv4 W)<|sv W<|sv W<|A1<|B1 ?_)
 cases h
 exact A6 (.inr W) (Jt (B3 W) (B3 W) C0 C0) (.refl _)
def X4 [Lp](p1:WorldScene)(p2:Int)(p3:Int):Option Stay:=
  (F3 p1.after.In (Stay.mk p2 p3 0 0)).bind fun v1=>(C3 p1.after.In v1.1).bind fun v2=>some v2
theorem Mk(p1 p2 p3 r)(h:X4 p1 p2 p3=some r):PCall prog 228 [(.bp (Nu p1) 0),(i64 p2),(i64 p3)] (.agg (I7 r)):=by
 refine C2 (fk func228 ntmps228 m0 (by with_unfolding_all rfl)) (nl W) ?_
 unfold X4 at h
 refine B4 (s0:=⟨T [(0,(.d _)),(1,(.d _)),(2,(.d _))],G []⟩) (F0 W W) ?_
 refine B0<|sm W<|A1<|B0<|sv W<|sv W<|sv W<|sv W<|sv W<|sv W<|sv W<|sv W<|bs h fun _ hv1 h=>A9 W W A3 (O0 _ _ _ hv1) (.inl W) (sv W<|sv W<|sv W<|sv W<|sv W<|A1<|B0<|sv W<|sv W<|sv W<|sv W<|sv W<|sv W<|bs h fun v2 hv2 h=>sd W (C4 W W hv2 W)<|sd W (D1 W hv2 W W)<|S5 W G_hit (Uo v2) W (A1<|B1 ?_))
 cases h
 exact A6 (.inr W) (B6 (H5 W G_hit (nl W) W) C0) (.refl _)
def Ft [Lp](p1:Map)(p2:State)(p3:(List Int))(v2:State)(y2:(List Agent))(y5:(List Stay))(a1:(Int×Int))(x6:(Int× (List Crash))):Option (Stp (Int× (List Crash)) (List Crash)):=
  cond (decide (x6.1< (p1.Zones.length:Int))) ((W4 (WorldScene.mk p1 p2 (State.mk v2.Tick y2 y5) p3 x6.2) a1.1 a1.2 x6.1).bind fun v28=>cond (!v28) (some (.go ((D9 (x6.1+1)),x6.2))) ((X4 (WorldScene.mk p1 p2 (State.mk v2.Tick y2 y5) p3 x6.2) a1.1 x6.1).bind fun v29=>(X4 (WorldScene.mk p1 p2 (State.mk v2.Tick y2 y5) p3 x6.2) a1.2 x6.1).bind fun v30=>(Ab v29.Rank v30.Rank).bind fun v31=>(Bn v30.Since v29.Since).bind fun v32=>(Bw [v31,v32]).bind fun v33=>(cond (v33==(-1)) (some [a1.1]) (cond (v33==1) (some [a1.2]) (some [a1.1,a1.2]))).bind fun y17=>(Au x6.2 [(Crash.mk p2.Tick a1.1 a1.2 (-1) x6.1 y17)]).bind fun v34=>some (.go ((D9 (x6.1+1)),v34)))) (some (.out x6.2))
def Iz [Lp](p1:Map)(p2:State)(p3:(List Int))(v2:State)(y2:(List Agent))(y5:(List Stay))(a1:(Int×Int))(y12:(List Crash)):Option (List Crash):=
  (loop (Ft p1 p2 p3 v2 y2 y5 a1) (0,y12)).bind fun y16=>some y16
def Fu [Lp](p1:Map)(p2:State)(p3:(List Int))(v2:State)(y2:(List Agent))(y5:(List Stay))(x4:(List Crash))(a1:(Int×Int))(x5:Int):Option (Stp Int (Sum Unit (List Crash))):=
  cond (decide (x5< (p1.Lanes.length:Int))) ((W5 (WorldScene.mk p1 p2 (State.mk v2.Tick y2 y5) p3 x4) a1.1 x5).bind fun v13=>(W5 (WorldScene.mk p1 p2 (State.mk v2.Tick y2 y5) p3 x4) a1.2 x5).bind fun v14=>cond ((!v13.2)||(!v14.2)) (some (.go (D9 (x5+1)))) ((C3 p2.Agents a1.1).bind fun v15=>(C3 p2.Agents a1.2).bind fun v16=>(cond (decide ((D9 (v15.S - v13.1))< (D9 (v16.S - v14.1)))) (some (v14.1,v13.1,a1.2,a1.1)) (some (v13.1,v14.1,a1.1,a1.2))).bind fun y14=>(C3 y2 y14.2.2.1).bind fun v17=>(Bv v17).bind fun v18=>(Bx v18 y14.1).bind fun v19=>(C3 y2 y14.2.2.2).bind fun v20=>(Bv v20).bind fun v21=>(Bx v21 y14.2.1).bind fun v22=>(C3 p2.Agents y14.2.2.2).bind fun v23=>(Bv v23).bind fun v24=>(Bx v24 y14.2.1).bind fun v25=>(Az p1 x5).bind fun v26=>cond (((((decide (v19.to≥0))&& (decide (v22.to≥0)))&& (decide (v25.from_≤v26)))&& (decide (v19.from_≤v26)))&& (decide (v22.to≥v19.from_))) ((Au x4 [(Crash.mk p2.Tick a1.1 a1.2 x5 (-1) [y14.2.2.2])]).bind fun v27=>some (.out (.inr v27))) (some (.go (D9 (x5+1)))))) (some (.out (.inl ())))
def Kf [Lp](p1:Map)(p2:State)(p3:(List Int))(v2:State)(y2:(List Agent))(y5:(List Stay))(x4:(List Crash))(a1:(Int×Int)):Option (List Crash):=
  thenS (loop (Fu p1 p2 p3 v2 y2 y5 x4 a1) 0) (fun _=>some x4) (fun r=>some r)
def Hv [Lp](p1:Map)(p2:State)(p3:(List Int))(v2:State)(y2:(List Agent))(y5:(List Stay))(x4:(List Crash))(a1:(Int×Int)):Option (Stp (List Crash) (List Crash)):=
  (Kf p1 p2 p3 v2 y2 y5 x4 a1).bind fun y12=>(Iz p1 p2 p3 v2 y2 y5 a1 y12).bind fun y15=>some (.go y15)
def Yl:Option Unit:=
  some ()
def Kg [Lp](p1:Map)(p2:State)(p3:(List Int))(v2:State)(y2:(List Agent))(y5:(List Stay)):Option (List Crash):=
  (Yl).bind fun y10=>((MQ p2).bind fun v12=>loopL (Hv p1 p2 p3 v2 y2 y5) (fun (x4:(List Crash))=>x4) v12 []).bind fun y11=>some y11
def Hy [Lp](p1:Map)(p2:State)(p3:(List Int))(v2:State)(y2:(List Agent))(x2:(Int× (List Stay)))(v6:Agent)(x3:(Int× (List Stay))):Option (Stp (Int× (List Stay)) (List Stay)):=
  cond (decide (x3.1< (p1.Zones.length:Int))) ((P0 (WorldScene.mk p1 p2 (State.mk v2.Tick y2 x3.2) p3 []) x2.1 x3.1).bind fun v7=>cond (!v7) (some (.go ((D9 (x3.1+1)),x3.2))) ((F3 p2.In (Stay.mk x2.1 x3.1 p2.Tick 0)).bind fun v8=>(cond v8.2 ((C3 p2.In v8.1).bind fun v9=>some v9) ((Gs p1 v6 x3.1 p2.Tick).bind fun v10=>some (Stay.mk x2.1 x3.1 p2.Tick v10))).bind fun y8=>(Au x3.2 [y8]).bind fun v11=>some (.go ((D9 (x3.1+1)),v11)))) (some (.out x3.2))
def Hz [Lp](p1:Map)(p2:State)(p3:(List Int))(v2:State)(y2:(List Agent))(x2:(Int× (List Stay))):Option (Stp (Int× (List Stay)) (List Stay)):=
  cond (decide (x2.1< (p2.Agents.length:Int))) ((C3 p2.Agents x2.1).bind fun v6=>(loop (Hy p1 p2 p3 v2 y2 x2 v6) (0,x2.2)).bind fun y7=>some (.go ((D9 (x2.1+1)),y7))) (some (.out x2.2))
def Kh [Lp](p1:Map)(p2:State)(p3:(List Int))(v2:State)(y2:(List Agent)):Option (List Stay):=
  (loop (Hz p1 p2 p3 v2 y2) (0,[])).bind fun y6=>some y6
def Ia [Lp](p1:Map)(p2:State)(p3:(List Int))(x1:(Int× (List Agent))):Option (Stp (Int× (List Agent)) (List Agent)):=
  cond (decide (x1.1< (p2.Agents.length:Int))) ((cond (decide (x1.1< (p3.length:Int))) ((C3 p3 x1.1).bind fun v3=>some v3) (some 0)).bind fun y4=>(Na p1 p2 x1.1 y4).bind fun v4=>(C3 x1.2 x1.1).bind fun v5=>some (.go ((D9 (x1.1+1)),(Mh x1.2 x1.1 v4)))) (some (.out x1.2))
def Ki [Lp](p1:Map)(p2:State)(p3:(List Int))(v2:State):Option (List Agent):=
  (loop (Ia p1 p2 p3) (0,v2.Agents)).bind fun y3=>some y3
def Nc [Lp](p1:Map)(p2:State)(p3:(List Int)):Option (State× (List Crash)×Int):=
  (Cl p1 p2).bind fun v1=>cond (v1 !=0) (some ((State.mk 0 [] []),[],v1)) (cond (decide (p2.Tick≥1099511627776)) (some ((State.mk 0 [] []),[],2)) ((Hu p2).bind fun v2=>((Ki p1 p2 p3 v2).bind fun y2=>(Kh p1 p2 p3 v2 y2).bind fun y5=>(Kg p1 p2 p3 v2 y2 y5).bind fun y9=>some (y2,y5,y9)).bind fun y1=>some ((State.mk (D9 (v2.Tick+1)) y1.1 y1.2.1),y1.2.2,0)))
theorem JM(p1 p2 p3 r)(h:Nc p1 p2 p3=some r):PCall prog 31 [(.agg (P6 p1)),(.agg (Y1 p2)),(.list (List.map A4 p3))] (.tup [(.agg (Y1 r.1)),(.list (List.map Dk r.2.1)),(i64 r.2.2)]):=by
 refine C2 (fk func31 ntmps31 (fun r=>if r==6 then [1006003]else if r==10 then [2]else []) (by with_unfolding_all rfl)) (nl W) ?_
 unfold Nc at h
 refine B4 (s0:=⟨T [(0,(.d _)),(1,(.d _)),(2,(.d _))],G []⟩) (F0 W W) ?_
 refine lr<|fun u1 _=>sm W<|sm W<|sn W W<|sv W<|sv W<|A1<|A5<|B0<|sd W (B2 W (gq W) W W)<|sd W (B2 W (gq W) W W)<|bs h fun _ hv1 h=>A9 W W A3 (Qk _ _ _ hv1) (.inl W) (sv W<|A1<|B0<|sv W<|sv W<|A1<|cc W h (fun c1 h=> ?_)<|fun c1 h=> ?_)
 refine B0<|sv W<|sv W<|S5 W G_hit [(di 0),(.d .nilS),(.d .nilS)] W (sv W<|sv W<|A1<|B1 ?_)
 cases h
 exact A6 (.inr W) (AU (H5 W G_hit (nl W) W) (B3 W) (B3 W) C0 C0 C0) (.tup (.cons (.agg (ca W<|.cons ⟨DLe.nil,W⟩ (.cons ⟨DLe.nil,W⟩ .nil))) (.cons DLe.nil A3)))
 refine A8<|A5<|B0<|sq W<|sl W (gq W) W (sv W<|A1<|cc W h (fun c2 h=> ?_)<|fun c2 h=> ?_)
 refine B0<|sv W<|S5 W G_hit [(di 0),(.d .nilS),(.d .nilS)] W (sv W<|sv W<|A1<|B1 ?_)
 cases h
 exact A6 (.inr W) (AU (H5 W G_hit (nl W) W) (B3 W) (B3 W) C0 C0 C0) (.tup (.cons (.agg (ca W<|.cons ⟨DLe.nil,W⟩ (.cons ⟨DLe.nil,W⟩ .nil))) (.cons DLe.nil A3)))
 refine A8<|A5<|Pc fun u7 _=>N1 (.d _) W (B2 W (gq W) W W) (N1 (.d _) W (B2 W (gq W) W W) (N1 (.d _) W (B2 W (gq W) W W) (bs h fun v2 hv2 h=> ?_)))
 refine gP (v:=W2 [(di v2.Tick),(oS v2.Agents (10060030,u7)),(oE v2.In (10060031,u7))]) (us:= [(10060030,u7),(10060031,u7)]) (ZL (DG _ _ hv2) [] [] _ (((10060031,u7),oB 127 4 I7 v2.In)::(((10060030,u7),oB 45 7 C6 v2.Agents)::_)) W Ll W Gz trivial (fun _ h=>h) List.nodup_nil (by generalize v2.Agents=x1;generalize v2.In=x2;cases x1<;>cases x2<;>rfl) W (HD<|HD (W)) W) ?_
 refine N1 (.d _) W W ?_
 refine N1 (W2 ((L4 p1)++ (K1 p2)++ [(di v2.Tick),(oS v2.Agents (10060030,u7)),(oE v2.In (10060031,u7)),(dl A4 p3),(.d .nilS)])) W (by generalize v2.Agents=x1;generalize v2.In=x2;cases x1<;>cases x2<;>rfl) ?_
 refine GX (.ptr _ _) (.box _ _) W (RU W) (N1 (.ptr _ _) W W (BD ⟨W,?_⟩))
 refine A5<|B0<|sv W<|sv W<|A1<|bs h fun y1 hy1 h=>D6 (fun s=> ∃g1:(Nat×Nat× ({d:Nat // d∈ [72,158]}×Nat)),Sb ⟨T [(6,(.ptr (6,u1) 0)),(10,(.ptr (30,u7) 0))],G [((6,u1),some<|.box 25 [(di 0),(.d .nilS),(.d .nilS)]),((30,u7),some<|.box 135 ((L4 p1)++ (K1 p2)++ [(di v2.Tick),(oS y1.1 (10060030,g1.1)),(oS y1.2.1 (85,g1.2.1)),(dl A4 p3),(oS y1.2.2 (g1.2.2.1.val,g1.2.2.2))])),((10060030,g1.1),oB 45 7 C6 y1.1),((85,g1.2.1),oB 127 4 I7 y1.2.1),((g1.2.2.1.val,g1.2.2.2),oB 77 6 Dk y1.2.2)]⟩ s) ?_ ?_
 refine A7<|AZ<|B0<|sv W<|A1<|A5<|Xd W<|A8<|A5<|A7<|B0<|sv W<|sv W<|A1<|B9<|sv W<|sq W<|bs hy1 fun y2 hy2 hy1=>Zj (fk func90 ntmps90 m0 (by with_unfolding_all rfl)) (fun (g2:Nat)=> [(6,(.ptr (6,u1) 0)),(10,(.ptr (30,u7) 0)),(31,(.d (.agg [(.fn (.func 90) [] []),(.fn (.func 80) [] []),(.fn (.func 91) [] [])]))),(32,(di 0))]) (fun (g2:Nat)=> [((6,u1),some<|.box 25 [(di 0),(.d .nilS),(.d .nilS)]),((30,u7),some<|.box 135 ((L4 p1)++ (K1 p2)++ [(di v2.Tick),(oS y2 (10060030,g2)),(oE v2.In (10060031,u7)),(dl A4 p3),(.d .nilS)])),((10060031,u7),oB 127 4 I7 v2.In),((10060030,g2),oB 45 7 C6 y2)]) W (nl W) ?_ ?_
 unfold Ki at hy2
 refine B4 (s0:=⟨T [(0,(.ptr (30,u7) 0))],G [((30,u7),some<|.box 135 ((L4 p1)++ (K1 p2)++ [(di v2.Tick),(oS v2.Agents (10060030,u7)),(oE v2.In (10060031,u7)),(dl A4 p3),(.d .nilS)])),((10060030,u7),oB 45 7 C6 v2.Agents),((10060031,u7),oB 127 4 I7 v2.In),((6,u1),some<|.box 25 [(di 0),(.d .nilS),(.d .nilS)])]⟩) (D8 ⟨.of W,trivial⟩<|B5 G_hit (.of W)<|B7 (gq W)<|B7 (gq W)<|sg W trivial) ?_
 refine B0<|sq W<|sp W W<|sq W<|sp W W<|sl W G_hit W<|sd W (D3 W)<|sv W<|A1<|bs hy2 fun y3 hy3 hy2=>D6 (fun s=> ∃g3:Nat,Sb ⟨T [],G [((6,u1),some<|.box 25 [(di 0),(.d .nilS),(.d .nilS)]),((30,u7),some<|.box 135 ((L4 p1)++ (K1 p2)++ [(di v2.Tick),(oS y3 (10060030,g3)),(oE v2.In (10060031,u7)),(dl A4 p3),(.d .nilS)])),((10060031,u7),oB 127 4 I7 v2.In),((10060030,g3),oB 45 7 C6 y3)]⟩ s) ?_ ?_
 refine A7<|E1 (Ia p1 p2 p3) (fun (x1:(Int× (List Agent))) (g4:Nat)=>⟨T [(0,(.ptr (30,u7) 0)),(9,(di (p2.Agents.length:Int))),(10,(di x1.1))],G [((30,u7),some<|.box 135 ((L4 p1)++ (K1 p2)++ [(di v2.Tick),(oS x1.2 (10060030,g4)),(oE v2.In (10060031,u7)),(dl A4 p3),(.d .nilS)])),((6,u1),some<|.box 25 [(di 0),(.d .nilS),(.d .nilS)]),((10060031,u7),oB 127 4 I7 v2.In),((10060030,g4),oB 45 7 C6 x1.2)]⟩) (0,v2.Agents) u7 _ hy3 (D8 (Y0 W)<|B5 G_hit (.of W)<|sg W<|B7 (gq W)<|B7 (gq W) trivial) ?_
 intro x1 g4 z1 hz1 ez1
 unfold Ia at hz1
 refine B0<|sv W<|A1<|A5<|cc W hz1 (fun c3 hz1=> ?_)<|fun c3 hz1=> ?_
 refine A8<|A5<|A7<|B0<|sv W<|sv W<|A1<|B0<|sv W<|A1<|A5<|B0<|sv W<|sq W<|sp W W<|sq W<|sl W G_hit W<|sd W (D3 W)<|sv W<|A1<|bs hz1 fun y4 hy4 hz1=>D6 (fun s=> ∃g5:Unit,Sb ⟨T [(0,(.ptr (30,u7) 0)),(2,(di x1.1)),(3,(di y4)),(9,(di (p2.Agents.length:Int))),(10,(di x1.1))],G [((30,u7),some<|.box 135 ((L4 p1)++ (K1 p2)++ [(di v2.Tick),(oS x1.2 (10060030,g4)),(oE v2.In (10060031,u7)),(dl A4 p3),(.d .nilS)])),((6,u1),some<|.box 25 [(di 0),(.d .nilS),(.d .nilS)]),((10060030,g4),oB 45 7 C6 x1.2),((10060031,u7),oB 127 4 I7 v2.In)]⟩ s) ?_ ?_
 refine cc W hy4 (fun c4 hy4=> ?_)<|fun c4 hy4=> ?_
 refine B9<|sq W<|sq W<|sp W W<|sl W G_hit W<|sv W<|bs hy4 fun _ hv3 hy4=>sd W (C4 W W hv3 W)<|sd W (C9 W hv3 W)<|sv W<|A1 ?_
 obtain rfl:=(lD hy4)
 exact U1 ⟨(),(D8 (Y0 W)<|B5 G_hit (.of W)<|sg W<|B7 (gq W)<|B7 (gq W) trivial)⟩
 refine A8 ?_
 cases hy4
 exact U1 ⟨(),(D8 (Y0 W)<|B5 G_hit (.of W)<|sg W<|B7 (gq W)<|B7 (gq W) trivial)⟩
 rintro _ ⟨g5,q1⟩
 refine B4 q1<|E8 W<|sq W<|sq W<|sp W W<|sq W<|B8 (oS x1.2 (10060030,g4)) W (P8 W G_hit W) (sv W<|sq W<|sp W W<|sq W<|sd W (B2 W G_hit W W)<|sq W<|sp W W<|sq W<|sd W (B2 W G_hit W W)<|sv W<|sv W<|bs hz1 fun v4 hv4 hz1=>A9 W W A3 (JL _ _ _ _ _ hv4) (.inl W) (bs hz1 fun _ hv5 hz1=>B8 (.aptr _ _ _ _) W (Og W W (gq W) hv5) ?_))
 rw [T9 (De hv5)]
 refine Ns C6 _ _ _ (x1.1) _ v4 (C6 v4) W W W (Gh (gq W)<|De hv5) hv5 (nl W) W (A1<|E0<|B9<|sv W<|sv W<|A1<|E2 ?_)
 cases hz1
 exact ⟨W,g4,(D8 (Y0 W)<|B5 (gq W) (.box (cv<|cv<|cv<|cv<|cv<|cv<|cv<|cv<|cv<|.cons (.of (T9<|Xe<|De hv5).symm) cw)) (sg W<|B7 (gq W)<|N0 G_hit trivial))⟩
 refine C7 W ?_
 cases hz1
 obtain rfl:=ez1 _ rfl
 refine ⟨nofun,C5 W<|U1 ?_⟩
 exact ⟨g4,(D8 trivial<|sg W<|B5 G_hit (.of W)<|B7 (gq W)<|B7 (gq W) trivial)⟩
 rintro _ ⟨g3,q2⟩
 refine E2 ?_
 obtain rfl:=(lD hy2)
 exact Wc q2 (.inl W) g3 (Y0 W) (B5 G_hit (.of W)<|sg W<|B7 (gq W)<|B7 (gq W) trivial)
 intro g2
 intro u20 hu20
 refine A1<|E0<|B9<|sv W<|sv W<|A1<|AZ<|B0<|sv W<|A1<|A5<|Xd W<|A8<|A5<|A7<|B0<|sv W<|sv W<|A1<|B9<|sv W<|sq W<|bs hy1 fun y5 hy5 hy1=>Zj (fk func80 ntmps80 (fun r=>if r==13 then [1007]else []) (by with_unfolding_all rfl)) (fun (g6:Nat)=> [(6,(.ptr (6,u1) 0)),(10,(.ptr (30,u7) 0)),(31,(.d (.agg [(.fn (.func 90) [] []),(.fn (.func 80) [] []),(.fn (.func 91) [] [])]))),(32,(di 1))]) (fun (g6:Nat)=> [((6,u1),some<|.box 25 [(di 0),(.d .nilS),(.d .nilS)]),((30,u7),some<|.box 135 ((L4 p1)++ (K1 p2)++ [(di v2.Tick),(oS y2 (10060030,g2)),(oS y5 (85,g6)),(dl A4 p3),(.d .nilS)])),((10060030,g2),oB 45 7 C6 y2),((85,g6),oB 127 4 I7 y5)]) W (nl W) ?_ ?_
 unfold Kh at hy5
 refine B4 (s0:=⟨T [(0,(.ptr (30,u7) 0))],G [((30,u7),some<|.box 135 ((L4 p1)++ (K1 p2)++ [(di v2.Tick),(oS y2 (10060030,g2)),(oE v2.In (10060031,u7)),(dl A4 p3),(.d .nilS)])),((10060030,g2),oB 45 7 C6 y2),((10060031,u7),oB 127 4 I7 v2.In),((6,u1),some<|.box 25 [(di 0),(.d .nilS),(.d .nilS)])]⟩) (D8 ⟨.of W,trivial⟩<|sg W<|B7 (gq W)<|B7 (gq W)<|B5 G_hit (.of W) trivial) ?_
 refine B0<|sq W<|sp W W<|sq W<|sp W W<|S5 W G_hit ((L4 p1)++ (K1 p2)++ [(di v2.Tick),(oS y2 (10060030,g2)),(.d .nilS),(dl A4 p3),(.d .nilS)]) W (A1<|B0<|sq W<|sp W W<|sq W<|sp W W<|sl W G_hit W<|sd W (D3 W)<|sv W<|A1<|bs hy5 fun y6 hy6 hy5=>D6 (fun s=> ∃g7:Nat,Sb ⟨T [],G [((6,u1),some<|.box 25 [(di 0),(.d .nilS),(.d .nilS)]),((30,u7),some<|.box 135 ((L4 p1)++ (K1 p2)++ [(di v2.Tick),(oS y2 (10060030,g2)),(oS y6 (85,g7)),(dl A4 p3),(.d .nilS)])),((10060030,g2),oB 45 7 C6 y2),((85,g7),oB 127 4 I7 y6)]⟩ s) ?_ ?_)
 refine A7<|E1 (Hz p1 p2 p3 v2 y2) (fun (x2:(Int× (List Stay))) (g8:Nat)=>⟨T [(0,(.ptr (30,u7) 0)),(16,(dl C6 p2.Agents)),(17,(di (p2.Agents.length:Int))),(18,(di x2.1))],G [((30,u7),some<|.box 135 ((L4 p1)++ (K1 p2)++ [(di v2.Tick),(oS y2 (10060030,g2)),(oS x2.2 (85,g8)),(dl A4 p3),(.d .nilS)])),((6,u1),some<|.box 25 [(di 0),(.d .nilS),(.d .nilS)]),((10060030,g2),oB 45 7 C6 y2),((85,g8),oB 127 4 I7 x2.2)]⟩) (0,[]) 0 _ hy6 (D8 (Y0 W)<|B5 G_hit (.of W)<|sg W<|B7 (gq W)<|R6 trivial) ?_
 intro x2 g8 z2 hz2 ez2
 unfold Hz at hz2
 refine B0<|sv W<|A1<|A5<|cc W hz2 (fun c5 hz2=> ?_)<|fun c5 hz2=> ?_
 refine A8<|A5<|A7<|lr<|fun u28 _=>sv W<|bs hz2 fun v6 hv6 hz2=>sd W (C4 W W hv6 W)<|sd W (D1 W hv6 W W)<|sm W<|sv W<|S5 W G_hit (Q8 v6) W (A1<|B0<|sq W<|sp W W<|sq W<|sp W W<|sl W (gq W) W (sd W (D3 W)<|sv W<|A1<|bs hz2 fun y7 hy7 hz2=>D6 (fun s=> ∃g9:Nat,Sb ⟨T [(0,(.ptr (30,u7) 0)),(16,(dl C6 p2.Agents)),(17,(di (p2.Agents.length:Int))),(18,(di x2.1))],G [((30,u7),some<|.box 135 ((L4 p1)++ (K1 p2)++ [(di v2.Tick),(oS y2 (10060030,g2)),(oS y7 (85,g9)),(dl A4 p3),(.d .nilS)])),((6,u1),some<|.box 25 [(di 0),(.d .nilS),(.d .nilS)]),((10060030,g2),oB 45 7 C6 y2),((85,g9),oB 127 4 I7 y7)]⟩ s) ?_ ?_))
 refine A7<|E1 (Hy p1 p2 p3 v2 y2 x2 v6) (fun (x3:(Int× (List Stay))) (g10:Nat)=>⟨T [(0,(.ptr (30,u7) 0)),(2,(di x2.1)),(3,(.ptr (3,u28) 0)),(16,(dl C6 p2.Agents)),(17,(di (p2.Agents.length:Int))),(18,(di x2.1)),(28,(di (p1.Zones.length:Int))),(29,(di x3.1))],G [((30,u7),some<|.box 135 ((L4 p1)++ (K1 p2)++ [(di v2.Tick),(oS y2 (10060030,g2)),(oS x3.2 (85,g10)),(dl A4 p3),(.d .nilS)])),((3,u28),some<|.box 45 (Q8 v6)),((6,u1),some<|.box 25 [(di 0),(.d .nilS),(.d .nilS)]),((10060030,g2),oB 45 7 C6 y2),((85,g10),oB 127 4 I7 x3.2)]⟩) (0,x2.2) g8 _ hy7 (D8 (Y0 W)<|sg W<|B5 G_hit (.of W)<|sg W<|B7 (gq W)<|B7 (gq W) trivial) ?_
 intro x3 g10 z3 hz3 ez3
 unfold Hy at hz3
 refine B0<|sv W<|A1<|A5<|cc W hz3 (fun c6 hz3=> ?_)<|fun c6 hz3=> ?_
 refine A8<|A5<|A7<|B0<|sv W<|sv W<|A1<|A5<|B0<|sq W<|sv W<|sv W<|bs hz3 fun v7 hv7 hz3=>A9 W (E4 (Aj G_hit<|rD<|rD<|rD<|rD<|rD<|rD<|rD<|rD<|rD<|E4 (S9<|gq W)<|E4 (S9<|gq W)<|rD<|rD F9)<|rD<|rD F9) (.cons (DLe.bp<|ca W<|ca W<|ca W<|ca W<|ca W<|ca W<|ca W<|ca W<|ca W<|.cons ⟨S8,W⟩ (.cons ⟨S8,W⟩ (ca W<|.cons ⟨DLe.nil,W⟩ .nil))) (.cons (.refl _) A3)) (Ay _ _ _ _ hv7) (.inr W) (B8 (.d (bo (!v7))) W W (A1<|cc W hz3 (fun c7 hz3=> ?_)<|fun c7 hz3=> ?_))
 refine Tj W<|B9<|sv W<|sv W<|A1<|E2 ?_
 cases hz3
 exact ⟨W,g10,(D8 (Y0 W)<|B5 G_hit (.of W)<|sg W<|sg W<|B7 (gq W)<|B7 (gq W) trivial)⟩
 refine A8<|lr<|fun u34 _=>sv W<|sv W<|sq W<|sp W W<|sq W<|sp W W<|sl W G_hit W<|sv W<|sm W<|S5 W G_hit [(di x2.1),(di x3.1),(di p2.Tick),(di 0)] W (A1<|A5<|A5<|E8 W<|sq W<|sq W<|sp W W<|sq W<|sl W (gq W) W (sd W (B2 W G_hit W W)<|bs hz3 fun _ hv8 hz3=>A9 W W A3 (O0 _ _ _ hv8) (.inl W) (sv W<|sv W<|sv W<|sv W<|sv W<|A1<|B0<|sv W<|A1<|bs hz3 fun y8 hy8 hz3=>D6 (fun s=> ∃g11:Unit,Sb ⟨T [(0,(.ptr (30,u7) 0)),(2,(di x2.1)),(3,(.ptr (3,u28) 0)),(5,(.ptr (5,u34) 0)),(16,(dl C6 p2.Agents)),(17,(di (p2.Agents.length:Int))),(18,(di x2.1)),(28,(di (p1.Zones.length:Int))),(29,(di x3.1))],G [((30,u7),some<|.box 135 ((L4 p1)++ (K1 p2)++ [(di v2.Tick),(oS y2 (10060030,g2)),(oS x3.2 (85,g10)),(dl A4 p3),(.d .nilS)])),((3,u28),some<|.box 45 (Q8 v6)),((5,u34),some<|.box 127 (Uo y8)),((6,u1),some<|.box 25 [(di 0),(.d .nilS),(.d .nilS)]),((10060030,g2),oB 45 7 C6 y2),((85,g10),oB 127 4 I7 x3.2)]⟩ s) ?_ ?_)))
 refine cc W hy8 (fun c8 hy8=> ?_)<|fun c8 hy8=> ?_
 refine B9<|sq W<|sq W<|sp W W<|sq W<|sl W (gq W) W (sv W<|bs hy8 fun v9 hv9 hy8=>sd W (C4 W W hv9 W)<|sd W (D1 W hv9 W W)<|S5 W G_hit (Uo v9) W (A1 ?_))
 obtain rfl:=(lD hy8)
 exact U1 ⟨(),(D8 (Y0 W)<|sg W<|sg W<|B5 G_hit (.of W)<|sg W<|B7 (gq W)<|B7 (gq W) trivial)⟩
 refine E8 W<|sq W<|sq W<|sp W W<|sd W (B2 W (gq W) W W)<|sd W (B2 W (gq W) W W)<|sv W<|sq W<|sp W W<|sq W<|sp W W<|sl W (gq W) W (bs hy8 fun v10 hv10 hy8=>A9 W W A3 (Yj _ _ _ _ _ hv10) (.inl W) (sq W<|S5 W G_hit [(di x2.1),(di x3.1),(di p2.Tick),(di v10)] W (A1 ?_)))
 cases hy8
 exact U1 ⟨(),(D8 (Y0 W)<|sg W<|sg W<|B5 G_hit (.of W)<|sg W<|B7 (gq W)<|B7 (gq W) trivial)⟩
 rintro _ ⟨g11,q3⟩
 refine B4 q3<|Lj W fun u39 _=>sq W<|sq W<|sp W W<|sq W<|sp W W<|B8 (oS x3.2 (85,g10)) W (P8 W G_hit W) (sd W (B2 W (gq W) W W)<|B8 (dl I7 [y8]) W W (bs hz3 fun _ hv11 hz3=>P1 I7 (85,g10) x3.2 y8 [] _ (L3<|fun _=>W) W (gq W) hv11 (sq W<|sp W W<|sq W<|S5 W (gq W) ((L4 p1)++ (K1 p2)++ [(di v2.Tick),(oS y2 (10060030,g2)),(.sl (85,u39)),(dl A4 p3),(.d .nilS)]) W (A1<|E0<|B9<|sv W<|sv W<|A1<|E2 ?_))))
 cases hz3
 exact ⟨W,u39,(D8 (Y0 W)<|B5 G_hit (.box (cv<|cv<|cv<|cv<|cv<|cv<|cv<|cv<|cv<|cv<|.cons (.of (T9<|U2 hv11).symm) cw))<|sg W<|sg W<|B7 (gq W)<|N0 (gq W) trivial)⟩
 refine C7 W ?_
 cases hz3
 obtain rfl:=ez3 _ rfl
 refine ⟨nofun,C5 W<|U1 ?_⟩
 exact ⟨g10,(D8 (Y0 W)<|B5 G_hit (.of W)<|sg W<|B7 (gq W)<|B7 (gq W) trivial)⟩
 rintro _ ⟨g9,q4⟩
 refine E0<|B4 q4<|B9<|sv W<|sv W<|A1<|E2 ?_
 cases hz2
 exact ⟨W,g9,(D8 (Y0 W)<|B5 G_hit (.of W)<|sg W<|B7 (gq W)<|B7 (gq W) trivial)⟩
 refine C7 W ?_
 cases hz2
 obtain rfl:=ez2 _ rfl
 refine ⟨nofun,C5 W<|U1 ?_⟩
 exact ⟨g8,(D8 trivial<|sg W<|B5 G_hit (.of W)<|B7 (gq W)<|B7 (gq W) trivial)⟩
 rintro _ ⟨g7,q5⟩
 refine E2 ?_
 obtain rfl:=(lD hy5)
 exact Wc q5 (.inl W) g7 (Y0 W) (B5 G_hit (.of W)<|sg W<|B7 (gq W)<|B7 (gq W) trivial)
 intro g6
 intro u42 hu42
 refine A1<|E0<|B9<|sv W<|sv W<|A1<|AZ<|B0<|sv W<|A1<|A5<|Xd W<|A8<|A5<|A7<|B0<|sv W<|sv W<|A1<|B9<|sv W<|sq W<|bs hy1 fun y9 hy9 hy1=>Zj (fk func91 ntmps91 (fun r=>if r==1 then [1]else if r==4 then [3]else if r==5 then [3]else []) (by with_unfolding_all rfl)) (fun (g12:({d:Nat // d∈ [72,158]}×Nat))=> [(6,(.ptr (6,u1) 0)),(10,(.ptr (30,u7) 0)),(31,(.d (.agg [(.fn (.func 90) [] []),(.fn (.func 80) [] []),(.fn (.func 91) [] [])]))),(32,(di 2))]) (fun (g12:({d:Nat // d∈ [72,158]}×Nat))=> [((6,u1),some<|.box 25 [(di 0),(.d .nilS),(.d .nilS)]),((30,u7),some<|.box 135 ((L4 p1)++ (K1 p2)++ [(di v2.Tick),(oS y2 (10060030,g2)),(oS y5 (85,g6)),(dl A4 p3),(oS y9 (g12.1.val,g12.2))])),((10060030,g2),oB 45 7 C6 y2),((85,g6),oB 127 4 I7 y5),((g12.1.val,g12.2),oB 77 6 Dk y9)]) W (nl W) ?_ ?_
 unfold Kg at hy9
 refine B4 (s0:=⟨T [(0,(.ptr (30,u7) 0))],G [((30,u7),some<|.box 135 ((L4 p1)++ (K1 p2)++ [(di v2.Tick),(oS y2 (10060030,g2)),(oS y5 (85,g6)),(dl A4 p3),(.d .nilS)])),((10060030,g2),oB 45 7 C6 y2),((85,g6),oB 127 4 I7 y5),((6,u1),some<|.box 25 [(di 0),(.d .nilS),(.d .nilS)])]⟩) (D8 ⟨.of W,trivial⟩<|sg W<|B7 (gq W)<|B7 (gq W)<|B5 G_hit (.of W) trivial) ?_
 refine lr<|fun u47 _=>sm W<|A1<|B0<|sp W (P8 W G_hit W)<|bs hy9 fun _ hy10 hy9=>Zj (fk func81 ntmps81 m0 (by with_unfolding_all rfl)) (fun (g13:{g:Nat // g≠u47})=> [(1,(.ptr (1,u47) 0)),(5,(.fn (.func 174) [] [(.ptr (1,g13.1) 0)]))]) (fun (g13:{g:Nat // g≠u47})=> [((1,u47),some<|.box 133 [(.ptr (30,u7) 0)]),((30,u7),some<|.box 135 ((L4 p1)++ (K1 p2)++ [(di v2.Tick),(oS y2 (10060030,g2)),(oS y5 (85,g6)),(dl A4 p3),(.d .nilS)])),((6,u1),some<|.box 25 [(di 0),(.d .nilS),(.d .nilS)]),((10060030,g2),oB 45 7 C6 y2),((85,g6),oB 127 4 I7 y5),((1,g13.1),some<|.box 133 [(.ptr (30,u7) 0)])]) W (nl W) ?_ ?_
 unfold Yl at hy10
 refine B4 (s0:=⟨T [(0,(.ptr (30,u7) 0))],G [((30,u7),some<|.box 135 ((L4 p1)++ (K1 p2)++ [(di v2.Tick),(oS y2 (10060030,g2)),(oS y5 (85,g6)),(dl A4 p3),(.d .nilS)])),((10060030,g2),oB 45 7 C6 y2),((85,g6),oB 127 4 I7 y5),((6,u1),some<|.box 25 [(di 0),(.d .nilS),(.d .nilS)]),((1,u47),some<|.box 133 [(.ptr (30,u7) 0)])]⟩) (D8 ⟨.of W,trivial⟩<|sg W<|B7 (gq W)<|B7 (gq W)<|sg W<|B5 G_hit (.of W) trivial) ?_
 refine lr<|fun u49 hu49=>sm W<|sv W<|A1<|B0<|B8 (.fn _ _ _) W W (B8 (.fn _ _ _) W W (A1<|B1 ?_))
 cases hy10
 exact ML (.inr W) (OT<|B3 W) ⟨u49,(Ne.symm<|OJ (k:=(1,u47)) hu49 (gq W))⟩ (Y0 W) (B5 (Y5 (OJ hu49<|gq W)<|gq W) (.of W) (sg W<|sg W<|B7 (gq W)<|B7 (gq W)<|B5 G_hit (.of W) trivial))
 intro g13
 intro u51 hu51
 refine A1<|bs hy9 fun y11 hy11 hy9=>D6 (fun s=> ∃g14:({d:Nat // d∈ [72,158]}×Nat),Sb ⟨T [],G [((6,u1),some<|.box 25 [(di 0),(.d .nilS),(.d .nilS)]),((30,u7),some<|.box 135 ((L4 p1)++ (K1 p2)++ [(di v2.Tick),(oS y2 (10060030,g2)),(oS y5 (85,g6)),(dl A4 p3),(oS y11 (g14.1.val,g14.2))])),((10060030,g2),oB 45 7 C6 y2),((85,g6),oB 127 4 I7 y5),((g14.1.val,g14.2),oB 77 6 Dk y11)]⟩ s) ?_ ?_
 refine A7<|bs hy11 fun v12 hv12 hy11=>B4 (s0:=⟨T [(1,(.ptr (1,u47) 0)),(5,(.fn (.func 174) [] [(.ptr (1,g13.1) 0)]))],G [((1,u47),some<|.box 133 [(.ptr (30,u7) 0)]),((30,u7),some<|.box 135 ((L4 p1)++ (K1 p2)++ [(di v2.Tick),(oS y2 (10060030,g2)),(oS y5 (85,g6)),(dl A4 p3),(.d .nilS)])),((10060030,g2),oB 45 7 C6 y2),((85,g6),oB 127 4 I7 y5),((1,g13.1),some<|.box 133 [(.ptr (30,u7) 0)]),((6,u1),some<|.box 25 [(di 0),(.d .nilS),(.d .nilS)])]⟩) (D8 (Y0 W)<|B5 G_hit (.of W)<|sg W<|B7 (gq W)<|B7 (gq W)<|B5 (Y5 g13.2<|gq W) (.of W) (sg W trivial)) ?_
 refine PB (.fn (.func 174) [] [(.ptr (1,g13.1) 0)]) (Ty (1,g13.1) (30,u7) p2) HQ v12 (Hv p1 p2 p3 v2 y2 y5) (fun (x4:(List Crash))=>x4) (fun (x4:(List Crash)) (g15:({d:Nat // d∈ [72,158]}×Nat))=> [((1,u47),some<|.box 133 [(.ptr (30,u7) 0)]),((1,g13.1),some<|.box 133 [(.ptr (30,u7) 0)]),((6,u1),some<|.box 25 [(di 0),(.d .nilS),(.d .nilS)]),((30,u7),some<|.box 135 ((L4 p1)++ (K1 p2)++ [(di v2.Tick),(oS y2 (10060030,g2)),(oS y5 (85,g6)),(dl A4 p3),(oS x4 (g15.1.val,g15.2))])),((10060030,g2),oB 45 7 C6 y2),((85,g6),oB 127 4 I7 y5),((g15.1.val,g15.2),oB 77 6 Dk x4)]) [] (⟨72, .head _⟩,0) _ W (HR hv12 _ _) (fun x4 g15 _ _=>⟨F1 W<|Y5 g13.2 G_hit,_,_,_,_,_,_,_,_,_,_,F1 W<|gq W⟩) (fun _=>W) hy11 (D8 trivial<|B5 G_hit (.of W)<|B5 (Y5 g13.2<|gq W) (.of W) (sg W<|sg W<|B7 (gq W)<|B7 (gq W)<|R6 trivial)) nofun ?_ ?_
 intro u53 hu53 hku53
 refine ⟨fun x4 g15=>(F1 W<|F1 W<|F1 W<|F1 W<|F1 W<|F1 W<|F1 (Zg g15.1.property W) W),?_⟩
 intro r1 x4 g15 a1 z4 hrr1 hz4 ez4
 unfold Hv at hz4
 show Cb _ _ _ _ _ _ ⟨T [(7,(di a1.2)),(6,(di a1.1)),(1,(.ptr (1,u47) 0)),(5,(.fn (.func 174) [] [(.ptr (1,g13.1) 0)]))],G [((1000000,u53),some (.obj (T [(1,(.ptr (1,u47) 0)),(5,(.fn (.func 174) [] [(.ptr (1,g13.1) 0)]))]) r1)),((1,u47),some (.box 133 [(.ptr (30,u7) 0)])),((1,g13.1),some (.box 133 [(.ptr (30,u7) 0)])),((6,u1),some (.box 25 [(di 0),(.d .nilS),(.d .nilS)])),((30,u7),some (.box 135 ((L4 p1)++ (K1 p2)++ [(di v2.Tick),(oS y2 (10060030,g2)),(oS y5 (85,g6)),(dl A4 p3),(oS x4 (g15.1.val,g15.2))]))),((10060030,g2),oB 45 7 C6 y2),((85,g6),oB 127 4 I7 y5),((g15.1.val,g15.2),oB 77 6 Dk x4)]⟩
 refine B0<|sv W<|A1<|B9<|sv W<|A1<|U1<|RR G_hit ?_
 refine A7<|B0<|sp W (P8 W (gq W) W)<|sv W<|sv W<|bs hz4 fun y12 hy12 hz4=>Zj (fk func183 ntmps183 (fun r=>if r==13 then [1014,1016]else []) (by with_unfolding_all rfl)) (fun (g16:({d:Nat // d∈ [72,158]}×Nat))=> [(1,(.ptr (1,u47) 0)),(2,(di a1.1)),(3,(di a1.2))]) (fun (g16:({d:Nat // d∈ [72,158]}×Nat))=> [((1,u47),some<|.box 133 [(.ptr (30,u7) 0)]),((6,u1),some<|.box 25 [(di 0),(.d .nilS),(.d .nilS)]),((30,u7),some<|.box 135 ((L4 p1)++ (K1 p2)++ [(di v2.Tick),(oS y2 (10060030,g2)),(oS y5 (85,g6)),(dl A4 p3),(oS y12 (g16.1.val,g16.2))])),((1,g13.1),some<|.box 133 [(.ptr (30,u7) 0)]),((1000000,u53),some<|.obj (T [(1,(.ptr (1,u47) 0)),(5,(.fn (.func 174) [] [(.ptr (1,g13.1) 0)]))]) {r1 with state:= .busy}),((10060030,g2),oB 45 7 C6 y2),((85,g6),oB 127 4 I7 y5),((g16.1.val,g16.2),oB 77 6 Dk y12)]) W (nl W) ?_ ?_
 unfold Kf at hy12
 refine B4 (s0:=⟨T [(0,(.ptr (30,u7) 0)),(1,(di a1.1)),(2,(di a1.2))],G [((30,u7),some<|.box 135 ((L4 p1)++ (K1 p2)++ [(di v2.Tick),(oS y2 (10060030,g2)),(oS y5 (85,g6)),(dl A4 p3),(oS x4 (g15.1.val,g15.2))])),((10060030,g2),oB 45 7 C6 y2),((85,g6),oB 127 4 I7 y5),((g15.1.val,g15.2),oB 77 6 Dk x4),((6,u1),some<|.box 25 [(di 0),(.d .nilS),(.d .nilS)]),((1,u47),some<|.box 133 [(.ptr (30,u7) 0)]),((1,g13.1),some<|.box 133 [(.ptr (30,u7) 0)]),((1000000,u53),some<|.obj (T [(1,(.ptr (1,u47) 0)),(5,(.fn (.func 174) [] [(.ptr (1,g13.1) 0)]))]) {r1 with state:= .busy})]⟩) (D8 (Y0 W)<|sg W<|B7 (gq W)<|B7 (gq W)<|B7 (Tl g15.1.property 8 W G_hit)<|sg W<|sg W<|B5 (Um 2 W<|Y5 g13.2 G_hit) (.of W) (B5 G_hit (.of W) trivial)) ?_
 refine B0<|sq W<|sp W W<|sq W<|sp W W<|sl W G_hit W<|sd W (D3 W)<|sv W<|A1<|js hy12 fun z5 hz5 hy12=>D6 (fun s=> ∃(y13:Unit) (g17:Unit),z5= .inl y13∧Sb ⟨T [],G [((6,u1),some<|.box 25 [(di 0),(.d .nilS),(.d .nilS)]),((30,u7),some<|.box 135 ((L4 p1)++ (K1 p2)++ [(di v2.Tick),(oS y2 (10060030,g2)),(oS y5 (85,g6)),(dl A4 p3),(oS x4 (g15.1.val,g15.2))])),((1,u47),some<|.box 133 [(.ptr (30,u7) 0)]),((1,g13.1),some<|.box 133 [(.ptr (30,u7) 0)]),((1000000,u53),some<|.obj (T [(1,(.ptr (1,u47) 0)),(5,(.fn (.func 174) [] [(.ptr (1,g13.1) 0)]))]) {r1 with state:= .busy}),((10060030,g2),oB 45 7 C6 y2),((85,g6),oB 127 4 I7 y5),((g15.1.val,g15.2),oB 77 6 Dk x4)]⟩ s) ?_ ?_
 refine A7<|E1 (Fu p1 p2 p3 v2 y2 y5 x4 a1) (fun (x5:Int) (g18:Unit)=>⟨T [(0,(.ptr (30,u7) 0)),(1,(di a1.1)),(2,(di a1.2)),(22,(di (p1.Lanes.length:Int))),(23,(di x5))],G [((30,u7),some<|.box 135 ((L4 p1)++ (K1 p2)++ [(di v2.Tick),(oS y2 (10060030,g2)),(oS y5 (85,g6)),(dl A4 p3),(oS x4 (g15.1.val,g15.2))])),((6,u1),some<|.box 25 [(di 0),(.d .nilS),(.d .nilS)]),((1,u47),some<|.box 133 [(.ptr (30,u7) 0)]),((1,g13.1),some<|.box 133 [(.ptr (30,u7) 0)]),((1000000,u53),some<|.obj (T [(1,(.ptr (1,u47) 0)),(5,(.fn (.func 174) [] [(.ptr (1,g13.1) 0)]))]) {r1 with state:= .busy}),((10060030,g2),oB 45 7 C6 y2),((85,g6),oB 127 4 I7 y5),((g15.1.val,g15.2),oB 77 6 Dk x4)]⟩) 0 () _ hz5 (D8 (Y0 W)<|B5 G_hit (.of W)<|B5 (Um 3 W<|F1 (Zg g15.1.property W) G_hit) (.of W) (B5 (Um 3 W<|F1 (Zg g15.1.property W)<|gq W) (.of W) (B5 (Um 3 W<|F1 (Zg g15.1.property W)<|F1 W<|Y5 g13.2 G_hit) (.of W) (B5 (Um 3 W<|F1 (Zg g15.1.property W)<|gq W) (.of W) (B7 (gq W)<|B7 (gq W)<|B7 (Tl g15.1.property 3 W G_hit) trivial))))) ?_
 intro x5 g18 z6 hz6 ez6
 unfold Fu at hz6
 refine B0<|sv W<|A1<|A5<|cc W hz6 (fun c9 hz6=> ?_)<|fun c9 hz6=> ?_
 refine A8<|A5<|A7<|B0<|sv W<|sv W<|A1<|B0<|sq W<|sv W<|sv W<|bs hz6 fun v13 hv13 hz6=>A9 W (E4 (Aj G_hit<|rD<|rD<|rD<|rD<|rD<|rD<|rD<|rD<|rD<|E4 (S9<|gq W)<|E4 (S9<|gq W)<|rD<|E4 (S9<|Tl g15.1.property 7 W G_hit) F9)<|rD<|rD F9) (.cons (DLe.bp<|ca W<|ca W<|ca W<|ca W<|ca W<|ca W<|ca W<|ca W<|ca W<|.cons ⟨S8,W⟩ (.cons ⟨S8,W⟩ (ca W<|.cons ⟨S8,W⟩ .nil))) (.cons (.refl _) A3)) (Mc _ _ _ _ hv13) (.inr W) (sv W<|sv W<|sv W<|sv W<|sv W<|A1<|B0<|sq W<|sv W<|sv W<|bs hz6 fun v14 hv14 hz6=>A9 W (E4 (Aj G_hit<|rD<|rD<|rD<|rD<|rD<|rD<|rD<|rD<|rD<|E4 (S9<|gq W)<|E4 (S9<|gq W)<|rD<|E4 (S9<|Tl g15.1.property 7 W G_hit) F9)<|rD<|rD F9) (.cons (DLe.bp<|ca W<|ca W<|ca W<|ca W<|ca W<|ca W<|ca W<|ca W<|ca W<|.cons ⟨S8,W⟩ (.cons ⟨S8,W⟩ (ca W<|.cons ⟨S8,W⟩ .nil))) (.cons (.refl _) A3)) (Mc _ _ _ _ hv14) (.inr W) (sv W<|sv W<|sv W<|sv W<|sv W<|A1<|A5<|B0<|sv W<|B8 (.d (bo (!v13.2))) W W (sv W<|gf W (fun _=>W) ?_)))
 refine M5 _ (.d (bo (!v14.2))) W (K6 W) (fun w2=>(by simp only [A2 w2];rfl)) ?_
 refine sd W (O5 W W<|fun hc=>A2<|J6 hc)<|A1<|cc W hz6 (fun c10 hz6=> ?_)<|fun c10 hz6=> ?_
 refine Tj W<|B9<|sv W<|sv W<|A1<|E2 ?_
 cases hz6
 exact ⟨W,(),(D8 (Y0 W)<|B5 G_hit (.of W)<|sg W<|sg W<|B5 (Um 2 W<|Y5 g13.2 G_hit) (.of W) (sg W<|B7 (gq W)<|B7 (gq W)<|B7 (Tl g15.1.property 7 W G_hit) trivial))⟩
 refine A8<|B0<|sv W<|sv W<|sv W<|sv W<|A1<|A5<|A5<|E8 W<|sq W<|sq W<|sp W W<|sq W<|sl W G_hit W<|sv W<|bs hz6 fun _ hv15 hz6=>sd W (C4 W W hv15 W)<|sv W<|sd W (C9 W hv15 W)<|sv W<|sv W<|sq W<|sp W W<|sq W<|sp W W<|sl W G_hit W<|sv W<|bs hz6 fun _ hv16 hz6=>sd W (C4 W W hv16 W)<|sv W<|sd W (C9 W hv16 W)<|sv W<|sv W<|sv W<|A1<|bs hz6 fun y14 hy14 hz6=>D6 (fun s=> ∃g19:Unit,Sb ⟨T [(0,(.ptr (30,u7) 0)),(1,(di a1.1)),(2,(di a1.2)),(6,(di x5)),(7,(di y14.1)),(9,(di y14.2.1)),(11,(di y14.2.2.1)),(12,(di y14.2.2.2)),(22,(di (p1.Lanes.length:Int))),(23,(di x5))],G [((30,u7),some<|.box 135 ((L4 p1)++ (K1 p2)++ [(di v2.Tick),(oS y2 (10060030,g2)),(oS y5 (85,g6)),(dl A4 p3),(oS x4 (g15.1.val,g15.2))])),((6,u1),some<|.box 25 [(di 0),(.d .nilS),(.d .nilS)]),((1,u47),some<|.box 133 [(.ptr (30,u7) 0)]),((1,g13.1),some<|.box 133 [(.ptr (30,u7) 0)]),((1000000,u53),some<|.obj (T [(1,(.ptr (1,u47) 0)),(5,(.fn (.func 174) [] [(.ptr (1,g13.1) 0)]))]) {r1 with state:= .busy}),((10060030,g2),oB 45 7 C6 y2),((85,g6),oB 127 4 I7 y5),((g15.1.val,g15.2),oB 77 6 Dk x4)]⟩ s) ?_ ?_
 refine cc W hy14 (fun c11 hy14=> ?_)<|fun c11 hy14=> ?_
 refine B9<|sv W<|sv W<|sv W<|sv W<|sv W<|sv W<|sv W<|sv W<|A1 ?_
 cases hy14
 exact U1 ⟨(),(D8 (Y0 W)<|B5 G_hit (.of W)<|sg W<|sg W<|B5 (Um 2 W<|Y5 g13.2 G_hit) (.of W) (sg W<|B7 (gq W)<|B7 (gq W)<|B7 (Tl g15.1.property 7 W G_hit) trivial))⟩
 refine A8 ?_
 cases hy14
 exact U1 ⟨(),(D8 (Y0 W)<|B5 G_hit (.of W)<|sg W<|sg W<|B5 (Um 2 W<|Y5 g13.2 G_hit) (.of W) (sg W<|B7 (gq W)<|B7 (gq W)<|B7 (Tl g15.1.property 7 W G_hit) trivial))⟩
 rintro _ ⟨g19,q6⟩
 refine B4 q6<|A5<|E8 W<|sq W<|sq W<|sp W W<|sq W<|B8 (oS y2 (10060030,g2)) W (P8 W G_hit W) (sv W<|bs hz6 fun _ hv17 hz6=>B8 (.aptr _ _ _ _) W (Og W W (gq W) hv17) (sd W (Nt W (Gh (gq W)<|De hv17) hv17 W W)<|bs hz6 fun _ hv18 hz6=>A9 W W A3 (Hq _ _ hv18) (.inl W) (sv W<|bs hz6 fun v19 hv19 hz6=>A9 W W A3 (Gu _ _ _ hv19) (.inl W) (sq W<|sp W W<|sq W<|sp W W<|B8 (oS y2 (10060030,g2)) W (P8 W G_hit W) (sv W<|bs hz6 fun _ hv20 hz6=>B8 (.aptr _ _ _ _) W (Og W W (gq W) hv20) (sd W (Nt W (Gh (gq W)<|De hv20) hv20 W W)<|bs hz6 fun _ hv21 hz6=>A9 W W A3 (Hq _ _ hv21) (.inl W) (sv W<|bs hz6 fun v22 hv22 hz6=>A9 W W A3 (Gu _ _ _ hv22) (.inl W) (sm W<|sn W W<|S5 W (gq W) [(di v19.from_),(di v19.to)] W (S5 W (gq W) [(di v22.from_),(di v22.to)] W (A1<|B0<|sq W<|sp W W<|sq W<|sp W W<|sl W (gq W) W (sv W<|bs hz6 fun _ hv23 hz6=>sd W (C4 W W hv23 W)<|sd W (D1 W hv23 W W)<|bs hz6 fun _ hv24 hz6=>A9 W W A3 (Hq _ _ hv24) (.inl W) (sv W<|bs hz6 fun v25 hv25 hz6=>A9 W W A3 (Gu _ _ _ hv25) (.inl W) (sm W<|S5 W G_hit [(di v25.from_),(di v25.to)] W (A1<|B0<|sq W<|sp W W<|sp W W ?_))))))))))))))
 refine sd W (B2 W (gq W) W W)<|sv W<|bs hz6 fun _ hv26 hz6=>A9 W W A3 (Om _ _ _ hv26) (.inl W) (sv W<|A1<|B0<|sq W<|sl W (gq W) W (sv W<|sv W<|gp W (K3 W) (fun _=>W) (gt W (vl W (gq W) W)<|gt W (vb W W W)<|sa W W W<|sv W<|gp W (K3 W) (fun _=>W) (gt W (vl W G_hit W)<|gt W (fun _=>W)<|gt W (fun w9=>(M4 (A2 w9) (A2 w9) W))<|sa W W W<|sv W<|gp W (K3 W) (fun _=>W) (gt W (vl W (gq W) W)<|gt W (fun _=>W)<|gt W (fun w13=>(M4 (A2 w13) (A2 w13) W))<|sa W W W<|sv W<|gp W (K3 W) (fun _=>W) (gt W (vl W (gq W) W)<|gp W (K3 W) (fun _=>W) (gt W (vl W (gq W) W)<|gt W (fun w18=>(M4 (A2 w18) (A2 w18) W))<|sa W W W<|A1<|cc W hz6 (fun c12 hz6=> ?_)<|fun c12 hz6=> ?_)))))))
 refine A5<|Lj W fun u71 _=>sq W<|sq W<|sp W W<|sq W<|B8 (oS x4 (g15.1.val,g15.2)) W (P8 W (gq W) W) (sq W<|sp W W<|sq W<|sp W W<|sl W (gq W) W (sv W<|sv W<|sv W<|sv W<|B8 (dl A4 [y14.2.2.2]) W W (sv W<|B8 (dl Dk [(Crash.mk p2.Tick a1.1 a1.2 x5 (-1) [y14.2.2.2])]) W W (bs hz6 fun _ hv27 hz6=>P1 Dk (g15.1.val,g15.2) x4 (Crash.mk p2.Tick a1.1 a1.2 x5 (-1) [y14.2.2.2]) [] _ (L3<|fun _=>W) W (F1 (Xz g15.1.property W)<|F1 (Xz g15.1.property W)<|F1 (Xz g15.1.property W)<|F1 (Xz g15.1.property W)<|F1 (Xz g15.1.property W)<|F1 (Xz g15.1.property W)<|F1 (Xz g15.1.property W)<|F1 (Xz g15.1.property W)<|F1 (Xz g15.1.property W)<|F1 (Xz g15.1.property W)<|F1 (Xz g15.1.property W)<|F1 (Xz g15.1.property W)<|F1 (Xz g15.1.property W) G_hit) hv27 (sq W<|sp W W<|Ie _ _ _ _ _ W W W (F1 W<|F1 (Zg g15.1.property W)<|gq W) (nl W) ((L4 p1)++ (K1 p2)++ [(di v2.Tick),(oS y2 (10060030,g2)),(oS y5 (85,g6)),(dl A4 p3),(.sl (158,u71))]) W (A1<|B1 ?_))))))
 cases hz6
 obtain rfl:=ez6 _ rfl
 refine ⟨nofun,F2 ?_⟩
 rw [bX]at hy12
 cases hy12
 exact ML (.inr W) (iR) (⟨158, .tail _ (.head _)⟩,u71) (Y0 W) (B5 (Um 2 W<|F1 (Zg g15.1.property W)<|gq W) (.of W) (B5 (Um 2 W<|F1 (Zg g15.1.property W)<|gq W) (.of W) (B5 G_hit (.box (cv<|cv<|cv<|cv<|cv<|cv<|cv<|cv<|cv<|cv<|cv<|cv<|.cons (.of (T9<|U2 hv27).symm) .nil))<|B5 (Um 2 W<|F1 (Zg g15.1.property W)<|F1 W<|F1 W<|F1 W<|F1 W<|F1 W<|F1 W<|F1 W<|F1 W<|Y5 g13.2 G_hit) (.of W) (B5 (Um 2 W<|F1 (Zg g15.1.property W)<|gq W) (.of W) (B7 (Um 2 W<|F1 (Zg g15.1.property W)<|gq W)<|B7 (Um 2 W<|F1 (Zg g15.1.property W)<|gq W)<|N0 (gq W) trivial)))))
 refine A8<|E0<|B9<|sv W<|sv W<|A1<|E2 ?_
 cases hz6
 exact ⟨W,(),(D8 (Y0 W)<|sg W<|sg W<|sg W<|B5 (Um 8 W<|Y5 g13.2 G_hit) (.of W) (sg W<|B7 (gq W)<|B7 (gq W)<|B7 (Tl g15.1.property 13 W G_hit) trivial))⟩
 refine C7 W ?_
 cases hz6
 obtain rfl:=ez6 _ rfl
 refine ⟨nofun,C5 W<|U1 ?_⟩
 exact ⟨_,(),W,(D8 trivial<|sg W<|B5 G_hit (.of W)<|sg W<|B5 (Um 2 W<|Y5 g13.2 G_hit) (.of W) (sg W<|B7 (gq W)<|B7 (gq W)<|B7 (Tl g15.1.property 7 W G_hit) trivial))⟩
 rintro _ ⟨y13,g17,rfl,q7⟩
 rw [bW]at hy12
 refine E2 ?_
 obtain rfl:=(lD hy12)
 exact Wc q7 (.inl W) (g15.1,g15.2) (Y0 W) (sg W<|B5 G_hit (.of W)<|sg W<|B5 (Um 2 W<|Y5 g13.2 G_hit) (.of W) (sg W<|B7 (gq W)<|B7 (gq W)<|B7 (Tl g15.1.property 7 W G_hit) trivial))
 intro g16
 intro u73 hu73
 refine A1<|B9<|sp W (P8 W G_hit W)<|sv W<|sv W<|bs hz4 fun y15 hy15 hz4=>Zj (fk func184 ntmps184 (fun r=>if r==5 then [1002]else if r==6 then [1010]else if r==8 then [1001]else if r==10 then [1001]else if r==11 then [1015]else []) (by with_unfolding_all rfl)) (fun (g20:({d:Nat // d∈ [72,158]}×Nat))=> []) (fun (g20:({d:Nat // d∈ [72,158]}×Nat))=> [((6,u1),some<|.box 25 [(di 0),(.d .nilS),(.d .nilS)]),((30,u7),some<|.box 135 ((L4 p1)++ (K1 p2)++ [(di v2.Tick),(oS y2 (10060030,g2)),(oS y5 (85,g6)),(dl A4 p3),(oS y15 (g20.1.val,g20.2))])),((1,u47),some<|.box 133 [(.ptr (30,u7) 0)]),((1,g13.1),some<|.box 133 [(.ptr (30,u7) 0)]),((1000000,u53),some<|.obj (T [(1,(.ptr (1,u47) 0)),(5,(.fn (.func 174) [] [(.ptr (1,g13.1) 0)]))]) {r1 with state:= .busy}),((10060030,g2),oB 45 7 C6 y2),((85,g6),oB 127 4 I7 y5),((g20.1.val,g20.2),oB 77 6 Dk y15)]) W (nl W) ?_ ?_
 unfold Iz at hy15
 refine B4 (s0:=⟨T [(0,(.ptr (30,u7) 0)),(1,(di a1.1)),(2,(di a1.2))],G [((30,u7),some<|.box 135 ((L4 p1)++ (K1 p2)++ [(di v2.Tick),(oS y2 (10060030,g2)),(oS y5 (85,g6)),(dl A4 p3),(oS y12 (g16.1.val,g16.2))])),((10060030,g2),oB 45 7 C6 y2),((85,g6),oB 127 4 I7 y5),((g16.1.val,g16.2),oB 77 6 Dk y12),((6,u1),some<|.box 25 [(di 0),(.d .nilS),(.d .nilS)]),((1,u47),some<|.box 133 [(.ptr (30,u7) 0)]),((1,g13.1),some<|.box 133 [(.ptr (30,u7) 0)]),((1000000,u53),some<|.obj (T [(1,(.ptr (1,u47) 0)),(5,(.fn (.func 174) [] [(.ptr (1,g13.1) 0)]))]) {r1 with state:= .busy})]⟩) (D8 (Y0 W)<|sg W<|B7 (gq W)<|B7 (gq W)<|B7 (Tl g16.1.property 7 W G_hit)<|sg W<|B5 G_hit (.of W)<|B5 (Y5 g13.2<|gq W) (.of W) (sg W trivial)) ?_
 refine B0<|sq W<|sp W W<|sq W<|sp W W<|sl W G_hit W<|sd W (D3 W)<|sv W<|A1<|bs hy15 fun y16 hy16 hy15=>D6 (fun s=> ∃g21:({d:Nat // d∈ [72,158]}×Nat),Sb ⟨T [],G [((6,u1),some<|.box 25 [(di 0),(.d .nilS),(.d .nilS)]),((30,u7),some<|.box 135 ((L4 p1)++ (K1 p2)++ [(di v2.Tick),(oS y2 (10060030,g2)),(oS y5 (85,g6)),(dl A4 p3),(oS y16 (g21.1.val,g21.2))])),((1,u47),some<|.box 133 [(.ptr (30,u7) 0)]),((1,g13.1),some<|.box 133 [(.ptr (30,u7) 0)]),((1000000,u53),some<|.obj (T [(1,(.ptr (1,u47) 0)),(5,(.fn (.func 174) [] [(.ptr (1,g13.1) 0)]))]) {r1 with state:= .busy}),((10060030,g2),oB 45 7 C6 y2),((85,g6),oB 127 4 I7 y5),((g21.1.val,g21.2),oB 77 6 Dk y16)]⟩ s) ?_ ?_
 refine A7<|E1 (Ft p1 p2 p3 v2 y2 y5 a1) (fun (x6:(Int× (List Crash))) (g22:({d:Nat // d∈ [72,158]}×Nat))=>⟨T [(0,(.ptr (30,u7) 0)),(1,(di a1.1)),(2,(di a1.2)),(15,(di (p1.Zones.length:Int))),(16,(di x6.1))],G [((30,u7),some<|.box 135 ((L4 p1)++ (K1 p2)++ [(di v2.Tick),(oS y2 (10060030,g2)),(oS y5 (85,g6)),(dl A4 p3),(oS x6.2 (g22.1.val,g22.2))])),((6,u1),some<|.box 25 [(di 0),(.d .nilS),(.d .nilS)]),((1,u47),some<|.box 133 [(.ptr (30,u7) 0)]),((1,g13.1),some<|.box 133 [(.ptr (30,u7) 0)]),((1000000,u53),some<|.obj (T [(1,(.ptr (1,u47) 0)),(5,(.fn (.func 174) [] [(.ptr (1,g13.1) 0)]))]) {r1 with state:= .busy}),((10060030,g2),oB 45 7 C6 y2),((85,g6),oB 127 4 I7 y5),((g22.1.val,g22.2),oB 77 6 Dk x6.2)]⟩) (0,y12) (g16.1,g16.2) _ hy16 (D8 (Y0 W)<|B5 G_hit (.of W)<|B5 (Um 3 W<|F1 (Zg g16.1.property W) G_hit) (.of W) (B5 (Um 3 W<|F1 (Zg g16.1.property W)<|gq W) (.of W) (B5 (Um 3 W<|F1 (Zg g16.1.property W)<|F1 W<|Y5 g13.2 G_hit) (.of W) (B5 (Um 3 W<|F1 (Zg g16.1.property W)<|gq W) (.of W) (B7 (gq W)<|B7 (gq W)<|B7 (Tl g16.1.property 3 W G_hit) trivial))))) ?_
 intro x6 g22 z7 hz7 ez7
 unfold Ft at hz7
 refine B0<|sv W<|A1<|A5<|cc W hz7 (fun c13 hz7=> ?_)<|fun c13 hz7=> ?_
 refine A8<|A5<|A7<|B0<|sv W<|sv W<|A1<|A5<|B0<|sq W<|sv W<|sv W<|sv W<|bs hz7 fun v28 hv28 hz7=>A9 W (E4 (Aj G_hit<|rD<|rD<|rD<|rD<|rD<|rD<|rD<|rD<|rD<|E4 (S9<|gq W)<|E4 (S9<|gq W)<|rD<|E4 (S9<|Tl g22.1.property 7 W G_hit) F9)<|rD<|rD<|rD F9) (.cons (DLe.bp<|ca W<|ca W<|ca W<|ca W<|ca W<|ca W<|ca W<|ca W<|ca W<|.cons ⟨S8,W⟩ (.cons ⟨S8,W⟩ (ca W<|.cons ⟨S8,W⟩ .nil))) (.cons (.refl _) (.cons (.refl _) A3))) (Lz _ _ _ _ _ hv28) (.inr W) (B8 (.d (bo (!v28))) W W (A1<|cc W hz7 (fun c14 hz7=> ?_)<|fun c14 hz7=> ?_))
 refine Tj W<|B9<|sv W<|sv W<|A1<|E2 ?_
 cases hz7
 exact ⟨W,(g22.1,g22.2),(D8 (Y0 W)<|B5 G_hit (.of W)<|sg W<|sg W<|B5 (Um 2 W<|Y5 g13.2 G_hit) (.of W) (sg W<|B7 (gq W)<|B7 (gq W)<|B7 (Tl g22.1.property 7 W G_hit) trivial))⟩
 refine A8<|B0<|sq W<|sv W<|sv W<|bs hz7 fun v29 hv29 hz7=>A9 W (E4 (Aj G_hit<|rD<|rD<|rD<|rD<|rD<|rD<|rD<|rD<|rD<|E4 (S9<|gq W)<|E4 (S9<|gq W)<|rD<|E4 (S9<|Tl g22.1.property 7 W G_hit) F9)<|rD<|rD F9) (.cons (DLe.bp<|ca W<|ca W<|ca W<|ca W<|ca W<|ca W<|ca W<|ca W<|ca W<|.cons ⟨S8,W⟩ (.cons ⟨S8,W⟩ (ca W<|.cons ⟨S8,W⟩ .nil))) (.cons (.refl _) A3)) (Mk _ _ _ _ hv29) (.inr W) (sq W<|sv W<|sv W<|bs hz7 fun v30 hv30 hz7=>A9 W (E4 (Aj G_hit<|rD<|rD<|rD<|rD<|rD<|rD<|rD<|rD<|rD<|E4 (S9<|gq W)<|E4 (S9<|gq W)<|rD<|E4 (S9<|Tl g22.1.property 7 W G_hit) F9)<|rD<|rD F9) (.cons (DLe.bp<|ca W<|ca W<|ca W<|ca W<|ca W<|ca W<|ca W<|ca W<|ca W<|.cons ⟨S8,W⟩ (.cons ⟨S8,W⟩ (ca W<|.cons ⟨S8,W⟩ .nil))) (.cons (.refl _) A3)) (Mk _ _ _ _ hv30) (.inr W) (sm W<|sn W W<|S5 W (gq W) (Uo v29) W (S5 W (gq W) (Uo v30) W (A1<|B0<|sv W<|sv W<|B8 (dl A4 [a1.1,a1.2]) W W (B8 (dl A4 [a1.1,a1.2]) W W (A1<|A5<|A5<|E8 W<|sq W<|sl W (gq W) W (sq W<|sl W G_hit W<|bs hz7 fun v31 hv31 hz7=>A9 W W A3 (Gq _ _ _ hv31) (.inl W) (sq W<|sl W G_hit W<|sq W<|sl W (gq W) W (bs hz7 fun v32 hv32 hz7=>A9 W W A3 (Oe _ _ _ hv32) (.inl W) (B8 (dl A4 [v31,v32]) W W (bs hz7 fun _ hv33 hz7=>A9 W W A3 (Sf _ _ hv33) (.inl W) (A1<|bs hz7 fun y17 hy17 hz7=>D6 (fun s=> ∃g23:Unit,Sb ⟨T [(0,(.ptr (30,u7) 0)),(1,(di a1.1)),(2,(di a1.2)),(6,(di x6.1)),(9,(dl A4 y17)),(15,(di (p1.Zones.length:Int))),(16,(di x6.1))],G [((30,u7),some<|.box 135 ((L4 p1)++ (K1 p2)++ [(di v2.Tick),(oS y2 (10060030,g2)),(oS y5 (85,g6)),(dl A4 p3),(oS x6.2 (g22.1.val,g22.2))])),((6,u1),some<|.box 25 [(di 0),(.d .nilS),(.d .nilS)]),((1,u47),some<|.box 133 [(.ptr (30,u7) 0)]),((1,g13.1),some<|.box 133 [(.ptr (30,u7) 0)]),((1000000,u53),some<|.obj (T [(1,(.ptr (1,u47) 0)),(5,(.fn (.func 174) [] [(.ptr (1,g13.1) 0)]))]) {r1 with state:= .busy}),((10060030,g2),oB 45 7 C6 y2),((85,g6),oB 127 4 I7 y5),((g22.1.val,g22.2),oB 77 6 Dk x6.2)]⟩ s) ?_ ?_))))))))))))
 refine A7<|B0<|sv W<|sv W<|A1<|cc W hy17 (fun c15 hy17=> ?_)<|fun c15 hy17=> ?_
 refine B9<|sv W<|B8 (dl A4 [a1.1]) W W (B8 (dl A4 [a1.1]) W W (A1<|E0 ?_))
 cases hy17
 exact U1 ⟨(),(D8 (Y0 W)<|sg W<|sg W<|sg W<|B5 (Um 6 W<|Y5 g13.2 G_hit) (.of W) (sg W<|B7 (gq W)<|B7 (gq W)<|B7 (Tl g22.1.property 11 W G_hit) trivial))⟩
 refine B0<|sv W<|sv W<|A1<|cc W hy17 (fun c16 hy17=> ?_)<|fun c16 hy17=> ?_
 refine B9<|sv W<|B8 (dl A4 [a1.2]) W W (B8 (dl A4 [a1.2]) W W (A1<|E0 ?_))
 cases hy17
 exact U1 ⟨(),(D8 (Y0 W)<|sg W<|sg W<|sg W<|B5 (Um 6 W<|Y5 g13.2 G_hit) (.of W) (sg W<|B7 (gq W)<|B7 (gq W)<|B7 (Tl g22.1.property 11 W G_hit) trivial))⟩
 refine A8<|E0 ?_
 cases hy17
 exact U1 ⟨(),(D8 (Y0 W)<|sg W<|sg W<|sg W<|B5 (Um 6 W<|Y5 g13.2 G_hit) (.of W) (sg W<|B7 (gq W)<|B7 (gq W)<|B7 (Tl g22.1.property 11 W G_hit) trivial))⟩
 rintro _ ⟨g23,q8⟩
 refine B4 q8<|Lj W fun u87 _=>sq W<|sq W<|sp W W<|sq W<|B8 (oS x6.2 (g22.1.val,g22.2)) W (P8 W G_hit W) (sq W<|sp W W<|sq W<|sp W W<|sl W G_hit W<|sv W<|sv W<|sv W<|sv W<|sv W<|B8 (dl Dk [(Crash.mk p2.Tick a1.1 a1.2 (-1) x6.1 y17)]) W W (bs hz7 fun _ hv34 hz7=>P1 Dk (g22.1.val,g22.2) x6.2 (Crash.mk p2.Tick a1.1 a1.2 (-1) x6.1 y17) [] _ (L3<|fun _=>W) W (F1 (Xz g22.1.property W)<|F1 (Xz g22.1.property W)<|F1 (Xz g22.1.property W)<|F1 (Xz g22.1.property W)<|F1 (Xz g22.1.property W)<|F1 (Xz g22.1.property W)<|F1 (Xz g22.1.property W) G_hit) hv34 (sq W<|sp W W<|Ie _ _ _ _ _ W W W (F1 W<|F1 (Zg g22.1.property W) G_hit) (nl W) ((L4 p1)++ (K1 p2)++ [(di v2.Tick),(oS y2 (10060030,g2)),(oS y5 (85,g6)),(dl A4 p3),(.sl (72,u87))]) W (A1<|E0<|B9<|sv W<|sv W<|A1<|E2 ?_))))
 cases hz7
 exact ⟨W,(⟨72, .head _⟩,u87),(D8 (Y0 W)<|B5 G_hit (.box (cv<|cv<|cv<|cv<|cv<|cv<|cv<|cv<|cv<|cv<|cv<|cv<|.cons (.of (T9<|U2 hv34).symm) .nil))<|B5 (Um 2 W<|F1 (Zg g22.1.property W)<|gq W) (.of W) (B5 (Um 2 W<|F1 (Zg g22.1.property W)<|gq W) (.of W) (B5 (Um 2 W<|F1 (Zg g22.1.property W)<|F1 W<|F1 W<|Y5 g13.2 G_hit) (.of W) (B5 (Um 2 W<|F1 (Zg g22.1.property W)<|gq W) (.of W) (B7 (Um 2 W<|F1 (Zg g22.1.property W)<|gq W)<|B7 (Um 2 W<|F1 (Zg g22.1.property W)<|gq W)<|N0 (gq W) trivial)))))⟩
 refine C7 W ?_
 cases hz7
 obtain rfl:=ez7 _ rfl
 refine ⟨nofun,C5 W<|U1 ?_⟩
 exact ⟨(g22.1,g22.2),(D8 trivial<|sg W<|B5 G_hit (.of W)<|sg W<|B5 (Um 2 W<|Y5 g13.2 G_hit) (.of W) (sg W<|B7 (gq W)<|B7 (gq W)<|B7 (Tl g22.1.property 7 W G_hit) trivial))⟩
 rintro _ ⟨g21,q9⟩
 refine E2 ?_
 obtain rfl:=(lD hy15)
 exact Wc q9 (.inl W) (g21.1,g21.2) trivial (B5 G_hit (.of W)<|sg W<|sg W<|B5 (Um 2 W<|Y5 g13.2 G_hit) (.of W) (sg W<|B7 (gq W)<|B7 (gq W)<|B7 (Tl g21.1.property 7 W G_hit) trivial))
 intro g20
 intro u89 hu89
 refine A1<|E0<|E2 ?_
 cases hz4
 exact YV (gq W) (g20.1,g20.2) (sg W<|B5 (Um 2 W<|Y5 g13.2 G_hit) (.of W) (B5 G_hit (.of W)<|sg W<|B7 (gq W)<|B7 (gq W)<|B7 (Tl g20.1.property 7 W G_hit) trivial))
 rintro x4 g15 _ rfl qx4
 refine E0<|U1 ?_
 exact ⟨(g15.1,g15.2),(Sb.after qx4<|D8 trivial<|sg W<|sg W<|B7 (gq W)<|B7 (gq W)<|B7 (Tl g15.1.property 6 W G_hit) trivial)⟩
 rintro _ ⟨g14,q10⟩
 refine E2 ?_
 obtain rfl:=(lD hy9)
 exact Wc q10 (.inl W) (g14.1,g14.2) (Y0 W) (B5 G_hit (.of W)<|sg W<|B7 (gq W)<|B7 (gq W)<|B7 (Tl g14.1.property 4 W G_hit) trivial)
 intro g12
 intro u90 hu90
 refine A1<|E0<|B9<|sv W<|sv W<|A1<|AZ<|B0<|sv W<|A1<|A5<|Rk W<|Tj W ?_
 cases hy1
 exact U1 ⟨(g2,g6,(g12.1,g12.2)),(D8 (Y0 W)<|B5 G_hit (.of W)<|sg W<|B7 (gq W)<|B7 (gq W)<|B7 (Tl g12.1.property 4 W G_hit) trivial)⟩
 rintro _ ⟨g1,q11⟩
 refine B4 q11<|B0<|sq W<|sp W W<|sq W<|sp W W<|sl W (gq W) W (sv W<|sq W<|sp W W<|sq W<|S5 W (gq W) ((L4 p1)++ (K1 p2)++ [(di<|D9 (v2.Tick+1)),(oS y1.1 (10060030,g1.1)),(oS y1.2.1 (85,g1.2.1)),(dl A4 p3),(oS y1.2.2 (g1.2.2.1.val,g1.2.2.2))]) W (A1<|A5<|Pc fun _ _=>N1 (.ptr _ _) W W (N1 (.ptr _ _) W W (N1 (.ptr _ _) W W (N1 (W2 [(di<|D9 (v2.Tick+1)),(oS y1.1 (10060030,g1.1)),(oS y1.2.1 (85,g1.2.1))]) W (B2 W G_hit W W) (N1 (.ptr _ _) W W (N1 (.ptr _ _) W W (N1 (.ptr _ _) W W (N1 (oS y1.2.2 (g1.2.2.1.val,g1.2.2.2)) W (P8 W G_hit W) (Rl _ _ _ _ _ (V8 _) W W (gq W) (nl W) [(di<|D9 (v2.Tick+1)),(oS y1.1 (10060030,g1.1)),(oS y1.2.1 (85,g1.2.1))] W (N1 (oS y1.2.2 (g1.2.2.1.val,g1.2.2.2)) W W (N1 (.d _) W W (BD ⟨by first|rfl|((generalize g1.2.2.1=q0;rcases q0 with ⟨d0,_|⟨_,_|⟨_,h0⟩⟩⟩)<;>(generalize y1.2.2=z4;cases z4)<;>first|rfl|contradiction),?_⟩)))))))))))))
 refine B1 ?_
 cases h
 exact A6 (.inr W) (AU (H5 W G_hit (nl W) W) (B3 W) (B3 W) (Lk<|rD<|E4 (S9<|gq W)<|E4 (S9<|gq W) F9) (S9<|Tl g1.2.2.1.property 6 W G_hit) C0) (.tup (.cons (.agg (ca W<|.cons ⟨S8,W⟩ (.cons ⟨S8,W⟩ .nil))) (.cons S8 A3)))
def Ja [Lp]:Option Bool:=
  (Pm).bind fun v1=>(Rm 0 10000 1000).bind fun v2=>(Rm 1 46000 1000).bind fun v3=>(Pn v1 [v2,v3]).bind fun v4=>cond (((v4.2 !=0)||((v4.1.In.length:Int) !=0))||((v4.1.Agents.length:Int) !=2)) (some false) ((Nc v1 v4.1 [50,(-90)]).bind fun v5=>((cond (((v5.2.2==0)&& ((v5.2.1.length:Int)==0))&& ((v5.1.Agents.length:Int)==2)) (C3 v5.1.Agents 0) (some default))).bind fun v6=>((cond ((((v5.2.2==0)&& ((v5.2.1.length:Int)==0))&& ((v5.1.Agents.length:Int)==2))&& (v6.S==11030)) (C3 v5.1.Agents 1) (some default))).bind fun v7=>((cond (((((v5.2.2==0)&& ((v5.2.1.length:Int)==0))&& ((v5.1.Agents.length:Int)==2))&& (v6.S==11030))&& (v7.V==910)) (Qn 100 30) (some default))).bind fun v8=>some ((((((v5.2.2==0)&& ((v5.2.1.length:Int)==0))&& ((v5.1.Agents.length:Int)==2))&& (v6.S==11030))&& (v7.V==910))&& (v8==120)))
theorem HT(r)(h:Ja=some r):PCall prog 21 [] (bo r):=by
 refine C2 (fk func21 ntmps21 (fun r=>if r==2 then [1003]else if r==5 then [1002]else []) (by with_unfolding_all rfl)) (nl W) ?_
 unfold Ja at h
 refine B4 (s0:=⟨T [],G []⟩) (F0 W W) ?_
 refine B0<|sv W<|A1<|B0<|bs h fun v1 hv1 h=>A9 W W A3 (MO _ hv1) (.inl W) (sm W<|S5 W G_hit (L4 v1) W (A1<|A5<|E8 W<|sd W (B2 W G_hit W W)<|bs h fun v2 hv2 h=>A9 W W A3 (Wg _ _ _ _ hv2) (.inl W) (bs h fun v3 hv3 h=>A9 W W A3 (Wg _ _ _ _ hv3) (.inl W) (B8 (dl C6 [v2,v3]) W (CZ C6 ([v2,v3]:List Agent) (fun _=>W) W W ⟨W,W,W,W,W,W,trivial⟩ (fun _=>W)) (bs h fun v4 hv4 h=>A9 W W A3 (MR _ _ _ hv4) (.inl W) (sv W<|sv W<|sv W<|sm W<|S5 W G_hit (K1 v4.1) W (sv W<|A1<|A5<|B0<|sv W<|sv W<|sv W<|gp W (K6 W) (fun _=>W) (gf W (vl W G_hit W)<|gf W (fun w3=>(D3<|A2 w3))<|gf W (vb W W W)<|sd W (O5 W W<|fun hc=>A2<|J6 hc)<|sv W<|gp W (K6 W) (fun _=>W) (gf W (vl W G_hit W)<|gf W (fun w7=>(D3<|A2 w7))<|gf W (vb W W W)<|sd W (O5 W W<|fun hc=>A2<|J6 hc)<|A1<|cc W h (fun c1 h=> ?_)<|fun c1 h=> ?_)))))))))
 refine B0<|sv W<|A1<|B1 ?_
 cases h
 exact A6 (.inr W) (B6 (B3 W) C0) (.refl _)
 refine A8<|B0<|sd W (B2 W (gq W) W W)<|sd W (B2 W G_hit W W)<|B8 (dl A4 [50,(-90)]) W W (bs h fun v5 hv5 h=>A9 W W A3 (JM _ _ _ _ hv5) (.inl W) (sv W<|sv W<|sv W<|sv W<|sm W<|S5 W G_hit (K1 v5.1) W (sv W<|sv W<|A1<|B0<|sv W<|sv W<|sv W<|gt W (fun _=>W)<|gt W (fun w10=>(D3<|A2 w10))<|gt W (vb W W W)<|sa W W W<|sv W<|gp W (K3 W) (fun _=>W) (gt W (vl W G_hit W)<|gt W (fun w14=>(D3<|A2 w14))<|gt W (vb W W W)<|sa W W W<|sv W<|gp W (K3 W) (fun _=>W) (gt W (vl W G_hit W)<|bs h fun _ hv6 h=>gt W (fun w18=>(C4 (A2 w18) W (C1 w18 hv6) W)) ?_)))))
 refine gt W (fun w19=>(by simp only [A2 w19];rfl)) ?_
 refine gt W (fun w20=>(C9 (A2 w20) (C1 w20 hv6) W))<|gt W (vb W W W)<|sa W W W<|sv W<|gp W (K3 W) (fun _=>W) (gt W (vl W G_hit W)<|bs h fun _ hv7 h=>gt W (fun w24=>(C4 (A2 w24) W (C1 w24 hv7) W)) ?_)
 refine gt W (fun w25=>(by simp only [A2 w25];rfl)) ?_
 refine gt W (fun w26=>(C9 (A2 w26) (C1 w26 hv7) W))<|gt W (vb W W W)<|sa W W W<|sv W<|bs h fun v8 hv8 h=>N4 _ (i64 v8) (K3 W) (fun w28=>⟨_,_,_,_,W,W,A3,Sh _ _ _<|C1 w28 hv8,(.inl W)⟩) (gt W (vb W W W)<|sa W W W<|sv W<|A1<|B1 ?_)
 cases h
 exact A6 (.inr W) (B6 (B3 W) C0) (.refl _)
def Fd [Lp](p1:Int)(p2:KitActor)(p3:Int)(p4:Int):Option Bool:=
  (Xi p1).bind fun v1=>(Sq v1 [p2]).bind fun v2=>cond ((v2.Agents.length:Int) !=1) (some false) ((Oa v2 p3).bind fun v3=>(Ss v2 p4).bind fun v4=>(C3 v2.Agents 0).bind fun v5=>((cond (decide (v3.Lo≤v5.V)) (C3 v2.Agents 0) (some default))).bind fun v6=>((cond (((decide (v3.Lo≤v5.V))&& (decide (v6.V≤v3.Hi)))&& (decide ((D9 (v3.Hi - v3.Lo))≤6))) (C3 v2.Agents 0) (some default))).bind fun v7=>((cond ((((decide (v3.Lo≤v5.V))&& (decide (v6.V≤v3.Hi)))&& (decide ((D9 (v3.Hi - v3.Lo))≤6)))&& (decide (v4.Lo≤v7.S))) (C3 v2.Agents 0) (some default))).bind fun v8=>((cond ((((((decide (v3.Lo≤v5.V))&& (decide (v6.V≤v3.Hi)))&& (decide ((D9 (v3.Hi - v3.Lo))≤6)))&& (decide (v4.Lo≤v7.S)))&& (decide (v8.S≤v4.Hi)))&& ((D9 (v4.Hi - v4.Lo))==400)) (Ja) (some default))).bind fun v9=>some (((((((decide (v3.Lo≤v5.V))&& (decide (v6.V≤v3.Hi)))&& (decide ((D9 (v3.Hi - v3.Lo))≤6)))&& (decide (v4.Lo≤v7.S)))&& (decide (v8.S≤v4.Hi)))&& ((D9 (v4.Hi - v4.Lo))==400))&&v9))
theorem Tz(p1 p2 p3 p4 r)(h:Fd p1 p2 p3 p4=some r):PCall prog 13 [(i64 p1),(.agg (Mo p2)),(i64 p3),(i64 p4)] (bo r):=by
 refine C2 (fk func13 ntmps13 (fun r=>if r==1 then [1003]else []) (by with_unfolding_all rfl)) (nl W) ?_
 unfold Fd at h
 refine B4 (s0:=⟨T [(0,(.d _)),(1,(.d _)),(2,(.d _)),(3,(.d _))],G []⟩) (F0 W W) ?_
 refine B0<|sm W<|sv W<|A1<|A5<|E8 W<|sv W<|bs h fun _ hv1 h=>A9 W W A3 (RY _ _ hv1) (.inl W) (sd W (B2 W G_hit W W)<|B8 (dl Mo [p2]) W W (bs h fun v2 hv2 h=>A9 W W A3 (MM _ _ _ hv2) (.inl W) (sm W<|S5 W G_hit (K1 v2) W (A1<|A5<|B0<|sq W<|sl W G_hit W<|sd W (D3 W)<|sv W<|A1<|cc W h (fun c1 h=> ?_)<|fun c1 h=> ?_))))
 refine B0<|sv W<|A1<|B1 ?_
 cases h
 exact A6 (.inr W) (B6 (B3 W) C0) (.refl _)
 refine A8<|A5<|E8 W<|sd W (B2 W G_hit W W)<|sv W<|bs h fun v3 hv3 h=>A9 W W A3 (HL _ _ _ hv3) (.inl W) (sd W (B2 W G_hit W W)<|sv W<|bs h fun v4 hv4 h=>A9 W W A3 (MN _ _ _ hv4) (.inl W) (sm W<|sn W W<|S5 W (gq W) (fN v3) W (S5 W (gq W) (fN v4) W (A1<|A5<|E8 W<|sq W<|sl W (gq W) W (sq W<|sl W (gq W) W (bs h fun _ hv5 h=>sd W (C4 W W hv5 W)<|sv W<|sd W (C9 W hv5 W)<|sv W<|sv W<|gp W (K3 W) (fun _=>W) (gt W (vl W (gq W) W)<|bs h fun _ hv6 h=>gt W (fun w3=>(C4 (A2 w3) W (C1 w3 hv6) W)) ?_)))))))
 refine gt W (fun w4=>(by simp only [A2 w4];rfl)) ?_
 refine gt W (fun w5=>(C9 (A2 w5) (C1 w5 hv6) W))<|gp W (K3 W) (fun _=>W) (gt W (vl W (gq W) W)<|gt W (fun w8=>(M4 (A2 w8) (A2 w8) W))<|sa W W W<|sv W<|gp W (K3 W) (fun _=>W) (gt W (vl W (gq W) W)<|gp W (K3 W) (fun _=>W) (gt W (vl W (gq W) W)<|gt W (fun w13=>(M4 (A2 w13) (A2 w13) W))<|gt W (vb W W W)<|sa W W W<|sv W<|gp W (K3 W) (fun _=>W) (gt W (vl W G_hit W)<|gp W (K3 W) (fun _=>W) (gt W (vl W (gq W) W)<|bs h fun _ hv7 h=>gt W (fun w19=>(C4 (A2 w19) W (C1 w19 hv7) W)) ?_)))))
 refine gt W (fun w20=>(by simp only [A2 w20];rfl)) ?_
 refine gt W (fun w21=>(C9 (A2 w21) (C1 w21 hv7) W))<|gt W (fun w22=>(M4 (A2 w22) (A2 w22) W))<|sa W W W<|sv W<|gp W (K3 W) (fun _=>W) (gt W (vl W (gq W) W)<|bs h fun _ hv8 h=>gt W (fun w25=>(C4 (A2 w25) W (C1 w25 hv8) W)) ?_)
 refine gt W (fun w26=>(by simp only [A2 w26];rfl)) ?_
 refine gt W (fun w27=>(C9 (A2 w27) (C1 w27 hv8) W))<|gp W (K3 W) (fun _=>W) (gt W (vl W G_hit W)<|gt W (fun w30=>(M4 (A2 w30) (A2 w30) W))<|sa W W W<|sv W<|gp W (K3 W) (fun _=>W) (gt W (vl W G_hit W)<|gp W (K3 W) (fun _=>W) (gt W (vl W G_hit W)<|gt W (fun w35=>(M4 (A2 w35) (A2 w35) W))<|gt W (vb W W W)<|sa W W W<|sv W<|bs h fun v9 hv9 h=>N4 _ (bo v9) (K3 W) (fun w37=>⟨_,_,_,_,W,W,A3,HT _<|C1 w37 hv9,(.inl W)⟩) (sa W W W<|sv W<|A1<|B1 ?_))))
 cases h
 exact A6 (.inr W) (B6 (B3 W) C0) (.refl _)
end
end Go.Abs.World
