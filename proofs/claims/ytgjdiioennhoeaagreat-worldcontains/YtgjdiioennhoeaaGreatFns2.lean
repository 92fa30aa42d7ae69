/-
  The functions, part 2.
-/
import Derived.Test.YtgjdiioennhoeaaGreatFns1
set_option maxRecDepth 20000
set_option maxHeartbeats 4000000
set_option linter.unusedVariables false
namespace Go.Abs.World
noncomputable section
open Go Go.Abs Go.Proofs Tryz
attribute [local irreducible] K9 Cv Cb
def Ny [Lp](p1:Map)(p2:Int)(p3:Int)(p4:Int):Option Bool:=
  (Mt p1 p3).bind fun v1=>((cond (((v1&& (decide (p2≥0)))&& (decide (p2< (p1.Signals.length:Int))))&& (decide (p4≥0))) (C3 p1.Signals p2) (some default))).bind fun v2=>((cond (((v1&& (decide (p2≥0)))&& (decide (p2< (p1.Signals.length:Int))))&& (decide (p4≥0))) (Nx v2 p3 p4) (some default))).bind fun v3=>some ((((v1&& (decide (p2≥0)))&& (decide (p2< (p1.Signals.length:Int))))&& (decide (p4≥0)))&&v3)
theorem HJ(p1 p2 p3 p4 r)(h:Ny p1 p2 p3 p4=some r):PCall prog 177 [(.agg (P6 p1)),(i64 p2),(i64 p3),(i64 p4)] (bo r):=by
 refine C2 (fk func177 ntmps177 m0 (by with_unfolding_all rfl)) (nl W) ?_
 unfold Ny at h
 refine B4 (s0:=⟨T [(0,(.d _)),(1,(.d _)),(2,(.d _)),(3,(.d _))],G []⟩) (F0 W W) ?_
 refine B0<|sm W<|sv W<|A1<|B0<|sd W (B2 W G_hit W W)<|sv W<|bs h fun _ hv1 h=>A9 W W A3 (Yc _ _ _ hv1) (.inl W) (sv W<|gt W (fun _=>W)<|gt W (vb W W W)<|sa W W W<|sv W<|gt W (fun _=>W)<|gp W (K3 W) (fun _=>W) (gt W (vl W G_hit W)<|gt W (fun w6=>(D3<|A2 w6))<|gt W (fun w7=>(M4 (A2 w7) (A2 w7) W))<|sa W W W<|sv W<|gt W (fun _=>W)<|gt W (vb W W W)<|sa W W W<|sv W<|gp W (K3 W) (fun _=>W) (gt W (vl W G_hit W)<|gt W (fun _=>W)<|bs h fun v2 hv2 h=>gt W (fun w13=>(C4 (A2 w13) (A2 w13) (C1 w13 hv2) W))<|gt W (fun w14=>(D1 (A2 w14) (C1 w14 hv2) W W))<|gt W (fun _=>W)<|gt W (fun _=>W)<|bs h fun v3 hv3 h=> ?_)))
 refine N4 _ (bo v3) (K3 W) (fun w17=>⟨_,[(.d (.agg [(i64 v2.Offset),(.list (List.map Ak v2.Phases))])),(di p3),(di p4)],_,_,(by simp only [A2 w17];rfl),W,A3,HI _ _ _ _<|C1 w17 hv3,(.inl W)⟩) ?_
 refine sa W W W<|sv W<|A1<|B1 ?_
 cases h
 exact A6 (.inr W) (B6 (B3 W) C0) (.refl _)
def Er (p2:Agent)(v1:Int)(v2:Zone)(x1:Int):Option (Stp Int (Sum Unit Int)):=
  cond (decide (x1< (v2.Parts.length:Int))) ((C3 v2.Parts x1).bind fun v5=>(C3 p2.Route v1).bind fun v6=>cond (v5.Lane_==v6) ((C3 v2.Parts x1).bind fun v7=>some (.out (.inr v7.Rank))) (some (.go (D9 (x1+1))))) (some (.out (.inl ())))
def Qg [Lp](p1:Map)(p2:Agent)(p3:Int)(p4:Int):Option Int:=
  (Ir p1 p2.Route p3).bind fun v1=>cond (decide (v1<0)) (some 0) ((C3 p1.Zones p3).bind fun v2=>cond (decide (v2.Signal_>0)) ((C3 p2.Route v1).bind fun v3=>(Ny p1 (D9 (v2.Signal_ - 1)) v3 p4).bind fun v4=>cond v4 (some 2) (some 0)) (thenS (loop (Er p2 v1 v2) 0) (fun _=>some 0) (fun r=>some r)))
theorem JH(p1 p2 p3 p4 r)(h:Qg p1 p2 p3 p4=some r):PCall prog 84 [(.agg (P6 p1)),(.agg (C6 p2)),(i64 p3),(i64 p4)] (i64 r):=by
 refine C2 (fk func84 ntmps84 m0 (by with_unfolding_all rfl)) (nl W) ?_
 unfold Qg at h
 refine B4 (s0:=⟨T [(0,(.d _)),(1,(.d _)),(2,(.d _)),(3,(.d _))],G []⟩) (F0 W W) ?_
 refine lr<|fun u1 _=>sm W<|sm W<|sv W<|A1<|B0<|sd W (B2 W (gq W) W W)<|sq W<|sl W G_hit W<|sv W<|bs h fun v1 hv1 h=>A9 W W A3 (Qf _ _ _ _ hv1) (.inl W) (sv W<|A1<|A5<|B0<|sv W<|sv W<|A1<|cc W h (fun c1 h=> ?_)<|fun c1 h=> ?_)
 refine B0<|sv W<|A1<|B1 ?_
 cases h
 exact A6 (.inr W) (B6 (B3 W) C0) (.refl _)
 refine A8<|lr<|fun u5 _=>sq W<|sl W (gq W) W (sv W<|bs h fun v2 hv2 h=>sd W (C4 W W hv2 W)<|sd W (D1 W hv2 W W)<|sm W<|S5 W G_hit [(dl At v2.Parts),(di v2.Signal_)] W (A1<|A5<|B0<|sq W<|sl W G_hit W<|sv W<|A1<|cc W h (fun c2 h=> ?_)<|fun c2 h=> ?_))
 refine A5<|A5<|E8 W<|sd W (B2 W (gq W) W W)<|sq W<|sl W G_hit W<|sv W<|sq W<|sl W (gq W) W (sv W<|bs h fun _ hv3 h=>sd W (C4 W W hv3 W)<|sd W (C9 W hv3 W)<|sv W<|bs h fun _ hv4 h=>A9 W W A3 (HJ _ _ _ _ _ hv4) (.inl W) (A1<|cc W h (fun c3 h=> ?_)<|fun c3 h=> ?_))
 refine B0<|sv W<|A1<|B1 ?_
 cases h
 exact A6 (.inr W) (B6 (B3 W) C0) (.refl _)
 refine A8<|B0<|sv W<|A1<|B1 ?_
 cases h
 exact A6 (.inr W) (B6 (B3 W) C0) (.refl _)
 refine A8<|A5<|B0<|sv W<|A1<|js h fun z1 hz1 h=>D6 (fun s=> ∃(y1:Unit) (g1:Unit),z1= .inl y1∧Sb ⟨T [],G []⟩ s) ?_ ?_
 refine A7<|E1 (Er p2 v1 v2) (fun (x1:Int) (g2:Unit)=>⟨T [(5,(.ptr (5,u1) 0)),(9,(di v1)),(10,(.ptr (10,u5) 0)),(11,(di x1))],G [((5,u1),some<|.box 45 (Q8 p2)),((10,u5),some<|.box 117 [(dl At v2.Parts),(di v2.Signal_)])]⟩) 0 () _ hz1 (F0 W W) ?_
 intro x1 g2 z2 hz2 ez2
 unfold Er at hz2
 refine A5<|B0<|sv W<|sq W<|sl W (gq W) W (sd W (D3 W)<|sv W<|A1<|cc W hz2 (fun c4 hz2=> ?_)<|fun c4 hz2=> ?_)
 refine A8<|A5<|A7<|A5<|E8 W<|sq W<|sl W (gq W) W (sv W<|bs hz2 fun _ hv5 hz2=>sd W (C4 W W hv5 W)<|sv W<|sd W (C9 W hv5 W)<|sq W<|sl W G_hit W<|sv W<|bs hz2 fun _ hv6 hz2=>sd W (C4 W W hv6 W)<|sd W (C9 W hv6 W)<|sv W<|A1<|cc W hz2 (fun c5 hz2=> ?_)<|fun c5 hz2=> ?_)
 refine B0<|sq W<|sl W (gq W) W (sv W<|bs hz2 fun _ hv7 hz2=>sd W (C4 W W hv7 W)<|sv W<|sd W (C9 W hv7 W)<|sv W<|A1<|B1 ?_)
 cases hz2
 obtain rfl:=ez2 _ rfl
 refine ⟨nofun,F2 ?_⟩
 rw [bX]at h
 cases h
 exact A6 (.inr W) (B6 (B3 W) C0) (.refl _)
 refine A8<|E0<|B9<|sv W<|sv W<|sv W<|A1<|E2 ?_
 cases hz2
 exact ⟨W,(),(F0 W W)⟩
 refine C7 W ?_
 cases hz2
 obtain rfl:=ez2 _ rfl
 refine ⟨nofun,C5 W<|U1 ?_⟩
 exact ⟨_,(),W,(F0 W W)⟩
 rintro _ ⟨y1,g1,rfl,q1⟩
 rw [bW]at h
 refine B4 q1<|B0<|sv W<|A1<|B1 ?_
 cases h
 exact A6 (.inr W) (B6 (B3 W) C0) (.refl _)
def Mu (p1:State)(x1:(Int×State)):Option (Stp (Int×State) State):=
  cond (decide (x1.1< (p1.Agents.length:Int))) ((C3 p1.Agents x1.1).bind fun v2=>(Au ([]:List Int) v2.Route).bind fun v3=>(Au x1.2.Agents [(Agent.mk v3 v2.S v2.V v2.Len v2.Begin v2.Obey v2.Gone)]).bind fun v4=>some (.go ((D9 (x1.1+1)),(State.mk x1.2.Tick v4 x1.2.In)))) (some (.out x1.2))
def Nj [Lp](p1:State):Option State:=
  (Au ([]:List Stay) p1.In).bind fun v1=>(loop (Mu p1) (0,(State.mk p1.Tick [] v1))).bind fun y1=>some y1
theorem DB(p1 r)(h:Nj p1=some r):MCall prog 23 [(.d (.agg (Y1 p1)))] [] (W2 [(di r.Tick),(oS r.Agents (800000,0)),(oS r.In (800001,0))]) [] [oB 45 7 C6 r.Agents,oB 127 4 I7 r.In]:=by
 refine MJ (fk func23 ntmps23 (fun r=>if r==7 then [1003]else []) (by with_unfolding_all rfl)) (by generalize r.Agents=x1;generalize r.In=x2;cases x1<;>cases x2<;>rfl) (nl W) ?_
 unfold Nj at h
 refine B4 (s0:=⟨T [(0,(.d _))],G []⟩) (F0 W W) ?_
 refine lr<|fun u1 _=>sm W<|sm W<|A1<|A5<|Pc fun u2 hu2=>N1 (.ptr _ _) W W (N1 (.d _) W (P8 W (gq W) W) (N1 (.ptr _ _) W W (N1 (.d _) W (P8 W (gq W) W) (bs h fun v1 hv1 h=>VG I7 p1.In _ (L3<|fun _=>W) W hv1 (Zc hu2) ?_))))
 refine N1 (W2 [(di p1.Tick),(.d .nilS),(oS v1 (10,u2))]) W (by generalize v1=x1;cases x1<;>rfl) ?_
 refine GX (.ptr _ _) (.box _ _) W W (Rl _ _ _ _ _ (V8 _) W W G_hit (nl W) [(di p1.Tick),(.d .nilS),(oS v1 (10,u2))] W (BD<|iV (fun q=>⟨⟨by first|rfl|((generalize v1=l0;cases l0)<;>rfl),q⟩,⟨by first|rfl|((generalize v1=l0;cases l0)<;>rfl),q⟩⟩) ?_))
 refine A5<|B0<|sv W<|A1<|bs h fun y1 hy1 h=>D6 (fun s=> ∃g1:(Nat×Nat),Sb ⟨T [(2,(.ptr (2,u1) 0)),(3,(.ptr (3,u2) 0))],G [((2,u1),some<|.box 25 [(di 0),(.d .nilS),(.d .nilS)]),((3,u2),some<|.box 25 [(di y1.Tick),(oS y1.Agents (32,g1.1)),(oS y1.In (10,g1.2))]),((32,g1.1),oB 45 7 C6 y1.Agents),((10,g1.2),oB 127 4 I7 y1.In)]⟩ s) ?_ ?_
 refine A7<|E1 (Mu p1) (fun (x1:(Int×State)) (g2:(Nat×Nat))=>⟨T [(1,(.ptr (1,u1) 0)),(2,(.ptr (2,u1) 0)),(3,(.ptr (3,u2) 0)),(4,(di x1.1))],G [((1,u1),some<|.box 25 (K1 p1)),((2,u1),some<|.box 25 [(di 0),(.d .nilS),(.d .nilS)]),((3,u2),some<|.box 25 [(di x1.2.Tick),(oS x1.2.Agents (32,g2.1)),(oS x1.2.In (10,g2.2))]),((32,g2.1),oB 45 7 C6 x1.2.Agents),((10,g2.2),oB 127 4 I7 x1.2.In)]⟩) (0,(State.mk p1.Tick [] v1)) (0,u2) _ hy1 (D8 (Y0 W)<|sg W<|sg W<|B5 G_hit (.of W)<|R6<|B7 (gq W) trivial) ?_
 intro x1 g2 z1 hz1 ez1
 unfold Mu at hz1
 refine A5<|B0<|sv W<|sq W<|sl W G_hit W<|sd W (D3 W)<|sv W<|A1<|cc W hz1 (fun c1 hz1=> ?_)<|fun c1 hz1=> ?_
 refine A8<|A5<|A7<|lr<|fun u5 _=>sq W<|sl W G_hit W<|sv W<|bs hz1 fun v2 hv2 hz1=>sd W (C4 W W hv2 W)<|sd W (D1 W hv2 W W)<|sm W<|S5 W G_hit (Q8 v2) W (A1<|lr<|fun u6 hu6=>sq W<|sl W G_hit W<|bs hz1 fun v3 hv3 hz1=>VF A4 (26,u6) ([]:List Int) v2.Route _ (L3<|fun _=>W) W (Zc hu6) hv3 (Zc hu6) (sq W<|Ie _ _ _ _ _ (VE _ _) W W (gq W) (nl W) ((Q8 v2).set 0 (oS v3 (26,u6))) W (A1<|iU [(26,u6)] [(1,(.ptr (1,u1) 0)),(2,(.ptr (2,u1) 0)),(3,(.ptr (3,u2) 0)),(4,(di x1.1)),(5,(.ptr (5,u5) 0)),(12,(di x1.1)),(13,(.ptr (1,u1) 1)),(14,(dl C6 p1.Agents)),(15,(di (p1.Agents.length:Int))),(16,(.d (bo<|decide (x1.1< (p1.Agents.length:Int))))),(19,(.ptr (1,u1) 1)),(20,(dl C6 p1.Agents)),(21,(di x1.1)),(22,(.d (.lp (List.map C6 p1.Agents) (x1.1).toNat 0))),(23,(.d (.agg (C6 v2)))),(24,(.ptr (5,u5) 0)),(25,(dl A4 v2.Route)),(26,(dl A4 v3)),(27,(.ptr (5,u5) 0))] [((5,u5),some<|.box 45 ((Q8 v2).set 0 (dl A4 v3))),((1,u1),some<|.box 25 (K1 p1)),((2,u1),some<|.box 25 [(di 0),(.d .nilS),(.d .nilS)]),((3,u2),some<|.box 25 [(di x1.2.Tick),(oS x1.2.Agents (32,g2.1)),(oS x1.2.In (10,g2.2))]),((32,g2.1),oB 45 7 C6 x1.2.Agents),((10,g2.2),oB 127 4 I7 x1.2.In)] ⟨Di W,Di W,Di W,Di W,Di W,Di W,Di W,Di W,Di W,Di W,Di W,Di W,Di W,Di W,Di W,Di W,Di W,(dY (S9<|OW (.head _)<|gq W) S8),Di W,trivial⟩ (TR G_hit (Kk (Lm W) Tm) (.cons (dY (S9<|OW (.head _)<|gq W) S8) (.cons (Di W) (.cons (Di W) (.cons (Di W) (.cons (Di W) (.cons (Di W) (.cons (Di W) .nil))))))) (HE (gq W) (Kk (Lm W) Tm) (HE (gq W) (Kk (Lm W) Tm) (HE (gq W) (Kk (Lm W) Tm) (ZN (gq W) (Kk (Lm W) Tm) (ZN (gq W) (Kk (Lm W) Tm) trivial)))))) (As fun u7 _=>sq W<|B8 (oS x1.2.Agents (32,g2.1)) W (P8 W (gq W) W) (sd W (B2 W G_hit W W)<|B8 (dl C6 [(Agent.mk v3 v2.S v2.V v2.Len v2.Begin v2.Obey v2.Gone)]) W W (bs hz1 fun _ hv4 hz1=>P1 C6 (32,g2.1) x1.2.Agents (Agent.mk v3 v2.S v2.V v2.Len v2.Begin v2.Obey v2.Gone) [] _ (L3<|fun _=>W) W (gq W) hv4 (sq W<|S5 W (gq W) [(di x1.2.Tick),(.sl (32,u7)),(oS x1.2.In (10,g2.2))] W (A1<|E0<|B9<|sv W<|sv W<|sv W<|A1<|E2 ?_))))))))
 cases hz1
 exact ⟨W,(u7,g2.2),(D8 (Y0 W)<|sg W<|sg W<|B5 G_hit (.box (cv<|.cons (.of (T9<|U2 hv4).symm) cw))<|N0 (gq W)<|B7 (gq W) trivial)⟩
 refine C7 W ?_
 cases hz1
 obtain rfl:=ez1 _ rfl
 refine ⟨nofun,C5 W<|U1 ?_⟩
 exact ⟨(g2.1,g2.2),(D8 (Y0 W)<|sg W<|sg W<|B7 (gq W)<|B7 (gq W) trivial)⟩
 rintro _ ⟨g1,q1⟩
 refine B4 q1<|B0<|B8 (W2 [(di y1.Tick),(oS y1.Agents (32,g1.1)),(oS y1.In (10,g1.2))]) W (B2 W (gq W) W W) (Ie _ _ _ _ _ (V8 _) W W G_hit (nl W) [(di y1.Tick),(oS y1.Agents (32,g1.1)),(oS y1.In (10,g1.2))] W (A1<|B1 ?_))
 obtain rfl:=(lD h)
 exact ZI (v1:=(W2 [(di y1.Tick),(oS y1.Agents (32,g1.1)),(oS y1.In (10,g1.2))])) (.inr W) (OT<|H5 W G_hit (Nat.le_of_ble_eq_true W) W) (.of W) [((32,g1.1),oB 45 7 C6 y1.Agents),((10,g1.2),oB 127 4 I7 y1.In)] (B7 (gq W)<|B7 (gq W) trivial) (TM [(32,g1.1),(10,g1.2)] (by generalize y1.Agents=x1;generalize y1.In=x2;cases x1<;>cases x2<;>rfl) trivial ⟨(G_hit).trans oB_ren.symm,((gq W)).trans oB_ren.symm,trivial⟩ W (List.forall_mem_cons.2 ⟨fun i hi=>FN W hi,(List.forall_mem_cons.2 ⟨fun i hi=>FN W hi,(fun _ h=>nomatch h)⟩)⟩) (iF<|Lm W))
def Lu [Lp](p1:Map)(p2:Int):Option Int:=
  (Mt p1 p2).bind fun v1=>cond (!v1) (some 0) ((Ji p1 p2).bind fun v2=>some v2)
theorem ET(p1 p2 r)(h:Lu p1 p2=some r):PCall prog 126 [(.agg (P6 p1)),(i64 p2)] (i64 r):=by
 refine C2 (fk func126 ntmps126 m0 (by with_unfolding_all rfl)) (nl W) ?_
 unfold Lu at h
 refine B4 (s0:=⟨T [(0,(.d _)),(1,(.d _))],G []⟩) (F0 W W) ?_
 refine B0<|sm W<|sv W<|A1<|A5<|B0<|sd W (B2 W G_hit W W)<|sv W<|bs h fun v1 hv1 h=>A9 W W A3 (Yc _ _ _ hv1) (.inl W) (B8 (.d (bo (!v1))) W W (A1<|cc W h (fun c1 h=> ?_)<|fun c1 h=> ?_))
 refine B0<|sv W<|A1<|B1 ?_
 cases h
 exact A6 (.inr W) (B6 (B3 W) C0) (.refl _)
 refine A8<|B0<|sd W (B2 W G_hit W W)<|sv W<|bs h fun _ hv2 h=>A9 W W A3 (Uq _ _ _ hv2) (.inl W) (sv W<|A1<|B1 ?_)
 cases h
 exact A6 (.inr W) (B6 (B3 W) C0) (.refl _)
def Hl [Lp](p1:Map)(p2:Agent)(v2:(List Int))(x1:((List Span)×Int)):Option (Stp ((List Span)×Int) (List Span)):=
  cond (decide (x1.2< (v2.length:Int))) ((C3 v2 x1.2).bind fun v3=>(C3 v2 x1.2).bind fun v4=>(C3 p2.Route x1.2).bind fun v5=>(Lu p1 v5).bind fun v6=>cond (decide ((Ps true 0 (D9 ((D9 (p2.S - p2.Len)) - v3)))≤(Ps false (D9 (p2.S - v4)) v6))) ((C3 p2.Route x1.2).bind fun v7=>(Au x1.1 [(Span.mk v7 (Ps true 0 (D9 ((D9 (p2.S - p2.Len)) - v3))) (Ps false (D9 (p2.S - v4)) v6))]).bind fun v8=>some (.go (v8,(D9 (x1.2+1))))) (some (.go (x1.1,(D9 (x1.2+1)))))) (some (.out x1.1))
def Mv [Lp](p1:Map)(p2:Agent):Option (List Span):=
  (Kr p2).bind fun v1=>cond (!v1) (some []) ((Gj p1 p2.Route).bind fun v2=>(loop (Hl p1 p2 v2) ([],0)).bind fun y1=>some y1)
theorem Yd(p1 p2 r)(h:Mv p1 p2=some r):PCall prog 63 [(.agg (P6 p1)),(.agg (C6 p2))] (.list (List.map Bz r)):=by
 refine C2 (fk func63 ntmps63 (fun r=>if r==10 then [1009]else []) (by with_unfolding_all rfl)) (nl W) ?_
 unfold Mv at h
 refine B4 (s0:=⟨T [(0,(.d _)),(1,(.d _))],G []⟩) (F0 W W) ?_
 refine lr<|fun u1 _=>sm W<|sm W<|sv W<|A1<|B0<|sv W<|A1<|A5<|B0<|sd W (B2 W G_hit W W)<|bs h fun v1 hv1 h=>A9 W W A3 (Sc _ _ hv1) (.inl W) (B8 (.d (bo (!v1))) W W (A1<|cc W h (fun c1 h=> ?_)<|fun c1 h=> ?_))
 refine B0<|sv W<|A1<|B1 ?_
 cases h
 exact A6 (.inr W) (B6 (B3 W) C0) DLe.nil
 refine A8<|B0<|sd W (B2 W (gq W) W W)<|sq W<|sl W G_hit W<|bs h fun v2 hv2 h=>A9 W W A3 (Oj _ _ _ hv2) (.inl W) (sv W<|A1<|A5<|B0<|sv W<|A1<|bs h fun y1 hy1 h=>D6 (fun s=> ∃g1:Nat,Sb ⟨T [(5,(oS y1 (62,g1)))],G [((62,g1),oB 93 3 Bz y1)]⟩ s) ?_ ?_)
 refine A7<|E1 (Hl p1 p2 v2) (fun (x1:((List Span)×Int)) (g2:Nat)=>⟨T [(2,(.ptr (2,u1) 0)),(3,(.ptr (3,u1) 0)),(5,(oS x1.1 (62,g2))),(6,(dl A4 v2)),(7,(di x1.2))],G [((2,u1),some<|.box 33 (L4 p1)),((3,u1),some<|.box 45 (Q8 p2)),((62,g2),oB 93 3 Bz x1.1)]⟩) ([],0) 0 _ hy1 (D8 (Y0 W)<|sg W<|B5 G_hit (.of W)<|R6 trivial) ?_
 intro x1 g2 z1 hz1 ez1
 unfold Hl at hz1
 refine A5<|B0<|sv W<|sv W<|sd W (D3 W)<|sv W<|A1<|cc W hz1 (fun c2 hz1=> ?_)<|fun c2 hz1=> ?_
 refine A8<|A5<|A7<|A5<|E8 W<|sq W<|sl W (gq W) W (sq W<|sl W (gq W) W (sv W<|sv W<|sv W<|bs hz1 fun v3 hv3 hz1=>sd W (C4 W W hv3 W)<|sd W (C9 W hv3 W)<|sv W<|sv W<|sq W<|sl W (gq W) W (sv W<|sv W<|bs hz1 fun v4 hv4 hz1=>sd W (C4 W W hv4 W)<|sd W (C9 W hv4 W)<|sv W<|sd W (B2 W G_hit W W)<|sq W<|sl W (gq W) W (sv W<|bs hz1 fun _ hv5 hz1=>sd W (C4 W W hv5 W)<|sd W (C9 W hv5 W)<|bs hz1 fun v6 hv6 hz1=>A9 W W A3 (ET _ _ _ hv6) (.inl W) (sv W<|sv W<|sv W<|A1<|B0<|sv W<|sv W<|sv W<|A1<|cc W hz1 (fun c3 hz1=> ?_)<|fun c3 hz1=> ?_)))))
 refine As fun u10 _=>B8 (oS x1.1 (62,g2)) W W (sq W<|sl W (gq W) W (sv W<|bs hz1 fun v7 hv7 hz1=>sd W (C4 W W hv7 W)<|sd W (C9 W hv7 W)<|sv W<|sv W<|sv W<|B8 (dl Bz [(Span.mk v7 (Ps true 0<|D9 ((D9 (p2.S - p2.Len)) - v3))<|Ps false (D9 (p2.S - v4)) v6)]) W W (bs hz1 fun _ hv8 hz1=>P1 Bz (62,g2) x1.1 (Span.mk v7 (Ps true 0<|D9 ((D9 (p2.S - p2.Len)) - v3))<|Ps false (D9 (p2.S - v4)) v6) [] _ (L3<|fun _=>W) W (gq W) hv8 (ss W<|A1<|E0<|B9<|sv W<|sv W<|sv W<|A1<|E2 ?_))))
 cases hz1
 exact ⟨W,u10,(D8 ⟨.of W, .of W,(.of (T9<|U2 hv8).symm), .of W, .of W,trivial⟩<|sg W<|sg W<|N0 G_hit trivial)⟩
 refine A8<|E0<|B9<|sv W<|sv W<|sv W<|A1<|E2 ?_
 cases hz1
 exact ⟨W,g2,(D8 (Y0 W)<|B5 G_hit (.of W)<|sg W<|B7 (gq W) trivial)⟩
 refine C7 W ?_
 cases hz1
 obtain rfl:=ez1 _ rfl
 refine ⟨nofun,C5 W<|U1 ?_⟩
 exact ⟨g2,(D8 ⟨.of W,trivial⟩<|B7 (gq W) trivial)⟩
 rintro _ ⟨g1,q1⟩
 refine B4 q1<|B0<|B8 (oS y1 (62,g1)) W W (B8 (oS y1 (62,g1)) W W (A1<|B1 ?_))
 cases h
 exact A6 (.inr W) (B6 (B3 W)<|S9 G_hit) S8
def Bl (v1:(List Span))(v2:(List Span))(x1:Int)(x2:Int):Option (Stp Int (Sum Unit Bool)):=
  cond (decide (x2< (v2.length:Int))) ((C3 v1 x1).bind fun v3=>(C3 v2 x2).bind fun v4=>((cond (v3.Lane_==v4.Lane_) (C3 v1 x1) (some default))).bind fun v5=>((cond (v3.Lane_==v4.Lane_) (C3 v2 x2) (some default))).bind fun v6=>((cond ((v3.Lane_==v4.Lane_)&& (decide (v5.From≤v6.To))) (C3 v2 x2) (some default))).bind fun v7=>((cond ((v3.Lane_==v4.Lane_)&& (decide (v5.From≤v6.To))) (C3 v1 x1) (some default))).bind fun v8=>cond (((v3.Lane_==v4.Lane_)&& (decide (v5.From≤v6.To)))&& (decide (v7.From≤v8.To))) (some (.out (.inr true))) (some (.go (D9 (x2+1))))) (some (.out (.inl ())))
def Bm [Lp](v1:(List Span))(v2:(List Span))(x1:Int):Option (Stp Int (Sum Unit Bool)):=
  cond (decide (x1< (v1.length:Int))) (thenS (loop (Bl v1 v2 x1) 0) (fun _=>some (.go (D9 (x1+1)))) (fun r=>some (.out (.inr r)))) (some (.out (.inl ())))
def Is [Lp](p1:Map)(p2:Agent)(p3:Agent):Option Bool:=
  (Mv p1 p2).bind fun v1=>(Mv p1 p3).bind fun v2=>thenS (loop (Bm v1 v2) 0) (fun _=>some false) (fun r=>some r)
theorem BL(p1 p2 p3 r)(h:Is p1 p2 p3=some r):PCall prog 85 [(.agg (P6 p1)),(.agg (C6 p2)),(.agg (C6 p3))] (bo r):=by
 refine C2 (fk func85 ntmps85 m0 (by with_unfolding_all rfl)) (nl W) ?_
 unfold Is at h
 refine B4 (s0:=⟨T [(0,(.d _)),(1,(.d _)),(2,(.d _))],G []⟩) (F0 W W) ?_
 refine B0<|sm W<|sn W W<|sm W<|sv W<|A1<|A5<|E8 W<|sd W (B2 W (gq W) W W)<|sd W (B2 W (gq W) W W)<|bs h fun v1 hv1 h=>A9 W W A3 (Yd _ _ _ hv1) (.inl W) (sd W (B2 W (gq W) W W)<|sd W (B2 W G_hit W W)<|bs h fun v2 hv2 h=>A9 W W A3 (Yd _ _ _ hv2) (.inl W) (sv W<|sv W<|A1<|A5<|B0<|sv W<|A1<|js h fun z1 hz1 h=>D6 (fun s=> ∃(y1:Unit) (g1:Unit),z1= .inl y1∧Sb ⟨T [],G []⟩ s) ?_ ?_))
 refine A7<|E1 (Bm v1 v2) (fun (x1:Int) (g2:Unit)=>⟨T [(7,(dl Bz v1)),(8,(dl Bz v2)),(9,(di x1))],G []⟩) 0 () _ hz1 (F0 W W) ?_
 intro x1 g2 z2 hz2 ez2
 unfold Bm at hz2
 refine A5<|B0<|sv W<|sv W<|sd W (D3 W)<|sv W<|A1<|cc W hz2 (fun c1 hz2=> ?_)<|fun c1 hz2=> ?_
 refine A8<|A5<|A7<|B0<|sv W<|A1<|js hz2 fun z3 hz3 hz2=>D6 (fun s=> ∃(y2:Unit) (g3:Unit),z3= .inl y2∧Sb ⟨T [(7,(dl Bz v1)),(8,(dl Bz v2)),(9,(di x1))],G []⟩ s) ?_ ?_
 refine A7<|E1 (Bl v1 v2 x1) (fun (x2:Int) (g4:Unit)=>⟨T [(7,(dl Bz v1)),(8,(dl Bz v2)),(9,(di x1)),(10,(di x2))],G []⟩) 0 () _ hz3 (F0 W W) ?_
 intro x2 g4 z4 hz4 ez4
 unfold Bl at hz4
 refine A5<|B0<|sv W<|sv W<|sd W (D3 W)<|sv W<|A1<|cc W hz4 (fun c2 hz4=> ?_)<|fun c2 hz4=> ?_
 refine A8<|A5<|A7<|A5<|E8 W<|sv W<|sv W<|bs hz4 fun _ hv3 hz4=>sd W (C4 W W hv3 W)<|sv W<|sd W (C9 W hv3 W)<|sv W<|sv W<|bs hz4 fun _ hv4 hz4=>sd W (C4 W W hv4 W)<|sv W<|sd W (C9 W hv4 W)<|sv W<|sv W<|gt W (fun _=>W)<|gt W (fun _=>W)<|bs hz4 fun _ hv5 hz4=>gt W (fun w3=>(C4 (A2 w3) (A2 w3) (C1 w3 hv5) W)) ?_
 refine gt W (fun w4=>(by simp only [A2 w4];rfl)) ?_
 refine gt W (fun w5=>(C9 (A2 w5) (C1 w5 hv5) W))<|gt W (fun _=>W)<|gt W (fun _=>W)<|bs hz4 fun _ hv6 hz4=>gt W (fun w8=>(C4 (A2 w8) (A2 w8) (C1 w8 hv6) W)) ?_
 refine gt W (fun w9=>(by simp only [A2 w9];rfl)) ?_
 refine gt W (fun w10=>(C9 (A2 w10) (C1 w10 hv6) W))<|gt W (fun w11=>(M4 (A2 w11) (A2 w11) W))<|sa W W W<|sv W<|gt W (fun _=>W)<|gt W (fun _=>W)<|bs hz4 fun _ hv7 hz4=>gt W (fun w14=>(C4 (A2 w14) (A2 w14) (C1 w14 hv7) W)) ?_
 refine gt W (fun w15=>(by simp only [A2 w15];rfl)) ?_
 refine gt W (fun w16=>(C9 (A2 w16) (C1 w16 hv7) W))<|gt W (fun _=>W)<|gt W (fun _=>W)<|bs hz4 fun _ hv8 hz4=>gt W (fun w19=>(C4 (A2 w19) (A2 w19) (C1 w19 hv8) W)) ?_
 refine gt W (fun w20=>(by simp only [A2 w20];rfl)) ?_
 refine gt W (fun w21=>(C9 (A2 w21) (C1 w21 hv8) W))<|gt W (fun w22=>(M4 (A2 w22) (A2 w22) W))<|sa W W W<|A1<|cc W hz4 (fun c3 hz4=> ?_)<|fun c3 hz4=> ?_
 refine B0<|sv W<|A1<|B1 ?_
 cases hz4
 obtain rfl:=ez4 _ rfl
 refine ⟨nofun,F2 ?_⟩
 rw [bX]at hz2
 cases hz2
 obtain rfl:=ez2 _ rfl
 refine ⟨nofun,F2 ?_⟩
 rw [bX]at h
 cases h
 exact A6 (.inr W) (B6 (B3 W) C0) (.refl _)
 refine A8<|E0<|B9<|sv W<|sv W<|sv W<|A1<|E2 ?_
 cases hz4
 exact ⟨W,(),(F0 W W)⟩
 refine C7 W ?_
 cases hz4
 obtain rfl:=ez4 _ rfl
 refine ⟨nofun,C5 W<|U1 ?_⟩
 exact ⟨_,(),W,(F0 W W)⟩
 rintro _ ⟨y2,g3,rfl,q1⟩
 rw [bW]at hz2
 refine E0<|B4 q1<|B9<|sv W<|sv W<|sv W<|A1<|E2 ?_
 cases hz2
 exact ⟨W,(),(F0 W W)⟩
 refine C7 W ?_
 cases hz2
 obtain rfl:=ez2 _ rfl
 refine ⟨nofun,C5 W<|U1 ?_⟩
 exact ⟨_,(),W,(F0 W W)⟩
 rintro _ ⟨y1,g1,rfl,q2⟩
 rw [bW]at h
 refine B4 q2<|B0<|sv W<|A1<|B1 ?_
 cases h
 exact A6 (.inr W) (B6 (B3 W) C0) (.refl _)
def Fp [Lp](p1:Map)(p2:State)(p3:State)(p4:Int)(p5:Int)(x1:((List Int)×Int)):Option (Stp ((List Int)×Int) (List Int)):=
  cond (decide (x1.2< (p1.Zones.length:Int))) ((C3 p2.Agents p4).bind fun v1=>(C3 p2.Agents p5).bind fun v2=>(C3 p3.Agents p4).bind fun v3=>(Eo p1 v1 v3 x1.2).bind fun v4=>((cond (!(!v4)) (C3 p3.Agents p5) (some default))).bind fun v5=>((cond (!(!v4)) (Eo p1 v2 v5 x1.2) (some default))).bind fun v6=>cond ((!v4)||(!v6)) (some (.go (x1.1,(D9 (x1.2+1))))) ((Ir p1 v1.Route x1.2).bind fun v7=>(C3 v1.Route v7).bind fun v8=>(Ir p1 v2.Route x1.2).bind fun v9=>(C3 v2.Route v9).bind fun v10=>cond (v8 !=v10) ((Au x1.1 [x1.2]).bind fun v11=>some (.go (v11,(D9 (x1.2+1))))) (some (.go (x1.1,(D9 (x1.2+1))))))) (some (.out x1.1))
def Nz [Lp](p1:Map)(p2:State)(p3:State)(p4:Int)(p5:Int):Option (List Int):=
  (loop (Fp p1 p2 p3 p4 p5) ([],0)).bind fun y1=>some y1
theorem HK(p1 p2 p3 p4 p5 r)(h:Nz p1 p2 p3 p4 p5=some r):PCall prog 86 [(.agg (P6 p1)),(.agg (Y1 p2)),(.agg (Y1 p3)),(i64 p4),(i64 p5)] (.list (List.map A4 r)):=by
 refine C2 (fk func86 ntmps86 (fun r=>if r==8 then [1002]else []) (by with_unfolding_all rfl)) (nl W) ?_
 unfold Nz at h
 refine B4 (s0:=⟨T [(0,(.d _)),(1,(.d _)),(2,(.d _)),(3,(.d _)),(4,(.d _))],G []⟩) (F0 W W) ?_
 refine lr<|fun u1 _=>sm W<|sm W<|sn W W<|sv W<|A1<|B0<|sv W<|A1<|A5<|B0<|sv W<|A1<|bs h fun y1 hy1 h=>D6 (fun s=> ∃g1:Nat,Sb ⟨T [(11,(oS y1 (76,g1)))],G [((76,g1),oB 3 1 A4 y1)]⟩ s) ?_ ?_
 refine A7<|E1 (Fp p1 p2 p3 p4 p5) (fun (x1:((List Int)×Int)) (g2:Nat)=>⟨T [(3,(di p4)),(4,(di p5)),(5,(.ptr (5,u1) 0)),(6,(.ptr (6,u1) 0)),(7,(.ptr (7,u1) 0)),(11,(oS x1.1 (76,g2))),(12,(di x1.2))],G [((5,u1),some<|.box 33 (L4 p1)),((6,u1),some<|.box 25 (K1 p2)),((7,u1),some<|.box 25 (K1 p3)),((76,g2),oB 3 1 A4 x1.1)]⟩) ([],0) 0 _ hy1 (D8 (Y0 W)<|sg W<|sg W<|B5 G_hit (.of W)<|R6 trivial) ?_
 intro x1 g2 z1 hz1 ez1
 unfold Fp at hz1
 refine A5<|B0<|sv W<|sq W<|sl W G_hit W<|sd W (D3 W)<|sv W<|A1<|cc W hz1 (fun c1 hz1=> ?_)<|fun c1 hz1=> ?_
 refine A8<|A5<|A7<|A5<|Pc fun _ _=>N1 (.ptr _ _) W W (N1 (.d _) W (P8 W (gq W) W) (N1 (.d _) W W (bs hz1 fun v1 hv1 hz1=>N1 (.d _) W (C4 W W hv1 W) (N1 (.d _) W (D1 W hv1 W W) (N1 (.ptr _ _) W W (N1 (.d _) W (P8 W (gq W) W) (N1 (.d _) W W (bs hz1 fun v2 hv2 hz1=>N1 (.d _) W (C4 W W hv2 W) (N1 (.d _) W (D1 W hv2 W W) (GX (.ptr _ _) (.box _ _) W W (GX (.ptr _ _) (.box _ _) W W (Rl _ _ _ _ _ W W W (gq W) (nl W) (Q8 v1) W (Rl _ _ _ _ _ W W W (gq W) (nl W) (Q8 v2) W (BD ⟨W,?_⟩))))))))))))))
 refine A5<|A5<|E8 W<|sd W (B2 W (gq W) W W)<|sd W (B2 W (gq W) W W)<|sq W<|sl W (gq W) W (sv W<|bs hz1 fun _ hv3 hz1=>sd W (C4 W W hv3 W)<|sd W (D1 W hv3 W W)<|sv W<|bs hz1 fun v4 hv4 hz1=>A9 W W A3 (Ms _ _ _ _ _ hv4) (.inl W) (B8 (.d (bo (!v4))) W W (sv W<|gf W (fun _=>(B2 W (gq W) W W))<|gf W (fun _=>(B2 W G_hit W W))<|gp W (K6 W) (fun _=>W) (gf W (vl W (gq W) W)<|gf W (fun _=>W)<|bs hz1 fun v5 hv5 hz1=>gf W (fun w6=>(C4 (A2 w6) (A2 w6) (C1 w6 hv5) W))<|gf W (fun w7=>(D1 (A2 w7) (C1 w7 hv5) W W))<|gf W (fun _=>W)<|bs hz1 fun v6 hv6 hz1=> ?_))))
 refine N4 _ (bo v6) (K6 W) (fun w9=>⟨_,[(.d (.agg (P6 p1))),(.d (.agg (C6 v2))),(.d (.agg (C6 v5))),(di x1.2)],_,_,(by simp only [A2 w9];rfl),W,A3,Ms _ _ _ _ _<|C1 w9 hv6,(.inl W)⟩) ?_
 refine M5 _ (.d (bo (!v6))) W (K6 W) (fun w10=>(by simp only [A2 w10];rfl)) ?_
 refine sd W (O5 W W<|fun hc=>A2<|J6 hc)<|A1<|cc W hz1 (fun c2 hz1=> ?_)<|fun c2 hz1=> ?_
 refine Tj W<|B9<|sv W<|sv W<|sv W<|A1<|E2 ?_
 cases hz1
 exact ⟨W,g2,(D8 (Y0 W)<|sg W<|sg W<|sg W<|B7 (gq W) trivial)⟩
 refine A8<|A5<|E8 W<|sq W<|sl W (gq W) W (sd W (B2 W (gq W) W W)<|sq W<|sl W (gq W) W (sv W<|bs hz1 fun _ hv7 hz1=>A9 W W A3 (Qf _ _ _ _ hv7) (.inl W) (bs hz1 fun _ hv8 hz1=>sd W (C4 W W hv8 W)<|sd W (C9 W hv8 W)<|sq W<|sl W G_hit W<|sd W (B2 W (gq W) W W)<|sq W<|sl W G_hit W<|sv W<|bs hz1 fun _ hv9 hz1=>A9 W W A3 (Qf _ _ _ _ hv9) (.inl W) (bs hz1 fun _ hv10 hz1=>sd W (C4 W W hv10 W)<|sd W (C9 W hv10 W)<|sv W<|A1<|cc W hz1 (fun c3 hz1=> ?_)<|fun c3 hz1=> ?_))))
 refine As fun u9 _=>B8 (oS x1.1 (76,g2)) W W (sv W<|B8 (dl A4 [x1.2]) W W (bs hz1 fun _ hv11 hz1=>P1 A4 (76,g2) x1.1 x1.2 [] _ (L3<|fun _=>W) W (gq W) hv11 (ss W<|A1<|E0<|B9<|sv W<|sv W<|sv W<|A1<|E2 ?_)))
 cases hz1
 exact ⟨W,u9,(D8 ⟨.of W, .of W, .of W, .of W, .of W,(.of (T9<|U2 hv11).symm), .of W,trivial⟩<|sg W<|sg W<|sg W<|N0 G_hit trivial)⟩
 refine A8<|E0<|B9<|sv W<|sv W<|sv W<|A1<|E2 ?_
 cases hz1
 exact ⟨W,g2,(D8 (Y0 W)<|sg W<|sg W<|sg W<|B7 (gq W) trivial)⟩
 refine C7 W ?_
 cases hz1
 obtain rfl:=ez1 _ rfl
 refine ⟨nofun,C5 W<|U1 ?_⟩
 exact ⟨g2,(D8 ⟨.of W,trivial⟩<|B7 (gq W) trivial)⟩
 rintro _ ⟨g1,q1⟩
 refine B4 q1<|B0<|B8 (oS y1 (76,g1)) W W (B8 (oS y1 (76,g1)) W W (A1<|B1 ?_))
 cases h
 exact A6 (.inr W) (B6 (B3 W)<|S9 G_hit) S8
def Gk [Lp](p1:Map)(p2:(List Agent))(x4:(Int×State))(x5:Int):Option (Stp Int (Sum Unit (State×Int))):=
  cond (decide (x5< (p2.length:Int))) ((Ip x4.2 x4.1).bind fun v11=>((cond (!(!v11)) (Ip x4.2 x5) (some default))).bind fun v12=>cond ((!v11)||(!v12)) (some (.go (D9 (x5+1)))) ((C3 p2 x4.1).bind fun v13=>(C3 p2 x5).bind fun v14=>(Is p1 v13 v14).bind fun v15=>((cond (!v15) (Nz p1 x4.2 x4.2 x4.1 x5) (some default))).bind fun v16=>cond (v15||(decide ((v16.length:Int)>0))) (some (.out (.inr ((State.mk 0 [] []),12)))) (some (.go (D9 (x5+1)))))) (some (.out (.inl ())))
def Dy [Lp](p1:Map)(p2:(List Agent))(x4:(Int×State)):Option (Stp (Int×State) (Sum State (State×Int))):=
  cond (decide (x4.1< (p2.length:Int))) (thenS (loop (Gk p1 p2 x4) (D9 (x4.1+1))) (fun _=>some (.go ((D9 (x4.1+1)),x4.2))) (fun r=>some (.out (.inr r)))) (some (.out (.inl x4.2)))
def Gl [Lp](p1:Map)(p2:(List Agent))(x2:(Int×State))(x3:(Int×State)):Option (Stp (Int×State) State):=
  ((cond (decide (x3.1< (p1.Zones.length:Int))) (Ip x3.2 x2.1) (some default))).bind fun v4=>cond ((decide (x3.1< (p1.Zones.length:Int)))&&v4) ((C3 p2 x2.1).bind fun v5=>(C3 p2 x2.1).bind fun v6=>(Eo p1 v5 v6 x3.1).bind fun v7=>cond v7 ((C3 p2 x2.1).bind fun v8=>(Qg p1 v8 x3.1 0).bind fun v9=>(Au x3.2.In [(Stay.mk x2.1 x3.1 0 v9)]).bind fun v10=>some (.go ((D9 (x3.1+1)),(State.mk x3.2.Tick x3.2.Agents v10)))) (some (.go ((D9 (x3.1+1)),x3.2)))) (some (.out x3.2))
def Gm [Lp](p1:Map)(p2:(List Agent))(x2:(Int×State)):Option (Stp (Int×State) State):=
  cond (decide (x2.1< (p2.length:Int))) ((loop (Gl p1 p2 x2) (0,x2.2)).bind fun y3=>some (.go ((D9 (x2.1+1)),y3))) (some (.out x2.2))
def Jk (p2:(List Agent))(x1:Int):Option (Stp Int (Sum Unit (State×Int))):=
  cond (decide (x1< (p2.length:Int))) ((C3 p2 x1).bind fun v3=>cond v3.Gone (some (.out (.inr ((State.mk 0 [] []),10)))) (some (.go (D9 (x1+1))))) (some (.out (.inl ())))
def Mw [Lp](p1:Map)(p2:(List Agent)):Option (State×Int):=
  (Nj (State.mk 0 p2 [])).bind fun v1=>(Nw p1 v1).bind fun v2=>cond (v2 !=0) (some ((State.mk 0 [] []),v2)) (thenS (loop (Jk p2) 0) (fun _=>(loop (Gm p1 p2) (0,v1)).bind fun y2=>thenS (loop (Dy p1 p2) (0,y2)) (fun y4=>some (y4,0)) (fun r=>some r)) (fun r=>some r))
theorem Tq(p1 p2 r)(h:Mw p1 p2=some r):PCall prog 28 [(.agg (P6 p1)),(.list (List.map C6 p2))] (.tup [(.agg (Y1 r.1)),(i64 r.2)]):=by
 refine C2 (fk func28 ntmps28 (fun r=>if r==1 then [1001002]else if r==17 then [1012]else []) (by with_unfolding_all rfl)) (nl W) ?_
 unfold Mw at h
 refine B4 (s0:=⟨T [(0,(.d _)),(1,(.d _))],G []⟩) (F0 W W) ?_
 refine lr<|fun u1 _=>sm W<|sm W<|sv W<|A1<|lr<|fun u2 _=>sv W<|sv W<|bs h fun v1 hv1 h=> ?_
 refine CW (v:=W2 [(di v1.Tick),(oS v1.Agents (10010020,u2)),(oS v1.In (10010021,u2))]) (us:= [(10010020,u2),(10010021,u2)]) (ZL (DB _ _ hv1) [] [] _ (((10010021,u2),oB 127 4 I7 v1.In)::(((10010020,u2),oB 45 7 C6 v1.Agents)::_)) W (.cons (DLe.d<|.agg (ca W<|ca W<|.cons ⟨DLe.nil,W⟩ .nil)) .nil) W Gz trivial (fun _ h=>h) List.nodup_nil (by generalize v1.Agents=x1;generalize v1.In=x2;cases x1<;>cases x2<;>rfl) W (HD<|HD (W)) W) ?_
 refine sn W W<|Ie _ _ _ _ _ (V8 _) W W G_hit (nl W) [(di v1.Tick),(oS v1.Agents (10010020,u2)),(oS v1.In (10010021,u2))] W (A1<|B0<|sd W (B2 W (gq W) W W)<|B8 (W2 [(di v1.Tick),(oS v1.Agents (10010020,u2)),(oS v1.In (10010021,u2))]) W (B2 W G_hit W W) (bs h fun _ hv2 h=>A9 W (rD<|E4 (Lk<|rD<|E4 (S9<|gq W)<|E4 (S9<|gq W) F9) F9) (.cons (.refl _) (.cons (.agg (ca W<|.cons ⟨S8,W⟩ (.cons ⟨S8,W⟩ .nil))) .nil)) (HH _ _ _ hv2) (.inr W) (sv W<|A1<|A5<|B0<|sv W<|sv W<|A1<|cc W h (fun c1 h=> ?_)<|fun c1 h=> ?_)))
 refine B0<|sv W<|sv W<|S5 W (gq W) [(di 0),(.d .nilS),(.d .nilS)] W (sv W<|A1<|B1 ?_)
 cases h
 exact A6 (.inr W) (Jt (H5 W G_hit (nl W) W) (B3 W) C0 C0) (.tup (.cons (.agg (ca W<|.cons ⟨DLe.nil,W⟩ (.cons ⟨DLe.nil,W⟩ .nil))) A3))
 refine A8<|A5<|B0<|sv W<|A1<|js h fun z1 hz1 h=>D6 (fun s=> ∃(y1:Unit) (g1:Unit),z1= .inl y1∧Sb ⟨T [(1,(dl C6 p2)),(2,(.ptr (2,u1) 0)),(4,(.ptr (4,u1) 0)),(6,(.ptr (6,u2) 0))],G [((2,u1),some<|.box 33 (L4 p1)),((4,u1),some<|.box 25 [(di 0),(.d .nilS),(.d .nilS)]),((6,u2),some<|.box 25 [(di v1.Tick),(oS v1.Agents (10010020,u2)),(oS v1.In (10010021,u2))]),((10010020,u2),oB 45 7 C6 v1.Agents),((10010021,u2),oB 127 4 I7 v1.In)]⟩ s) ?_ ?_
 refine A7<|E1 (Jk p2) (fun (x1:Int) (g2:Unit)=>⟨T [(1,(dl C6 p2)),(2,(.ptr (2,u1) 0)),(4,(.ptr (4,u1) 0)),(6,(.ptr (6,u2) 0)),(8,(di x1))],G [((2,u1),some<|.box 33 (L4 p1)),((4,u1),some<|.box 25 [(di 0),(.d .nilS),(.d .nilS)]),((6,u2),some<|.box 25 [(di v1.Tick),(oS v1.Agents (10010020,u2)),(oS v1.In (10010021,u2))]),((10010020,u2),oB 45 7 C6 v1.Agents),((10010021,u2),oB 127 4 I7 v1.In)]⟩) 0 () _ hz1 (D8 (Y0 W)<|sg W<|sg W<|B5 G_hit (.of W)<|B7 (gq W)<|B7 (gq W) trivial) ?_
 intro x1 g2 z2 hz2 ez2
 unfold Jk at hz2
 refine A5<|B0<|sv W<|sv W<|sd W (D3 W)<|sv W<|A1<|cc W hz2 (fun c2 hz2=> ?_)<|fun c2 hz2=> ?_
 refine A8<|A5<|A7<|B0<|sv W<|sv W<|bs hz2 fun _ hv3 hz2=>sd W (C4 W W hv3 W)<|sv W<|sd W (C9 W hv3 W)<|A1<|cc W hz2 (fun c3 hz2=> ?_)<|fun c3 hz2=> ?_
 refine B0<|sv W<|S5 W (gq W) [(di 0),(.d .nilS),(.d .nilS)] W (sv W<|A1<|B1 ?_)
 cases hz2
 obtain rfl:=ez2 _ rfl
 refine ⟨nofun,F2 ?_⟩
 rw [bX]at h
 cases h
 exact A6 (.inr W) (Jt (H5 W G_hit (nl W) W) (B3 W) C0 C0) (.tup (.cons (.agg (ca W<|.cons ⟨DLe.nil,W⟩ (.cons ⟨DLe.nil,W⟩ .nil))) A3))
 refine A8<|E0<|B9<|sv W<|sv W<|sv W<|A1<|E2 ?_
 cases hz2
 exact ⟨W,(),(D8 (Y0 W)<|B5 G_hit (.of W)<|sg W<|sg W<|B7 (gq W)<|B7 (gq W) trivial)⟩
 refine C7 W ?_
 cases hz2
 obtain rfl:=ez2 _ rfl
 refine ⟨nofun,C5 W<|U1 ?_⟩
 exact ⟨_,(),W,(D8 (Y0 W)<|B5 G_hit (.of W)<|sg W<|sg W<|B7 (gq W)<|B7 (gq W) trivial)⟩
 rintro _ ⟨y1,g1,rfl,q1⟩
 rw [bW]at h
 refine B4 q1<|A5<|B0<|sv W<|A1<|bs h fun y2 hy2 h=>D6 (fun s=> ∃g3:(Nat× ({d:Nat // d∈ [77,10010021]}×Nat)),Sb ⟨T [(1,(dl C6 p2)),(2,(.ptr (2,u1) 0)),(4,(.ptr (4,u1) 0)),(6,(.ptr (6,u2) 0))],G [((2,u1),some<|.box 33 (L4 p1)),((4,u1),some<|.box 25 [(di 0),(.d .nilS),(.d .nilS)]),((6,u2),some<|.box 25 [(di y2.Tick),(oS y2.Agents (10010020,g3.1)),(oS y2.In (g3.2.1.val,g3.2.2))]),((10010020,g3.1),oB 45 7 C6 y2.Agents),((g3.2.1.val,g3.2.2),oB 127 4 I7 y2.In)]⟩ s) ?_ ?_
 refine A7<|E1 (Gm p1 p2) (fun (x2:(Int×State)) (g4:(Nat× ({d:Nat // d∈ [77,10010021]}×Nat)))=>⟨T [(1,(dl C6 p2)),(2,(.ptr (2,u1) 0)),(4,(.ptr (4,u1) 0)),(6,(.ptr (6,u2) 0)),(9,(di x2.1))],G [((2,u1),some<|.box 33 (L4 p1)),((4,u1),some<|.box 25 [(di 0),(.d .nilS),(.d .nilS)]),((6,u2),some<|.box 25 [(di x2.2.Tick),(oS x2.2.Agents (10010020,g4.1)),(oS x2.2.In (g4.2.1.val,g4.2.2))]),((10010020,g4.1),oB 45 7 C6 x2.2.Agents),((g4.2.1.val,g4.2.2),oB 127 4 I7 x2.2.In)]⟩) (0,v1) (u2,(⟨10010021, .tail _ (.head _)⟩,u2)) _ hy2 (D8 (Y0 W)<|B5 G_hit (.of W)<|sg W<|sg W<|B7 (gq W)<|B7 (gq W) trivial) ?_
 intro x2 g4 z3 hz3 ez3
 unfold Gm at hz3
 refine A5<|B0<|sv W<|sv W<|sd W (D3 W)<|sv W<|A1<|cc W hz3 (fun c4 hz3=> ?_)<|fun c4 hz3=> ?_
 refine A8<|A5<|A7<|B0<|sv W<|A1<|bs hz3 fun y3 hy3 hz3=>D6 (fun s=> ∃g5:(Nat× ({d:Nat // d∈ [77,10010021]}×Nat)),Sb ⟨T [(1,(dl C6 p2)),(2,(.ptr (2,u1) 0)),(4,(.ptr (4,u1) 0)),(6,(.ptr (6,u2) 0)),(9,(di x2.1))],G [((2,u1),some<|.box 33 (L4 p1)),((4,u1),some<|.box 25 [(di 0),(.d .nilS),(.d .nilS)]),((6,u2),some<|.box 25 [(di y3.Tick),(oS y3.Agents (10010020,g5.1)),(oS y3.In (g5.2.1.val,g5.2.2))]),((10010020,g5.1),oB 45 7 C6 y3.Agents),((g5.2.1.val,g5.2.2),oB 127 4 I7 y3.In)]⟩ s) ?_ ?_
 refine A7<|E1 (Gl p1 p2 x2) (fun (x3:(Int×State)) (g6:(Nat× ({d:Nat // d∈ [77,10010021]}×Nat)))=>⟨T [(1,(dl C6 p2)),(2,(.ptr (2,u1) 0)),(4,(.ptr (4,u1) 0)),(6,(.ptr (6,u2) 0)),(9,(di x2.1)),(10,(di x3.1))],G [((2,u1),some<|.box 33 (L4 p1)),((4,u1),some<|.box 25 [(di 0),(.d .nilS),(.d .nilS)]),((6,u2),some<|.box 25 [(di x3.2.Tick),(oS x3.2.Agents (10010020,g6.1)),(oS x3.2.In (g6.2.1.val,g6.2.2))]),((10010020,g6.1),oB 45 7 C6 x3.2.Agents),((g6.2.1.val,g6.2.2),oB 127 4 I7 x3.2.In)]⟩) (0,x2.2) (g4.1,(g4.2.1,g4.2.2)) _ hy3 (D8 (Y0 W)<|B5 G_hit (.of W)<|sg W<|sg W<|B7 (gq W)<|B7 (Tl g4.2.1.property 4 W G_hit) trivial) ?_
 intro x3 g6 z4 hz4 ez4
 unfold Gl at hz4
 refine A5<|B0<|sv W<|sq W<|sl W G_hit W<|sd W (D3 W)<|sv W<|sv W<|M5 _ (W2 [(di x3.2.Tick),(oS x3.2.Agents (10010020,g6.1)),(oS x3.2.In (g6.2.1.val,g6.2.2))]) W (K3 W) (fun _=>(B2 W (gq W) W W)) (gt W (fun _=>W)<|bs hz4 fun v4 hv4 hz4=> ?_)
 refine N4 _ (bo v4) (K3 W) (fun w3=>⟨_,[(W2 [(di x3.2.Tick),(oS x3.2.Agents (10010020,g6.1)),(oS x3.2.In (g6.2.1.val,g6.2.2))]),(di x2.1)],_,_,(by simp only [A2 w3];rfl),(E4 (Lk<|rD<|E4 (S9<|gq W)<|E4 (S9<|Tl g6.2.1.property 4 W G_hit) F9)<|rD F9),(.cons (.agg (ca W<|.cons ⟨S8,W⟩ (.cons ⟨S8,W⟩ .nil))) A3),Qe _ _ _<|C1 w3 hv4,(.inr W)⟩) ?_
 refine sa W W W<|A1<|cc W hz4 (fun c5 hz4=> ?_)<|fun c5 hz4=> ?_
 refine A8<|A5<|A7<|A5<|E8 W<|sd W (B2 W G_hit W W)<|sv W<|sv W<|bs hz4 fun _ hv5 hz4=>sd W (C4 W W hv5 W)<|sd W (D1 W hv5 W W)<|sv W<|sv W<|bs hz4 fun _ hv6 hz4=>sd W (C4 W W hv6 W)<|sd W (D1 W hv6 W W)<|sv W<|bs hz4 fun _ hv7 hz4=>A9 W W A3 (Ms _ _ _ _ _ hv7) (.inl W) (A1<|cc W hz4 (fun c6 hz4=> ?_)<|fun c6 hz4=> ?_)
 refine Lj W fun u16 _=>sq W<|B8 (oS x3.2.In (g6.2.1.val,g6.2.2)) W (P8 W (gq W) W) (sv W<|sv W<|sd W (B2 W G_hit W W)<|sv W<|sv W<|bs hz4 fun _ hv8 hz4=>sd W (C4 W W hv8 W)<|sd W (D1 W hv8 W W)<|sv W<|bs hz4 fun v9 hv9 hz4=>A9 W W A3 (JH _ _ _ _ _ hv9) (.inl W) (sv W<|B8 (dl I7 [(Stay.mk x2.1 x3.1 0 v9)]) W W (bs hz4 fun _ hv10 hz4=>P1 I7 (g6.2.1.val,g6.2.2) x3.2.In (Stay.mk x2.1 x3.1 0 v9) [] _ (L3<|fun _=>W) W (F1 (Xz g6.2.1.property W)<|F1 (Xz g6.2.1.property W)<|F1 (Xz g6.2.1.property W)<|F1 (Xz g6.2.1.property W) G_hit) hv10 (sq W<|Ie _ _ _ _ _ W W W (F1 W<|F1 (Zg g6.2.1.property W)<|gq W) (nl W) [(di x3.2.Tick),(oS x3.2.Agents (10010020,g6.1)),(.sl (77,u16))] W (A1<|E0<|B9<|sv W<|sv W<|sv W<|A1<|E2 ?_)))))
 cases hz4
 exact ⟨W,(g6.1,(⟨77, .head _⟩,u16)),(D8 (Y0 W)<|B5 (Um 2 W<|F1 (Zg g6.2.1.property W) G_hit) (.of W) (B5 (Um 2 W<|F1 (Zg g6.2.1.property W)<|gq W) (.of W) (B5 G_hit (.box (cv<|cv<|.cons (.of (T9<|U2 hv10).symm) .nil))<|B7 (Um 2 W<|F1 (Zg g6.2.1.property W)<|gq W)<|N0 (gq W) trivial)))⟩
 refine A8<|E0<|B9<|sv W<|sv W<|sv W<|A1<|E2 ?_
 cases hz4
 exact ⟨W,(g6.1,(g6.2.1,g6.2.2)),(D8 (Y0 W)<|B5 G_hit (.of W)<|sg W<|sg W<|B7 (gq W)<|B7 (Tl g6.2.1.property 4 W G_hit) trivial)⟩
 refine C7 W ?_
 cases hz4
 obtain rfl:=ez4 _ rfl
 refine ⟨nofun,C5 W<|U1 ?_⟩
 exact ⟨(g6.1,(g6.2.1,g6.2.2)),(D8 (Y0 W)<|B5 G_hit (.of W)<|sg W<|sg W<|B7 (gq W)<|B7 (Tl g6.2.1.property 4 W G_hit) trivial)⟩
 rintro _ ⟨g5,q2⟩
 refine E0<|B4 q2<|B9<|sv W<|sv W<|sv W<|A1<|E2 ?_
 cases hz3
 exact ⟨W,(g5.1,(g5.2.1,g5.2.2)),(D8 (Y0 W)<|B5 G_hit (.of W)<|sg W<|sg W<|B7 (gq W)<|B7 (Tl g5.2.1.property 4 W G_hit) trivial)⟩
 refine C7 W ?_
 cases hz3
 obtain rfl:=ez3 _ rfl
 refine ⟨nofun,C5 W<|U1 ?_⟩
 exact ⟨(g4.1,(g4.2.1,g4.2.2)),(D8 (Y0 W)<|B5 G_hit (.of W)<|sg W<|sg W<|B7 (gq W)<|B7 (Tl g4.2.1.property 4 W G_hit) trivial)⟩
 rintro _ ⟨g3,q3⟩
 refine B4 q3<|A5<|B0<|sv W<|A1<|js h fun z5 hz5 h=>D6 (fun s=> ∃(y4:State) (g7:Unit),z5= .inl y4∧Sb ⟨T [(4,(.ptr (4,u1) 0)),(6,(.ptr (6,u2) 0))],G [((4,u1),some<|.box 25 [(di 0),(.d .nilS),(.d .nilS)]),((6,u2),some<|.box 25 (K1 y4))]⟩ s) ?_ ?_
 refine A7<|iU [(10010020,g3.1),(g3.2.1.val,g3.2.2)] [(1,(dl C6 p2)),(2,(.ptr (2,u1) 0)),(4,(.ptr (4,u1) 0)),(6,(.ptr (6,u2) 0)),(11,(di 0))] [((2,u1),some<|.box 33 (L4 p1)),((4,u1),some<|.box 25 [(di 0),(.d .nilS),(.d .nilS)]),((6,u2),some<|.box 25 (K1 y2))] ⟨Di W,Di W,Di W,Di W,Di W,trivial⟩ (HE G_hit (Kk (Lm W)<|Kk (Lm<|Zg g3.2.1.property W) Tm)<|HE (gq W) (Kk (Lm W)<|Kk (Lm<|Zg g3.2.1.property W) Tm) (TR (gq W) (Kk (Lm W)<|Kk (Lm<|Zg g3.2.1.property W) Tm) (.cons (Di W) (.cons (dY (S9<|OW (.head _)<|gq W) S8) (.cons (dY (S9<|OW (.tail _ (.head _))<|F1 (Xz g3.2.1.property W)<|F1 (Xz g3.2.1.property W)<|F1 (Xz g3.2.1.property W)<|F1 (Xz g3.2.1.property W) G_hit) S8) .nil))) trivial)) (E1 (Dy p1 p2) (fun (x4:(Int×State)) (g8:Unit)=>⟨T [(1,(dl C6 p2)),(2,(.ptr (2,u1) 0)),(4,(.ptr (4,u1) 0)),(6,(.ptr (6,u2) 0)),(11,(di x4.1))],G [((2,u1),some<|.box 33 (L4 p1)),((4,u1),some<|.box 25 [(di 0),(.d .nilS),(.d .nilS)]),((6,u2),some<|.box 25 (K1 x4.2))]⟩) (0,y2) () _ hz5 (F0 W W) ?_)
 intro x4 g8 z6 hz6 ez6
 unfold Dy at hz6
 refine A5<|B0<|sv W<|sv W<|sd W (D3 W)<|sv W<|A1<|cc W hz6 (fun c7 hz6=> ?_)<|fun c7 hz6=> ?_
 refine A8<|A5<|A7<|B0<|sv W<|sv W<|sv W<|A1<|js hz6 fun z7 hz7 hz6=>D6 (fun s=> ∃(y5:Unit) (g9:Unit),z7= .inl y5∧Sb ⟨T [(1,(dl C6 p2)),(2,(.ptr (2,u1) 0)),(4,(.ptr (4,u1) 0)),(6,(.ptr (6,u2) 0)),(11,(di x4.1))],G [((2,u1),some<|.box 33 (L4 p1)),((4,u1),some<|.box 25 [(di 0),(.d .nilS),(.d .nilS)]),((6,u2),some<|.box 25 (K1 x4.2))]⟩ s) ?_ ?_
 refine A7<|E1 (Gk p1 p2 x4) (fun (x5:Int) (g10:Unit)=>⟨T [(1,(dl C6 p2)),(2,(.ptr (2,u1) 0)),(4,(.ptr (4,u1) 0)),(6,(.ptr (6,u2) 0)),(11,(di x4.1)),(12,(di x5))],G [((2,u1),some<|.box 33 (L4 p1)),((4,u1),some<|.box 25 [(di 0),(.d .nilS),(.d .nilS)]),((6,u2),some<|.box 25 (K1 x4.2))]⟩) (D9 (x4.1+1)) () _ hz7 (F0 W W) ?_
 intro x5 g10 z8 hz8 ez8
 unfold Gk at hz8
 refine A5<|B0<|sv W<|sv W<|sd W (D3 W)<|sv W<|A1<|cc W hz8 (fun c8 hz8=> ?_)<|fun c8 hz8=> ?_
 refine A8<|A5<|A7<|A5<|B0<|sd W (B2 W (gq W) W W)<|sv W<|bs hz8 fun v11 hv11 hz8=>A9 W W A3 (Qe _ _ _ hv11) (.inl W) (B8 (.d (bo (!v11))) W W (sv W<|gf W (fun _=>(B2 W (gq W) W W))<|gf W (fun _=>W)<|bs hz8 fun v12 hv12 hz8=> ?_))
 refine N4 _ (bo v12) (K6 W) (fun w6=>⟨_,[(.d (.agg (Y1 x4.2))),(di x5)],_,_,(by simp only [A2 w6];rfl),W,A3,Qe _ _ _<|C1 w6 hv12,(.inl W)⟩) ?_
 refine M5 _ (.d (bo (!v12))) W (K6 W) (fun w7=>(by simp only [A2 w7];rfl)) ?_
 refine sd W (O5 W W<|fun hc=>A2<|J6 hc)<|A1<|cc W hz8 (fun c9 hz8=> ?_)<|fun c9 hz8=> ?_
 refine Tj W<|B9<|sv W<|sv W<|sv W<|A1<|E2 ?_
 cases hz8
 exact ⟨W,(),(F0 W W)⟩
 refine A8<|A5<|E8 W<|sd W (B2 W G_hit W W)<|sv W<|sv W<|bs hz8 fun _ hv13 hz8=>sd W (C4 W W hv13 W)<|sd W (D1 W hv13 W W)<|sv W<|sv W<|bs hz8 fun _ hv14 hz8=>sd W (C4 W W hv14 W)<|sd W (D1 W hv14 W W)<|bs hz8 fun _ hv15 hz8=>A9 W W A3 (BL _ _ _ _ hv15) (.inl W) (sv W<|gf W (fun _=>(B2 W G_hit W W))<|gf W (fun _=>(B2 W (gq W) W W))<|gf W (fun _=>(B2 W (gq W) W W))<|gf W (fun _=>W)<|gf W (fun _=>W)<|bs hz8 fun v16 hv16 hz8=> ?_)
 refine N4 _ (.list (List.map A4 v16)) (K6 W) (fun w13=>⟨_,[(.d (.agg (P6 p1))),(.d (.agg (Y1 x4.2))),(.d (.agg (Y1 x4.2))),(di x4.1),(di x5)],_,_,(by simp only [A2 w13];rfl),W,A3,HK _ _ _ _ _ _<|C1 w13 hv16,(.inl W)⟩) ?_
 refine gf W (fun w14=>(D3<|A2 w14))<|gf W (vb W W W)<|sd W (O5 W W<|fun hc=>A2<|J6 hc)<|A1<|cc W hz8 (fun c10 hz8=> ?_)<|fun c10 hz8=> ?_
 refine B0<|sv W<|S5 W (gq W) [(di 0),(.d .nilS),(.d .nilS)] W (sv W<|A1<|B1 ?_)
 cases hz8
 obtain rfl:=ez8 _ rfl
 refine ⟨nofun,F2 ?_⟩
 rw [bX]at hz6
 cases hz6
 obtain rfl:=ez6 _ rfl
 refine ⟨nofun,F2 ?_⟩
 rw [bX]at h
 cases h
 exact A6 (.inr W) (Jt (H5 W G_hit (nl W) W) (B3 W) C0 C0) (.tup (.cons (.agg (ca W<|.cons ⟨DLe.nil,W⟩ (.cons ⟨DLe.nil,W⟩ .nil))) A3))
 refine A8<|E0<|B9<|sv W<|sv W<|sv W<|A1<|E2 ?_
 cases hz8
 exact ⟨W,(),(F0 W W)⟩
 refine C7 W ?_
 cases hz8
 obtain rfl:=ez8 _ rfl
 refine ⟨nofun,C5 W<|U1 ?_⟩
 exact ⟨_,(),W,(F0 W W)⟩
 rintro _ ⟨y5,g9,rfl,q4⟩
 rw [bW]at hz6
 refine E0<|B4 q4<|B9<|sv W<|sv W<|sv W<|A1<|E2 ?_
 cases hz6
 exact ⟨W,(),(F0 W W)⟩
 refine C7 W ?_
 cases hz6
 obtain rfl:=ez6 _ rfl
 refine ⟨nofun,C5 W<|U1 ?_⟩
 exact ⟨_,(),W,(F0 W W)⟩
 rintro _ ⟨y4,g7,rfl,q5⟩
 rw [bW]at h
 refine B4 q5<|B0<|sd W (B2 W (gq W) W W)<|S5 W G_hit (K1 y4) W (sv W<|A1<|B1 ?_)
 cases h
 exact A6 (.inr W) (Jt (H5 W G_hit (nl W) W) (B3 W) C0 C0) (.refl _)
def Fq [Lp](p1:Map)(x1:((List Int)×Int)):Option (Stp ((List Int)×Int) (List Int)):=
  cond (decide (x1.2< (p1.Lanes.length:Int))) ((Jh p1 x1.2).bind fun v1=>cond ((v1.length:Int)==0) ((Au x1.1 [x1.2]).bind fun v2=>some (.go (v2,(D9 (x1.2+1))))) (some (.go (x1.1,(D9 (x1.2+1)))))) (some (.out x1.1))
def Kc [Lp](p1:Map):Option (List Int):=
  (loop (Fq p1) ([],0)).bind fun y1=>some y1
theorem DC(p1 r)(h:Kc p1=some r):PCall prog 188 [(.agg (P6 p1))] (.list (List.map A4 r)):=by
 refine C2 (fk func188 ntmps188 (fun r=>if r==6 then [1002]else []) (by with_unfolding_all rfl)) (nl W) ?_
 unfold Kc at h
 refine B4 (s0:=⟨T [(0,(.d _))],G []⟩) (F0 W W) ?_
 refine lr<|fun u1 _=>sm W<|sv W<|A1<|B0<|sv W<|A1<|A5<|B0<|sv W<|A1<|bs h fun y1 hy1 h=>D6 (fun s=> ∃g1:Nat,Sb ⟨T [(3,(oS y1 (20,g1)))],G [((20,g1),oB 3 1 A4 y1)]⟩ s) ?_ ?_
 refine A7<|E1 (Fq p1) (fun (x1:((List Int)×Int)) (g2:Nat)=>⟨T [(1,(.ptr (1,u1) 0)),(3,(oS x1.1 (20,g2))),(4,(di x1.2))],G [((1,u1),some<|.box 33 (L4 p1)),((20,g2),oB 3 1 A4 x1.1)]⟩) ([],0) 0 _ hy1 (D8 (Y0 W)<|B5 G_hit (.of W)<|R6 trivial) ?_
 intro x1 g2 z1 hz1 ez1
 unfold Fq at hz1
 refine A5<|B0<|sv W<|sq W<|sl W G_hit W<|sd W (D3 W)<|sv W<|A1<|cc W hz1 (fun c1 hz1=> ?_)<|fun c1 hz1=> ?_
 refine A8<|A5<|A7<|B0<|sd W (B2 W G_hit W W)<|sv W<|bs hz1 fun _ hv1 hz1=>A9 W W A3 (Up _ _ _ hv1) (.inl W) (sd W (D3 W)<|sv W<|A1<|cc W hz1 (fun c2 hz1=> ?_)<|fun c2 hz1=> ?_)
 refine As fun u6 _=>B8 (oS x1.1 (20,g2)) W W (sv W<|B8 (dl A4 [x1.2]) W W (bs hz1 fun _ hv2 hz1=>P1 A4 (20,g2) x1.1 x1.2 [] _ (L3<|fun _=>W) W (gq W) hv2 (ss W<|A1<|E0<|B9<|sv W<|sv W<|sv W<|A1<|E2 ?_)))
 cases hz1
 exact ⟨W,u6,(D8 ⟨.of W,(.of (T9<|U2 hv2).symm), .of W,trivial⟩<|sg W<|N0 G_hit trivial)⟩
 refine A8<|E0<|B9<|sv W<|sv W<|sv W<|A1<|E2 ?_
 cases hz1
 exact ⟨W,g2,(D8 (Y0 W)<|B5 G_hit (.of W)<|B7 (gq W) trivial)⟩
 refine C7 W ?_
 cases hz1
 obtain rfl:=ez1 _ rfl
 refine ⟨nofun,C5 W<|U1 ?_⟩
 exact ⟨g2,(D8 ⟨.of W,trivial⟩<|B7 (gq W) trivial)⟩
 rintro _ ⟨g1,q1⟩
 refine B4 q1<|B0<|B8 (oS y1 (20,g1)) W W (B8 (oS y1 (20,g1)) W W (A1<|B1 ?_))
 cases h
 exact A6 (.inr W) (B6 (B3 W)<|S9 G_hit) S8
def Jl (p1:Map)(x1:(Int×Int× (List Int))):Option (Stp (Int×Int× (List Int)) (List Int)):=
  (C3 p1.Lanes x1.2.1).bind fun v6=>cond ((decide ((v6.Next.length:Int)>0))&& (decide ((x1.2.2.length:Int)<8))) ((C3 p1.Lanes x1.2.1).bind fun v7=>(C3 p1.Lanes x1.2.1).bind fun v8=>(Re x1.1 (v7.Next.length:Int)).bind fun v9=>(C3 v8.Next v9).bind fun v10=>(OK .i64 x1.1 (v7.Next.length:Int)).bind fun v11=>(Au x1.2.2 [v10]).bind fun v12=>some (.go (v11,v10,v12))) (some (.out x1.2.2))
def Hm [Lp](p1:Map)(p2:Int):Option (List Int):=
  (Kc p1).bind fun v1=>cond ((v1.length:Int)==0) (some []) ((Pd p2 1048576).bind fun v2=>(Re v2 (v1.length:Int)).bind fun v3=>(C3 v1 v3).bind fun v4=>(OK .i64 v2 (v1.length:Int)).bind fun v5=>(loop (Jl p1) (v5,v4,[v4])).bind fun y1=>some y1)
theorem Ts(p1 p2 r)(h:Hm p1 p2=some r):PCall prog 100 [(.agg (P6 p1)),(i64 p2)] (.list (List.map A4 r)):=by
 refine C2 (fk func100 ntmps100 (fun r=>if r==12 then [1002]else []) (by with_unfolding_all rfl)) (nl W) ?_
 unfold Hm at h
 refine B4 (s0:=⟨T [(0,(.d _)),(1,(.d _))],G []⟩) (F0 W W) ?_
 refine lr<|fun u1 _=>sm W<|sv W<|A1<|B0<|sd W (B2 W G_hit W W)<|bs h fun _ hv1 h=>A9 W W A3 (DC _ _ hv1) (.inl W) (sv W<|A1<|A5<|B0<|sv W<|sd W (D3 W)<|sv W<|A1<|cc W h (fun c1 h=> ?_)<|fun c1 h=> ?_)
 refine B0<|sv W<|A1<|B1 ?_
 cases h
 exact A6 (.inr W) (B6 (B3 W) C0) DLe.nil
 refine A8<|B0<|sv W<|bs h fun _ hv2 h=>A9 W W A3 (Py _ _ _ hv2) (.inl W) (sv W<|A1<|B0<|sv W<|sv W<|sv W<|sd W (D3 W)<|bs h fun _ hv3 h=>sd W (Ul W W hv3)<|bs h fun v4 hv4 h=>sd W (C4 W W hv4 W)<|sd W (C9 W hv4 W)<|sv W<|A1<|lr<|fun u7 _=>sv W<|Mj (.sl _) (.arr 3 1 (List.map A4 ([v4]:List Int))) W W (ss W<|A1<|B0<|sv W<|sv W<|sd W (D3 W)<|bs h fun v5 hv5 h=>sd W (YW W W hv5)<|sv W<|A1<|A5<|bs h fun y1 hy1 h=>D6 (fun s=> ∃g1:({d:Nat // d∈ [24,66]}×Nat),Sb ⟨T [(7,(oS y1 (g1.1.val,g1.2)))],G [((g1.1.val,g1.2),oB 3 1 A4 y1)]⟩ s) ?_ ?_))
 refine A7<|E1 (Jl p1) (fun (x1:(Int×Int× (List Int))) (g2:({d:Nat // d∈ [24,66]}×Nat))=>⟨T [(1,(di x1.1)),(2,(.ptr (2,u1) 0)),(6,(di x1.2.1)),(7,(oS x1.2.2 (g2.1.val,g2.2)))],G [((2,u1),some<|.box 33 (L4 p1)),((g2.1.val,g2.2),oB 3 1 A4 x1.2.2)]⟩) (v5,v4,[v4]) (⟨24, .head _⟩,u7) _ hy1 (D8 ⟨.of W, .of W, .of W,(.of (T9<|List.cons_ne_nil _ _).symm),trivial⟩<|sg W<|N0 G_hit trivial) ?_
 intro x1 g2 z1 hz1 ez1
 unfold Jl at hz1
 refine A5<|B0<|sq W<|sl W G_hit W<|sv W<|bs hz1 fun _ hv6 hz1=>sd W (C4 W W hv6 W)<|sv W<|sd W (C9 W hv6 W)<|sd W (D3 W)<|sv W<|sv W<|M5 _ (oS x1.2.2 (g2.1.val,g2.2)) W (K3 W) (fun _=>W) (gt W (fun w2=>(YX (f:=A4) (A2 w2) (F1 (Xz g2.1.property W) G_hit)))<|gt W (vb W W W)<|sa W W W<|A1<|cc W hz1 (fun c2 hz1=> ?_)<|fun c2 hz1=> ?_)
 refine A8<|A7<|B0<|sq W<|sl W G_hit W<|sv W<|bs hz1 fun _ hv7 hz1=>sd W (C4 W W hv7 W)<|sv W<|sd W (C9 W hv7 W)<|sd W (D3 W)<|sv W<|A1<|A5<|E8 W<|sq W<|sl W G_hit W<|sv W<|bs hz1 fun _ hv8 hz1=>sd W (C4 W W hv8 W)<|sv W<|sd W (C9 W hv8 W)<|sv W<|sv W<|bs hz1 fun _ hv9 hz1=>sd W (Ul W W hv9)<|bs hz1 fun v10 hv10 hz1=>sd W (C4 W W hv10 W)<|sd W (C9 W hv10 W)<|sv W<|A1<|B0<|sv W<|sv W<|bs hz1 fun _ hv11 hz1=>sd W (YW W W hv11)<|sv W<|A1<|As fun u13 _=>B8 (oS x1.2.2 (g2.1.val,g2.2)) W W (sv W<|B8 (dl A4 [v10]) W W (bs hz1 fun _ hv12 hz1=>P1 A4 (g2.1.val,g2.2) x1.2.2 v10 [] _ (L3<|fun _=>W) W (F1 (Xz g2.1.property W) G_hit) hv12 (ss W<|A1<|E0<|E2 ?_)))
 cases hz1
 exact ⟨W,(⟨66, .tail _ (.head _)⟩,u13),(D8 ⟨.of W, .of W, .of W,(.of (T9<|U2 hv12).symm),trivial⟩<|B5 (F1 W<|F1 (Zg g2.1.property W) G_hit) (.of W) (N0 G_hit trivial))⟩
 refine C7 W ?_
 cases hz1
 obtain rfl:=ez1 _ rfl
 refine ⟨nofun,C5 W<|U1 ?_⟩
 exact ⟨(g2.1,g2.2),(D8 ⟨.of W,trivial⟩<|B7 (F1 (Xz g2.1.property W) G_hit) trivial)⟩
 rintro _ ⟨g1,q1⟩
 refine B4 q1<|B0<|B8 (oS y1 (g1.1.val,g1.2)) W W (B8 (oS y1 (g1.1.val,g1.2)) W W (A1<|B1 ?_))
 cases h
 exact A6 (.inr W) (B6 (B3 W)<|S9 G_hit) S8
def Mx (p1:Int)(p2:Int):Option Int:=
  (Re p1 p2).bind fun v1=>cond (decide (v1<0)) (some (D9 (v1+p2))) (some v1)
theorem Tt(p1 p2 r)(h:Mx p1 p2=some r):PCall prog 46 [(i64 p1),(i64 p2)] (i64 r):=by
 refine C2 (fk func46 ntmps46 m0 (by with_unfolding_all rfl)) (nl W) ?_
 unfold Mx at h
 refine B4 (s0:=⟨T [(0,(.d _)),(1,(.d _))],G []⟩) (F0 W W) ?_
 refine B0<|sv W<|A1<|B0<|sv W<|sv W<|bs h fun _ hv1 h=>sd W (Ul W W hv1)<|sv W<|A1<|A5<|B0<|sv W<|sv W<|A1<|cc W h (fun c1 h=> ?_)<|fun c1 h=> ?_
 refine B9<|sv W<|sv W<|sv W<|sv W<|A1<|B0<|sv W<|sv W<|A1<|B1 ?_
 cases h
 exact A6 (.inr W) (B6 (B3 W) C0) (.refl _)
 refine A8<|B0<|sv W<|sv W<|A1<|B1 ?_
 cases h
 exact A6 (.inr W) (B6 (B3 W) C0) (.refl _)
def X7 [Lp](p1:Map)(p2:Int)(x1:Int):Option (Stp Int (Sum Unit (List Int))):=
  cond (decide (x1<4)) ((Pd p2 1048576).bind fun v1=>(Hm p1 (D9 (v1+x1))).bind fun v2=>((cond (decide ((v2.length:Int)>0)) (C3 v2 0) (some default))).bind fun v3=>((cond (decide ((v2.length:Int)>0)) (C3 p1.Lanes v3) (some default))).bind fun v4=>cond ((decide ((v2.length:Int)>0))&& (v4.Kind==1)) (some (.out (.inr v2))) (some (.go (D9 (x1+1))))) (some (.out (.inl ())))
def Cj [Lp](p1:Map)(p2:Int):Option (List Int):=
  thenS (loop (X7 p1 p2) 0) (fun _=>(Hm p1 0).bind fun v5=>some v5) (fun r=>some r)
theorem DD(p1 p2 r)(h:Cj p1 p2=some r):PCall prog 101 [(.agg (P6 p1)),(i64 p2)] (.list (List.map A4 r)):=by
 refine C2 (fk func101 ntmps101 m0 (by with_unfolding_all rfl)) (nl W) ?_
 unfold Cj at h
 refine B4 (s0:=⟨T [(0,(.d _)),(1,(.d _))],G []⟩) (F0 W W) ?_
 refine lr<|fun u1 _=>sm W<|sv W<|A1<|A5<|B0<|sv W<|A1<|js h fun z1 hz1 h=>D6 (fun s=> ∃(y1:Unit) (g1:Unit),z1= .inl y1∧Sb ⟨T [(2,(.ptr (2,u1) 0))],G [((2,u1),some<|.box 33 (L4 p1))]⟩ s) ?_ ?_
 refine A7<|E1 (X7 p1 p2) (fun (x1:Int) (g2:Unit)=>⟨T [(1,(di p2)),(2,(.ptr (2,u1) 0)),(5,(di x1))],G [((2,u1),some<|.box 33 (L4 p1))]⟩) 0 () _ hz1 (F0 W W) ?_
 intro x1 g2 z2 hz2 ez2
 unfold X7 at hz2
 refine A5<|B0<|sv W<|sv W<|A1<|cc W hz2 (fun c1 hz2=> ?_)<|fun c1 hz2=> ?_
 refine A8<|A5<|A7<|A5<|E8 W<|sd W (B2 W G_hit W W)<|sv W<|bs hz2 fun _ hv1 hz2=>A9 W W A3 (Py _ _ _ hv1) (.inl W) (sv W<|sv W<|bs hz2 fun _ hv2 hz2=>A9 W W A3 (Ts _ _ _ hv2) (.inl W) (sv W<|A1<|A5<|E8 W<|sv W<|sd W (D3 W)<|sv W<|sv W<|gp W (K3 W) (fun _=>W) (gt W (vl W G_hit W)<|gt W (fun _=>W)<|bs hz2 fun _ hv3 hz2=>gt W (fun w4=>(C4 (A2 w4) W (C1 w4 hv3) W))<|gt W (fun w5=>(C9 (A2 w5) (C1 w5 hv3) W))<|bs hz2 fun _ hv4 hz2=>gt W (fun w6=>(C4 (A2 w6) (A2 w6) (C1 w6 hv4) W)) ?_)))
 refine gt W (fun w7=>(by simp only [A2 w7];rfl)) ?_
 refine gt W (fun w8=>(C9 (A2 w8) (C1 w8 hv4) W))<|gt W (vb W W W)<|sa W W W<|A1<|cc W hz2 (fun c2 hz2=> ?_)<|fun c2 hz2=> ?_
 refine B0<|sv W<|sv W<|A1<|B1 ?_
 cases hz2
 obtain rfl:=ez2 _ rfl
 refine ⟨nofun,F2 ?_⟩
 rw [bX]at h
 cases h
 exact A6 (.inr W) (B6 (B3 W) C0) (.refl _)
 refine A8<|E0<|B9<|sv W<|sv W<|sv W<|A1<|E2 ?_
 cases hz2
 exact ⟨W,(),(F0 W W)⟩
 refine C7 W ?_
 cases hz2
 obtain rfl:=ez2 _ rfl
 refine ⟨nofun,C5 W<|U1 ?_⟩
 exact ⟨_,(),W,(F0 W W)⟩
 rintro _ ⟨y1,g1,rfl,q1⟩
 rw [bW]at h
 refine B4 q1<|B0<|sd W (B2 W G_hit W W)<|bs h fun _ hv5 h=>A9 W W A3 (Ts _ _ _ hv5) (.inl W) (sv W<|A1<|B1 ?_)
 cases h
 exact A6 (.inr W) (B6 (B3 W) C0) (.refl _)
def Pk [Lp](p1:Map)(p2:KitActor)(p3:Bool):Option Agent:=
  (Hm p1 p2.R).bind fun v1=>(Mx p2.Len 4700).bind fun v2=>(cond p3 ((Cj p1 p2.R).bind fun v3=>some (v3,false)) (some (v1,(!p2.Disobeys)))).bind fun y1=>(C3 y1.1 0).bind fun v4=>(C3 p1.Lanes v4).bind fun v5=>(Du v5.Kind).bind fun v6=>(Mx p2.V (D9 (v6.1+1))).bind fun v7=>(cond (decide (v6.1<1000)) (some 300) (some (D9 (300+v2)))).bind fun y2=>(Y7 p1 y1.1).bind fun v8=>(Mx p2.S (D9 (v8+1))).bind fun v9=>((cond (!p3) (Pd p2.Begin 4) (some default))).bind fun v10=>cond ((!p3)&& (v10==3)) ((Pd p2.Begin 40).bind fun v11=>some (Agent.mk y1.1 0 v7 y2 v11 y1.2 false)) (some (Agent.mk y1.1 v9 v7 y2 0 y1.2 false))
theorem BM(p1 p2 p3 r)(h:Pk p1 p2 p3=some r):PCall prog 42 [(.agg (P6 p1)),(.agg (Mo p2)),(bo p3)] (.agg (C6 r)):=by
 refine C2 (fk func42 ntmps42 m0 (by with_unfolding_all rfl)) (nl W) ?_
 unfold Pk at h
 refine B4 (s0:=⟨T [(0,(.d _)),(1,(.d _)),(2,(.d _))],G []⟩) (F0 W W) ?_
 refine lr<|fun u1 _=>sm W<|sm W<|sn W W<|A1<|A5<|Lj W fun u2 _=>sd W (B2 W (gq W) W W)<|sq W<|sl W (gq W) W (bs h fun v1 hv1 h=>A9 W W A3 (Ts _ _ _ hv1) (.inl W) (sq W<|sl W (gq W) W (bs h fun v2 hv2 h=>A9 W W A3 (Tt _ _ _ hv2) (.inl W) (sv W<|sq W<|sl W (gq W) W (B8 (.d (bo (!p2.Disobeys))) W W (sv W<|sm W<|S5 W G_hit ([(dl A4 v1)]++ ((zs 4).set 2 (di<|D9 (300+v2)))++ [(.d (bo (!p2.Disobeys))),(.d (bo false))]) W (A1<|A5<|B0<|sv W<|A1<|bs h fun y1 hy1 h=>D6 (fun s=> ∃g1:Unit,Sb ⟨T [(2,(.d (bo p3))),(3,(.ptr (3,u1) 0)),(4,(.ptr (4,u1) 0)),(6,(.ptr (6,u1) 0)),(7,(.ptr (7,u2) 0))],G [((3,u1),some<|.box 33 (L4 p1)),((4,u1),some<|.box 73 (KO p2)),((6,u1),some<|.box 45 ([(.d .nilS)]++ (zs 4)++ [(.d (bo false)),(.d (bo false))])),((7,u2),some<|.box 45 ([(dl A4 y1.1)]++ ((zs 4).set 2 (di<|D9 (300+v2)))++ [(.d (bo y1.2)),(.d (bo false))]))]⟩ s) ?_ ?_)))))))
 refine cc W hy1 (fun c1 hy1=> ?_)<|fun c1 hy1=> ?_
 refine B9<|sd W (B2 W (gq W) W W)<|sq W<|sl W (gq W) W (bs hy1 fun v3 hv3 hy1=>A9 W W A3 (DD _ _ _ hv3) (.inl W) (sq W<|S5 W G_hit ([(dl A4 v3)]++ ((zs 4).set 2 (di<|D9 (300+v2)))++ [(.d (bo (!p2.Disobeys))),(.d (bo false))]) W (sq W<|S5 W G_hit ([(dl A4 v3)]++ ((zs 4).set 2 (di<|D9 (300+v2)))++ [(.d (bo false)),(.d (bo false))]) W (A1 ?_))))
 cases hy1
 exact U1 ⟨(),(F0 W W)⟩
 refine A8 ?_
 cases hy1
 exact U1 ⟨(),(F0 W W)⟩
 rintro _ ⟨g1,q1⟩
 refine B4 q1<|A5<|E8 W<|sq W<|sl W G_hit W<|sq W<|sl W (gq W) W (bs h fun _ hv4 h=>sd W (C4 W W hv4 W)<|sd W (C9 W hv4 W)<|bs h fun _ hv5 h=>sd W (C4 W W hv5 W)<|sv W<|sd W (C9 W hv5 W)<|bs h fun _ hv6 h=>A9 W W A3 (Kl _ _ hv6) (.inl W) (sv W<|sv W<|sv W<|sv W<|sv W<|sv W<|sv W<|A1<|B0<|sq W<|sl W (gq W) W (sv W<|sv W<|bs h fun v7 hv7 h=>A9 W W A3 (Tt _ _ _ hv7) (.inl W) (sq W<|S5 W (gq W) [(dl A4 y1.1),(di 0),(di v7),(di<|D9 (300+v2)),(di 0),(.d (bo y1.2)),(.d (bo false))] W (A1<|A5<|B0<|sv W<|sv W<|A1<|bs h fun y2 hy2 h=>D6 (fun s=> ∃g2:Unit,Sb ⟨T [(2,(.d (bo p3))),(3,(.ptr (3,u1) 0)),(4,(.ptr (4,u1) 0)),(6,(.ptr (6,u1) 0)),(7,(.ptr (7,u2) 0))],G [((3,u1),some<|.box 33 (L4 p1)),((4,u1),some<|.box 73 (KO p2)),((6,u1),some<|.box 45 ([(.d .nilS)]++ (zs 4)++ [(.d (bo false)),(.d (bo false))])),((7,u2),some<|.box 45 [(dl A4 y1.1),(di 0),(di v7),(di y2),(di 0),(.d (bo y1.2)),(.d (bo false))])]⟩ s) ?_ ?_)))))
 refine cc W hy2 (fun c2 hy2=> ?_)<|fun c2 hy2=> ?_
 refine B9<|sq W<|S5 W G_hit [(dl A4 y1.1),(di 0),(di v7),(di 300),(di 0),(.d (bo y1.2)),(.d (bo false))] W (A1 ?_)
 cases hy2
 exact U1 ⟨(),(F0 W W)⟩
 refine A8 ?_
 cases hy2
 exact U1 ⟨(),(F0 W W)⟩
 rintro _ ⟨g2,q2⟩
 refine B4 q2<|A5<|E8 W<|sq W<|sl W (gq W) W (sd W (B2 W G_hit W W)<|sq W<|sl W (gq W) W (bs h fun _ hv8 h=>A9 W W A3 (Io _ _ _ hv8) (.inl W) (sv W<|bs h fun v9 hv9 h=>A9 W W A3 (Tt _ _ _ hv9) (.inl W) (sq W<|S5 W (gq W) [(dl A4 y1.1),(di v9),(di v7),(di y2),(di 0),(.d (bo y1.2)),(.d (bo false))] W (A1<|A5<|B0<|sv W<|B8 (.d (bo (!p3))) W W (sv W<|gp W (K3 W) (fun _=>W) (gt W (vl W (gq W) W)<|bs h fun v10 hv10 h=> ?_)))))))
 refine N4 _ (i64 v10) (K3 W) (fun w3=>⟨_,[(di p2.Begin),(di 4)],_,_,(by simp only [A2 w3];rfl),W,A3,Py _ _ _<|C1 w3 hv10,(.inl W)⟩) ?_
 refine gt W (vb W W W)<|sa W W W<|A1<|cc W h (fun c3 h=> ?_)<|fun c3 h=> ?_
 refine B9<|sq W<|sl W (gq W) W (bs h fun v11 hv11 h=>A9 W W A3 (Py _ _ _ hv11) (.inl W) (sq W<|S5 W G_hit [(dl A4 y1.1),(di v9),(di v7),(di y2),(di v11),(.d (bo y1.2)),(.d (bo false))] W (sq W<|S5 W G_hit [(dl A4 y1.1),(di 0),(di v7),(di y2),(di v11),(.d (bo y1.2)),(.d (bo false))] W (A1<|B0<|sd W (B2 W G_hit W W)<|S5 W (gq W) [(dl A4 y1.1),(di 0),(di v7),(di y2),(di v11),(.d (bo y1.2)),(.d (bo false))] W (A1<|B1 ?_)))))
 cases h
 exact A6 (.inr W) (B6 (H5 W G_hit (nl W) W) C0) (.refl _)
 refine A8<|B0<|sd W (B2 W G_hit W W)<|S5 W (gq W) [(dl A4 y1.1),(di v9),(di v7),(di y2),(di 0),(.d (bo y1.2)),(.d (bo false))] W (A1<|B1 ?_)
 cases h
 exact A6 (.inr W) (B6 (H5 W G_hit (nl W) W) C0) (.refl _)
def Dz [Lp](p1:Map)(p2:(List KitActor))(x1:((List Agent)×Int×State)):Option (Stp ((List Agent)×Int×State) ((List Agent)×State)):=
  cond ((decide (x1.2.1< (p2.length:Int)))&& (decide ((x1.1.length:Int)<8))) ((Au ([]:List Agent) x1.1).bind fun v2=>(C3 p2 x1.2.1).bind fun v3=>(Pk p1 v3 ((x1.1.length:Int)==0)).bind fun v4=>(Au v2 [v4]).bind fun v5=>(Mw p1 v5).bind fun v6=>cond (v6.2==0) (some (.go (v6.1.Agents,(D9 (x1.2.1+1)),v6.1))) (some (.go (x1.1,(D9 (x1.2.1+1)),x1.2.2)))) (some (.out (x1.1,x1.2.2)))
def Sq [Lp](p1:Map)(p2:(List KitActor)):Option State:=
  (Mw p1 []).bind fun v1=>(loop (Dz p1 p2) ([],0,v1.1)).bind fun y1=>cond ((y1.1.length:Int)==0) ((Pk p1 (KitActor.mk 0 1048576 0 0 0 false) true).bind fun v7=>(Mw p1 [(Agent.mk v7.Route (D9 (v7.Len+1)) 0 v7.Len v7.Begin v7.Obey v7.Gone)]).bind fun v8=>some v8.1) (some y1.2)
theorem MM(p1 p2 r)(h:Sq p1 p2=some r):PCall prog 34 [(.agg (P6 p1)),(.list (List.map Mo p2))] (.agg (Y1 r)):=by
 refine C2 (fk func34 ntmps34 (fun r=>if r==6 then [1006015,1013]else if r==12 then [1002]else []) (by with_unfolding_all rfl)) (nl W) ?_
 unfold Sq at h
 refine B4 (s0:=⟨T [(0,(.d _)),(1,(.d _))],G []⟩) (F0 W W) ?_
 refine lr<|fun u1 _=>sm W<|sm W<|A1<|B0<|sv W<|A1<|lr<|fun u3 _=>sd W (B2 W (gq W) W W)<|bs h fun v1 hv1 h=>A9 W W (.cons (.refl _) (.cons DLe.nil .nil)) (Tq _ _ _ hv1) (.inl W) (sv W<|sv W<|sv W<|sm W<|S5 W G_hit (K1 v1.1) W (sv W<|A1<|A5<|B0<|sv W<|A1<|bs h fun y1 hy1 h=>D6 (fun s=> ∃g1:Unit,Sb ⟨T [(2,(.ptr (2,u1) 0)),(4,(.ptr (4,u1) 0)),(5,(dl C6 y1.1)),(6,(.ptr (6,u3) 0))],G [((2,u1),some<|.box 33 (L4 p1)),((4,u1),some<|.box 25 [(di 0),(.d .nilS),(.d .nilS)]),((6,u3),some<|.box 25 (K1 y1.2))]⟩ s) ?_ ?_))
 refine A7<|E1 (Dz p1 p2) (fun (x1:((List Agent)×Int×State)) (g2:Unit)=>⟨T [(1,(dl Mo p2)),(2,(.ptr (2,u1) 0)),(4,(.ptr (4,u1) 0)),(5,(dl C6 x1.1)),(6,(.ptr (6,u3) 0)),(8,(di x1.2.1))],G [((2,u1),some<|.box 33 (L4 p1)),((4,u1),some<|.box 25 [(di 0),(.d .nilS),(.d .nilS)]),((6,u3),some<|.box 25 (K1 x1.2.2))]⟩) ([],0,v1.1) () _ hy1 (D8 ⟨.of W, .of W, .of W,(DLe.d DLe.nil), .of W, .of W,trivial⟩<|sg W<|sg W<|B5 G_hit (.of W) trivial) ?_
 intro x1 g2 z1 hz1 ez1
 unfold Dz at hz1
 refine A5<|B0<|sv W<|sv W<|sd W (D3 W)<|sv W<|sv W<|gt W (fun _=>W)<|gt W (fun w2=>(D3<|A2 w2))<|gt W (vb W W W)<|sa W W W<|A1<|cc W hz1 (fun c1 hz1=> ?_)<|fun c1 hz1=> ?_
 refine A8<|A5<|A7<|A5<|Pc fun u6 _=>N1 (.d _) W (B2 W G_hit W W) (GX (.sl _) (.arr 45 7 (List.map C6 ([]:List Agent))) W W (N1 (.d _) W W (bs hz1 fun _ hv2 hz1=>ON C6 _ _ _ _ (L3<|fun _=>W) W G_hit hv2 (N1 (.d _) W (B2 W (gq W) W W) (N1 (.d _) W W (N1 (.d _) W W (bs hz1 fun _ hv3 hz1=>N1 (.d _) W (C4 W W hv3 W) (N1 (.d _) W (D1 W hv3 W W) (N1 (.d _) W W (N1 (.d _) W (D3 W) (N1 (.d _) W W (bs hz1 fun v4 hv4 hz1=>gI W W A3 (BM _ _ _ _ hv4) (.inl W) (N1 (dl C6 [v4]) W W (bs hz1 fun _ hv5 hz1=>ON C6 _ _ _ _ (L3<|fun _=>W) W G_hit hv5 (bs hz1 fun v6 hv6 hz1=>gP (v:= .d (.tup [(.agg (Y1 v6.1)),(i64 v6.2)])) (us:= [(43,u6)]) (dV [(43,u6)] (((43,u6),none)::_) W (rD<|E4 (KH G_hit) F9) A3 (Tq _ _ _ hv6) (X1 Zd<|X1 BH Ry) W) (N1 (.d _) W W (N1 (.d _) W W (N1 (.d _) W W (GX (.ptr _ _) (.box _ _) W W (Rl _ _ _ _ _ W W W G_hit (nl W) (K1 v6.1) W (N1 (.d _) W W (BD ⟨W,?_⟩))))))))))))))))))))))
 refine B0<|sv W<|sv W<|A1<|cc W hz1 (fun c2 hz1=> ?_)<|fun c2 hz1=> ?_
 refine Pc fun _ _=>N1 (.d _) W (B2 W G_hit W W) (N1 (.ptr _ _) W W (N1 (.d _) W (P8 W G_hit W) (Rl _ _ _ _ _ W W W (gq W) (nl W) (K1 v6.1) W (N1 (.d _) W W (BD ⟨W,?_⟩)))))
 refine E0<|B9<|sv W<|sv W<|sv W<|A1<|E2 ?_
 cases hz1
 exact ⟨W,(),(F0 W W)⟩
 refine A8<|E0<|B9<|sv W<|sv W<|sv W<|A1<|E2 ?_
 cases hz1
 exact ⟨W,(),(F0 W W)⟩
 refine C7 W ?_
 cases hz1
 obtain rfl:=ez1 _ rfl
 refine ⟨nofun,C5 W<|U1 ?_⟩
 exact ⟨(),(F0 W W)⟩
 rintro _ ⟨g1,q1⟩
 refine B4 q1<|A5<|B0<|sv W<|sd W (D3 W)<|sv W<|A1<|cc W h (fun c3 h=> ?_)<|fun c3 h=> ?_
 refine B0<|sd W (B2 W G_hit W W)<|sv W<|bs h fun v7 hv7 h=>A9 W W A3 (BM _ _ _ _ hv7) (.inl W) (sm W<|S5 W G_hit (Q8 v7) W (A1<|B0<|sq W<|sl W G_hit W<|sv W<|sq W<|S5 W G_hit ((Q8 v7).set 1 (di<|D9 (v7.Len+1))) W (sq W<|S5 W G_hit (((Q8 v7).set 1 (di<|D9 (v7.Len+1))).set 2 (di 0)) W (A1<|B9<|sd W (B2 W (gq W) W W)<|sd W (B2 W G_hit W W)<|B8 (dl C6 [(Agent.mk v7.Route (D9 (v7.Len+1)) 0 v7.Len v7.Begin v7.Obey v7.Gone)]) W W (bs h fun v8 hv8 h=>A9 W W A3 (Tq _ _ _ hv8) (.inl W) (sv W<|sv W<|sv W<|S5 W (gq W) (K1 v8.1) W (A1<|B0<|sd W (B2 W G_hit W W)<|S5 W (gq W) (K1 v8.1) W (A1<|B1 ?_))))))))
 cases h
 exact A6 (.inr W) (B6 (H5 W G_hit (nl W) W) C0) (.refl _)
 refine A8<|B0<|sd W (B2 W (gq W) W W)<|S5 W (gq W) (K1 y1.2) W (A1<|B1 ?_)
 cases h
 exact A6 (.inr W) (B6 (H5 W G_hit (nl W) W) C0) (.refl _)
def Ho (p1:State):Option (Agent×Bool):=
  cond ((p1.Agents.length:Int)==0) (some ((Agent.mk [] 0 0 0 0 false false),false)) ((C3 p1.Agents 0).bind fun v1=>some (v1,((decide ((Ps false v1.V v1.S)≥0))&& (decide ((Ps true v1.V v1.S)≤1099511627776)))))
theorem Sr(p1 r)(h:Ho p1=some r):PCall prog 104 [(.agg (Y1 p1))] (.tup [(.agg (C6 r.1)),(bo r.2)]):=by
 refine C2 (fk func104 ntmps104 m0 (by with_unfolding_all rfl)) (nl W) ?_
 unfold Ho at h
 refine B4 (s0:=⟨T [(0,(.d _))],G []⟩) (F0 W W) ?_
 refine B0<|sm W<|sn W W<|sv W<|A1<|A5<|B0<|sq W<|sl W (gq W) W (sd W (D3 W)<|sv W<|A1<|cc W h (fun c1 h=> ?_)<|fun c1 h=> ?_)
 refine B0<|sv W<|S5 W G_hit ([(.d .nilS)]++ (zs 4)++ [(.d (bo false)),(.d (bo false))]) W (sv W<|A1<|B1 ?_)
 cases h
 exact A6 (.inr W) (Jt (H5 W G_hit (nl W) W) (B3 W) C0 C0) (.tup (.cons (.agg (.cons ⟨DLe.nil,W⟩ (cz W))) A3))
 refine A8<|B0<|sq W<|sl W (gq W) W (bs h fun v1 hv1 h=>sd W (C4 W W hv1 W)<|sd W (D1 W hv1 W W)<|sm W<|S5 W G_hit (Q8 v1) W (A1<|A5<|Pc fun _ _=>N1 (.d _) W (B2 W G_hit W W) (N1 (.ptr _ _) W W (N1 (.d _) W (P8 W G_hit W) (N1 (.ptr _ _) W W (N1 (.d _) W (P8 W G_hit W) (N1 (.d _) W W (N1 (.d _) W W (N1 (.d _) W W (CS (decide ((Ps false v1.V v1.S)≥0)) (.ptr _ _) W (K3 W) (fun _=>W) (CS (decide ((Ps false v1.V v1.S)≥0)) (.d _) W (K3 W) (vl W G_hit W) (CS (decide ((Ps false v1.V v1.S)≥0)) (.ptr _ _) W (K3 W) (fun _=>W) (CS (decide ((Ps false v1.V v1.S)≥0)) (.d _) W (K3 W) (vl W G_hit W) ?_)))))))))))))
 refine CS (decide ((Ps false v1.V v1.S)≥0)) (.d _) W (K3 W) (fun w5=>(by simp only [A2 w5];rfl)) ?_
 refine CS (decide ((Ps false v1.V v1.S)≥0)) (.d _) W (K3 W) (vb W W W) (N1 (.d _) W (BB W (fun hc=>A2 hc) W) (Rl _ _ _ _ _ W W W (gq W) (nl W) (Q8 v1) W (N1 (.d _) W W (BD ⟨by first|rfl|((generalize (decide ((Ps false v1.V v1.S)≥0))=q0;cases q0)<;>rfl),?_⟩))))
 refine B1 ?_
 cases h
 exact A6 (.inr W) (Jt (H5 W G_hit (nl W) W) (B3 W) C0 C0) (.refl _)
def Pl (p1:Int)(p2:Int):Option Int:=
  (Re p1 p2).bind fun v1=>(Re (D9 (v1+p2)) p2).bind fun v2=>some v2
theorem BN(p1 p2 r)(h:Pl p1 p2=some r):PCall prog 105 [(i64 p1),(i64 p2)] (i64 r):=by
 refine C2 (fk func105 ntmps105 m0 (by with_unfolding_all rfl)) (nl W) ?_
 unfold Pl at h
 refine B4 (s0:=⟨T [(0,(.d _)),(1,(.d _))],G []⟩) (F0 W W) ?_
 refine B0<|sv W<|A1<|B0<|sv W<|sv W<|bs h fun _ hv1 h=>sd W (Ul W W hv1)<|sv W<|sv W<|sv W<|bs h fun _ hv2 h=>sd W (Ul W W hv2)<|sv W<|A1<|B1 ?_
 cases h
 exact A6 (.inr W) (B6 (B3 W) C0) (.refl _)
def Oa (p1:State)(p2:Int):Option Mark:=
  (Ho p1).bind fun v1=>cond (!v1.2) (some (Mark.mk 0 0 0)) ((Pl p2 7).bind fun v2=>some (Mark.mk p1.Tick (Ps true 0 (D9 ((D9 ((D9 (v1.1.V+v2)) - 3)) - 3))) (D9 ((D9 ((D9 (v1.1.V+v2)) - 3))+3))))
theorem HL(p1 p2 r)(h:Oa p1 p2=some r):PCall prog 47 [(.agg (Y1 p1)),(i64 p2)] (.agg (fM r)):=by
 refine C2 (fk func47 ntmps47 m0 (by with_unfolding_all rfl)) (nl W) ?_
 unfold Oa at h
 refine B4 (s0:=⟨T [(0,(.d _)),(1,(.d _))],G []⟩) (F0 W W) ?_
 refine B0<|sm W<|sn W W<|A1<|B0<|sd W (B2 W (gq W) W W)<|bs h fun v1 hv1 h=>A9 W W A3 (Sr _ _ hv1) (.inl W) (sv W<|sv W<|sv W<|sm W<|S5 W G_hit (Q8 v1.1) W (sv W<|A1<|A5<|B0<|sv W<|B8 (.d (bo (!v1.2))) W W (A1<|cc W h (fun c1 h=> ?_)<|fun c1 h=> ?_)))
 refine B0<|sv W<|S5 W (gq W) [(di 0),(di 0),(di 0)] W (A1<|B1 ?_)
 cases h
 exact A6 (.inr W) (B6 (H5 W G_hit (nl W) W) C0) (.refl _)
 refine A8<|A5<|E8 W<|sq W<|sl W G_hit W<|sv W<|bs h fun v2 hv2 h=>A9 W W A3 (BN _ _ _ hv2) (.inl W) (sv W<|sv W<|sv W<|A1<|B0<|sq W<|sl W (gq W) W (sv W<|sv W<|sv W<|sv W<|sv W<|sv W<|S5 W (gq W) [(di p1.Tick),(di<|Ps true 0<|D9 ((D9 ((D9 (v1.1.V+v2)) - 3)) - 3)),(di<|D9 ((D9 ((D9 (v1.1.V+v2)) - 3))+3))] W (A1<|B1 ?_)))
 cases h
 exact A6 (.inr W) (B6 (H5 W G_hit (nl W) W) C0) (.refl _)
def Ss (p1:State)(p2:Int):Option Mark:=
  (Ho p1).bind fun v1=>cond (!v1.2) (some (Mark.mk 0 0 0)) ((Pl p2 401).bind fun v2=>some (Mark.mk p1.Tick (D9 ((D9 ((D9 (v1.1.S+v2)) - 200)) - 200)) (D9 ((D9 ((D9 (v1.1.S+v2)) - 200))+200))))
theorem MN(p1 p2 r)(h:Ss p1 p2=some r):PCall prog 49 [(.agg (Y1 p1)),(i64 p2)] (.agg (fM r)):=by
 refine C2 (fk func49 ntmps49 m0 (by with_unfolding_all rfl)) (nl W) ?_
 unfold Ss at h
 refine B4 (s0:=⟨T [(0,(.d _)),(1,(.d _))],G []⟩) (F0 W W) ?_
 refine B0<|sm W<|sn W W<|A1<|B0<|sd W (B2 W (gq W) W W)<|bs h fun v1 hv1 h=>A9 W W A3 (Sr _ _ hv1) (.inl W) (sv W<|sv W<|sv W<|sm W<|S5 W G_hit (Q8 v1.1) W (sv W<|A1<|A5<|B0<|sv W<|B8 (.d (bo (!v1.2))) W W (A1<|cc W h (fun c1 h=> ?_)<|fun c1 h=> ?_)))
 refine B0<|sv W<|S5 W (gq W) [(di 0),(di 0),(di 0)] W (A1<|B1 ?_)
 cases h
 exact A6 (.inr W) (B6 (H5 W G_hit (nl W) W) C0) (.refl _)
 refine A8<|A5<|E8 W<|sq W<|sl W G_hit W<|sv W<|bs h fun v2 hv2 h=>A9 W W A3 (BN _ _ _ hv2) (.inl W) (sv W<|sv W<|sv W<|A1<|B0<|sq W<|sl W (gq W) W (sv W<|sv W<|sv W<|sv W<|sv W<|S5 W (gq W) [(di p1.Tick),(di<|D9 ((D9 ((D9 (v1.1.S+v2)) - 200)) - 200)),(di<|D9 ((D9 ((D9 (v1.1.S+v2)) - 200))+200))] W (A1<|B1 ?_)))
 cases h
 exact A6 (.inr W) (B6 (H5 W G_hit (nl W) W) C0) (.refl _)
def Pm [Lp]:Option Map:=
  (T5 1 1500 [] [0,0,100000,0]).bind fun v1=>(T5 1 1500 [] [50000,(-50000),50000,50000]).bind fun v2=>some (Map.mk 0 [v1,v2] [(Zone.mk [(Part.mk 0 48000 52000 1),(Part.mk 1 48000 52000 0)] 0)] [] [])
theorem MO(r)(h:Pm=some r):PCall prog 65 [] (.agg (P6 r)):=by
 refine C2 (fk func65 ntmps65 (fun r=>if r==1 then [1000,1002,1004,1007,1009]else []) (by with_unfolding_all rfl)) (nl W) ?_
 unfold Pm at h
 refine B4 (s0:=⟨T [],G []⟩) (F0 W W) ?_
 refine B0<|sm W<|A1<|B0<|B8 (dl A4 [0,0,100000,0]) W W (bs h fun v1 hv1 h=>A9 W W (.cons (.refl _) (.cons (.refl _) (.cons DLe.nil A3))) (R5 _ _ _ _ _ hv1) (.inl W) (B8 (dl A4 [50000,(-50000),50000,50000]) W W (bs h fun v2 hv2 h=>A9 W W (.cons (.refl _) (.cons (.refl _) (.cons DLe.nil A3))) (R5 _ _ _ _ _ hv2) (.inl W) (B8 (dl Ev [v1,v2]) W (CZ Ev ([v1,v2]:List Lane) (fun _=>W) W W ⟨W,W,W,W,W,W,trivial⟩ (fun _=>W)) (sv W<|sv W<|B8 (dl At [(Part.mk 0 48000 52000 1),(Part.mk 1 48000 52000 0)]) W W (sv W<|B8 (dl Ew [(Zone.mk [(Part.mk 0 48000 52000 1),(Part.mk 1 48000 52000 0)] 0)]) W W (sv W<|S5 W G_hit [(di 0),(dl Ev [v1,v2]),(dl Ew [(Zone.mk [(Part.mk 0 48000 52000 1),(Part.mk 1 48000 52000 0)] 0)]),(.d .nilS),(.d .nilS)] W (A1<|B1 ?_))))))))
 cases h
 exact A6 (.inr W) (B6 (H5 W G_hit (nl W) W) C0) (.agg (ca W<|ca W<|ca W<|.cons ⟨DLe.nil,W⟩ (.cons ⟨DLe.nil,W⟩ .nil)))
def Rm (p1:Int)(p2:Int)(p3:Int):Option Agent:=
  some (Agent.mk [p1] p2 p3 4000 0 false false)
theorem Wg(p1 p2 p3 r)(h:Rm p1 p2 p3=some r):PCall prog 66 [(i64 p1),(i64 p2),(i64 p3)] (.agg (C6 r)):=by
 refine C2 (fk func66 ntmps66 (fun r=>if r==1 then [1001]else []) (by with_unfolding_all rfl)) (nl W) ?_
 unfold Rm at h
 refine B4 (s0:=⟨T [(0,(.d _)),(1,(.d _)),(2,(.d _))],G []⟩) (F0 W W) ?_
 refine B0<|sm W<|A1<|B0<|sv W<|B8 (dl A4 [p1]) W W (sv W<|sv W<|sv W<|S5 W G_hit [(dl A4 [p1]),(di p2),(di p3),(di 4000),(di 0),(.d (bo false)),(.d (bo false))] W (A1<|B1 ?_))
 cases h
 exact A6 (.inr W) (B6 (H5 W G_hit (nl W) W) C0) (.refl _)
def Cd (p1:List Stay):Option (List Stay):=Au [] p1
theorem If (p1:List Stay)(a0:D)(hl:Au ([]:List Stay) p1=some p1)(hn: ∀h,K4 (T [(3, .d a0),(2, .d .nilS),(0, .d a0)]) h (.isnil false (.t 3))=some (.d (bo false)))(he: ∀h,Ae h 4 (.d a0)=some (List.map I7 p1)):
    PCall prog 121 [a0] (.list (List.map I7 p1)):=by
  refine C2 (fk func121 ntmps121 m0 (by with_unfolding_all rfl)) (Nat.le_of_ble_eq_true W) ?_
  refine (B4 (s0:=⟨T [(0, .d a0)],G []⟩) (D8 ⟨.of W,trivial⟩ trivial) ?_)
  refine A5 ?_
  refine As fun _ _=> ?_
  refine B8 (.d .nilS) W W ?_
  refine A1 ?_
  refine A5 ?_
  refine A5 ?_
  refine As fun _ _=> ?_
  refine B8 (.d a0) W W ?_
  refine B8 (.d (bo false)) W (hn _) ?_
  refine A1 ?_
  refine Rk W ?_
  refine A8 ?_
  refine A5 ?_
  refine As fun _ _=> ?_
  refine Mj (.sl _) (.arr 127 4 (List.map I7 ([]:List Stay))) W W ?_
  refine B8 (.d a0) W W ?_
  refine Vz I7 _ [] p1 _ (he _) W G_hit hl ?_
  refine B8 (.sl _) W W ?_
  refine A1 ?_
  refine B1 ?_
  exact A6 (.inr W) (B6 (B3 W)<|KH G_hit) (.refl _)
theorem Ju(p1 r)(h:Cd p1=some r):PCall prog 121 [.list (List.map I7 p1)] (.list (List.map I7 r)):=by
  have hr:r=p1:=by obtain ⟨_,rfl⟩:=Hj h;rfl
  subst hr
  cases r with
  |cons x xs=>exact If (x::xs) _ h (fun _=>rfl) fun _=>L3 (fun _=>rfl)
  |nil=>
   refine PCall.nil fun A cap=> ?_
   cases A with
   |some A=>exact If [] (.v (.slice (some A) 0 cap)) h (fun _=>rfl) fun _=>rfl
   |none=>
    refine C2 (fk func121 ntmps121 m0 (by with_unfolding_all rfl)) (Nat.le_of_ble_eq_true W) ?_
    refine (B4 (s0:=⟨T [(0, .d (.v (.slice none 0 cap)))],G []⟩) (D8 ⟨.of W,trivial⟩ trivial) ?_)
    refine A5 ?_
    refine As fun _ _=> ?_
    refine B8 (.d .nilS) W W ?_
    refine A1 ?_
    refine A5 ?_
    refine A5 ?_
    refine As fun _ _=> ?_
    refine B8 (.d _) W W ?_
    refine B8 (.d (bo true)) W W ?_
    refine A1 ?_
    refine Xd W ?_
    refine A5 ?_
    refine As fun _ _=> ?_
    refine B8 (.d .nilS) W W ?_
    refine A1 ?_
    refine B1 ?_
    exact A6 (.inr W) (B6 (B3 W) C0) .nil
def Ob (p1:List Int):Option (List Int):=Au [] p1
theorem Jv (p1:List Int)(a0:D)(hl:Au ([]:List Int) p1=some p1)(hn: ∀h,K4 (T [(3, .d a0),(2, .d .nilS),(0, .d a0)]) h (.isnil false (.t 3))=some (.d (bo false)))(he: ∀h,Ae h 1 (.d a0)=some (List.map A4 p1)):
    PCall prog 178 [a0] (.list (List.map A4 p1)):=by
  refine C2 (fk func178 ntmps178 m0 (by with_unfolding_all rfl)) (Nat.le_of_ble_eq_true W) ?_
  refine (B4 (s0:=⟨T [(0, .d a0)],G []⟩) (D8 ⟨.of W,trivial⟩ trivial) ?_)
  refine A5 ?_
  refine As fun _ _=> ?_
  refine B8 (.d .nilS) W W ?_
  refine A1 ?_
  refine A5 ?_
  refine A5 ?_
  refine As fun _ _=> ?_
  refine B8 (.d a0) W W ?_
  refine B8 (.d (bo false)) W (hn _) ?_
  refine A1 ?_
  refine Rk W ?_
  refine A8 ?_
  refine A5 ?_
  refine As fun _ _=> ?_
  refine Mj (.sl _) (.arr 3 1 (List.map A4 ([]:List Int))) W W ?_
  refine B8 (.d a0) W W ?_
  refine Vz A4 _ [] p1 _ (he _) W G_hit hl ?_
  refine B8 (.sl _) W W ?_
  refine A1 ?_
  refine B1 ?_
  exact A6 (.inr W) (B6 (B3 W)<|KH G_hit) (.refl _)
theorem Su(p1 r)(h:Ob p1=some r):PCall prog 178 [.list (List.map A4 p1)] (.list (List.map A4 r)):=by
  have hr:r=p1:=by obtain ⟨_,rfl⟩:=Hj h;rfl
  subst hr
  cases r with
  |cons x xs=>exact Jv (x::xs) _ h (fun _=>rfl) fun _=>L3 (fun _=>rfl)
  |nil=>
   refine PCall.nil fun A cap=> ?_
   cases A with
   |some A=>exact Jv [] (.v (.slice (some A) 0 cap)) h (fun _=>rfl) fun _=>rfl
   |none=>
    refine C2 (fk func178 ntmps178 m0 (by with_unfolding_all rfl)) (Nat.le_of_ble_eq_true W) ?_
    refine (B4 (s0:=⟨T [(0, .d (.v (.slice none 0 cap)))],G []⟩) (D8 ⟨.of W,trivial⟩ trivial) ?_)
    refine A5 ?_
    refine As fun _ _=> ?_
    refine B8 (.d .nilS) W W ?_
    refine A1 ?_
    refine A5 ?_
    refine A5 ?_
    refine As fun _ _=> ?_
    refine B8 (.d _) W W ?_
    refine B8 (.d (bo true)) W W ?_
    refine A1 ?_
    refine Xd W ?_
    refine A5 ?_
    refine As fun _ _=> ?_
    refine B8 (.d .nilS) W W ?_
    refine A1 ?_
    refine B1 ?_
    exact A6 (.inr W) (B6 (B3 W) C0) .nil
def Iu (p1:Agent):Option Agent:=
  (Ob p1.Route).bind fun v1=>some (Agent.mk v1 p1.S p1.V p1.Len p1.Begin p1.Obey p1.Gone)
theorem Lv(p1 r)(h:Iu p1=some r):PCall prog 87 [(.agg (C6 p1))] (.agg (C6 r)):=by
 refine C2 (fk func87 ntmps87 m0 (by with_unfolding_all rfl)) (nl W) ?_
 unfold Iu at h
 refine B4 (s0:=⟨T [(0,(.d _))],G []⟩) (F0 W W) ?_
 refine B0<|sm W<|sn W W<|A1<|B0<|sq W<|sl W (gq W) W (bs h fun v1 hv1 h=>A9 W W A3 (Su _ _ hv1) (.inl W) (sq W<|S5 W (gq W) ((Q8 p1).set 0 (dl A4 v1)) W (A1<|B0<|sd W (B2 W G_hit W W)<|S5 W (gq W) ((Q8 p1).set 0 (dl A4 v1)) W (A1<|B1 ?_))))
 cases h
 exact A6 (.inr W) (B6 (H5 W G_hit (nl W) W) C0) (.refl _)
def Sd (p1:State)(x1:(Int×State)):Option (Stp (Int×State) State):=
  cond (decide (x1.1< (p1.Agents.length:Int))) ((C3 p1.Agents x1.1).bind fun v2=>(Iu v2).bind fun v3=>(Au x1.2.Agents [v3]).bind fun v4=>some (.go ((D9 (x1.1+1)),(State.mk x1.2.Tick v4 x1.2.In)))) (some (.out x1.2))
def Ks [Lp](p1:State):Option State:=
  (Cd p1.In).bind fun v1=>(loop (Sd p1) (0,(State.mk p1.Tick [] v1))).bind fun y1=>some y1
theorem Ye(p1 r)(h:Ks p1=some r):PCall prog 56 [(.agg (Y1 p1))] (.agg (Y1 r)):=by
 refine C2 (fk func56 ntmps56 (fun r=>if r==5 then [1004]else []) (by with_unfolding_all rfl)) (nl W) ?_
 unfold Ks at h
 refine B4 (s0:=⟨T [(0,(.d _))],G []⟩) (F0 W W) ?_
 refine lr<|fun u1 _=>sm W<|sm W<|A1<|A5<|Lj W fun u2 _=>sq W<|sl W (gq W) W (sq W<|sl W (gq W) W (bs h fun v1 hv1 h=>A9 W W A3 (Ju _ _ hv1) (.inl W) (sv W<|sm W<|S5 W G_hit [(di p1.Tick),(.d .nilS),(dl I7 v1)] W (A1<|A5<|B0<|sq W<|sl W (gq W) W (sd W (D3 W)<|sv W<|A1<|bs h fun y1 hy1 h=>D6 (fun s=> ∃g1:Nat,Sb ⟨T [(2,(.ptr (2,u1) 0)),(3,(.ptr (3,u2) 0))],G [((2,u1),some<|.box 25 [(di 0),(.d .nilS),(.d .nilS)]),((3,u2),some<|.box 25 [(di y1.Tick),(oS y1.Agents (24,g1)),(dl I7 y1.In)]),((24,g1),oB 45 7 C6 y1.Agents)]⟩ s) ?_ ?_)))))
 refine A7<|E1 (Sd p1) (fun (x1:(Int×State)) (g2:Nat)=>⟨T [(2,(.ptr (2,u1) 0)),(3,(.ptr (3,u2) 0)),(13,(dl C6 p1.Agents)),(14,(di (p1.Agents.length:Int))),(15,(di x1.1))],G [((2,u1),some<|.box 25 [(di 0),(.d .nilS),(.d .nilS)]),((3,u2),some<|.box 25 [(di x1.2.Tick),(oS x1.2.Agents (24,g2)),(dl I7 x1.2.In)]),((24,g2),oB 45 7 C6 x1.2.Agents)]⟩) (0,(State.mk p1.Tick [] v1)) 0 _ hy1 (D8 (Y0 W)<|sg W<|B5 G_hit (.of W)<|R6 trivial) ?_
 intro x1 g2 z1 hz1 ez1
 unfold Sd at hz1
 refine B0<|sv W<|A1<|A5<|cc W hz1 (fun c1 hz1=> ?_)<|fun c1 hz1=> ?_
 refine A8<|A5<|A7<|B0<|bs hz1 fun v2 hv2 hz1=>sd W (C4 W W hv2 W)<|sd W (D1 W hv2 W W)<|sm W<|S5 W G_hit (Q8 v2) W (A1<|Lj W fun u6 _=>sq W<|B8 (oS x1.2.Agents (24,g2)) W (P8 W (gq W) W) (sd W (B2 W G_hit W W)<|bs hz1 fun v3 hv3 hz1=>A9 W W A3 (Lv _ _ hv3) (.inl W) (B8 (dl C6 [v3]) W W (bs hz1 fun _ hv4 hz1=>P1 C6 (24,g2) x1.2.Agents v3 [] _ (L3<|fun _=>W) W (gq W) hv4 (sq W<|S5 W (gq W) [(di x1.2.Tick),(.sl (24,u6)),(dl I7 x1.2.In)] W (A1<|E0<|B9<|sv W<|sv W<|A1<|E2 ?_))))))
 cases hz1
 exact ⟨W,u6,(D8 (Y0 W)<|sg W<|B5 G_hit (.box (cv<|.cons (.of (T9<|U2 hv4).symm) cw))<|N0 (gq W) trivial)⟩
 refine C7 W ?_
 cases hz1
 obtain rfl:=ez1 _ rfl
 refine ⟨nofun,C5 W<|U1 ?_⟩
 exact ⟨g2,(D8 (Y0 W)<|B5 G_hit (.of W)<|sg W<|B7 (gq W) trivial)⟩
 rintro _ ⟨g1,q1⟩
 refine B4 q1<|B0<|B8 (W2 [(di y1.Tick),(oS y1.Agents (24,g1)),(dl I7 y1.In)]) W (B2 W (gq W) W W) (Ie _ _ _ _ _ (V8 _) W W G_hit (nl W) [(di y1.Tick),(oS y1.Agents (24,g1)),(dl I7 y1.In)] W (A1<|B1 ?_))
 cases h
 exact A6 (.inr W) (B6 (H5 W G_hit (nl W) W)<|Lk<|rD<|E4 (S9<|gq W)<|rD F9) (.agg (ca W<|.cons ⟨S8,W⟩ (cz W)))
def Ce (p1:Int)(p2:Int)(p3:Int):Option Bool:=
  some ((decide (p2≤p1))&& (decide (p1≤p3)))
theorem Dp(p1 p2 p3 r)(h:Ce p1 p2 p3=some r):PCall prog 209 [(i64 p1),(i64 p2),(i64 p3)] (bo r):=by
 refine C2 (fk func209 ntmps209 m0 (by with_unfolding_all rfl)) (nl W) ?_
 unfold Ce at h
 refine B4 (s0:=⟨T [(0,(.d _)),(1,(.d _)),(2,(.d _))],G []⟩) (F0 W W) ?_
 refine B0<|sv W<|A1<|B0<|sv W<|sv W<|sv W<|sv W<|gt W (fun _=>W)<|gt W (fun _=>W)<|gt W (fun w3=>(M4 (A2 w3) (A2 w3) W))<|sa W W W<|sv W<|A1<|B1 ?_
 cases h
 exact A6 (.inr W) (B6 (B3 W) C0) (.refl _)
def Z3 (p1:RoadsCheck):Option Int:=
  (Ce p1.Map_.Version 0 1099511627776).bind fun v1=>cond (!v1) (some 2) (cond ((p1.Map_.Lanes.length:Int)==0) (some 6) (cond ((((decide ((p1.Map_.Lanes.length:Int)>12))||(decide ((p1.Map_.Zones.length:Int)>12)))||(decide ((p1.Map_.Signals.length:Int)>4)))||(decide ((p1.Map_.Works.length:Int)>8))) (some 8) (some 0)))
theorem Tu(p1 r)(h:Z3 p1=some r):PCall prog 148 [(.agg (P6 p1.Map_))] (i64 r):=by
 refine C2 (fk func148 ntmps148 m0 (by with_unfolding_all rfl)) (nl W) ?_
 unfold Z3 at h
 refine B4 (s0:=⟨T [(0,(.d _))],G []⟩) (F0 W W) ?_
 refine B0<|sm W<|sv W<|A1<|A5<|A7<|B0<|sq W<|sp W W<|sl W G_hit W<|bs h fun v1 hv1 h=>A9 W W A3 (Dp _ _ _ _ hv1) (.inl W) (B8 (.d (bo (!v1))) W W (sv W<|A1<|cc W h (fun c1 h=> ?_)<|fun c1 h=> ?_))
 refine B0<|sv W<|A1<|B1 ?_
 cases h
 exact A6 (.inr W) (B6 (B3 W) C0) (.refl _)
 refine B0<|sq W<|sp W W<|sl W G_hit W<|sd W (D3 W)<|sv W<|sv W<|A1<|cc W h (fun c2 h=> ?_)<|fun c2 h=> ?_
 refine B0<|sv W<|A1<|B1 ?_
 cases h
 exact A6 (.inr W) (B6 (B3 W) C0) (.refl _)
 refine B0<|sq W<|sp W W<|sl W G_hit W<|sd W (D3 W)<|sv W<|sv W<|gp W (K6 W) (fun _=>W) ?_
 refine M5 _ (.ptr _ _) W (K6 W) (fun w2=>(by simp only [A2 w2];rfl)) ?_
 refine gf W (vl W G_hit W)<|gf W (fun w4=>(D3<|A2 w4))<|gf W (vb W W W)<|sd W (O5 W W<|fun hc=>A2<|J6 hc)<|sv W<|gp W (K6 W) (fun _=>W) ?_
 refine M5 _ (.ptr _ _) W (K6 W) (fun w7=>(by simp only [A2 w7];rfl)) ?_
 refine gf W (vl W G_hit W)<|gf W (fun w9=>(D3<|A2 w9))<|gf W (vb W W W)<|sd W (O5 W W<|fun hc=>A2<|J6 hc)<|sv W<|gp W (K6 W) (fun _=>W) ?_
 refine M5 _ (.ptr _ _) W (K6 W) (fun w12=>(by simp only [A2 w12];rfl)) ?_
 refine gf W (vl W G_hit W)<|gf W (fun w14=>(D3<|A2 w14))<|gf W (vb W W W)<|sd W (O5 W W<|fun hc=>A2<|J6 hc)<|sv W<|A1<|cc W h (fun c3 h=> ?_)<|fun c3 h=> ?_
 refine B0<|sv W<|A1<|B1 ?_
 cases h
 exact A6 (.inr W) (B6 (B3 W) C0) (.refl _)
 refine A8<|E0<|B0<|sv W<|A1<|B1 ?_
 cases h
 exact A6 (.inr W) (B6 (B3 W) C0) (.refl _)
def Ea (p1:Int):Option (Int×Int×Int):=
  cond ((decide (p1<0))||(decide (p1≥4))) (some (0,0,0)) ((C3 ([(0,0,0),(2000,30,90),(1000,20,60),(300,100,300)]:List (Int×Int×Int)) p1).bind fun v1=>some (v1.1,v1.2.1,v1.2.2))
theorem Km(p1 r)(h:Ea p1=some r):PCall prog 157 [(i64 p1)] (.tup [(i64 r.1),(i64 r.2.1),(i64 r.2.2)]):=by
 refine C2 (fk func157 ntmps157 m0 (by with_unfolding_all rfl)) (nl W) ?_
 unfold Ea at h
 refine B4 (s0:=⟨T [(0,(.d _))],G []⟩) (F0 W W) ?_
 refine B0<|sv W<|sv W<|sv W<|A1<|B0<|sv W<|sv W<|sv W<|sv W<|sm W<|S5 W G_hit [(di 0),(di 0),(di 0),(di 2000),(di 30),(di 90),(di 1000),(di 20),(di 60),(di 300),(di 100),(di 300)] W (A1<|A5<|B0<|sv W<|sv W<|sv W<|gf W (fun _=>W)<|gf W (vb W W W)<|sd W (O5 W W<|fun hc=>A2<|J6 hc)<|A1<|cc W h (fun c1 h=> ?_)<|fun c1 h=> ?_)
 refine B0<|sv W<|sv W<|sv W<|A1<|B1 ?_
 cases h
 exact A6 (.inr W) (AU (B3 W) (B3 W) (B3 W) C0 C0 C0) (.refl _)
 refine A8<|B0<|sv W<|bs h fun v1 hv1 h=>sp W (dZ W W hv1 W)<|sd W (ZO (f:=iX) W G_hit hv1 (fun _=>W) W W)<|sm W<|S5 W G_hit [(di v1.1),(di v1.2.1),(di v1.2.2)] W (A1<|A5<|E8 W<|sq W<|sl W G_hit W<|sq W<|sl W G_hit W<|sq W<|sl W G_hit W<|sv W<|sv W<|sv W<|A1<|B1 ?_)
 cases h
 exact A6 (.inr W) (AU (B3 W) (B3 W) (B3 W) C0 C0 C0) (.refl _)
def Es (p1:(List Spot))(x1:Int):Option (Stp Int (Sum Unit Bool)):=
  cond (decide (x1< (p1.length:Int))) ((C3 p1 x1).bind fun v1=>cond ((decide ((Ps false v1.X v1.Y)< (-16777216)))||(decide ((Ps true v1.X v1.Y)>16777216))) (some (.out (.inr false))) (some (.go (D9 (x1+1))))) (some (.out (.inl ())))
def Iv [Lp](p1:(List Spot)):Option Bool:=
  thenS (loop (Es p1) 0) (fun _=>some true) (fun r=>some r)
theorem JI(p1 r)(h:Iv p1=some r):PCall prog 237 [(.list (List.map Bk p1))] (bo r):=by
 refine C2 (fk func237 ntmps237 m0 (by with_unfolding_all rfl)) (nl W) ?_
 unfold Iv at h
 refine B4 (s0:=⟨T [(0,(.d _))],G []⟩) (F0 W W) ?_
 refine B0<|sv W<|A1<|A5<|B0<|sv W<|sd W (D3 W)<|sv W<|A1<|js h fun z1 hz1 h=>D6 (fun s=> ∃(y1:Unit) (g1:Unit),z1= .inl y1∧Sb ⟨T [],G []⟩ s) ?_ ?_
 refine A7<|E1 (Es p1) (fun (x1:Int) (g2:Unit)=>⟨T [(5,(dl Bk p1)),(6,(di (p1.length:Int))),(7,(di x1))],G []⟩) 0 () _ hz1 (F0 W W) ?_
 intro x1 g2 z2 hz2 ez2
 unfold Es at hz2
 refine B0<|sv W<|A1<|A5<|cc W hz2 (fun c1 hz2=> ?_)<|fun c1 hz2=> ?_
 refine A8<|A5<|A7<|B0<|bs hz2 fun v1 hv1 hz2=>sd W (C4 W W hv1 W)<|sd W (D1 W hv1 W W)<|sm W<|S5 W G_hit [(di v1.X),(di v1.Y)] W (A1<|B0<|sq W<|sl W G_hit W<|sq W<|sl W G_hit W<|sv W<|sv W<|sv W<|gp W (K6 W) (fun _=>W) (gf W (vl W G_hit W)<|gp W (K6 W) (fun _=>W) (gf W (vl W G_hit W) ?_)))
 refine gf W (fun w5=>(by simp only [A2 w5];rfl)) ?_
 refine gf W (vb W W W)<|sd W (O5 W W<|fun hc=>A2<|J6 hc)<|A1<|cc W hz2 (fun c2 hz2=> ?_)<|fun c2 hz2=> ?_
 refine B0<|sv W<|A1<|B1 ?_
 cases hz2
 obtain rfl:=ez2 _ rfl
 refine ⟨nofun,F2 ?_⟩
 rw [bX]at h
 cases h
 exact A6 (.inr W) (B6 (B3 W) C0) (.refl _)
 refine A8<|E0<|B9<|sv W<|sv W<|A1<|E2 ?_
 cases hz2
 exact ⟨W,(),(F0 W W)⟩
 refine C7 W ?_
 cases hz2
 obtain rfl:=ez2 _ rfl
 refine ⟨nofun,C5 W<|U1 ?_⟩
 exact ⟨_,(),W,(F0 W W)⟩
 rintro _ ⟨y1,g1,rfl,q1⟩
 rw [bW]at h
 refine B4 q1<|B0<|sv W<|A1<|B1 ?_
 cases h
 exact A6 (.inr W) (B6 (B3 W) C0) (.refl _)
def My (p1:Spot)(p2:Spot):Option CurveVector:=
  some (CurveVector.mk (D9 (p2.X - p1.X)) (D9 (p2.Y - p1.Y)))
theorem Yf(p1 p2 r)(h:My p1 p2=some r):PCall prog 238 [(.agg [(i64 p1.X),(i64 p1.Y)]),(.agg [(i64 p2.X),(i64 p2.Y)])] (.agg [(i64 r.x),(i64 r.y)]):=by
 refine C2 (fk func238 ntmps238 m0 (by with_unfolding_all rfl)) (nl W) ?_
 unfold My at h
 refine B4 (s0:=⟨T [(0,(.d _)),(1,(.d _))],G []⟩) (F0 W W) ?_
 refine B0<|sm W<|sn W W<|sm W<|A1<|B0<|sq W<|sl W (gq W) W (sq W<|sl W (gq W) W (sv W<|sq W<|sl W (gq W) W (sq W<|sl W (gq W) W (sv W<|sv W<|S5 W G_hit [(di<|D9 (p2.X - p1.X)),(di<|D9 (p2.Y - p1.Y))] W (A1<|B1 ?_)))))
 cases h
 exact A6 (.inr W) (B6 (H5 W G_hit (nl W) W) C0) (.refl _)
def Ap (p1:CurveVector)(p2:CurveVector):Option Int:=
  some (D9 ((D9 (p1.x*p2.x))+ (D9 (p1.y*p2.y))))
theorem Jx(p1 p2 r)(h:Ap p1 p2=some r):PCall prog 240 [(.agg [(i64 p1.x),(i64 p1.y)]),(.agg [(i64 p2.x),(i64 p2.y)])] (i64 r):=by
 refine C2 (fk func240 ntmps240 m0 (by with_unfolding_all rfl)) (nl W) ?_
 unfold Ap at h
 refine B4 (s0:=⟨T [(0,(.d _)),(1,(.d _))],G []⟩) (F0 W W) ?_
 refine B0<|sm W<|sn W W<|sv W<|A1<|B0<|sq W<|sl W (gq W) W (sq W<|sl W G_hit W<|sv W<|sq W<|sl W (gq W) W (sq W<|sl W G_hit W<|sv W<|sv W<|sv W<|A1<|B1 ?_))
 cases h
 exact A6 (.inr W) (B6 (B3 W) C0) (.refl _)
def Kd (p1:Int)(x1:(Int×Int)):Option (Stp (Int×Int) Int):=
  cond (decide (x1.1<x1.2)) (cond (decide ((D9 ((D9 ((D9 (x1.1+x1.2)).tdiv 2))* (D9 ((D9 (x1.1+x1.2)).tdiv 2))))<p1)) (some (.go ((D9 ((D9 ((D9 (x1.1+x1.2)).tdiv 2))+1)),x1.2))) (some (.go (x1.1,(D9 ((D9 (x1.1+x1.2)).tdiv 2)))))) (some (.out x1.1))
def Et [Lp](p1:Int):Option (Int×Bool):=
  (loop (Kd p1) (0,67108864)).bind fun y1=>some (y1,((D9 (y1*y1))==p1))
theorem Yg(p1 r)(h:Et p1=some r):PCall prog 239 [(i64 p1)] (.tup [(i64 r.1),(bo r.2)]):=by
 refine C2 (fk func239 ntmps239 m0 (by with_unfolding_all rfl)) (nl W) ?_
 unfold Et at h
 refine B4 (s0:=⟨T [(0,(.d _))],G []⟩) (F0 W W) ?_
 refine B0<|sv W<|sv W<|A1<|B0<|sv W<|sv W<|A1<|A5<|bs h fun y1 hy1 h=>D6 (fun s=> ∃g1:Unit,Sb ⟨T [(0,(di p1)),(4,(di y1))],G []⟩ s) ?_ ?_
 refine A7<|E1 (Kd p1) (fun (x1:(Int×Int)) (g2:Unit)=>⟨T [(0,(di p1)),(4,(di x1.1)),(5,(di x1.2))],G []⟩) (0,67108864) () _ hy1 (F0 W W) ?_
 intro x1 g2 z1 hz1 ez1
 unfold Kd at hz1
 refine A5<|B0<|sv W<|sv W<|sv W<|A1<|cc W hz1 (fun c1 hz1=> ?_)<|fun c1 hz1=> ?_
 refine A8<|A7<|B0<|sv W<|sv W<|sv W<|sv W<|sv W<|A1<|B0<|sv W<|sv W<|sv W<|sv W<|sv W<|A1<|cc W hz1 (fun c2 hz1=> ?_)<|fun c2 hz1=> ?_
 refine B9<|sv W<|sv W<|sv W<|A1<|E0<|E2 ?_
 cases hz1
 exact ⟨W,(),(F0 W W)⟩
 refine B9<|sv W<|sv W<|A1<|E0<|E2 ?_
 cases hz1
 exact ⟨W,(),(F0 W W)⟩
 refine C7 W ?_
 cases hz1
 obtain rfl:=ez1 _ rfl
 refine ⟨nofun,C5 W<|U1 ?_⟩
 exact ⟨(),(F0 W W)⟩
 rintro _ ⟨g1,q1⟩
 refine B4 q1<|B0<|sv W<|sv W<|sv W<|sv W<|sv W<|sv W<|sv W<|sv W<|A1<|B1 ?_
 cases h
 exact A6 (.inr W) (Jt (B3 W) (B3 W) C0 C0) (.refl _)
def W9 [Lp](p1:Curve)(x1:(Int×CurveVector)):Option (Stp (Int×CurveVector) (Sum Unit Int)):=
  cond (decide (x1.1< (D9 ((p1.Pts.length:Int) - 1)))) ((C3 p1.Pts x1.1).bind fun v2=>(C3 p1.Pts (D9 (x1.1+1))).bind fun v3=>(My v2 v3).bind fun v4=>(Ap v4 v4).bind fun v5=>(Et v5).bind fun v6=>cond (!v6.2) (some (.out (.inr 3))) (cond ((decide (v6.1<1000))||(decide (v6.1>1048576))) (some (.out (.inr 2))) (((cond (decide (x1.1>0)) (Ap x1.2 v4) (some default))).bind fun v7=>cond ((decide (x1.1>0))&& (decide (v7≤0))) (some (.out (.inr 12))) (some (.go ((D9 (x1.1+1)),v4)))))) (some (.out (.inl ())))
def Eb [Lp](p1:Curve):Option Int:=
  cond (decide ((p1.Pts.length:Int)<2)) (some 6) (cond (decide ((p1.Pts.length:Int)>16)) (some 5) ((Iv p1.Pts).bind fun v1=>cond (!v1) (some 2) (thenS (loop (W9 p1) (0,(CurveVector.mk 0 0))) (fun _=>some 0) (fun r=>some r))))
theorem Wh(p1 r)(h:Eb p1=some r):PCall prog 198 [(.agg [(.list (List.map Bk p1.Pts))])] (i64 r):=by
 refine C2 (fk func198 ntmps198 m0 (by with_unfolding_all rfl)) (nl W) ?_
 unfold Eb at h
 refine B4 (s0:=⟨T [(0,(.d _))],G []⟩) (F0 W W) ?_
 refine lr<|fun u1 _=>sm W<|sv W<|A1<|A5<|A7<|B0<|sq W<|sl W G_hit W<|sd W (D3 W)<|sv W<|sv W<|A1<|cc W h (fun c1 h=> ?_)<|fun c1 h=> ?_
 refine B0<|sv W<|A1<|B1 ?_
 cases h
 exact A6 (.inr W) (B6 (B3 W) C0) (.refl _)
 refine B0<|sq W<|sl W G_hit W<|sd W (D3 W)<|sv W<|sv W<|A1<|cc W h (fun c2 h=> ?_)<|fun c2 h=> ?_
 refine B0<|sv W<|A1<|B1 ?_
 cases h
 exact A6 (.inr W) (B6 (B3 W) C0) (.refl _)
 refine B0<|sq W<|sl W G_hit W<|bs h fun v1 hv1 h=>A9 W W A3 (JI _ _ hv1) (.inl W) (B8 (.d (bo (!v1))) W W (sv W<|A1<|cc W h (fun c3 h=> ?_)<|fun c3 h=> ?_))
 refine B0<|sv W<|A1<|B1 ?_
 cases h
 exact A6 (.inr W) (B6 (B3 W) C0) (.refl _)
 refine A8<|E0<|lr<|fun u8 _=>sm W<|A1<|A5<|B0<|sq W<|sl W (gq W) W (sd W (D3 W)<|sv W<|sv W<|A1<|js h fun z1 hz1 h=>D6 (fun s=> ∃(y1:Unit) (g1:Unit),z1= .inl y1∧Sb ⟨T [],G []⟩ s) ?_ ?_)
 refine A7<|E1 (W9 p1) (fun (x1:(Int×CurveVector)) (g2:Unit)=>⟨T [(1,(.ptr (1,u1) 0)),(3,(.ptr (3,u8) 0)),(26,(di<|D9 ((p1.Pts.length:Int) - 1))),(27,(di x1.1))],G [((1,u1),some<|.box 61 [(dl Bk p1.Pts)]),((3,u8),some<|.box 253 [(di x1.2.x),(di x1.2.y)])]⟩) (0,(CurveVector.mk 0 0)) () _ hz1 (F0 W W) ?_
 intro x1 g2 z2 hz2 ez2
 unfold W9 at hz2
 refine B0<|sv W<|A1<|A5<|cc W hz2 (fun c4 hz2=> ?_)<|fun c4 hz2=> ?_
 refine A8<|A5<|A7<|B0<|sv W<|sv W<|A1<|A5<|E8 W<|sq W<|sl W G_hit W<|sv W<|bs hz2 fun _ hv2 hz2=>sd W (C4 W W hv2 W)<|sd W (D1 W hv2 W W)<|sq W<|sl W G_hit W<|sv W<|sv W<|bs hz2 fun _ hv3 hz2=>sd W (C4 W W hv3 W)<|sd W (D1 W hv3 W W)<|bs hz2 fun v4 hv4 hz2=>A9 W W A3 (Yf _ _ _ hv4) (.inl W) (sm W<|S5 W G_hit [(di v4.x),(di v4.y)] W (A1<|B0<|sd W (B2 W G_hit W W)<|sd W (B2 W G_hit W W)<|bs hz2 fun _ hv5 hz2=>A9 W W A3 (Jx _ _ _ hv5) (.inl W) (bs hz2 fun v6 hv6 hz2=>A9 W W A3 (Yg _ _ hv6) (.inl W) (sv W<|sv W<|sv W<|sv W<|sv W<|A1<|A5<|A7<|B0<|sv W<|B8 (.d (bo (!v6.2))) W W (sv W<|A1<|cc W hz2 (fun c5 hz2=> ?_)<|fun c5 hz2=> ?_)))))
 refine B0<|sv W<|A1<|B1 ?_
 cases hz2
 obtain rfl:=ez2 _ rfl
 refine ⟨nofun,F2 ?_⟩
 rw [bX]at h
 cases h
 exact A6 (.inr W) (B6 (B3 W) C0) (.refl _)
 refine B0<|sv W<|sv W<|sv W<|gf W (fun _=>W)<|gf W (vb W W W)<|sd W (O5 W W<|fun hc=>A2<|J6 hc)<|sv W<|A1<|cc W hz2 (fun c6 hz2=> ?_)<|fun c6 hz2=> ?_
 refine B0<|sv W<|A1<|B1 ?_
 cases hz2
 obtain rfl:=ez2 _ rfl
 refine ⟨nofun,F2 ?_⟩
 rw [bX]at h
 cases h
 exact A6 (.inr W) (B6 (B3 W) C0) (.refl _)
 refine B0<|sv W<|sv W<|sv W<|gt W (fun _=>(B2 W (gq W) W W))<|gt W (fun _=>(B2 W G_hit W W))<|bs hz2 fun v7 hv7 hz2=> ?_
 refine N4 _ (i64 v7) (K3 W) (fun w5=>⟨_,[(.d (.agg [(i64 x1.2.x),(i64 x1.2.y)])),(.d (.agg [(i64 v4.x),(i64 v4.y)]))],_,_,(by simp only [A2 w5];rfl),W,A3,Jx _ _ _<|C1 w5 hv7,(.inl W)⟩) ?_
 refine gt W (vb W W W)<|sa W W W<|sv W<|A1<|cc W hz2 (fun c7 hz2=> ?_)<|fun c7 hz2=> ?_
 refine B0<|sv W<|A1<|B1 ?_
 cases hz2
 obtain rfl:=ez2 _ rfl
 refine ⟨nofun,F2 ?_⟩
 rw [bX]at h
 cases h
 exact A6 (.inr W) (B6 (B3 W) C0) (.refl _)
 refine A8<|E0<|B9<|sd W (B2 W G_hit W W)<|S5 W (gq W) [(di v4.x),(di v4.y)] W (A1<|E0<|B9<|sv W<|sv W<|A1<|E2 ?_)
 cases hz2
 exact ⟨W,(),(F0 W W)⟩
 refine C7 W ?_
 cases hz2
 obtain rfl:=ez2 _ rfl
 refine ⟨nofun,C5 W<|U1 ?_⟩
 exact ⟨_,(),W,(F0 W W)⟩
 rintro _ ⟨y1,g1,rfl,q1⟩
 rw [bW]at h
 refine B4 q1<|B0<|sv W<|A1<|B1 ?_
 cases h
 exact A6 (.inr W) (B6 (B3 W) C0) (.refl _)
def Bs (p1:(List Int))(p3:Int)(x1:(Int×Int)):Option (Stp (Int×Int) (Sum Unit Bool)):=
  cond (decide (x1.2< (p1.length:Int))) ((C3 p1 x1.2).bind fun v1=>cond ((decide (v1<x1.1))||(decide (v1≥p3))) (some (.out (.inr false))) (some (.go ((D9 (v1+1)),(D9 (x1.2+1)))))) (some (.out (.inl ())))
def Av [Lp](p1:(List Int))(p2:Int)(p3:Int):Option Bool:=
  thenS (loop (Bs p1 p3) (p2,0)) (fun _=>some true) (fun r=>some r)
theorem Ok(p1 p2 p3 r)(h:Av p1 p2 p3=some r):PCall prog 210 [(.list (List.map A4 p1)),(i64 p2),(i64 p3)] (bo r):=by
 refine C2 (fk func210 ntmps210 m0 (by with_unfolding_all rfl)) (nl W) ?_
 unfold Av at h
 refine B4 (s0:=⟨T [(0,(.d _)),(1,(.d _)),(2,(.d _))],G []⟩) (F0 W W) ?_
 refine B0<|sv W<|A1<|A5<|B0<|sv W<|sd W (D3 W)<|sv W<|A1<|js h fun z1 hz1 h=>D6 (fun s=> ∃(y1:Unit) (g1:Unit),z1= .inl y1∧Sb ⟨T [],G []⟩ s) ?_ ?_
 refine A7<|E1 (Bs p1 p3) (fun (x1:(Int×Int)) (g2:Unit)=>⟨T [(1,(di x1.1)),(2,(di p3)),(9,(dl A4 p1)),(10,(di (p1.length:Int))),(11,(di x1.2))],G []⟩) (p2,0) () _ hz1 (F0 W W) ?_
 intro x1 g2 z2 hz2 ez2
 unfold Bs at hz2
 refine B0<|sv W<|A1<|A5<|cc W hz2 (fun c1 hz2=> ?_)<|fun c1 hz2=> ?_
 refine A8<|A5<|A7<|B0<|bs hz2 fun _ hv1 hz2=>sd W (C4 W W hv1 W)<|sd W (C9 W hv1 W)<|sv W<|A1<|A5<|B0<|sv W<|sv W<|sv W<|sv W<|gf W (fun _=>W)<|gf W (fun _=>W)<|gf W (fun w3=>(M4 (A2 w3) (A2 w3) W))<|sd W (O5 W W<|fun hc=>A2<|J6 hc)<|A1<|cc W hz2 (fun c2 hz2=> ?_)<|fun c2 hz2=> ?_
 refine B0<|sv W<|A1<|B1 ?_
 cases hz2
 obtain rfl:=ez2 _ rfl
 refine ⟨nofun,F2 ?_⟩
 rw [bX]at h
 cases h
 exact A6 (.inr W) (B6 (B3 W) C0) (.refl _)
 refine A8<|B9<|sv W<|sv W<|sv W<|A1<|E0<|B9<|sv W<|sv W<|A1<|E2 ?_
 cases hz2
 exact ⟨W,(),(F0 W W)⟩
 refine C7 W ?_
 cases hz2
 obtain rfl:=ez2 _ rfl
 refine ⟨nofun,C5 W<|U1 ?_⟩
 exact ⟨_,(),W,(F0 W W)⟩
 rintro _ ⟨y1,g1,rfl,q1⟩
 rw [bW]at h
 refine B4 q1<|B0<|sv W<|A1<|B1 ?_
 cases h
 exact A6 (.inr W) (B6 (B3 W) C0) (.refl _)
def Q4 [Lp](p1:RoadsCheck)(x1:Int):Option (Stp Int (Sum Unit Int)):=
  cond (decide (x1< (p1.Map_.Lanes.length:Int))) ((C3 p1.Map_.Lanes x1).bind fun v1=>(Ea v1.Kind).bind fun v2=>cond (v2.1==0) (some (.out (.inr 4))) ((Eb v1.Curve_).bind fun v3=>cond (v3 !=0) (some (.out (.inr v3))) ((Ce v1.Half 200 4000).bind fun v4=>((cond (!(!v4)) (Ce v1.Limit 1 v2.1) (some default))).bind fun v5=>cond ((!v4)||(!v5)) (some (.out (.inr 2))) (cond (decide ((v1.Next.length:Int)>3)) (some (.out (.inr 8))) ((Av v1.Next (D9 (x1+1)) (p1.Map_.Lanes.length:Int)).bind fun v6=>cond (!v6) (some (.out (.inr 11))) (some (.go (D9 (x1+1))))))))) (some (.out (.inl ())))
def U3 [Lp](p1:RoadsCheck):Option Int:=
  thenS (loop (Q4 p1) 0) (fun _=>some 0) (fun r=>some r)
theorem Wi(p1 r)(h:U3 p1=some r):PCall prog 149 [(.agg (P6 p1.Map_))] (i64 r):=by
 refine C2 (fk func149 ntmps149 m0 (by with_unfolding_all rfl)) (nl W) ?_
 unfold U3 at h
 refine B4 (s0:=⟨T [(0,(.d _))],G []⟩) (F0 W W) ?_
 refine lr<|fun u1 _=>sm W<|sv W<|A1<|A5<|B0<|sq W<|sp W W<|sl W G_hit W<|sd W (D3 W)<|sv W<|A1<|js h fun z1 hz1 h=>D6 (fun s=> ∃(y1:Unit) (g1:Unit),z1= .inl y1∧Sb ⟨T [],G []⟩ s) ?_ ?_
 refine A7<|E1 (Q4 p1) (fun (x1:Int) (g2:Unit)=>⟨T [(1,(.ptr (1,u1) 0)),(11,(dl Ev p1.Map_.Lanes)),(12,(di (p1.Map_.Lanes.length:Int))),(13,(di x1))],G [((1,u1),some<|.box 212 (L4 p1.Map_))]⟩) 0 () _ hz1 (F0 W W) ?_
 intro x1 g2 z2 hz2 ez2
 unfold Q4 at hz2
 refine B0<|sv W<|A1<|A5<|cc W hz2 (fun c1 hz2=> ?_)<|fun c1 hz2=> ?_
 refine A8<|A5<|A7<|B0<|sv W<|bs hz2 fun v1 hv1 hz2=>sd W (C4 W W hv1 W)<|sd W (D1 W hv1 W W)<|sm W<|sv W<|S5 W G_hit (BK v1) W (A1<|B0<|sq W<|sl W G_hit W<|bs hz2 fun v2 hv2 hz2=>A9 W W A3 (Km _ _ hv2) (.inl W) (sv W<|sv W<|sv W<|sv W<|sv W<|sv W<|sv W<|A1<|A5<|B0<|sv W<|sv W<|A1<|cc W hz2 (fun c2 hz2=> ?_)<|fun c2 hz2=> ?_))
 refine B0<|sv W<|A1<|B1 ?_
 cases hz2
 obtain rfl:=ez2 _ rfl
 refine ⟨nofun,F2 ?_⟩
 rw [bX]at h
 cases h
 exact A6 (.inr W) (B6 (B3 W) C0) (.refl _)
 refine A8<|A5<|B0<|sq W<|sd W (B2 W G_hit W W)<|bs hz2 fun _ hv3 hz2=>A9 W W A3 (Wh _ _ hv3) (.inl W) (sv W<|A1<|B0<|sv W<|sv W<|A1<|cc W hz2 (fun c3 hz2=> ?_)<|fun c3 hz2=> ?_)
 refine B0<|sv W<|sv W<|A1<|B1 ?_
 cases hz2
 obtain rfl:=ez2 _ rfl
 refine ⟨nofun,F2 ?_⟩
 rw [bX]at h
 cases h
 exact A6 (.inr W) (B6 (B3 W) C0) (.refl _)
 refine A8<|A7<|B0<|sq W<|sl W G_hit W<|bs hz2 fun v4 hv4 hz2=>A9 W W A3 (Dp _ _ _ _ hv4) (.inl W) (B8 (.d (bo (!v4))) W W (sv W<|gp W (K6 W) (fun _=>W) (gf W (vl W G_hit W)<|gf W (fun _=>W)<|bs hz2 fun v5 hv5 hz2=> ?_)))
 refine N4 _ (bo v5) (K6 W) (fun w4=>⟨_,[(di v1.Limit),(di 1),(di v2.1)],_,_,(by simp only [A2 w4];rfl),W,A3,Dp _ _ _ _<|C1 w4 hv5,(.inl W)⟩) ?_
 refine M5 _ (.d (bo (!v5))) W (K6 W) (fun w5=>(by simp only [A2 w5];rfl)) ?_
 refine sd W (O5 W W<|fun hc=>A2<|J6 hc)<|sv W<|A1<|cc W hz2 (fun c4 hz2=> ?_)<|fun c4 hz2=> ?_
 refine B0<|sv W<|A1<|B1 ?_
 cases hz2
 obtain rfl:=ez2 _ rfl
 refine ⟨nofun,F2 ?_⟩
 rw [bX]at h
 cases h
 exact A6 (.inr W) (B6 (B3 W) C0) (.refl _)
 refine B0<|sq W<|sl W G_hit W<|sd W (D3 W)<|sv W<|sv W<|A1<|cc W hz2 (fun c5 hz2=> ?_)<|fun c5 hz2=> ?_
 refine B0<|sv W<|A1<|B1 ?_
 cases hz2
 obtain rfl:=ez2 _ rfl
 refine ⟨nofun,F2 ?_⟩
 rw [bX]at h
 cases h
 exact A6 (.inr W) (B6 (B3 W) C0) (.refl _)
 refine B0<|sq W<|sl W G_hit W<|sv W<|sv W<|sq W<|sp W W<|sl W (gq W) W (sd W (D3 W)<|bs hz2 fun v6 hv6 hz2=>A9 W W A3 (Ok _ _ _ _ hv6) (.inl W) (B8 (.d (bo (!v6))) W W (sv W<|A1<|cc W hz2 (fun c6 hz2=> ?_)<|fun c6 hz2=> ?_)))
 refine B0<|sv W<|A1<|B1 ?_
 cases hz2
 obtain rfl:=ez2 _ rfl
 refine ⟨nofun,F2 ?_⟩
 rw [bX]at h
 cases h
 exact A6 (.inr W) (B6 (B3 W) C0) (.refl _)
 refine A8<|E0<|E0<|B9<|sv W<|sv W<|A1<|E2 ?_
 cases hz2
 exact ⟨W,(),(F0 W W)⟩
 refine C7 W ?_
 cases hz2
 obtain rfl:=ez2 _ rfl
 refine ⟨nofun,C5 W<|U1 ?_⟩
 exact ⟨_,(),W,(F0 W W)⟩
 rintro _ ⟨y1,g1,rfl,q1⟩
 rw [bW]at h
 refine B4 q1<|B0<|sv W<|A1<|B1 ?_
 cases h
 exact A6 (.inr W) (B6 (B3 W) C0) (.refl _)
def W6 (p1:RoadsCheck)(v1:Lane)(v2:Spot)(x2:Int):Option (Stp Int (Sum Unit Int)):=
  cond (decide (x2< (v1.Next.length:Int))) ((C3 v1.Next x2).bind fun v3=>(C3 p1.Map_.Lanes v3).bind fun v4=>cond (v4.Kind !=v1.Kind) (some (.out (.inr 4))) ((C3 p1.Map_.Lanes v3).bind fun v5=>(C3 v5.Curve_.Pts 0).bind fun v6=>cond (!(v6.X==v2.X&& (v6.Y==v2.Y&&true))) (some (.out (.inr 3))) (some (.go (D9 (x2+1)))))) (some (.out (.inl ())))
def O9 [Lp](p1:RoadsCheck)(x1:Int):Option (Stp Int (Sum Unit Int)):=
  cond (decide (x1< (p1.Map_.Lanes.length:Int))) ((C3 p1.Map_.Lanes x1).bind fun v1=>(C3 v1.Curve_.Pts (D9 ((v1.Curve_.Pts.length:Int) - 1))).bind fun v2=>thenS (loop (W6 p1 v1 v2) 0) (fun _=>some (.go (D9 (x1+1)))) (fun r=>some (.out (.inr r)))) (some (.out (.inl ())))
def T4 [Lp](p1:RoadsCheck):Option Int:=
  thenS (loop (O9 p1) 0) (fun _=>some 0) (fun r=>some r)
theorem Vb(p1 r)(h:T4 p1=some r):PCall prog 150 [(.agg (P6 p1.Map_))] (i64 r):=by
 refine C2 (fk func150 ntmps150 m0 (by with_unfolding_all rfl)) (nl W) ?_
 unfold T4 at h
 refine B4 (s0:=⟨T [(0,(.d _))],G []⟩) (F0 W W) ?_
 refine lr<|fun u1 _=>sm W<|sv W<|A1<|A5<|B0<|sq W<|sp W W<|sl W G_hit W<|sd W (D3 W)<|sv W<|A1<|js h fun z1 hz1 h=>D6 (fun s=> ∃(y1:Unit) (g1:Unit),z1= .inl y1∧Sb ⟨T [],G []⟩ s) ?_ ?_
 refine A7<|E1 (O9 p1) (fun (x1:Int) (g2:Unit)=>⟨T [(1,(.ptr (1,u1) 0)),(10,(dl Ev p1.Map_.Lanes)),(11,(di (p1.Map_.Lanes.length:Int))),(12,(di x1))],G [((1,u1),some<|.box 212 (L4 p1.Map_))]⟩) 0 () _ hz1 (F0 W W) ?_
 intro x1 g2 z2 hz2 ez2
 unfold O9 at hz2
 refine B0<|sv W<|A1<|A5<|cc W hz2 (fun c1 hz2=> ?_)<|fun c1 hz2=> ?_
 refine A8<|A5<|A7<|lr<|fun u4 _=>bs hz2 fun v1 hv1 hz2=>sd W (C4 W W hv1 W)<|sd W (D1 W hv1 W W)<|sm W<|S5 W G_hit (BK v1) W (A1<|lr<|fun u5 _=>sq W<|sq W<|sl W G_hit W<|sq W<|sp W W<|sl W G_hit W<|sd W (D3 W)<|sv W<|bs hz2 fun v2 hv2 hz2=>sd W (C4 W W hv2 W)<|sd W (D1 W hv2 W W)<|sm W<|S5 W G_hit [(di v2.X),(di v2.Y)] W (A1<|B0<|sq W<|sl W (gq W) W (sd W (D3 W)<|sv W<|A1<|js hz2 fun z3 hz3 hz2=>D6 (fun s=> ∃(y2:Unit) (g3:Unit),z3= .inl y2∧Sb ⟨T [(1,(.ptr (1,u1) 0)),(10,(dl Ev p1.Map_.Lanes)),(11,(di (p1.Map_.Lanes.length:Int))),(12,(di x1))],G [((1,u1),some<|.box 212 (L4 p1.Map_))]⟩ s) ?_ ?_)))
 refine A7<|E1 (W6 p1 v1 v2) (fun (x2:Int) (g4:Unit)=>⟨T [(1,(.ptr (1,u1) 0)),(4,(.ptr (4,u4) 0)),(5,(.ptr (5,u5) 0)),(10,(dl Ev p1.Map_.Lanes)),(11,(di (p1.Map_.Lanes.length:Int))),(12,(di x1)),(27,(dl A4 v1.Next)),(28,(di (v1.Next.length:Int))),(29,(di x2))],G [((1,u1),some<|.box 212 (L4 p1.Map_)),((4,u4),some<|.box 63 (BK v1)),((5,u5),some<|.box 104 [(di v2.X),(di v2.Y)])]⟩) 0 () _ hz3 (F0 W W) ?_
 intro x2 g4 z4 hz4 ez4
 unfold W6 at hz4
 refine B0<|sv W<|A1<|A5<|cc W hz4 (fun c2 hz4=> ?_)<|fun c2 hz4=> ?_
 refine A8<|A5<|A7<|B0<|bs hz4 fun _ hv3 hz4=>sd W (C4 W W hv3 W)<|sd W (C9 W hv3 W)<|sv W<|A1<|A5<|A5<|E8 W<|sq W<|sq W<|sl W G_hit W<|sv W<|bs hz4 fun _ hv4 hz4=>sd W (C4 W W hv4 W)<|sv W<|sd W (C9 W hv4 W)<|sq W<|sl W (gq W) W (sv W<|A1<|cc W hz4 (fun c3 hz4=> ?_)<|fun c3 hz4=> ?_)
 refine B0<|sv W<|A1<|B1 ?_
 cases hz4
 obtain rfl:=ez4 _ rfl
 refine ⟨nofun,F2 ?_⟩
 rw [bX]at hz2
 cases hz2
 obtain rfl:=ez2 _ rfl
 refine ⟨nofun,F2 ?_⟩
 rw [bX]at h
 cases h
 exact A6 (.inr W) (B6 (B3 W) C0) (.refl _)
 refine A8<|A5<|E8 W<|sq W<|sq W<|sl W G_hit W<|sv W<|bs hz4 fun _ hv5 hz4=>sd W (C4 W W hv5 W)<|sv W<|sv W<|sd W (C9 W hv5 W)<|bs hz4 fun v6 hv6 hz4=>sd W (C4 W W hv6 W)<|sd W (D1 W hv6 W W)<|sd W (B2 W (gq W) W W)<|B8 (.d (bo (!(v6.X==v2.X&& (v6.Y==v2.Y&&true))))) W W (A1<|cc W hz4 (fun c4 hz4=> ?_)<|fun c4 hz4=> ?_)
 refine B0<|sv W<|A1<|B1 ?_
 cases hz4
 obtain rfl:=ez4 _ rfl
 refine ⟨nofun,F2 ?_⟩
 rw [bX]at hz2
 cases hz2
 obtain rfl:=ez2 _ rfl
 refine ⟨nofun,F2 ?_⟩
 rw [bX]at h
 cases h
 exact A6 (.inr W) (B6 (B3 W) C0) (.refl _)
 refine A8<|E0<|B9<|sv W<|sv W<|A1<|E2 ?_
 cases hz4
 exact ⟨W,(),(F0 W W)⟩
 refine C7 W ?_
 cases hz4
 obtain rfl:=ez4 _ rfl
 refine ⟨nofun,C5 W<|U1 ?_⟩
 exact ⟨_,(),W,(F0 W W)⟩
 rintro _ ⟨y2,g3,rfl,q1⟩
 rw [bW]at hz2
 refine E0<|B4 q1<|B9<|sv W<|sv W<|A1<|E2 ?_
 cases hz2
 exact ⟨W,(),(F0 W W)⟩
 refine C7 W ?_
 cases hz2
 obtain rfl:=ez2 _ rfl
 refine ⟨nofun,C5 W<|U1 ?_⟩
 exact ⟨_,(),W,(F0 W W)⟩
 rintro _ ⟨y1,g1,rfl,q2⟩
 rw [bW]at h
 refine B4 q2<|B0<|sv W<|A1<|B1 ?_
 cases h
 exact A6 (.inr W) (B6 (B3 W) C0) (.refl _)
def Df (p1:Phase):Option Bool:=
  (Ce p1.Ticks 1 10000).bind fun v1=>some (!v1)
theorem Se(p1 r)(h:Df p1=some r):PCall prog 212 [(.agg [(i64 p1.Ticks),(.list (List.map A4 p1.Green))])] (bo r):=by
 refine C2 (fk func212 ntmps212 m0 (by with_unfolding_all rfl)) (nl W) ?_
 unfold Df at h
 refine B4 (s0:=⟨T [(0,(.d _))],G []⟩) (F0 W W) ?_
 refine B0<|sm W<|sv W<|A1<|B0<|sq W<|sl W G_hit W<|bs h fun v1 hv1 h=>A9 W W A3 (Dp _ _ _ _ hv1) (.inl W) (B8 (.d (bo (!v1))) W W (sv W<|A1<|B1 ?_))
 cases h
 exact A6 (.inr W) (B6 (B3 W) C0) (.refl _)
def J3 (p1:(List Phase))(x1:Int):Option (Stp Int (Sum Unit Int)):=
  cond (decide (x1< (p1.length:Int))) ((C3 p1 x1).bind fun v1=>(Df v1).bind fun v2=>cond v2 (some (.out (.inr x1))) (some (.go (D9 (x1+1))))) (some (.out (.inl ())))
def G6 [Lp](p1:(List Phase)):Option Int:=
  thenS (loop (J3 p1) 0) (fun _=>some (-1)) (fun r=>some r)
theorem Ca(p1 r)(h:G6 p1=some r):PCall prog 243 [(.list (List.map Ak p1)),(.fn (.func 212) [] [])] (i64 r):=by
 refine C2 (fk func243 ntmps243 m0 (by with_unfolding_all rfl)) (nl W) ?_
 unfold G6 at h
 refine B4 (s0:=⟨T [(0,(.d _)),(1,(.d _))],G []⟩) (F0 W W) ?_
 refine B0<|sv W<|A1<|A5<|B0<|sv W<|sd W (D3 W)<|sv W<|A1<|js h fun z1 hz1 h=>D6 (fun s=> ∃(y1:Unit) (g1:Unit),z1= .inl y1∧Sb ⟨T [],G []⟩ s) ?_ ?_
 refine A7<|E1 (J3 p1) (fun (x1:Int) (g2:Unit)=>⟨T [(0,(dl Ak p1)),(1,(.d (.fn (.func 212) [] []))),(7,(di (p1.length:Int))),(8,(di x1))],G []⟩) 0 () _ hz1 (F0 W W) ?_
 intro x1 g2 z2 hz2 ez2
 unfold J3 at hz2
 refine B0<|sv W<|A1<|A5<|cc W hz2 (fun c1 hz2=> ?_)<|fun c1 hz2=> ?_
 refine A8<|A5<|A7<|B0<|sv W<|sv W<|A1<|B0<|sv W<|sv W<|sv W<|bs hz2 fun _ hv1 hz2=>sd W (C4 W W hv1 W)<|sd W (D1 W hv1 W W)<|bs hz2 fun _ hv2 hz2=>A9 W W A3 (Se _ _ hv2) (.inl W) (A1<|cc W hz2 (fun c2 hz2=> ?_)<|fun c2 hz2=> ?_)
 refine B0<|sv W<|sv W<|A1<|B1 ?_
 cases hz2
 obtain rfl:=ez2 _ rfl
 refine ⟨nofun,F2 ?_⟩
 rw [bX]at h
 cases h
 exact A6 (.inr W) (B6 (B3 W) C0) (.refl _)
 refine A8<|E0<|B9<|sv W<|sv W<|A1<|E2 ?_
 cases hz2
 exact ⟨W,(),(F0 W W)⟩
 refine C7 W ?_
 cases hz2
 obtain rfl:=ez2 _ rfl
 refine ⟨nofun,C5 W<|U1 ?_⟩
 exact ⟨_,(),W,(F0 W W)⟩
 rintro _ ⟨y1,g1,rfl,q1⟩
 rw [bW]at h
 refine B4 q1<|B0<|sv W<|A1<|B1 ?_
 cases h
 exact A6 (.inr W) (B6 (B3 W) C0) (.refl _)
def E9 [Lp](p1:(List Phase)):Option Bool:=
  (G6 p1).bind fun v1=>some (decide (v1≥0))
theorem Bd(p1 r)(h:E9 p1=some r):PCall prog 211 [(.list (List.map Ak p1)),(.fn (.func 212) [] [])] (bo r):=by
 refine C2 (fk func211 ntmps211 m0 (by with_unfolding_all rfl)) (nl W) ?_
 unfold E9 at h
 refine B4 (s0:=⟨T [(0,(.d _)),(1,(.d _))],G []⟩) (F0 W W) ?_
 refine B0<|sv W<|A1<|B0<|sv W<|sv W<|bs h fun _ hv1 h=>A9 W W A3 (Ca _ _ hv1) (.inl W) (sv W<|sv W<|A1<|B1 ?_)
 cases h
 exact A6 (.inr W) (B6 (B3 W) C0) (.refl _)
def R9 [Lp](p1:Phase)(p2:RoadsCheck):Option Bool:=
  (Av p1.Green 0 (p2.Map_.Lanes.length:Int)).bind fun v1=>some (!v1)
theorem Qh(p1 p2 r)(h:R9 p1 p2=some r):PCall prog 213 [(.agg [(i64 p1.Ticks),(.list (List.map A4 p1.Green))]),(.bp (P6 p2.Map_) 0)] (bo r):=by
 refine C2 (fk func213 ntmps213 m0 (by with_unfolding_all rfl)) (nl W) ?_
 unfold R9 at h
 refine B4 (s0:=⟨T [(0,(.d _)),(1,(.d _))],G []⟩) (F0 W W) ?_
 refine B0<|sm W<|sv W<|A1<|B0<|sq W<|sl W G_hit W<|sv W<|sv W<|sv W<|sd W (D3 W)<|bs h fun v1 hv1 h=>A9 W W A3 (Ok _ _ _ _ hv1) (.inl W) (B8 (.d (bo (!v1))) W W (sv W<|A1<|B1 ?_))
 cases h
 exact A6 (.inr W) (B6 (B3 W) C0) (.refl _)
def E6 [Lp](p1:(List Phase))(p2:RoadsCheck)(x1:Int):Option (Stp Int (Sum Unit Int)):=
  cond (decide (x1< (p1.length:Int))) ((C3 p1 x1).bind fun v1=>(R9 v1 p2).bind fun v2=>cond v2 (some (.out (.inr x1))) (some (.go (D9 (x1+1))))) (some (.out (.inl ())))
def G4 [Lp](p1:(List Phase))(p2:RoadsCheck):Option Int:=
  thenS (loop (E6 p1 p2) 0) (fun _=>some (-1)) (fun r=>some r)
theorem Bt(p1 p2 r)(h:G4 p1 p2=some r):PCall prog 243 [(.list (List.map Ak p1)),(.fn (.func 213) [] [(.bp (P6 p2.Map_) 0)])] (i64 r):=by
 refine C2 (fk func243 ntmps243 m0 (by with_unfolding_all rfl)) (nl W) ?_
 unfold G4 at h
 refine B4 (s0:=⟨T [(0,(.d _)),(1,(.d _))],G []⟩) (F0 W W) ?_
 refine B0<|sv W<|A1<|A5<|B0<|sv W<|sd W (D3 W)<|sv W<|A1<|js h fun z1 hz1 h=>D6 (fun s=> ∃(y1:Unit) (g1:Unit),z1= .inl y1∧Sb ⟨T [],G []⟩ s) ?_ ?_
 refine A7<|E1 (E6 p1 p2) (fun (x1:Int) (g2:Unit)=>⟨T [(0,(dl Ak p1)),(1,(.d (.fn (.func 213) [] [(.bp (P6 p2.Map_) 0)]))),(7,(di (p1.length:Int))),(8,(di x1))],G []⟩) 0 () _ hz1 (F0 W W) ?_
 intro x1 g2 z2 hz2 ez2
 unfold E6 at hz2
 refine B0<|sv W<|A1<|A5<|cc W hz2 (fun c1 hz2=> ?_)<|fun c1 hz2=> ?_
 refine A8<|A5<|A7<|B0<|sv W<|sv W<|A1<|B0<|sv W<|sv W<|sv W<|bs hz2 fun _ hv1 hz2=>sd W (C4 W W hv1 W)<|sd W (D1 W hv1 W W)<|bs hz2 fun _ hv2 hz2=>A9 W W A3 (Qh _ _ _ hv2) (.inl W) (A1<|cc W hz2 (fun c2 hz2=> ?_)<|fun c2 hz2=> ?_)
 refine B0<|sv W<|sv W<|A1<|B1 ?_
 cases hz2
 obtain rfl:=ez2 _ rfl
 refine ⟨nofun,F2 ?_⟩
 rw [bX]at h
 cases h
 exact A6 (.inr W) (B6 (B3 W) C0) (.refl _)
 refine A8<|E0<|B9<|sv W<|sv W<|A1<|E2 ?_
 cases hz2
 exact ⟨W,(),(F0 W W)⟩
 refine C7 W ?_
 cases hz2
 obtain rfl:=ez2 _ rfl
 refine ⟨nofun,C5 W<|U1 ?_⟩
 exact ⟨_,(),W,(F0 W W)⟩
 rintro _ ⟨y1,g1,rfl,q1⟩
 rw [bW]at h
 refine B4 q1<|B0<|sv W<|A1<|B1 ?_
 cases h
 exact A6 (.inr W) (B6 (B3 W) C0) (.refl _)
def E7 [Lp](p1:(List Phase))(p2:RoadsCheck):Option Bool:=
  (G4 p1 p2).bind fun v1=>some (decide (v1≥0))
theorem Aw(p1 p2 r)(h:E7 p1 p2=some r):PCall prog 211 [(.list (List.map Ak p1)),(.fn (.func 213) [] [(.bp (P6 p2.Map_) 0)])] (bo r):=by
 refine C2 (fk func211 ntmps211 m0 (by with_unfolding_all rfl)) (nl W) ?_
 unfold E7 at h
 refine B4 (s0:=⟨T [(0,(.d _)),(1,(.d _))],G []⟩) (F0 W W) ?_
 refine B0<|sv W<|A1<|B0<|sv W<|sv W<|bs h fun _ hv1 h=>A9 W W A3 (Bt _ _ _ hv1) (.inl W) (sv W<|sv W<|A1<|B1 ?_)
 cases h
 exact A6 (.inr W) (B6 (B3 W) C0) (.refl _)
def O1 [Lp](p1:RoadsCheck)(x1:Int):Option (Stp Int (Sum Unit Int)):=
  cond (decide (x1< (p1.Map_.Signals.length:Int))) ((C3 p1.Map_.Signals x1).bind fun v1=>cond ((v1.Phases.length:Int)==0) (some (.out (.inr 6))) (cond (decide ((v1.Phases.length:Int)>6)) (some (.out (.inr 8))) ((Ce v1.Offset 0 1099511627776).bind fun v2=>cond (!v2) (some (.out (.inr 2))) ((E9 v1.Phases).bind fun v3=>cond v3 (some (.out (.inr 2))) ((E7 v1.Phases p1).bind fun v4=>cond v4 (some (.out (.inr 11))) (some (.go (D9 (x1+1))))))))) (some (.out (.inl ())))
def R7 [Lp](p1:RoadsCheck):Option Int:=
  thenS (loop (O1 p1) 0) (fun _=>some 0) (fun r=>some r)
theorem Tv(p1 r)(h:R7 p1=some r):PCall prog 151 [(.agg (P6 p1.Map_))] (i64 r):=by
 refine C2 (fk func151 ntmps151 m0 (by with_unfolding_all rfl)) (nl W) ?_
 unfold R7 at h
 refine B4 (s0:=⟨T [(0,(.d _))],G []⟩) (F0 W W) ?_
 refine lr<|fun u1 _=>sm W<|sv W<|A1<|A5<|B0<|sq W<|sp W W<|sl W G_hit W<|sd W (D3 W)<|sv W<|A1<|js h fun z1 hz1 h=>D6 (fun s=> ∃(y1:Unit) (g1:Unit),z1= .inl y1∧Sb ⟨T [],G []⟩ s) ?_ ?_
 refine A7<|E1 (O1 p1) (fun (x1:Int) (g2:Unit)=>⟨T [(1,(.ptr (1,u1) 0)),(8,(dl Lq p1.Map_.Signals)),(9,(di (p1.Map_.Signals.length:Int))),(10,(di x1))],G [((1,u1),some<|.box 212 (L4 p1.Map_))]⟩) 0 () _ hz1 (F0 W W) ?_
 intro x1 g2 z2 hz2 ez2
 unfold O1 at hz2
 refine B0<|sv W<|A1<|A5<|cc W hz2 (fun c1 hz2=> ?_)<|fun c1 hz2=> ?_
 refine A8<|A5<|A7<|B0<|bs hz2 fun v1 hv1 hz2=>sd W (C4 W W hv1 W)<|sd W (D1 W hv1 W W)<|sm W<|S5 W G_hit [(di v1.Offset),(dl Ak v1.Phases)] W (A1<|B0<|sq W<|sl W G_hit W<|sd W (D3 W)<|sv W<|A1<|A7<|B0<|sv W<|sv W<|sv W<|A1<|cc W hz2 (fun c2 hz2=> ?_)<|fun c2 hz2=> ?_)
 refine B0<|sv W<|A1<|B1 ?_
 cases hz2
 obtain rfl:=ez2 _ rfl
 refine ⟨nofun,F2 ?_⟩
 rw [bX]at h
 cases h
 exact A6 (.inr W) (B6 (B3 W) C0) (.refl _)
 refine B0<|sv W<|sv W<|sv W<|A1<|cc W hz2 (fun c3 hz2=> ?_)<|fun c3 hz2=> ?_
 refine B0<|sv W<|A1<|B1 ?_
 cases hz2
 obtain rfl:=ez2 _ rfl
 refine ⟨nofun,F2 ?_⟩
 rw [bX]at h
 cases h
 exact A6 (.inr W) (B6 (B3 W) C0) (.refl _)
 refine B0<|sq W<|sl W G_hit W<|bs hz2 fun v2 hv2 hz2=>A9 W W A3 (Dp _ _ _ _ hv2) (.inl W) (B8 (.d (bo (!v2))) W W (sv W<|A1<|cc W hz2 (fun c4 hz2=> ?_)<|fun c4 hz2=> ?_))
 refine B0<|sv W<|A1<|B1 ?_
 cases hz2
 obtain rfl:=ez2 _ rfl
 refine ⟨nofun,F2 ?_⟩
 rw [bX]at h
 cases h
 exact A6 (.inr W) (B6 (B3 W) C0) (.refl _)
 refine B0<|sq W<|sl W G_hit W<|bs hz2 fun _ hv3 hz2=>A9 W W A3 (Bd _ _ hv3) (.inl W) (sv W<|A1<|cc W hz2 (fun c5 hz2=> ?_)<|fun c5 hz2=> ?_)
 refine B0<|sv W<|A1<|B1 ?_
 cases hz2
 obtain rfl:=ez2 _ rfl
 refine ⟨nofun,F2 ?_⟩
 rw [bX]at h
 cases h
 exact A6 (.inr W) (B6 (B3 W) C0) (.refl _)
 refine B0<|sq W<|sl W G_hit W<|B8 (.fn _ _ _) W W (bs hz2 fun _ hv4 hz2=>A9 W (rD<|E4 (Xx F9<|E4 (Aj (gq W)<|rD<|rD<|rD<|rD<|rD F9) F9) F9) A3 (Aw _ _ _ hv4) (.inr W) (sv W<|A1<|cc W hz2 (fun c6 hz2=> ?_)<|fun c6 hz2=> ?_))
 refine B0<|sv W<|A1<|B1 ?_
 cases hz2
 obtain rfl:=ez2 _ rfl
 refine ⟨nofun,F2 ?_⟩
 rw [bX]at h
 cases h
 exact A6 (.inr W) (B6 (B3 W) C0) (.refl _)
 refine A8<|E0<|E0<|B9<|sv W<|sv W<|A1<|E2 ?_
 cases hz2
 exact ⟨W,(),(F0 W W)⟩
 refine C7 W ?_
 cases hz2
 obtain rfl:=ez2 _ rfl
 refine ⟨nofun,C5 W<|U1 ?_⟩
 exact ⟨_,(),W,(F0 W W)⟩
 rintro _ ⟨y1,g1,rfl,q1⟩
 rw [bW]at h
 refine B4 q1<|B0<|sv W<|A1<|B1 ?_
 cases h
 exact A6 (.inr W) (B6 (B3 W) C0) (.refl _)
/-- kerbstone/curve.pieces$1 -/
def Rn:AC:=(.seq (.reg [oo 3 (.mv (ci 0))]) (.seq (.reg [oo 8 (.fieldA 0 (.t 1)),oo 9 (.load 1 false (.t 8)),oo 10 (.len (.t 9)),oo 11 (.bin .sub (.t 10) (ci 1)),oo 12 (.mv (ci 0))]) (.block 0 (.loop (.seq (.reg [oo 13 (.bin .lss (.t 12) (.t 11))]) (.seq (.cond (.t 13) .skip (.exit 0)) (.seq (.block 1 (.seq (.reg [oo 14 (.mv (.t 12)),oo 4 (.mv (.t 14))]) (.seq (.draw [oo 15 (.fieldA 0 (.t 1)),oo 16 (.load 1 false (.t 15)),oo 17 (.mv (.t 4)),oo 18 (.idxS 2 (.t 16) (.t 17)),oo 19 (.load 2 true (.t 18)),oo 20 (.fieldA 0 (.t 1)),oo 21 (.load 1 false (.t 20)),oo 22 (.mv (.t 4)),oo 23 (.bin .add (.t 22) (ci 1)),oo 24 (.idxS 2 (.t 21) (.t 23)),oo 25 (.load 2 true (.t 24)),oo 26 (.call (cf 238) [(.t 19),(.t 25)]),oo 5 (.alloc 253 [z0,z0]),oe (.store 2 (.t 5) (.t 26))] []) (.seq (.reg [oo 28 (.load 2 true (.t 5)),oo 29 (.load 2 true (.t 5)),oo 30 (.call (cf 240) [(.t 28),(.t 29)]),oo 31 (.call (cf 239) [(.t 30)]),oo 27 (.mv (.t 31)),oo 32 (.ext (.t 27) 0),oo 33 (.ext (.t 27) 1),oo 6 (.mv (.t 32)),oo 7 (.mv (.t 33))]) (.seq (.seq (.drawB [oo 34 (.mv (.t 0)),oo 35 (.mv (.t 4)),oo 36 (.fieldA 0 (.t 1)),oo 37 (.load 1 false (.t 36)),oo 38 (.mv (.t 4)),oo 39 (.idxS 2 (.t 37) (.t 38)),oo 40 (.load 2 true (.t 39)),oo 41 (.load 2 true (.t 5)),oo 42 (.mv (.t 6)),oo 43 (.mv (.t 3)),oo 44 (.build [z0,z0,z0,z0,z0,z0] [(0,2,(.t 40)),(2,2,(.t 41)),(4,1,(.t 42)),(5,1,(.t 43))]),oo 45 (.icall (.t 34) [(.t 35),(.t 44)]),oo 46 (.un .not (.t 45))] 11 []) (.cond (.t 46) .ret .skip)) (.reg [oo 47 (.mv (.t 3)),oo 48 (.mv (.t 6)),oo 49 (.bin .add (.t 47) (.t 48)),oo 3 (.mv (.t 49))])))))) (.reg [oo 50 (.bin .add (.t 12) (ci 1)),oo 12 (.mv (.t 50))]))))))))
theorem BO:FnOK prog 260 51 [] Rn:=⟨_,_,func260,rfl,ntmps260,by kernel_rfl,⟨fun r=>if r==6 then [11]else [],by kernel_rfl⟩,by kernel_rfl⟩
/-- The pieces of a chain of points, from a number on. -/
def Hf [Lp](pts:List Spot):Nat→Nat→Int→Option (List (Int×CurvePiece))
  |0,_,_=>some []
  |n+1,i,start=>(pts[i]?).bind fun p=>(pts[i+1]?).bind fun q=>(My p q).bind fun v=>(Ap v v).bind fun d=>(Et d).bind fun r=>
   (Hf pts n (i+1) (D9 (start+r.1))).bind fun l=>some (((i:Int),CurvePiece.mk p v r.1 start)::l)
def Ro [Lp](pts:List Spot):Option (List (Int×CurvePiece)):=if pts.length≤1000000 then Hf pts (pts.length - 1) 0 0 else none
/-- kerbstone/curve.pieces -/
def Us:AC:=(.seq (.reg [oo 1 (.box 61 true (.t 0)),oo 2 (.mv (.c (.v .nilFunc)))]) (.seq (.reg [oo 3 (.mkfn (.func 260) [] [(.t 1)]),oo 2 (.mv (.t 3))]) .ret))
theorem EU:FnOK prog 241 4 [.t 2] Us:=⟨_,_,func241,rfl,ntmps241,by kernel_rfl,⟨fun _=> [],by kernel_rfl⟩,by kernel_rfl⟩
abbrev MP (a:Int×CurvePiece):List D:= [i64 a.1, .agg [i64 a.2.p.X,i64 a.2.p.Y,i64 a.2.v.x,i64 a.2.v.y,i64 a.2.l,i64 a.2.start]]
theorem PE (c:Curve):PCall prog 241 [.agg [.list (List.map Bk c.Pts)]] (.fn (.func 260) [] [.bp [.list (List.map Bk c.Pts)] 0]):=by
  refine YI EU (by simp) ?_
  unfold Us
  refine Mn<|Pv fun _ _=> ?_
  refine RJ (.ptr _ _) _ W W ?_
  refine G3 (.d _) W W ?_
  refine Ai ?_
  refine Mn<|Pv fun u' hu'=> ?_
  refine G3 (.fn _ _ _) W W ?_
  refine G3 (.fn _ _ _) W W ?_
  refine Ai ?_
  refine RF ⟨.inr W,?_⟩
  refine B6 (B3 (v:= .fn _ _ _) W) ?_
  exact Xx F9<|E4 (Aj (by simp only [Ah,if_true];rfl)<|E4 C0 F9) F9
theorem ZR (ps:List Spot)(n:Int)(i:Nat)(p:Spot)(hn:n=i)(h:ps[i]? =some p):(List.map Bk ps)[n.toNat]? =some (Bk p):=by
  subst hn
  rw [bY,lK,h];rfl
theorem RZ {n:Int}(h: -9223372036854775808≤n∧n≤9223372036854775807):D9 n=n:=Go.IntWalk.i64_in n h
theorem EV (pts:List Spot): ∀n i s L,Hf pts n i s=some L→L.length=n:=by
  intro n
  induction n with
  |zero=>intro i s L h;cases h;rfl
  |succ n ih=>
   intro i s L h
   rw [Hf]at h
   obtain ⟨p,hp,h⟩:=bind_some h
   obtain ⟨q,hq,h⟩:=bind_some h
   obtain ⟨v,hv,h⟩:=bind_some h
   obtain ⟨d,hd,h⟩:=bind_some h
   obtain ⟨r,hr,h⟩:=bind_some h
   obtain ⟨l,hl,h⟩:=bind_some h
   cases h
   rw [lL,ih _ _ _ hl]
theorem PF {pts:List Spot}{L:List (Int×CurvePiece)}(h:Ro pts=some L):YS prog (.fn (.func 260) [] [.bp [.list (List.map Bk pts)] 0]) (L.map MP):=by
  unfold Ro at h
  split at h
  case isFalse=>cases h
  rename_i hlen
  refine ⟨260,[],_,W,?_⟩
  intro k h0 Inv Stop hi0 hy
  refine GS BO (by simp) ?_
  unfold Rn
  refine Mn<|Pv fun u hu=> ?_
  refine G3 (.d _) W W ?_
  refine Ai ?_
  refine Mn<|Pv fun u hu=> ?_
  refine G3 (.d _) W W ?_
  refine G3 (.d _) W W ?_
  refine G3 (.d (i64 pts.length)) W (D3 (f:=Bk) W) ?_
  refine G3 (.d _) W W ?_
  refine G3 (.d _) W W ?_
  refine Ai ?_
  refine GO ?_
  refine OF (α:=Nat×Int×E3) (fun x=>⟨T [(0, .yld k),(1, .d (.bp [.list (List.map Bk pts)] 0)),(3, .d (i64 x.2.1)),(11, .d (i64<|D9 (pts.length - 1))),(12, .d (i64 x.1))],x.2.2⟩) (fun x=>pts.length - x.1)
    (fun x=>Inv x.1 x.2.2∧x.1≤pts.length - 1∧Hf pts (pts.length - 1 - x.1) x.1 x.2.1=some (L.drop x.1)) (0,0,h0) ⟨hi0,by omega,h⟩ (Vw ⟨rfl,rfl,rfl,rfl,rfl,trivial⟩ fun _ _ h=>h) ?_
  rintro ⟨i,start,hh⟩ ⟨hinv,hi,hgo⟩
  dsimp only at hinv hi hgo ⊢
  refine Mn<|Pv fun u hu=> ?_
  refine G3 (.d _) W W ?_
  refine Ai ?_
  refine Mn ?_
  refine YL W (fun hlt=> ?_)<|fun hlt=> ?_
  ·refine LX ?_
   have hlen1:D9 ((pts.length:Int) - 1)=pts.length - 1:=RZ (by omega)
   rw [hlen1]at hlt
   have hi1:i+1<pts.length:=by omega
   have hw1:IntKind.i64.wrap ((i:Int)+1)=(i:Int)+1:=RZ (by omega)
   obtain ⟨m,hm⟩: ∃m,pts.length - 1 - i=m+1:=⟨pts.length - 1 - i - 1,by omega⟩
   rw [hm,Hf]at hgo
   obtain ⟨p,hp,hgo⟩:=bind_some hgo
   obtain ⟨q,hq,hgo⟩:=bind_some hgo
   obtain ⟨v,hv,hgo⟩:=bind_some hgo
   obtain ⟨d,hd,hgo⟩:=bind_some hgo
   obtain ⟨r,hr,hgo⟩:=bind_some hgo
   obtain ⟨l,hl,hgo⟩:=bind_some hgo
   have hgo:((i:Int),CurvePiece.mk p v r.1 start)::l=L.drop i:=lD hgo
   have hLi:L[i]? =some ((i:Int),CurvePiece.mk p v r.1 start):=by
     have:=congrArg (fun z=>z[0]?) hgo
     simpa using this.symm
   have hLd:L.drop (i+1)=l:=by
     have:=congrArg (fun z=>z.drop 1) hgo
     simpa using this.symm
   have hin: ∀(p:Spot) (n:Int) (j:Nat),n=j→pts[j]? =some p→(List.map Bk pts)[n.toNat]? =some (Bk p):=fun p n j=>ZR pts n j p
   refine Mn ?_
   refine GO ?_
   refine Mn<|Pv fun u hu=> ?_
   refine G3 (.d _) W W ?_
   refine G3 (.d _) W W ?_
   refine Ai ?_
   refine Mn<|TE W fun u hu=> ?_
   refine G3 (.d _) W W ?_
   refine G3 (.d _) W W ?_
   refine G3 (.d _) W W ?_
   refine RK _ _ _ _ W W (Int.natCast_nonneg i) (hin p _ i W hp) W ?_
   refine CQ _ _ _ _ _ W (hin p _ i W hp) (by simp) W ?_
   refine G3 (.d _) W W ?_
   refine G3 (.d _) W W ?_
   refine G3 (.d _) W W ?_
   refine G3 (.d _) W W ?_
   refine RK _ _ _ _ W W (by rw [hw1];omega) (hin q _ (i+1) (by rw [hw1];rfl) hq) W ?_
   refine CQ _ _ _ _ _ W (hin q _ (i+1) (by rw [hw1];rfl) hq) (by simp) W ?_
   refine Xc W W (Yf p q _ hv) (.inl W) ?_
   refine RJ (.ptr _ _) _ W W ?_
   refine OI _ _ _ _ _ W W W (by simp only [Ah,if_true];rfl) (by simp) ?_
   refine Ai ?_
   refine Mn<|Pv fun u' hu'=> ?_
   refine GV _ _ _ _ (.d (.agg [i64 v.x,i64 v.y])) W (by simp only [Ah,if_true];rfl) (by simp [Jb]) W ?_
   refine GV _ _ _ _ (.d (.agg [i64 v.x,i64 v.y])) W (by simp only [Ah,if_true];rfl) (by simp [Jb]) W ?_
   refine Xc W W (Jx v v _ hd) (.inl W) ?_
   refine Xc W W (Yg d _ hr) (.inl W) ?_
   refine G3 (.d _) W W ?_
   refine G3 (.d _) W W ?_
   refine G3 (.d _) W W ?_
   refine G3 (.d _) W W ?_
   refine G3 (.d _) W W ?_
   refine Ai ?_
   refine Mn<|Mn ?_
   refine YH W fun _ _=> ?_
   simp only [List.take,List.drop]
   refine G3 (.yld _) W W ?_
   refine G3 (.d _) W W ?_
   refine G3 (.d _) W W ?_
   refine G3 (.d _) W W ?_
   refine G3 (.d _) W W ?_
   refine RK _ _ _ _ W W (Int.natCast_nonneg i) (hin p _ i W hp) W ?_
   refine CQ _ _ _ _ _ W (hin p _ i W hp) (by simp) W ?_
   refine GV _ _ _ _ (.d (.agg [i64 v.x,i64 v.y])) W (by simp only [Ah,if_true];rfl) (by simp [Jb]) W ?_
   refine G3 (.d _) W W ?_
   refine G3 (.d _) W W ?_
   refine G3 (.d _) W W ?_
   refine Ai ?_
   intro u3 hu3
   refine YP k ((MP ((i:Int),CurvePiece.mk p v r.1 start)).map .d) W W ?_
   refine YCall.weak (TF hu<|TF hu fun _ _ h=>h) ((hy i hh _ (by rw [lK,hLi];rfl) hinv).mono ?_)
   rintro v' h' (⟨rfl,hin⟩|⟨rfl,hst⟩)
   ·intro u4 hu4
    refine G3 (.d _) W W ?_
    refine Ai ?_
    refine AS (t:=false) W (fun h=>by cases h) (fun _=> ?_)
    refine LX ?_
    refine Pv fun u hu=> ?_
    refine G3 (.d _) W W ?_
    refine G3 (.d _) W W ?_
    refine G3 (.d _) W W ?_
    refine G3 (.d _) W W ?_
    refine Ai ?_
    refine Pv fun u hu=> ?_
    refine G3 (.d _) W W ?_
    refine G3 (.d _) W W ?_
    refine Ai ?_
    refine ⟨(i+1,D9 (start+r.1),h'),⟨hin,by dsimp only;omega,?_⟩,by dsimp only;omega,Vw ⟨rfl,rfl,rfl,rfl,?_,trivial⟩ fun _ _ h=>h⟩
    ·dsimp only
     rw [hLd,show pts.length - 1 - (i+1)=m by omega];exact hl
    ·show AV.d (i64 (IntKind.i64.wrap ((i:Int)+1)))=_
     rw [hw1];rfl
   ·intro u4 hu4
    refine G3 (.d _) W W ?_
    refine Ai ?_
    refine AS (t:=true) W (fun _=> ?_) (fun h=>by cases h)
    refine RF ?_
    dsimp only
    exact ⟨Or.inr trivial,AV.tup [],W,Or.inr hst⟩
  ·refine LY ?_
   have hlen1:1≤pts.length→D9 ((pts.length:Int) - 1)=pts.length - 1:=fun _=>RZ (by omega)
   have:i=pts.length - 1:=by
     by_cases h:1≤pts.length
     ·rw [hlen1 h]at hlt;omega
     ·omega
   subst this
   rw [Nat.sub_self,Hf]at hgo
   have hL:(L.map MP).length=pts.length - 1:=by
     have h1:L.drop (pts.length - 1)= []:=(lD hgo).symm
     have h2:=List.drop_eq_nil_iff.1 h1
     rw [lS]
     refine Nat.le_antisymm h2 ?_
     exact Nat.le_of_eq (EV _ _ _ _ _ h).symm
   exact ⟨.inl W,_,W, .inl (by rw [hL];exact hinv)⟩
def Dq (x1:(List Int))(a1:(Int×CurvePiece)):Option (Stp (List Int) (List Int)):=
  (Au x1 [a1.2.l]).bind fun v3=>some (.go v3)
def Ec [Lp](p1:Curve):Option (List Int):=
  (Eb p1).bind fun v1=>cond (v1 !=0) (some []) (((Ro p1.Pts).bind fun v2=>loopL (Dq) (fun (x1:(List Int))=>x1) v2 []).bind fun y1=>some y1)
theorem EW(p1 r)(h:Ec p1=some r):PCall prog 261 [(.agg [(.list (List.map Bk p1.Pts))])] (.list (List.map A4 r)):=by
 refine C2 (fk func261 ntmps261 (fun r=>if r==6 then [1003]else []) (by with_unfolding_all rfl)) (nl W) ?_
 unfold Ec at h
 refine B4 (s0:=⟨T [(0,(.d _))],G []⟩) (F0 W W) ?_
 refine B0<|sm W<|sv W<|A1<|A5<|B0<|sd W (B2 W G_hit W W)<|bs h fun _ hv1 h=>A9 W W A3 (Wh _ _ hv1) (.inl W) (sv W<|A1<|cc W h (fun c1 h=> ?_)<|fun c1 h=> ?_)
 refine B0<|sv W<|A1<|B1 ?_
 cases h
 exact A6 (.inr W) (B6 (B3 W) C0) DLe.nil
 refine A8<|lr<|fun u4 _=>sm W<|A1<|A5<|B0<|sd W (B2 W (gq W) W W)<|A9 W W A3 (PE p1) (.inl W) (A1<|bs h fun y1 hy1 h=>D6 (fun s=> ∃g1:Nat,Sb ⟨T [(3,(.ptr (3,u4) 0))],G [((3,u4),some<|.box 48 [(oS y1 (17,g1))]),((17,g1),oB 2 1 A4 y1)]⟩ s) ?_ ?_)
 refine A7<|bs hy1 fun v2 hv2 hy1=>B4 (s0:=⟨T [(3,(.ptr _ _)),(10,(.d _))],G [((3,u4),some<|.box 48 _)]⟩) (F0 W W) ?_
 refine YU (.fn (.func 260) [] [(.bp [(.list (List.map Bk p1.Pts))] 0)]) MP v2 (Dq) (fun (x1:(List Int))=>x1) (fun (x1:(List Int)) (g2:Nat)=> [((3,u4),some<|.box 48 [(oS x1 (17,g2))]),((17,g2),oB 2 1 A4 x1)]) [] 0 _ W (PF hv2) (fun _=>W) hy1 (D8 trivial<|B5 G_hit (.of W)<|R6 trivial) nofun ?_ ?_
 intro u7 hu7 hku7
 refine ⟨fun x1 g2=>(F1 W<|F1 W W),?_⟩
 intro r1 x1 g2 a1 z1 hrr1 hz1 ez1
 unfold Dq at hz1
 show Cb _ _ _ _ _ _ ⟨T [(12,(.d (.agg (PC a1.2)))),(11,(di a1.1)),(3,(.ptr (3,u4) 0)),(10,(.d (.fn (.func 260) [] [(.bp [(.list (List.map Bk p1.Pts))] 0)])))],G [((1000000,u7),some (.obj (T [(3,(.ptr (3,u4) 0)),(10,(.d (.fn (.func 260) [] [(.bp [(.list (List.map Bk p1.Pts))] 0)])))]) r1)),((3,u4),some (.box 48 [(oS x1 (17,g2))])),((17,g2),oB 2 1 A4 x1)]⟩
 refine B9<|sm W<|S5 W G_hit (PD a1.2) W (A1<|U1<|RR (gq W) ?_)
 refine A7<|As fun u9 _=>B8 (oS x1 (17,g2)) W (P8 W (gq W) W) (sq W<|sl W (gq W) W (B8 (dl A4 [a1.2.l]) W W (bs hz1 fun _ hv3 hz1=>P1 A4 (17,g2) x1 a1.2.l [] _ (L3<|fun _=>W) W (gq W) hv3 (S5 W (gq W) [(.sl (17,u9))] W (A1<|E0<|E2 ?_)))))
 cases hz1
 exact YV (gq W) u9 (B5 G_hit (.box (.cons (.of (T9<|U2 hv3).symm) .nil))<|N0 (gq W) trivial)
 rintro x1 g2 _ rfl qx1
 refine E0<|U1 ?_
 exact ⟨g2,(Sb.after qx1<|D8 ⟨.of W,trivial⟩<|B5 G_hit (.of W)<|B7 (gq W) trivial)⟩
 rintro _ ⟨g1,q1⟩
 refine B4 q1<|B0<|B8 (oS y1 (17,g1)) W (P8 W G_hit W) (B8 (oS y1 (17,g1)) W W (A1<|B1 ?_))
 cases h
 exact A6 (.inr W) (B6 (B3 W)<|S9<|gq W) S8
def Z9 (v1:(List Int))(x1:(Int×Int)):Option (Stp (Int×Int) Int):=
  cond (decide (x1.2< (v1.length:Int))) ((C3 v1 x1.2).bind fun v2=>some (.go ((D9 (x1.1+v2)),(D9 (x1.2+1))))) (some (.out x1.1))
def Cf [Lp](p1:Curve):Option Int:=
  (Ec p1).bind fun v1=>(loop (Z9 v1) (0,0)).bind fun y1=>some y1
theorem EX(p1 r)(h:Cf p1=some r):PCall prog 242 [(.agg [(.list (List.map Bk p1.Pts))])] (i64 r):=by
 refine C2 (fk func242 ntmps242 m0 (by with_unfolding_all rfl)) (nl W) ?_
 unfold Cf at h
 refine B4 (s0:=⟨T [(0,(.d _))],G []⟩) (F0 W W) ?_
 refine B0<|sm W<|sv W<|A1<|B0<|sv W<|A1<|A5<|B0<|sd W (B2 W G_hit W W)<|bs h fun v1 hv1 h=>A9 W W A3 (EW _ _ hv1) (.inl W) (sd W (D3 W)<|sv W<|A1<|bs h fun y1 hy1 h=>D6 (fun s=> ∃g1:Unit,Sb ⟨T [(3,(di y1))],G []⟩ s) ?_ ?_)
 refine A7<|E1 (Z9 v1) (fun (x1:(Int×Int)) (g2:Unit)=>⟨T [(3,(di x1.1)),(7,(dl A4 v1)),(8,(di (v1.length:Int))),(9,(di x1.2))],G []⟩) (0,0) () _ hy1 (F0 W W) ?_
 intro x1 g2 z1 hz1 ez1
 unfold Z9 at hz1
 refine B0<|sv W<|A1<|A5<|cc W hz1 (fun c1 hz1=> ?_)<|fun c1 hz1=> ?_
 refine A8<|A5<|A7<|B0<|bs hz1 fun _ hv2 hz1=>sd W (C4 W W hv2 W)<|sd W (C9 W hv2 W)<|sv W<|A1<|B9<|sv W<|sv W<|sv W<|sv W<|A1<|E0<|B9<|sv W<|sv W<|A1<|E2 ?_
 cases hz1
 exact ⟨W,(),(F0 W W)⟩
 refine C7 W ?_
 cases hz1
 obtain rfl:=ez1 _ rfl
 refine ⟨nofun,C5 W<|U1 ?_⟩
 exact ⟨(),(F0 W W)⟩
 rintro _ ⟨g1,q1⟩
 refine B4 q1<|B0<|sv W<|sv W<|A1<|B1 ?_
 cases h
 exact A6 (.inr W) (B6 (B3 W) C0) (.refl _)
def Bu [Lp](p1:Map)(p2:Int):Option Int:=
  (C3 p1.Lanes p2).bind fun v1=>(Cf v1.Curve_).bind fun v2=>some v2
theorem Nk(p1 p2 r)(h:Bu p1 p2=some r):PCall prog 207 [(.agg (P6 p1)),(i64 p2)] (i64 r):=by
 refine C2 (fk func207 ntmps207 m0 (by with_unfolding_all rfl)) (nl W) ?_
 unfold Bu at h
 refine B4 (s0:=⟨T [(0,(.d _)),(1,(.d _))],G []⟩) (F0 W W) ?_
 refine B0<|sm W<|sv W<|A1<|B0<|sq W<|sl W G_hit W<|sv W<|bs h fun _ hv1 h=>sd W (C4 W W hv1 W)<|sv W<|sd W (D1 W hv1 W W)<|bs h fun _ hv2 h=>A9 W W A3 (EX _ _ hv2) (.inl W) (sv W<|A1<|B1 ?_)
 cases h
 exact A6 (.inr W) (B6 (B3 W) C0) (.refl _)
def Q5 [Lp](p1:RoadsCheck)(v1:Zone)(x3:Int):Option (Stp Int (Sum Unit Int)):=
  cond (decide (x3< (v1.Parts.length:Int))) ((C3 v1.Parts x3).bind fun v5=>((cond (!((decide (v5.From<0))||(decide (v5.From≥v5.To)))) (Bu p1.Map_ v5.Lane_) (some default))).bind fun v6=>cond (((((decide (v5.From<0))||(decide (v5.From≥v5.To)))||(decide (v5.To>v6)))||(decide (v5.Rank<0)))||(decide (v5.Rank>100))) (some (.out (.inr 2))) (some (.go (D9 (x3+1))))) (some (.out (.inl ())))
def Ed (v1:Zone)(x2:((List Int)×Int)):Option (Stp ((List Int)×Int) (List Int)):=
  cond (decide (x2.2< (v1.Parts.length:Int))) ((C3 v1.Parts x2.2).bind fun v2=>(Au x2.1 [v2.Lane_]).bind fun v3=>some (.go (v3,(D9 (x2.2+1))))) (some (.out x2.1))
def Q6 [Lp](p1:RoadsCheck)(x1:Int):Option (Stp Int (Sum Unit Int)):=
  cond (decide (x1< (p1.Map_.Zones.length:Int))) ((C3 p1.Map_.Zones x1).bind fun v1=>cond (decide ((v1.Parts.length:Int)<2)) (some (.out (.inr 6))) (cond (decide ((v1.Parts.length:Int)>6)) (some (.out (.inr 8))) (cond ((decide (v1.Signal_<0))||(decide (v1.Signal_>(p1.Map_.Signals.length:Int)))) (some (.out (.inr 2))) ((loop (Ed v1) ([],0)).bind fun y2=>(Av y2 0 (p1.Map_.Lanes.length:Int)).bind fun v4=>cond (!v4) (some (.out (.inr 11))) (thenS (loop (Q5 p1 v1) 0) (fun _=>some (.go (D9 (x1+1)))) (fun r=>some (.out (.inr r)))))))) (some (.out (.inl ())))
def U4 [Lp](p1:RoadsCheck):Option Int:=
  thenS (loop (Q6 p1) 0) (fun _=>some 0) (fun r=>some r)
theorem Wj(p1 r)(h:U4 p1=some r):PCall prog 152 [(.agg (P6 p1.Map_))] (i64 r):=by
 refine C2 (fk func152 ntmps152 (fun r=>if r==15 then [1003]else []) (by with_unfolding_all rfl)) (nl W) ?_
 unfold U4 at h
 refine B4 (s0:=⟨T [(0,(.d _))],G []⟩) (F0 W W) ?_
 refine lr<|fun u1 _=>sm W<|sv W<|A1<|A5<|B0<|sq W<|sp W W<|sl W G_hit W<|sd W (D3 W)<|sv W<|A1<|js h fun z1 hz1 h=>D6 (fun s=> ∃(y1:Unit) (g1:Unit),z1= .inl y1∧Sb ⟨T [],G []⟩ s) ?_ ?_
 refine A7<|E1 (Q6 p1) (fun (x1:Int) (g2:Unit)=>⟨T [(1,(.ptr (1,u1) 0)),(13,(dl Ew p1.Map_.Zones)),(14,(di (p1.Map_.Zones.length:Int))),(15,(di x1))],G [((1,u1),some<|.box 212 (L4 p1.Map_))]⟩) 0 () _ hz1 (F0 W W) ?_
 intro x1 g2 z2 hz2 ez2
 unfold Q6 at hz2
 refine B0<|sv W<|A1<|A5<|cc W hz2 (fun c1 hz2=> ?_)<|fun c1 hz2=> ?_
 refine A8<|A5<|A7<|lr<|fun u4 _=>bs hz2 fun v1 hv1 hz2=>sd W (C4 W W hv1 W)<|sd W (D1 W hv1 W W)<|sm W<|S5 W G_hit [(dl At v1.Parts),(di v1.Signal_)] W (A1<|A5<|B0<|sq W<|sl W G_hit W<|sd W (D3 W)<|sv W<|A1<|A7<|B0<|sv W<|sv W<|sv W<|A1<|cc W hz2 (fun c2 hz2=> ?_)<|fun c2 hz2=> ?_)
 refine B0<|sv W<|A1<|B1 ?_
 cases hz2
 obtain rfl:=ez2 _ rfl
 refine ⟨nofun,F2 ?_⟩
 rw [bX]at h
 cases h
 exact A6 (.inr W) (B6 (B3 W) C0) (.refl _)
 refine B0<|sv W<|sv W<|sv W<|A1<|cc W hz2 (fun c3 hz2=> ?_)<|fun c3 hz2=> ?_
 refine B0<|sv W<|A1<|B1 ?_
 cases hz2
 obtain rfl:=ez2 _ rfl
 refine ⟨nofun,F2 ?_⟩
 rw [bX]at h
 cases h
 exact A6 (.inr W) (B6 (B3 W) C0) (.refl _)
 refine B0<|sq W<|sl W G_hit W<|sv W<|sv W<|gp W (K6 W) (fun _=>W) (gf W (vl W G_hit W)<|gp W (K6 W) (fun _=>W) ?_)
 refine M5 _ (.ptr _ _) W (K6 W) (fun w4=>(by simp only [A2 w4];rfl)) ?_
 refine gf W (vl W (gq W) W)<|gf W (fun w6=>(D3<|A2 w6))<|gf W (fun w7=>(M4 (A2 w7) (A2 w7) W))<|sd W (O5 W W<|fun hc=>A2<|J6 hc)<|sv W<|A1<|cc W hz2 (fun c4 hz2=> ?_)<|fun c4 hz2=> ?_
 refine B0<|sv W<|A1<|B1 ?_
 cases hz2
 obtain rfl:=ez2 _ rfl
 refine ⟨nofun,F2 ?_⟩
 rw [bX]at h
 cases h
 exact A6 (.inr W) (B6 (B3 W) C0) (.refl _)
 refine A8<|E0<|B0<|sv W<|A1<|A5<|B0<|sq W<|sl W G_hit W<|sd W (D3 W)<|sv W<|A1<|bs hz2 fun y2 hy2 hz2=>D6 (fun s=> ∃g3:Nat,Sb ⟨T [(1,(.ptr (1,u1) 0)),(4,(.ptr (4,u4) 0)),(6,(oS y2 (52,g3))),(13,(dl Ew p1.Map_.Zones)),(14,(di (p1.Map_.Zones.length:Int))),(15,(di x1))],G [((1,u1),some<|.box 212 (L4 p1.Map_)),((4,u4),some<|.box 117 [(dl At v1.Parts),(di v1.Signal_)]),((52,g3),oB 3 1 A4 y2)]⟩ s) ?_ ?_
 refine A7<|E1 (Ed v1) (fun (x2:((List Int)×Int)) (g4:Nat)=>⟨T [(1,(.ptr (1,u1) 0)),(4,(.ptr (4,u4) 0)),(6,(oS x2.1 (52,g4))),(13,(dl Ew p1.Map_.Zones)),(14,(di (p1.Map_.Zones.length:Int))),(15,(di x1)),(42,(dl At v1.Parts)),(43,(di (v1.Parts.length:Int))),(44,(di x2.2))],G [((1,u1),some<|.box 212 (L4 p1.Map_)),((4,u4),some<|.box 117 [(dl At v1.Parts),(di v1.Signal_)]),((52,g4),oB 3 1 A4 x2.1)]⟩) ([],0) 0 _ hy2 (D8 (Y0 W)<|sg W<|B5 G_hit (.of W)<|R6 trivial) ?_
 intro x2 g4 z3 hz3 ez3
 unfold Ed at hz3
 refine B0<|sv W<|A1<|A5<|cc W hz3 (fun c5 hz3=> ?_)<|fun c5 hz3=> ?_
 refine A8<|A5<|A7<|B0<|bs hz3 fun v2 hv2 hz3=>sd W (C4 W W hv2 W)<|sd W (D1 W hv2 W W)<|sm W<|S5 W G_hit (Ya v2) W (A1<|As fun u16 _=>B8 (oS x2.1 (52,g4)) W W (sq W<|sl W G_hit W<|B8 (dl A4 [v2.Lane_]) W W (bs hz3 fun _ hv3 hz3=>P1 A4 (52,g4) x2.1 v2.Lane_ [] _ (L3<|fun _=>W) W (gq W) hv3 (ss W<|A1<|E0<|B9<|sv W<|sv W<|A1<|E2 ?_))))
 cases hz3
 exact ⟨W,u16,(D8 ⟨.of W, .of W,(.of (T9<|U2 hv3).symm), .of W, .of W, .of W, .of W, .of W, .of W,trivial⟩<|sg W<|sg W<|N0 G_hit trivial)⟩
 refine C7 W ?_
 cases hz3
 obtain rfl:=ez3 _ rfl
 refine ⟨nofun,C5 W<|U1 ?_⟩
 exact ⟨g4,(D8 (Y0 W)<|B5 G_hit (.of W)<|sg W<|B7 (gq W) trivial)⟩
 rintro _ ⟨g3,q1⟩
 refine B4 q1<|A5<|B0<|B8 (oS y2 (52,g3)) W W (sq W<|sp W W<|sl W G_hit W<|sd W (D3 W)<|bs hz2 fun v4 hv4 hz2=>A9 W (E4 (S9<|gq W)<|rD<|rD F9) (.cons S8 (.cons (.refl _) A3)) (Ok _ _ _ _ hv4) (.inr W) (B8 (.d (bo (!v4))) W W (A1<|cc W hz2 (fun c6 hz2=> ?_)<|fun c6 hz2=> ?_)))
 refine B0<|sv W<|A1<|B1 ?_
 cases hz2
 obtain rfl:=ez2 _ rfl
 refine ⟨nofun,F2 ?_⟩
 rw [bX]at h
 cases h
 exact A6 (.inr W) (B6 (B3 W) C0) (.refl _)
 refine A8<|B0<|sq W<|sl W (gq W) W (sd W (D3 W)<|sv W<|A1<|js hz2 fun z4 hz4 hz2=>D6 (fun s=> ∃(y3:Unit) (g5:Unit),z4= .inl y3∧Sb ⟨T [(1,(.ptr (1,u1) 0)),(13,(dl Ew p1.Map_.Zones)),(14,(di (p1.Map_.Zones.length:Int))),(15,(di x1))],G [((1,u1),some<|.box 212 (L4 p1.Map_))]⟩ s) ?_ ?_)
 refine A7<|E1 (Q5 p1 v1) (fun (x3:Int) (g6:Unit)=>⟨T [(1,(.ptr (1,u1) 0)),(13,(dl Ew p1.Map_.Zones)),(14,(di (p1.Map_.Zones.length:Int))),(15,(di x1)),(62,(dl At v1.Parts)),(63,(di (v1.Parts.length:Int))),(64,(di x3))],G [((1,u1),some<|.box 212 (L4 p1.Map_))]⟩) 0 () _ hz4 (F0 W W) ?_
 intro x3 g6 z5 hz5 ez5
 unfold Q5 at hz5
 refine B0<|sv W<|A1<|A5<|cc W hz5 (fun c7 hz5=> ?_)<|fun c7 hz5=> ?_
 refine A8<|A5<|A7<|B0<|bs hz5 fun v5 hv5 hz5=>sd W (C4 W W hv5 W)<|sd W (D1 W hv5 W W)<|sm W<|S5 W G_hit (Ya v5) W (A1<|A5<|E8 W<|sq W<|sl W G_hit W<|sv W<|sv W<|gp W (K6 W) (fun _=>W) (gf W (vl W G_hit W)<|gp W (K6 W) (fun _=>W) (gf W (vl W G_hit W)<|gf W (fun w12=>(M4 (A2 w12) (A2 w12) W))<|sd W (O5 W W<|fun hc=>A2<|J6 hc)<|sv W<|gp W (K6 W) (fun _=>W) (gf W (vl W G_hit W)<|gp W (K6 W) (fun _=>W) (gf W (fun w16=>(B2 (A2 w16) (gq W) W W))<|gp W (K6 W) (fun _=>W) (gf W (vl W G_hit W)<|bs hz5 fun v6 hv6 hz5=> ?_))))))
 refine N4 _ (i64 v6) (K6 W) (fun w19=>⟨_,[(.d (.agg (P6 p1.Map_))),(di v5.Lane_)],_,_,(by simp only [A2 w19];rfl),W,A3,Nk _ _ _<|C1 w19 hv6,(.inl W)⟩) ?_
 refine gf W (fun w20=>(M4 (A2 w20) (A2 w20) W))<|sd W (O5 W W<|fun hc=>A2<|J6 hc)<|sv W<|gp W (K6 W) (fun _=>W) (gf W (vl W G_hit W)<|gf W (vb W W W)<|sd W (O5 W W<|fun hc=>A2<|J6 hc)<|sv W<|gp W (K6 W) (fun _=>W) (gf W (vl W G_hit W)<|gf W (vb W W W)<|sd W (O5 W W<|fun hc=>A2<|J6 hc)<|A1<|cc W hz5 (fun c8 hz5=> ?_)<|fun c8 hz5=> ?_))
 refine B0<|sv W<|A1<|B1 ?_
 cases hz5
 obtain rfl:=ez5 _ rfl
 refine ⟨nofun,F2 ?_⟩
 rw [bX]at hz2
 cases hz2
 obtain rfl:=ez2 _ rfl
 refine ⟨nofun,F2 ?_⟩
 rw [bX]at h
 cases h
 exact A6 (.inr W) (B6 (B3 W) C0) (.refl _)
 refine A8<|E0<|B9<|sv W<|sv W<|A1<|E2 ?_
 cases hz5
 exact ⟨W,(),(F0 W W)⟩
 refine C7 W ?_
 cases hz5
 obtain rfl:=ez5 _ rfl
 refine ⟨nofun,C5 W<|U1 ?_⟩
 exact ⟨_,(),W,(F0 W W)⟩
 rintro _ ⟨y3,g5,rfl,q2⟩
 rw [bW]at hz2
 refine E0<|B4 q2<|B9<|sv W<|sv W<|A1<|E2 ?_
 cases hz2
 exact ⟨W,(),(F0 W W)⟩
 refine C7 W ?_
 cases hz2
 obtain rfl:=ez2 _ rfl
 refine ⟨nofun,C5 W<|U1 ?_⟩
 exact ⟨_,(),W,(F0 W W)⟩
 rintro _ ⟨y1,g1,rfl,q3⟩
 rw [bW]at h
 refine B4 q3<|B0<|sv W<|A1<|B1 ?_
 cases h
 exact A6 (.inr W) (B6 (B3 W) C0) (.refl _)
def Q7 [Lp](p1:RoadsCheck)(x1:Int):Option (Stp Int (Sum Unit Int)):=
  cond (decide (x1< (p1.Map_.Works.length:Int))) ((C3 p1.Map_.Works x1).bind fun v1=>cond ((decide (v1.Lane_<0))||(decide (v1.Lane_≥(p1.Map_.Lanes.length:Int)))) (some (.out (.inr 7))) ((C3 p1.Map_.Lanes v1.Lane_).bind fun v2=>(Ea v2.Kind).bind fun v3=>((cond (!((decide (v1.From<0))||(decide (v1.From>v1.To)))) (Bu p1.Map_ v1.Lane_) (some default))).bind fun v4=>((cond (!((((((decide (v1.From<0))||(decide (v1.From>v1.To)))||(decide (v1.To>v4)))||(decide (v1.Begin<0)))||(decide (v1.Begin≥v1.End)))||(decide (v1.End>1099511627776)))) (Ce v1.Limit 0 v3.1) (some default))).bind fun v5=>cond (((((((decide (v1.From<0))||(decide (v1.From>v1.To)))||(decide (v1.To>v4)))||(decide (v1.Begin<0)))||(decide (v1.Begin≥v1.End)))||(decide (v1.End>1099511627776)))||(!v5)) (some (.out (.inr 2))) (some (.go (D9 (x1+1)))))) (some (.out (.inl ())))
def U5 [Lp](p1:RoadsCheck):Option Int:=
  thenS (loop (Q7 p1) 0) (fun _=>some 0) (fun r=>some r)
theorem Wk(p1 r)(h:U5 p1=some r):PCall prog 153 [(.agg (P6 p1.Map_))] (i64 r):=by
 refine C2 (fk func153 ntmps153 m0 (by with_unfolding_all rfl)) (nl W) ?_
 unfold U5 at h
 refine B4 (s0:=⟨T [(0,(.d _))],G []⟩) (F0 W W) ?_
 refine lr<|fun u1 _=>sm W<|sv W<|A1<|A5<|B0<|sq W<|sp W W<|sl W G_hit W<|sd W (D3 W)<|sv W<|A1<|js h fun z1 hz1 h=>D6 (fun s=> ∃(y1:Unit) (g1:Unit),z1= .inl y1∧Sb ⟨T [],G []⟩ s) ?_ ?_
 refine A7<|E1 (Q7 p1) (fun (x1:Int) (g2:Unit)=>⟨T [(1,(.ptr (1,u1) 0)),(10,(dl Sp p1.Map_.Works)),(11,(di (p1.Map_.Works.length:Int))),(12,(di x1))],G [((1,u1),some<|.box 212 (L4 p1.Map_))]⟩) 0 () _ hz1 (F0 W W) ?_
 intro x1 g2 z2 hz2 ez2
 unfold Q7 at hz2
 refine B0<|sv W<|A1<|A5<|cc W hz2 (fun c1 hz2=> ?_)<|fun c1 hz2=> ?_
 refine A8<|A5<|A7<|B0<|bs hz2 fun v1 hv1 hz2=>sd W (C4 W W hv1 W)<|sd W (D1 W hv1 W W)<|sm W<|S5 W G_hit (iZ v1) W (A1<|A5<|B0<|sq W<|sl W G_hit W<|sv W<|sv W<|gp W (K6 W) (fun _=>W) (gf W (vl W G_hit W)<|gp W (K6 W) (fun _=>W) ?_))
 refine M5 _ (.ptr _ _) W (K6 W) (fun w4=>(by simp only [A2 w4];rfl)) ?_
 refine gf W (vl W (gq W) W)<|gf W (fun w6=>(D3<|A2 w6))<|gf W (fun w7=>(M4 (A2 w7) (A2 w7) W))<|sd W (O5 W W<|fun hc=>A2<|J6 hc)<|A1<|cc W hz2 (fun c2 hz2=> ?_)<|fun c2 hz2=> ?_
 refine B0<|sv W<|A1<|B1 ?_
 cases hz2
 obtain rfl:=ez2 _ rfl
 refine ⟨nofun,F2 ?_⟩
 rw [bX]at h
 cases h
 exact A6 (.inr W) (B6 (B3 W) C0) (.refl _)
 refine A8<|B0<|sq W<|sp W W<|sl W (gq W) W (sq W<|sl W G_hit W<|bs hz2 fun _ hv2 hz2=>sd W (C4 W W hv2 W)<|sv W<|sd W (C9 W hv2 W)<|bs hz2 fun v3 hv3 hz2=>A9 W W A3 (Km _ _ hv3) (.inl W) (sv W<|sv W<|sv W<|sv W<|sv W<|sv W<|sv W<|A1<|A5<|E8 W<|sq W<|sl W G_hit W<|sv W<|sv W<|gp W (K6 W) (fun _=>W) (gf W (vl W G_hit W)<|gp W (K6 W) (fun _=>W) (gf W (vl W G_hit W)<|gf W (fun w12=>(M4 (A2 w12) (A2 w12) W))<|sd W (O5 W W<|fun hc=>A2<|J6 hc)<|sv W<|gp W (K6 W) (fun _=>W) (gf W (vl W G_hit W)<|gp W (K6 W) (fun _=>W) (gf W (fun w16=>(B2 (A2 w16) (gq W) W W))<|gp W (K6 W) (fun _=>W) (gf W (vl W G_hit W)<|bs hz2 fun v4 hv4 hz2=> ?_)))))))
 refine N4 _ (i64 v4) (K6 W) (fun w19=>⟨_,[(.d (.agg (P6 p1.Map_))),(di v1.Lane_)],_,_,(by simp only [A2 w19];rfl),W,A3,Nk _ _ _<|C1 w19 hv4,(.inl W)⟩) ?_
 refine gf W (fun w20=>(M4 (A2 w20) (A2 w20) W))<|sd W (O5 W W<|fun hc=>A2<|J6 hc)<|sv W<|gp W (K6 W) (fun _=>W) (gf W (vl W G_hit W)<|gf W (vb W W W)<|sd W (O5 W W<|fun hc=>A2<|J6 hc)<|sv W<|gp W (K6 W) (fun _=>W) (gf W (vl W G_hit W)<|gp W (K6 W) (fun _=>W) (gf W (vl W G_hit W)<|gf W (fun w28=>(M4 (A2 w28) (A2 w28) W))<|sd W (O5 W W<|fun hc=>A2<|J6 hc)<|sv W<|gp W (K6 W) (fun _=>W) (gf W (vl W G_hit W)<|gf W (vb W W W)<|sd W (O5 W W<|fun hc=>A2<|J6 hc)<|sv W<|gp W (K6 W) (fun _=>W) (gf W (vl W G_hit W)<|gf W (fun _=>W)<|bs hz2 fun v5 hv5 hz2=> ?_)))))
 refine N4 _ (bo v5) (K6 W) (fun w35=>⟨_,[(di v1.Limit),(di 0),(di v3.1)],_,_,(by simp only [A2 w35];rfl),W,A3,Dp _ _ _ _<|C1 w35 hv5,(.inl W)⟩) ?_
 refine M5 _ (.d (bo (!v5))) W (K6 W) (fun w36=>(by simp only [A2 w36];rfl)) ?_
 refine sd W (O5 W W<|fun hc=>A2<|J6 hc)<|A1<|cc W hz2 (fun c3 hz2=> ?_)<|fun c3 hz2=> ?_
 refine B0<|sv W<|A1<|B1 ?_
 cases hz2
 obtain rfl:=ez2 _ rfl
 refine ⟨nofun,F2 ?_⟩
 rw [bX]at h
 cases h
 exact A6 (.inr W) (B6 (B3 W) C0) (.refl _)
 refine A8<|E0<|B9<|sv W<|sv W<|A1<|E2 ?_
 cases hz2
 exact ⟨W,(),(F0 W W)⟩
 refine C7 W ?_
 cases hz2
 obtain rfl:=ez2 _ rfl
 refine ⟨nofun,C5 W<|U1 ?_⟩
 exact ⟨_,(),W,(F0 W W)⟩
 rintro _ ⟨y1,g1,rfl,q1⟩
 rw [bW]at h
 refine B4 q1<|B0<|sv W<|A1<|B1 ?_
 cases h
 exact A6 (.inr W) (B6 (B3 W) C0) (.refl _)
def S3 [Lp](v:Nat)(p1:RoadsCheck):Option Int:=
  cond (Nat.beq v 148) (Z3 p1) (cond (Nat.beq v 149) (U3 p1) (cond (Nat.beq v 150) (T4 p1) (cond (Nat.beq v 151) (R7 p1) (cond (Nat.beq v 152) (U4 p1) (cond (Nat.beq v 153) (U5 p1) (none))))))
theorem Oc(v p1 r)(h:S3 v p1=some r):PCall prog v [(.agg [(i64 p1.Map_.Version),(.list (List.map Ev p1.Map_.Lanes)),(.list (List.map Ew p1.Map_.Zones)),(.list (List.map Lq p1.Map_.Signals)),(.list (List.map Sp p1.Map_.Works))])] (i64 r):=by
  unfold S3 at h
  rcases DA h with ⟨rfl,h⟩|⟨_,h⟩
  ·exact Tu _ r h
  rcases DA h with ⟨rfl,h⟩|⟨_,h⟩
  ·exact Wi _ r h
  rcases DA h with ⟨rfl,h⟩|⟨_,h⟩
  ·exact Vb _ r h
  rcases DA h with ⟨rfl,h⟩|⟨_,h⟩
  ·exact Tv _ r h
  rcases DA h with ⟨rfl,h⟩|⟨_,h⟩
  ·exact Wj _ r h
  rcases DA h with ⟨rfl,h⟩|⟨_,h⟩
  ·exact Wk _ r h
  cases h
end
end Go.Abs.World
