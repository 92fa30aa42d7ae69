/-
  The functions, part 3.
-/
import Derived.Test.YtgjdiioennhoeaaGreatFns2
set_option maxRecDepth 20000
set_option maxHeartbeats 4000000
set_option linter.unusedVariables false
namespace Go.Abs.World
noncomputable section
open Go Go.Abs Go.Proofs Tryz
attribute [local irreducible] L8 Fb De
def H6 [Lp](p1:(List Int))(p2:Int)(p3:Int)(p4:Int)(p5:Int):Option Bool:=
  (I3 p1 p2 p3 p4 p5).bind fun v1=>some (decide (v1≥0))
theorem Dj(p1 p2 p3 p4 p5 r)(h:H6 p1 p2 p3 p4 p5=some r):PCall prog 224 [(.list (List.map A4 p1)),(.fn (.func 225) [] [(.bp [(i64 p2)] 0),(.bp [(i64 p3)] 0),(.bp [(i64 p4)] 0),(.bp [(i64 p5)] 0)])] (bo r):=by
 refine C4 (fk func224 ntmps224 m0 (by with_unfolding_all rfl)) (nl W) ?_
 unfold H6 at h
 refine B4 (s0:=⟨T [(0,(.d _)),(1,(.d _))],G []⟩) (F2 W W) ?_
 refine B0<|sv W<|A1<|B0<|sv W<|sv W<|bs h fun _ hv1 h=>A9 W W A3 (Eo _ _ _ _ _ _ hv1) (.inl W) (sv W<|sv W<|A1<|B2 ?_)
 cases h
 exact A6 (.inr W) (B6 (B3 W) C2) (.refl _)
def Ie [Lp](p1:(List Int))(p2:Int)(p3:Int)(p4:Int)(p5:Int):Option Bool:=
  (H6 p1 p2 p3 p5 p4).bind fun v1=>some (!v1)
theorem KL(p1 p2 p3 p4 p5 r)(h:Ie p1 p2 p3 p4 p5=some r):PCall prog 181 [(.list (List.map A4 p1)),(i64 p2),(i64 p3),(i64 p4),(i64 p5)] (bo r):=by
 refine C4 (fk func181 ntmps181 m0 (by with_unfolding_all rfl)) (nl W) ?_
 unfold Ie at h
 refine B4 (s0:=⟨T [(0,(.d _)),(1,(.d _)),(2,(.d _)),(3,(.d _)),(4,(.d _))],G []⟩) (F2 W W) ?_
 refine B0<|sm W<|sn W W<|sm W<|sn W W<|sv W<|A1<|B0<|sv W<|C0 (.fn _ _ _) W W (bs h fun v1 hv1 h=>A9 W (rD<|E6 (AS G1<|E6 (Bi (gq W)<|rD G1)<|E6 (Bi (gq W)<|rD G1)<|E6 (Bi G_hit<|rD G1)<|E6 (Bi (gq W)<|rD G1) G1) G1) A3 (Dj _ _ _ _ _ _ hv1) (.inr W) (C0 (.d (bo (!v1))) W W (sv W<|A1<|B2 ?_)))
 cases h
 exact A6 (.inr W) (B6 (B3 W) C2) (.refl _)
def X0 [Lp](p2:Agent)(v1:(Int×Int))(v3:(Int×Int×Int))(v5:(List Int))(x1:Int):Option (Stp Int Int):=
  ((cond (decide (x1>(D3 (0 - v3.2.2)))) (Z3 x1 p2 v3.1) (some default))).bind fun v6=>((cond (decide (x1>(D3 (0 - v3.2.2)))) (Ie v5 v1.2 p2.V v6 v3.2.2) (some default))).bind fun v7=>cond ((decide (x1>(D3 (0 - v3.2.2))))&& (!v7)) (some (.go (D3 (x1 - 1)))) (some (.out x1))
def Gd [Lp](p1:Map)(p2:Agent)(p3:Int)(p4:Int):Option Agent:=
  (Ik p1 p2).bind fun v1=>(C1 p1.Lanes v1.1).bind fun v2=>(Fd v2.Kind).bind fun v3=>((cond p2.Obey (Bw p1 v1.1) (some default))).bind fun v4=>(cond (p2.Obey&& (decide (v1.2≤v4))) ((Ew p1 v1.1 p3).bind fun v5=>(loop (X0 p2 v1 v3 v5) (Mp true (D3 (0 - v3.2.2)) (Mp false p4 v3.2.1))).bind fun y2=>some y2) (some (Mp true (D3 (0 - v3.2.2)) (Mp false p4 v3.2.1)))).bind fun y1=>(Z3 y1 p2 v3.1).bind fun v8=>(Ga p1 (Agent.mk p2.Route (D3 (p2.S+v8)) v8 p2.Len p2.Begin p2.Obey p2.Gone)).bind fun v9=>some (Agent.mk p2.Route (D3 (p2.S+v8)) v8 p2.Len p2.Begin p2.Obey v9)
theorem ML(p1 p2 p3 p4 r)(h:Gd p1 p2 p3 p4=some r):PCall prog 88 [(.agg (P7 p1)),(.agg (D0 p2)),(i64 p3),(i64 p4)] (.agg (D0 r)):=by
 refine C4 (fk func88 ntmps88 m0 (by with_unfolding_all rfl)) (nl W) ?_
 unfold Gd at h
 refine B4 (s0:=⟨T [(0,(.d _)),(1,(.d _)),(2,(.d _)),(3,(.d _))],G []⟩) (F2 W W) ?_
 refine lr<|fun u1 _=>sm W<|sm W<|sn W W<|A1<|B0<|sd W (B1 W (gq W) W W)<|sd W (B1 W (gq W) W W)<|bs h fun v1 hv1 h=>A9 W W A3 (BB _ _ _ hv1) (.inl W) (sv W<|sv W<|sv W<|sv W<|sv W<|A1<|lr<|fun u3 _=>sq W<|sl W (gq W) W (sv W<|bs h fun _ hv2 h=>sd W (C5 W W hv2 W)<|sv W<|sd W (C9 W hv2 W)<|bs h fun v3 hv3 h=>A9 W W A3 (Mj _ _ hv3) (.inl W) (sv W<|sv W<|sv W<|sv W<|sm W<|U0 W G_hit [(di v3.1)] W (sv W<|sv W<|A1<|B0<|C0 (.fn _ _ _) W W (C0 (.fn _ _ _) W W (A1<|B0<|sv W<|C0 (di<|D3 (0 - v3.2.2)) W W (sv W<|sv W<|sv W<|sv W<|sv W<|A1<|A5<|B0<|sq W<|sl W (gq W) W (sv W<|gt W (fun _=>W) ?_))))))))
 refine gt W (fun _=>(B1 W (gq W) W W))<|gt W (fun _=>W)<|bs h fun v4 hv4 h=> ?_
 refine N6 p2.Obey (i64 v4) (M3 W) (fun w4=>⟨_,[(.d (.agg (P7 p1))),(di v1.1)],_,_,(by simp only [A2 w4];rfl),W,A3,Qu _ _ _<|B9 w4 hv4,(.inl W)⟩) ?_
 refine gt W (fun w5=>(M7 (A2 w5) (A2 w5) W))<|sa W W W<|A1<|bs h fun y1 hy1 h=>D9 (fun s=> ∃g1:Unit,Sb ⟨T [(3,(di y1)),(4,(.ptr (4,u1) 0)),(5,(.ptr (5,u1) 0)),(8,(.ptr (8,u1) 0)),(14,(.fn (.func 179) [] [(.ptr (5,u1) 0),(.ptr (11,u3) 0)]))],G [((4,u1),some<|.box 33 (L4 p1)),((5,u1),some<|.box 45 (T0 p2)),((8,u1),some<|.box 45 ([(.d .nilS)]++ (zs 4)++ [(.d (bo false)),(.d (bo false))])),((11,u3),some<|.box 2 [(di v3.1)])]⟩ s) ?_ ?_
 refine cc W hy1 (fun c1 hy1=> ?_)<|fun c1 hy1=> ?_
 refine B0<|sd W (B1 W (gq W) W W)<|sv W<|sv W<|bs hy1 fun v5 hv5 hy1=>A9 W W A3 (QB _ _ _ _ hv5) (.inl W) (sv W<|A1<|bs hy1 fun y2 hy2 hy1=>D9 (fun s=> ∃g2:Unit,Sb ⟨T [(3,(di y2)),(4,(.ptr (4,u1) 0)),(5,(.ptr (5,u1) 0)),(8,(.ptr (8,u1) 0)),(14,(.fn (.func 179) [] [(.ptr (5,u1) 0),(.ptr (11,u3) 0)]))],G [((4,u1),some<|.box 33 (L4 p1)),((5,u1),some<|.box 45 (T0 p2)),((8,u1),some<|.box 45 ([(.d .nilS)]++ (zs 4)++ [(.d (bo false)),(.d (bo false))])),((11,u3),some<|.box 2 [(di v3.1)])]⟩ s) ?_ ?_)
 refine A7<|E4 (X0 p2 v1 v3 v5) (fun (x1:Int) (g3:Unit)=>⟨T [(3,(di x1)),(4,(.ptr (4,u1) 0)),(5,(.ptr (5,u1) 0)),(8,(.ptr (8,u1) 0)),(10,(di v1.2)),(13,(di v3.2.2)),(14,(.fn (.func 179) [] [(.ptr (5,u1) 0),(.ptr (11,u3) 0)])),(15,(dl A4 v5))],G [((4,u1),some<|.box 33 (L4 p1)),((5,u1),some<|.box 45 (T0 p2)),((8,u1),some<|.box 45 ([(.d .nilS)]++ (zs 4)++ [(.d (bo false)),(.d (bo false))])),((11,u3),some<|.box 2 [(di v3.1)])]⟩) (Mp true (D3 (0 - v3.2.2))<|Mp false p4 v3.2.1) () _ hy2 (F2 W W) ?_
 intro x1 g3 z1 hz1 ez1
 unfold X0 at hz1
 refine A5<|A5<|E7 W<|sv W<|sv W<|C0 (di<|D3 (0 - v3.2.2)) W W (sv W<|sv W<|gt W (fun _=>W)<|gt W (fun _=>W)<|gp W (M3 W) (fun _=>W) (gt W (vl W (gq W) W)<|M8 _ (.fn _ _ _) W (M3 W) (fun _=>W) (gt W (fun _=>W)<|bs hz1 fun v6 hv6 hz1=> ?_)))
 refine N6 _ (i64 v6) (M3 W) (fun w12=>⟨_,[(di x1),(.ptr (5,u1) 0),(.ptr (11,u3) 0)],_,_,(by simp only [A2 w12];rfl),(rD<|E6 (Bi (gq W)<|rD<|rD<|rD<|rD<|rD<|rD<|rD G1)<|E6 (Bi (gq W)<|rD G1) G1),A3,Rf _ _ _ _<|B9 w12 hv6,(.inr W)⟩) ?_
 refine gt W (fun _=>W)<|bs hz1 fun v7 hv7 hz1=> ?_
 refine N6 _ (bo v7) (M3 W) (fun w14=>⟨_,[(dl A4 v5),(di v1.2),(di p2.V),(di v6),(di v3.2.2)],_,_,(by simp only [A2 w14];rfl),W,A3,KL _ _ _ _ _ _<|B9 w14 hv7,(.inl W)⟩) ?_
 refine M8 _ (.d (bo (!v7))) W (M3 W) (fun w15=>(by simp only [A2 w15];rfl)) ?_
 refine sa W W W<|A1<|cc W hz1 (fun c2 hz1=> ?_)<|fun c2 hz1=> ?_
 refine A8<|A7<|B7<|sv W<|sv W<|sv W<|A1<|E3<|E2 ?_
 cases hz1
 exact ⟨W,(),(F2 W W)⟩
 refine C8 W ?_
 cases hz1
 obtain rfl:=ez1 _ rfl
 refine ⟨nofun,C6 W<|U4 ?_⟩
 exact ⟨(),(F2 W W)⟩
 rintro _ ⟨g2,q1⟩
 obtain rfl:=(lD hy1)
 exact U4 ⟨(),(Sb.after q1<|F2 W W)⟩
 refine A8 ?_
 cases hy1
 exact U4 ⟨(),(F2 W W)⟩
 rintro _ ⟨g1,q2⟩
 refine B4 q2<|B0<|C0 (.fn _ _ _) W W (sv W<|bs h fun v8 hv8 h=>A9 W (rD<|E6 (Bi (gq W)<|rD<|rD<|rD<|rD<|rD<|rD<|rD G1)<|E6 (Bi (gq W)<|rD G1) G1) A3 (Rf _ _ _ _ hv8) (.inr W) (sq W<|U0 W (gq W) ((T0 p2).set 2 (di v8)) W (A1<|B0<|sq W<|sl W G_hit W<|sq W<|sl W G_hit W<|sv W<|sq W<|U0 W G_hit (((T0 p2).set 1 (di<|D3 (p2.S+v8))).set 2 (di v8)) W (A1<|B0<|sd W (B1 W (gq W) W W)<|sd W (B1 W G_hit W W)<|bs h fun v9 hv9 h=>A9 W W A3 (BC _ _ _ hv9) (.inl W) (sq W<|U0 W G_hit ((((T0 p2).set 1 (di<|D3 (p2.S+v8))).set 2 (di v8)).set 6 (.d (bo v9))) W (A1<|B0<|sd W (B1 W G_hit W W)<|U0 W (gq W) ((((T0 p2).set 1 (di<|D3 (p2.S+v8))).set 2 (di v8)).set 6 (.d (bo v9))) W (A1<|B2 ?_)))))))
 cases h
 exact A6 (.inr W) (B6 (K2 W G_hit (nl W) W) C2) (.refl _)
def Kn [Lp](p1:Map)(p2:State)(p3:Int)(p4:Int):Option Agent:=
  cond ((decide (p3<0))||(decide (p3≥(p2.Agents.length:Int)))) (some (Agent.mk [] 0 0 0 0 false false)) ((C1 p2.Agents p3).bind fun v1=>(Ea v1).bind fun v2=>(Ia p2 p3).bind fun v3=>((cond (!(!v3)) (Dm p1 p2) (some default))).bind fun v4=>cond ((!v3)||(v4 !=0)) (some v2) ((Gd p1 v2 p2.Tick p4).bind fun v5=>some v5))
theorem MM(p1 p2 p3 p4 r)(h:Kn p1 p2 p3 p4=some r):PCall prog 29 [(.agg (P7 p1)),(.agg (Bc p2)),(i64 p3),(i64 p4)] (.agg (D0 r)):=by
 refine C4 (fk func29 ntmps29 m0 (by with_unfolding_all rfl)) (nl W) ?_
 unfold Kn at h
 refine B4 (s0:=⟨T [(0,(.d _)),(1,(.d _)),(2,(.d _)),(3,(.d _))],G []⟩) (F2 W W) ?_
 refine B0<|sm W<|sn W W<|sm W<|A1<|A5<|B0<|sv W<|sv W<|sv W<|gf W (fun _=>W)<|gp W (K6 W) (fun _=>W) (gf W (vl W (gq W) W)<|gf W (fun w4=>(D7<|A2 w4))<|gf W (fun w5=>(M7 (A2 w5) (A2 w5) W))<|sd W (O2 W W<|fun hc=>A2<|J4 hc)<|A1<|cc W h (fun c1 h=> ?_)<|fun c1 h=> ?_)
 refine B0<|sv W<|U0 W G_hit ([(.d .nilS)]++ (zs 4)++ [(.d (bo false)),(.d (bo false))]) W (A1<|B2 ?_)
 cases h
 exact A6 (.inr W) (B6 (K2 W G_hit (nl W) W) C2) (.agg (.cons ⟨DLe.nil,W⟩ (cz W)))
 refine A8<|B0<|sq W<|sl W (gq W) W (sv W<|bs h fun _ hv1 h=>sd W (C5 W W hv1 W)<|sd W (D4 W hv1 W W)<|bs h fun v2 hv2 h=>A9 W W A3 (Nw _ _ hv2) (.inl W) (sm W<|U0 W G_hit (T0 v2) W (A1<|A5<|B0<|sd W (B1 W (gq W) W W)<|sv W<|bs h fun v3 hv3 h=>A9 W W A3 (Nx _ _ _ hv3) (.inl W) (C0 (.d (bo (!v3))) W W (sv W<|gf W (fun _=>(B1 W (gq W) W W))<|gf W (fun _=>(B1 W (gq W) W W))<|bs h fun v4 hv4 h=> ?_)))))
 refine N6 _ (i64 v4) (K6 W) (fun w8=>⟨_,[(.d (.agg (P7 p1))),(.d (.agg (Bc p2)))],_,_,(by simp only [A2 w8];rfl),W,A3,Sl _ _ _<|B9 w8 hv4,(.inl W)⟩) ?_
 refine gf W (vb W W W)<|sd W (O2 W W<|fun hc=>A2<|J4 hc)<|A1<|cc W h (fun c2 h=> ?_)<|fun c2 h=> ?_
 refine B0<|sd W (B1 W G_hit W W)<|U0 W (gq W) (T0 v2) W (A1<|B2 ?_)
 cases h
 exact A6 (.inr W) (B6 (K2 W G_hit (nl W) W) C2) (.refl _)
 refine A8<|B0<|sd W (B1 W (gq W) W W)<|sd W (B1 W G_hit W W)<|sq W<|sl W (gq W) W (sv W<|bs h fun v5 hv5 h=>A9 W W A3 (ML _ _ _ _ _ hv5) (.inl W) (U0 W (gq W) (T0 v5) W (A1<|B2 ?_)))
 cases h
 exact A6 (.inr W) (B6 (K2 W G_hit (nl W) W) C2) (.refl _)
theorem Sn(p1 r)(h:Ae p1=some r):MCall prog 121 [.d (.list (List.map J7 p1))] [] (oE r (800000,0)) [] [oB 127 4 J7 r]:=by
  cases p1 with
  |nil=>
   have hr:r= []:=by obtain ⟨_,rfl⟩:=Jn h;rfl
   subst hr
   exact MCall.ofP<|Ln [] [] h
  |cons x xs=>
  have hr:X6 ([]:List Stay) (x::xs)=some r:=h
  have e:=(Jn hr).2
  rw [lQ]at e
  rw [pW (V4 hr),eW (V4 hr)]
  refine PU (fk func121 ntmps121 m0 (by with_unfolding_all rfl)) W (Nat.le_of_ble_eq_true W) ?_
  refine (B4 (s0:=⟨T [(0, .d (.list (List.map J7 (x::xs))))],G []⟩) (E0 ⟨.of W,trivial⟩ trivial) ?_)
  refine A5 ?_
  refine Br fun _ _=> ?_
  refine C0 (.d .nilS) W W ?_
  refine A1 ?_
  refine A5 ?_
  refine A5 ?_
  refine Br fun _ _=> ?_
  refine C0 (.d (.list (List.map J7 (x::xs)))) W W ?_
  refine C0 (.d (bo false)) W W ?_
  refine A1 ?_
  refine Tm W ?_
  refine A8 ?_
  refine A5 ?_
  refine Br fun u3 _=> ?_
  refine Ot (.sl _) (.arr 127 4 (List.map J7 ([]:List Stay))) W W ?_
  refine C0 (.d (.list (List.map J7 (x::xs)))) W W ?_
  refine Yl J7 _ [] (x::xs) _ (K7<|fun _=>W) W G_hit hr ?_
  refine C0 (.sl _) W W ?_
  refine A1 ?_
  refine B2 ?_
  exact fO (v1:= .sl (7,u3)) (.inr W) (SF<|B3 W) (.of W) [((7,u3),some<|.arr 127 4 (List.map J7 r))] (B5 G_hit (.of W) trivial) (fN [(7,u3)] W trivial ⟨G_hit,trivial⟩ W (by simp only [lU,List.not_mem_nil,or_false,forall_eq];exact fun i=>fM rfl i) nd1)
def Pe (p1:State)(x1:(Int×State)):Option (Stp (Int×State) State):=
  cond (decide (x1.1< (p1.Agents.length:Int))) ((C1 p1.Agents x1.1).bind fun v2=>(Ea v2).bind fun v3=>(X6 x1.2.Agents [v3]).bind fun v4=>some (.go ((D3 (x1.1+1)),(State.mk x1.2.Tick v4 x1.2.In)))) (some (.out x1.2))
def Gf [Lp](p1:State):Option State:=
  (Ae p1.In).bind fun v1=>(loop (Pe p1) (0,(State.mk p1.Tick [] v1))).bind fun y1=>some y1
theorem FZ(p1 r)(h:Gf p1=some r):MCall prog 56 [(.d (.agg (Bc p1)))] [] (X5 [(di r.Tick),(oS r.Agents (800000,0)),(oE r.In (800001,0))]) [] [oB 45 7 D0 r.Agents,oB 127 4 J7 r.In]:=by
 refine PU (fk func56 ntmps56 (fun r=>if r==1 then [1001004]else if r==5 then [1004]else []) (by with_unfolding_all rfl)) (by generalize r.Agents=x1;generalize r.In=x2;cases x1<;>cases x2<;>rfl) (nl W) ?_
 unfold Gf at h
 refine B4 (s0:=⟨T [(0,(.d _))],G []⟩) (F2 W W) ?_
 refine lr<|fun u1 _=>sm W<|sm W<|A1<|A5<|Rm fun u2 _=>N9 (.ptr _ _) W W (N9 (.d _) W (Q8 W (gq W) W) (N9 (.ptr _ _) W W (N9 (.d _) W (Q8 W (gq W) W) (bs h fun v1 hv1 h=> ?_))))
 refine oL (v:=oE v1 (10010040,u2)) (us:= [(10010040,u2)]) (fR (Sn _ _ hv1) [] [] _ (((10010040,u2),oB 127 4 J7 v1)::_) W Nt W Jc trivial (fun _ h=>h) List.nodup_nil (by generalize v1=x1;cases x1<;>rfl) W (KE (W)) W) ?_
 refine N9 (X5 [(di p1.Tick),(.d .nilS),(oE v1 (10010040,u2))]) W (by generalize v1=x1;cases x1<;>rfl) ?_
 refine HG (.ptr _ _) (.box _ _) W W (Vr _ _ _ _ _ (X1 _) W W G_hit (nl W) [(di p1.Tick),(.d .nilS),(oE v1 (10010040,u2))] W (DZ ⟨W,?_⟩))
 refine A5<|B0<|sq W<|sl W (gq W) W (sd W (D7 W)<|sv W<|A1<|bs h fun y1 hy1 h=>D9 (fun s=> ∃g1:(Nat×Nat),Sb ⟨T [(2,(.ptr (2,u1) 0)),(3,(.ptr (3,u2) 0))],G [((2,u1),some<|.box 25 [(di 0),(.d .nilS),(.d .nilS)]),((3,u2),some<|.box 25 [(di y1.Tick),(oS y1.Agents (24,g1.1)),(oE y1.In (10010040,g1.2))]),((24,g1.1),oB 45 7 D0 y1.Agents),((10010040,g1.2),oB 127 4 J7 y1.In)]⟩ s) ?_ ?_)
 refine A7<|E4 (Pe p1) (fun (x1:(Int×State)) (g2:(Nat×Nat))=>⟨T [(2,(.ptr (2,u1) 0)),(3,(.ptr (3,u2) 0)),(13,(dl D0 p1.Agents)),(14,(di (p1.Agents.length:Int))),(15,(di x1.1))],G [((2,u1),some<|.box 25 [(di 0),(.d .nilS),(.d .nilS)]),((3,u2),some<|.box 25 [(di x1.2.Tick),(oS x1.2.Agents (24,g2.1)),(oE x1.2.In (10010040,g2.2))]),((24,g2.1),oB 45 7 D0 x1.2.Agents),((10010040,g2.2),oB 127 4 J7 x1.2.In)]⟩) (0,(State.mk p1.Tick [] v1)) (0,u2) _ hy1 (E0 (Z7 W)<|sg W<|B5 G_hit (.of W)<|S5<|B8 (gq W) trivial) ?_
 intro x1 g2 z1 hz1 ez1
 unfold Pe at hz1
 refine B0<|sv W<|A1<|A5<|cc W hz1 (fun c1 hz1=> ?_)<|fun c1 hz1=> ?_
 refine A8<|A5<|A7<|B0<|bs hz1 fun v2 hv2 hz1=>sd W (C5 W W hv2 W)<|sd W (D4 W hv2 W W)<|sm W<|U0 W G_hit (T0 v2) W (A1<|Nr W fun u6 _=>sq W<|C0 (oS x1.2.Agents (24,g2.1)) W (Q8 W (gq W) W) (sd W (B1 W G_hit W W)<|bs hz1 fun v3 hv3 hz1=>A9 W W A3 (Nw _ _ hv3) (.inl W) (C0 (dl D0 [v3]) W W (bs hz1 fun _ hv4 hz1=>Q3 D0 (24,g2.1) x1.2.Agents v3 [] _ (K7<|fun _=>W) W (gq W) hv4 (sq W<|U0 W (gq W) [(di x1.2.Tick),(.sl (24,u6)),(oE x1.2.In (10010040,g2.2))] W (A1<|E3<|B7<|sv W<|sv W<|A1<|E2 ?_))))))
 cases hz1
 exact ⟨W,(u6,g2.2),(E0 (Z7 W)<|sg W<|B5 G_hit (.box (cv<|.cons (.of (V1<|V4 hv4).symm) cw))<|N8 (gq W)<|B8 (gq W) trivial)⟩
 refine C8 W ?_
 cases hz1
 obtain rfl:=ez1 _ rfl
 refine ⟨nofun,C6 W<|U4 ?_⟩
 exact ⟨(g2.1,g2.2),(E0 (Z7 W)<|B5 G_hit (.of W)<|sg W<|B8 (gq W)<|B8 (gq W) trivial)⟩
 rintro _ ⟨g1,q1⟩
 refine B4 q1<|B0<|C0 (X5 [(di y1.Tick),(oS y1.Agents (24,g1.1)),(oE y1.In (10010040,g1.2))]) W (B1 W (gq W) W W) (Jz _ _ _ _ _ (X1 _) W W G_hit (nl W) [(di y1.Tick),(oS y1.Agents (24,g1.1)),(oE y1.In (10010040,g1.2))] W (A1<|B2 ?_))
 obtain rfl:=(lD h)
 exact fO (v1:=(X5 [(di y1.Tick),(oS y1.Agents (24,g1.1)),(oE y1.In (10010040,g1.2))])) (.inr W) (SF<|K2 W G_hit (Nat.le_of_ble_eq_true W) W) (.of W) [((24,g1.1),oB 45 7 D0 y1.Agents),((10010040,g1.2),oB 127 4 J7 y1.In)] (B8 (gq W)<|B8 (gq W) trivial) (XY [(24,g1.1),(10010040,g1.2)] (by generalize y1.Agents=x1;generalize y1.In=x2;cases x1<;>cases x2<;>rfl) trivial ⟨(G_hit).trans oB_ren.symm,((gq W)).trans oB_ren.symm,trivial⟩ W (List.forall_mem_cons.2 ⟨fun i hi=>IP W hi,(List.forall_mem_cons.2 ⟨fun i hi=>IP W hi,(fun _ h=>nomatch h)⟩)⟩) (pJ<|Ls W))
def S8 [Lp](p1:WorldScene)(p2:Int)(p3:Int):Option (Int×Bool):=
  (C1 p1.before.Agents p2).bind fun v1=>(R5 v1.Route p3).bind fun v2=>cond (decide (v2<0)) (some (0,false)) ((Bu p1.m v1.Route).bind fun v3=>(C1 v3 v2).bind fun v4=>some (v4,true))
theorem Od(p1 p2 p3 r)(h:S8 p1 p2 p3=some r):PCall prog 227 [(.bp (Qf p1) 0),(i64 p2),(i64 p3)] (.tup [(i64 r.1),(bo r.2)]):=by
 refine C4 (fk func227 ntmps227 m0 (by with_unfolding_all rfl)) (nl W) ?_
 unfold S8 at h
 refine B4 (s0:=⟨T [(0,(.d _)),(1,(.d _)),(2,(.d _))],G []⟩) (F2 W W) ?_
 refine B0<|sv W<|sv W<|A1<|B0<|sv W<|sv W<|sv W<|sv W<|sv W<|sv W<|bs h fun _ hv1 h=>sd W (C5 W W hv1 W)<|sv W<|sd W (C9 W hv1 W)<|sv W<|A1<|B0<|sv W<|sv W<|bs h fun _ hv2 h=>A9 W W A3 (Nc _ _ _ hv2) (.inl W) (sv W<|A1<|A5<|B0<|sv W<|sv W<|A1<|cc W h (fun c1 h=> ?_)<|fun c1 h=> ?_)
 refine B0<|sv W<|sv W<|A1<|B2 ?_
 cases h
 exact A6 (.inr W) (Na (B3 W) (B3 W) C2 C2) (.refl _)
 refine A8<|B0<|sv W<|sv W<|sv W<|sv W<|sv W<|bs h fun _ hv3 h=>A9 W W A3 (Qt _ _ _ hv3) (.inl W) (sv W<|bs h fun _ hv4 h=>sd W (C5 W W hv4 W)<|sd W (C9 W hv4 W)<|sv W<|sv W<|A1<|B2 ?_)
 cases h
 exact A6 (.inr W) (Na (B3 W) (B3 W) C2 C2) (.refl _)
def U2 [Lp](p1:WorldScene)(p2:Int)(p3:Int):Option Stay:=
  (D2 p1.after.In (Stay.mk p2 p3 0 0)).bind fun v1=>(C1 p1.after.In v1.1).bind fun v2=>some v2
theorem Ou(p1 p2 p3 r)(h:U2 p1 p2 p3=some r):PCall prog 228 [(.bp (Qf p1) 0),(i64 p2),(i64 p3)] (.agg (J7 r)):=by
 refine C4 (fk func228 ntmps228 m0 (by with_unfolding_all rfl)) (nl W) ?_
 unfold U2 at h
 refine B4 (s0:=⟨T [(0,(.d _)),(1,(.d _)),(2,(.d _))],G []⟩) (F2 W W) ?_
 refine B0<|sm W<|A1<|B0<|sv W<|sv W<|sv W<|sv W<|sv W<|sv W<|sv W<|sv W<|bs h fun _ hv1 h=>A9 W W A3 (P1 _ _ _ hv1) (.inl W) (sv W<|sv W<|sv W<|sv W<|sv W<|A1<|B0<|sv W<|sv W<|sv W<|sv W<|sv W<|sv W<|bs h fun v2 hv2 h=>sd W (C5 W W hv2 W)<|sd W (D4 W hv2 W W)<|U0 W G_hit (Wx v2) W (A1<|B2 ?_))
 cases h
 exact A6 (.inr W) (B6 (K2 W G_hit (nl W) W) C2) (.refl _)
def An [Lp](p1:Map)(p2:State)(p3:(List Int))(v2:State)(y2:(List Agent))(y5:(List Stay))(a1:(Int×Int))(x6:(Int× (List Crash))):Option (Stp (Int× (List Crash)) (List Crash)):=
  cond (decide (x6.1< (p1.Zones.length:Int))) ((S7 (WorldScene.mk p1 p2 (State.mk v2.Tick y2 y5) p3 x6.2) a1.1 a1.2 x6.1).bind fun v28=>cond (!v28) (some (.go ((D3 (x6.1+1)),x6.2))) ((U2 (WorldScene.mk p1 p2 (State.mk v2.Tick y2 y5) p3 x6.2) a1.1 x6.1).bind fun v29=>(U2 (WorldScene.mk p1 p2 (State.mk v2.Tick y2 y5) p3 x6.2) a1.2 x6.1).bind fun v30=>(Y7 v29.Rank v30.Rank).bind fun v31=>(Aj v30.Since v29.Since).bind fun v32=>(Bk [v31,v32]).bind fun v33=>(cond (v33==(-1)) (some [a1.1]) (cond (v33==1) (some [a1.2]) (some [a1.1,a1.2]))).bind fun y17=>(X6 x6.2 [(Crash.mk p2.Tick a1.1 a1.2 (-1) x6.1 y17)]).bind fun v34=>some (.go ((D3 (x6.1+1)),v34)))) (some (.out x6.2))
def Ee [Lp](p1:Map)(p2:State)(p3:(List Int))(v2:State)(y2:(List Agent))(y5:(List Stay))(a1:(Int×Int))(y12:(List Crash)):Option (List Crash):=
  (loop (An p1 p2 p3 v2 y2 y5 a1) (0,y12)).bind fun y16=>some y16
def Ao [Lp](p1:Map)(p2:State)(p3:(List Int))(v2:State)(y2:(List Agent))(y5:(List Stay))(x4:(List Crash))(a1:(Int×Int))(x5:Int):Option (Stp Int (Sum Unit (List Crash))):=
  cond (decide (x5< (p1.Lanes.length:Int))) ((S8 (WorldScene.mk p1 p2 (State.mk v2.Tick y2 y5) p3 x4) a1.1 x5).bind fun v13=>(S8 (WorldScene.mk p1 p2 (State.mk v2.Tick y2 y5) p3 x4) a1.2 x5).bind fun v14=>cond ((!v13.2)||(!v14.2)) (some (.go (D3 (x5+1)))) ((C1 p2.Agents a1.1).bind fun v15=>(C1 p2.Agents a1.2).bind fun v16=>(cond (decide ((D3 (v15.S - v13.1))< (D3 (v16.S - v14.1)))) (some (v14.1,v13.1,a1.2,a1.1)) (some (v13.1,v14.1,a1.1,a1.2))).bind fun y14=>(C1 y2 y14.2.2.1).bind fun v17=>(Ag v17).bind fun v18=>(Y8 v18 y14.1).bind fun v19=>(C1 y2 y14.2.2.2).bind fun v20=>(Ag v20).bind fun v21=>(Y8 v21 y14.2.1).bind fun v22=>(C1 p2.Agents y14.2.2.2).bind fun v23=>(Ag v23).bind fun v24=>(Y8 v24 y14.2.1).bind fun v25=>(Bw p1 x5).bind fun v26=>cond (((((decide (v19.to≥0))&& (decide (v22.to≥0)))&& (decide (v25.from_≤v26)))&& (decide (v19.from_≤v26)))&& (decide (v22.to≥v19.from_))) ((X6 x4 [(Crash.mk p2.Tick a1.1 a1.2 x5 (-1) [y14.2.2.2])]).bind fun v27=>some (.out (.inr v27))) (some (.go (D3 (x5+1)))))) (some (.out (.inl ())))
def Gg [Lp](p1:Map)(p2:State)(p3:(List Int))(v2:State)(y2:(List Agent))(y5:(List Stay))(x4:(List Crash))(a1:(Int×Int)):Option (List Crash):=
  thenS (loop (Ao p1 p2 p3 v2 y2 y5 x4 a1) 0) (fun _=>some x4) (fun r=>some r)
def By [Lp](p1:Map)(p2:State)(p3:(List Int))(v2:State)(y2:(List Agent))(y5:(List Stay))(x4:(List Crash))(a1:(Int×Int)):Option (Stp (List Crash) (List Crash)):=
  (Gg p1 p2 p3 v2 y2 y5 x4 a1).bind fun y12=>(Ee p1 p2 p3 v2 y2 y5 a1 y12).bind fun y15=>some (.go y15)
def Uh:Option Unit:=
  some ()
def Gh [Lp](p1:Map)(p2:State)(p3:(List Int))(v2:State)(y2:(List Agent))(y5:(List Stay)):Option (List Crash):=
  (Uh).bind fun y10=>((FY p2).bind fun v12=>loopL (By p1 p2 p3 v2 y2 y5) (fun (x4:(List Crash))=>x4) v12 []).bind fun y11=>some y11
def Bz [Lp](p1:Map)(p2:State)(p3:(List Int))(v2:State)(y2:(List Agent))(x2:(Int× (List Stay)))(v6:Agent)(x3:(Int× (List Stay))):Option (Stp (Int× (List Stay)) (List Stay)):=
  cond (decide (x3.1< (p1.Zones.length:Int))) ((N7 (WorldScene.mk p1 p2 (State.mk v2.Tick y2 x3.2) p3 []) x2.1 x3.1).bind fun v7=>cond (!v7) (some (.go ((D3 (x3.1+1)),x3.2))) ((D2 p2.In (Stay.mk x2.1 x3.1 p2.Tick 0)).bind fun v8=>(cond v8.2 ((C1 p2.In v8.1).bind fun v9=>some v9) ((Gc p1 v6 x3.1 p2.Tick).bind fun v10=>some (Stay.mk x2.1 x3.1 p2.Tick v10))).bind fun y8=>(X6 x3.2 [y8]).bind fun v11=>some (.go ((D3 (x3.1+1)),v11)))) (some (.out x3.2))
def Ca [Lp](p1:Map)(p2:State)(p3:(List Int))(v2:State)(y2:(List Agent))(x2:(Int× (List Stay))):Option (Stp (Int× (List Stay)) (List Stay)):=
  cond (decide (x2.1< (p2.Agents.length:Int))) ((C1 p2.Agents x2.1).bind fun v6=>(loop (Bz p1 p2 p3 v2 y2 x2 v6) (0,x2.2)).bind fun y7=>some (.go ((D3 (x2.1+1)),y7))) (some (.out x2.2))
def Gi [Lp](p1:Map)(p2:State)(p3:(List Int))(v2:State)(y2:(List Agent)):Option (List Stay):=
  (loop (Ca p1 p2 p3 v2 y2) (0,[])).bind fun y6=>some y6
def Cb [Lp](p1:Map)(p2:State)(p3:(List Int))(x1:(Int× (List Agent))):Option (Stp (Int× (List Agent)) (List Agent)):=
  cond (decide (x1.1< (p2.Agents.length:Int))) ((cond (decide (x1.1< (p3.length:Int))) ((C1 p3 x1.1).bind fun v3=>some v3) (some 0)).bind fun y4=>(Kn p1 p2 x1.1 y4).bind fun v4=>(C1 x1.2 x1.1).bind fun v5=>some (.go ((D3 (x1.1+1)),(Lx x1.2 x1.1 v4)))) (some (.out x1.2))
def Gj [Lp](p1:Map)(p2:State)(p3:(List Int))(v2:State):Option (List Agent):=
  (loop (Cb p1 p2 p3) (0,v2.Agents)).bind fun y3=>some y3
def Ir [Lp](p1:Map)(p2:State)(p3:(List Int)):Option (State× (List Crash)×Int):=
  (Dm p1 p2).bind fun v1=>cond (v1 !=0) (some ((State.mk 0 [] []),[],v1)) (cond (decide (p2.Tick≥1099511627776)) (some ((State.mk 0 [] []),[],2)) ((Gf p2).bind fun v2=>((Gj p1 p2 p3 v2).bind fun y2=>(Gi p1 p2 p3 v2 y2).bind fun y5=>(Gh p1 p2 p3 v2 y2 y5).bind fun y9=>some (y2,y5,y9)).bind fun y1=>some ((State.mk (D3 (v2.Tick+1)) y1.1 y1.2.1),y1.2.2,0)))
theorem BF(p1 p2 p3 r)(h:Ir p1 p2 p3=some r):PCall prog 31 [(.agg (P7 p1)),(.agg (Bc p2)),(.list (List.map A4 p3))] (.tup [(.agg (Bc r.1)),(.list (List.map Es r.2.1)),(i64 r.2.2)]):=by
 refine C4 (fk func31 ntmps31 (fun r=>if r==6 then [1006003]else if r==10 then [2]else []) (by with_unfolding_all rfl)) (nl W) ?_
 unfold Ir at h
 refine B4 (s0:=⟨T [(0,(.d _)),(1,(.d _)),(2,(.d _))],G []⟩) (F2 W W) ?_
 refine lr<|fun u1 _=>sm W<|sm W<|sn W W<|sv W<|sv W<|A1<|A5<|B0<|sd W (B1 W (gq W) W W)<|sd W (B1 W (gq W) W W)<|bs h fun _ hv1 h=>A9 W W A3 (Sl _ _ _ hv1) (.inl W) (sv W<|A1<|B0<|sv W<|sv W<|A1<|cc W h (fun c1 h=> ?_)<|fun c1 h=> ?_)
 refine B0<|sv W<|sv W<|U0 W G_hit [(di 0),(.d .nilS),(.d .nilS)] W (sv W<|sv W<|A1<|B2 ?_)
 cases h
 exact A6 (.inr W) (Yj (K2 W G_hit (nl W) W) (B3 W) (B3 W) C2 C2 C2) (.tup (.cons (.agg (ca W<|.cons ⟨DLe.nil,W⟩ (.cons ⟨DLe.nil,W⟩ .nil))) (.cons DLe.nil A3)))
 refine A8<|A5<|B0<|sq W<|sl W (gq W) W (sv W<|A1<|cc W h (fun c2 h=> ?_)<|fun c2 h=> ?_)
 refine B0<|sv W<|U0 W G_hit [(di 0),(.d .nilS),(.d .nilS)] W (sv W<|sv W<|A1<|B2 ?_)
 cases h
 exact A6 (.inr W) (Yj (K2 W G_hit (nl W) W) (B3 W) (B3 W) C2 C2 C2) (.tup (.cons (.agg (ca W<|.cons ⟨DLe.nil,W⟩ (.cons ⟨DLe.nil,W⟩ .nil))) (.cons DLe.nil A3)))
 refine A8<|A5<|Rm fun u7 _=>N9 (.d _) W (B1 W (gq W) W W) (N9 (.d _) W (B1 W (gq W) W W) (N9 (.d _) W (B1 W (gq W) W W) (bs h fun v2 hv2 h=> ?_)))
 refine oL (v:=X5 [(di v2.Tick),(oS v2.Agents (10060030,u7)),(oE v2.In (10060031,u7))]) (us:= [(10060030,u7),(10060031,u7)]) (fR (FZ _ _ hv2) [] [] _ (((10060031,u7),oB 127 4 J7 v2.In)::(((10060030,u7),oB 45 7 D0 v2.Agents)::_)) W Nt W Jc trivial (fun _ h=>h) List.nodup_nil (by generalize v2.Agents=x1;generalize v2.In=x2;cases x1<;>cases x2<;>rfl) W (KE<|KE (W)) W) ?_
 refine N9 (.d _) W W ?_
 refine N9 (X5 ((L4 p1)++ (J5 p2)++ [(di v2.Tick),(oS v2.Agents (10060030,u7)),(oE v2.In (10060031,u7)),(dl A4 p3),(.d .nilS)])) W (by generalize v2.Agents=x1;generalize v2.In=x2;cases x1<;>cases x2<;>rfl) ?_
 refine HG (.ptr _ _) (.box _ _) W (VT W) (N9 (.ptr _ _) W W (DZ ⟨W,?_⟩))
 refine A5<|B0<|sv W<|sv W<|A1<|bs h fun y1 hy1 h=>D9 (fun s=> ∃g1:(Nat×Nat× ({d:Nat // d∈ [72,158]}×Nat)),Sb ⟨T [(6,(.ptr (6,u1) 0)),(10,(.ptr (30,u7) 0))],G [((6,u1),some<|.box 25 [(di 0),(.d .nilS),(.d .nilS)]),((30,u7),some<|.box 135 ((L4 p1)++ (J5 p2)++ [(di v2.Tick),(oS y1.1 (10060030,g1.1)),(oS y1.2.1 (85,g1.2.1)),(dl A4 p3),(oS y1.2.2 (g1.2.2.1.val,g1.2.2.2))])),((10060030,g1.1),oB 45 7 D0 y1.1),((85,g1.2.1),oB 127 4 J7 y1.2.1),((g1.2.2.1.val,g1.2.2.2),oB 77 6 Es y1.2.2)]⟩ s) ?_ ?_
 refine A7<|DW<|B0<|sv W<|A1<|A5<|Zv W<|A8<|A5<|A7<|B0<|sv W<|sv W<|A1<|B7<|sv W<|sq W<|bs hy1 fun y2 hy2 hy1=>CK (fk func90 ntmps90 m0 (by with_unfolding_all rfl)) (fun (g2:Nat)=> [(6,(.ptr (6,u1) 0)),(10,(.ptr (30,u7) 0)),(31,(.d (.agg [(.fn (.func 90) [] []),(.fn (.func 80) [] []),(.fn (.func 91) [] [])]))),(32,(di 0))]) (fun (g2:Nat)=> [((6,u1),some<|.box 25 [(di 0),(.d .nilS),(.d .nilS)]),((30,u7),some<|.box 135 ((L4 p1)++ (J5 p2)++ [(di v2.Tick),(oS y2 (10060030,g2)),(oE v2.In (10060031,u7)),(dl A4 p3),(.d .nilS)])),((10060031,u7),oB 127 4 J7 v2.In),((10060030,g2),oB 45 7 D0 y2)]) W (nl W) ?_ ?_
 unfold Gj at hy2
 refine B4 (s0:=⟨T [(0,(.ptr (30,u7) 0))],G [((30,u7),some<|.box 135 ((L4 p1)++ (J5 p2)++ [(di v2.Tick),(oS v2.Agents (10060030,u7)),(oE v2.In (10060031,u7)),(dl A4 p3),(.d .nilS)])),((10060030,u7),oB 45 7 D0 v2.Agents),((10060031,u7),oB 127 4 J7 v2.In),((6,u1),some<|.box 25 [(di 0),(.d .nilS),(.d .nilS)])]⟩) (E0 ⟨.of W,trivial⟩<|B5 G_hit (.of W)<|B8 (gq W)<|B8 (gq W)<|sg W trivial) ?_
 refine B0<|sq W<|sp W W<|sq W<|sp W W<|sl W G_hit W<|sd W (D7 W)<|sv W<|A1<|bs hy2 fun y3 hy3 hy2=>D9 (fun s=> ∃g3:Nat,Sb ⟨T [],G [((6,u1),some<|.box 25 [(di 0),(.d .nilS),(.d .nilS)]),((30,u7),some<|.box 135 ((L4 p1)++ (J5 p2)++ [(di v2.Tick),(oS y3 (10060030,g3)),(oE v2.In (10060031,u7)),(dl A4 p3),(.d .nilS)])),((10060031,u7),oB 127 4 J7 v2.In),((10060030,g3),oB 45 7 D0 y3)]⟩ s) ?_ ?_
 refine A7<|E4 (Cb p1 p2 p3) (fun (x1:(Int× (List Agent))) (g4:Nat)=>⟨T [(0,(.ptr (30,u7) 0)),(9,(di (p2.Agents.length:Int))),(10,(di x1.1))],G [((30,u7),some<|.box 135 ((L4 p1)++ (J5 p2)++ [(di v2.Tick),(oS x1.2 (10060030,g4)),(oE v2.In (10060031,u7)),(dl A4 p3),(.d .nilS)])),((6,u1),some<|.box 25 [(di 0),(.d .nilS),(.d .nilS)]),((10060031,u7),oB 127 4 J7 v2.In),((10060030,g4),oB 45 7 D0 x1.2)]⟩) (0,v2.Agents) u7 _ hy3 (E0 (Z7 W)<|B5 G_hit (.of W)<|sg W<|B8 (gq W)<|B8 (gq W) trivial) ?_
 intro x1 g4 z1 hz1 ez1
 unfold Cb at hz1
 refine B0<|sv W<|A1<|A5<|cc W hz1 (fun c3 hz1=> ?_)<|fun c3 hz1=> ?_
 refine A8<|A5<|A7<|B0<|sv W<|sv W<|A1<|B0<|sv W<|A1<|A5<|B0<|sv W<|sq W<|sp W W<|sq W<|sl W G_hit W<|sd W (D7 W)<|sv W<|A1<|bs hz1 fun y4 hy4 hz1=>D9 (fun s=> ∃g5:Unit,Sb ⟨T [(0,(.ptr (30,u7) 0)),(2,(di x1.1)),(3,(di y4)),(9,(di (p2.Agents.length:Int))),(10,(di x1.1))],G [((30,u7),some<|.box 135 ((L4 p1)++ (J5 p2)++ [(di v2.Tick),(oS x1.2 (10060030,g4)),(oE v2.In (10060031,u7)),(dl A4 p3),(.d .nilS)])),((6,u1),some<|.box 25 [(di 0),(.d .nilS),(.d .nilS)]),((10060030,g4),oB 45 7 D0 x1.2),((10060031,u7),oB 127 4 J7 v2.In)]⟩ s) ?_ ?_
 refine cc W hy4 (fun c4 hy4=> ?_)<|fun c4 hy4=> ?_
 refine B7<|sq W<|sq W<|sp W W<|sl W G_hit W<|sv W<|bs hy4 fun _ hv3 hy4=>sd W (C5 W W hv3 W)<|sd W (C9 W hv3 W)<|sv W<|A1 ?_
 obtain rfl:=(lD hy4)
 exact U4 ⟨(),(E0 (Z7 W)<|B5 G_hit (.of W)<|sg W<|B8 (gq W)<|B8 (gq W) trivial)⟩
 refine A8 ?_
 cases hy4
 exact U4 ⟨(),(E0 (Z7 W)<|B5 G_hit (.of W)<|sg W<|B8 (gq W)<|B8 (gq W) trivial)⟩
 rintro _ ⟨g5,q1⟩
 refine B4 q1<|E7 W<|sq W<|sq W<|sp W W<|sq W<|C0 (oS x1.2 (10060030,g4)) W (Q8 W G_hit W) (sv W<|sq W<|sp W W<|sq W<|sd W (B1 W G_hit W W)<|sq W<|sp W W<|sq W<|sd W (B1 W G_hit W W)<|sv W<|sv W<|bs hz1 fun v4 hv4 hz1=>A9 W W A3 (MM _ _ _ _ _ hv4) (.inl W) (bs hz1 fun _ hv5 hz1=>C0 (.aptr _ _ _ _) W (Qr W W (gq W) hv5) ?_))
 rw [V1 (Ek hv5)]
 refine Qd D0 _ _ _ (x1.1) _ v4 (D0 v4) W W W (Ii (gq W)<|Ek hv5) hv5 (nl W) W (A1<|E3<|B7<|sv W<|sv W<|A1<|E2 ?_)
 cases hz1
 exact ⟨W,g4,(E0 (Z7 W)<|B5 (gq W) (.box (cv<|cv<|cv<|cv<|cv<|cv<|cv<|cv<|cv<|.cons (.of (V1<|Zw<|Ek hv5).symm) cw)) (sg W<|B8 (gq W)<|N8 G_hit trivial))⟩
 refine C8 W ?_
 cases hz1
 obtain rfl:=ez1 _ rfl
 refine ⟨nofun,C6 W<|U4 ?_⟩
 exact ⟨g4,(E0 trivial<|sg W<|B5 G_hit (.of W)<|B8 (gq W)<|B8 (gq W) trivial)⟩
 rintro _ ⟨g3,q2⟩
 refine E2 ?_
 obtain rfl:=(lD hy2)
 exact Yp q2 (.inl W) g3 (Z7 W) (B5 G_hit (.of W)<|sg W<|B8 (gq W)<|B8 (gq W) trivial)
 intro g2
 intro u20 hu20
 refine A1<|E3<|B7<|sv W<|sv W<|A1<|DW<|B0<|sv W<|A1<|A5<|Zv W<|A8<|A5<|A7<|B0<|sv W<|sv W<|A1<|B7<|sv W<|sq W<|bs hy1 fun y5 hy5 hy1=>CK (fk func80 ntmps80 (fun r=>if r==13 then [1007]else []) (by with_unfolding_all rfl)) (fun (g6:Nat)=> [(6,(.ptr (6,u1) 0)),(10,(.ptr (30,u7) 0)),(31,(.d (.agg [(.fn (.func 90) [] []),(.fn (.func 80) [] []),(.fn (.func 91) [] [])]))),(32,(di 1))]) (fun (g6:Nat)=> [((6,u1),some<|.box 25 [(di 0),(.d .nilS),(.d .nilS)]),((30,u7),some<|.box 135 ((L4 p1)++ (J5 p2)++ [(di v2.Tick),(oS y2 (10060030,g2)),(oS y5 (85,g6)),(dl A4 p3),(.d .nilS)])),((10060030,g2),oB 45 7 D0 y2),((85,g6),oB 127 4 J7 y5)]) W (nl W) ?_ ?_
 unfold Gi at hy5
 refine B4 (s0:=⟨T [(0,(.ptr (30,u7) 0))],G [((30,u7),some<|.box 135 ((L4 p1)++ (J5 p2)++ [(di v2.Tick),(oS y2 (10060030,g2)),(oE v2.In (10060031,u7)),(dl A4 p3),(.d .nilS)])),((10060030,g2),oB 45 7 D0 y2),((10060031,u7),oB 127 4 J7 v2.In),((6,u1),some<|.box 25 [(di 0),(.d .nilS),(.d .nilS)])]⟩) (E0 ⟨.of W,trivial⟩<|sg W<|B8 (gq W)<|B8 (gq W)<|B5 G_hit (.of W) trivial) ?_
 refine B0<|sq W<|sp W W<|sq W<|sp W W<|U0 W G_hit ((L4 p1)++ (J5 p2)++ [(di v2.Tick),(oS y2 (10060030,g2)),(.d .nilS),(dl A4 p3),(.d .nilS)]) W (A1<|B0<|sq W<|sp W W<|sq W<|sp W W<|sl W G_hit W<|sd W (D7 W)<|sv W<|A1<|bs hy5 fun y6 hy6 hy5=>D9 (fun s=> ∃g7:Nat,Sb ⟨T [],G [((6,u1),some<|.box 25 [(di 0),(.d .nilS),(.d .nilS)]),((30,u7),some<|.box 135 ((L4 p1)++ (J5 p2)++ [(di v2.Tick),(oS y2 (10060030,g2)),(oS y6 (85,g7)),(dl A4 p3),(.d .nilS)])),((10060030,g2),oB 45 7 D0 y2),((85,g7),oB 127 4 J7 y6)]⟩ s) ?_ ?_)
 refine A7<|E4 (Ca p1 p2 p3 v2 y2) (fun (x2:(Int× (List Stay))) (g8:Nat)=>⟨T [(0,(.ptr (30,u7) 0)),(16,(dl D0 p2.Agents)),(17,(di (p2.Agents.length:Int))),(18,(di x2.1))],G [((30,u7),some<|.box 135 ((L4 p1)++ (J5 p2)++ [(di v2.Tick),(oS y2 (10060030,g2)),(oS x2.2 (85,g8)),(dl A4 p3),(.d .nilS)])),((6,u1),some<|.box 25 [(di 0),(.d .nilS),(.d .nilS)]),((10060030,g2),oB 45 7 D0 y2),((85,g8),oB 127 4 J7 x2.2)]⟩) (0,[]) 0 _ hy6 (E0 (Z7 W)<|B5 G_hit (.of W)<|sg W<|B8 (gq W)<|S5 trivial) ?_
 intro x2 g8 z2 hz2 ez2
 unfold Ca at hz2
 refine B0<|sv W<|A1<|A5<|cc W hz2 (fun c5 hz2=> ?_)<|fun c5 hz2=> ?_
 refine A8<|A5<|A7<|lr<|fun u28 _=>sv W<|bs hz2 fun v6 hv6 hz2=>sd W (C5 W W hv6 W)<|sd W (D4 W hv6 W W)<|sm W<|sv W<|U0 W G_hit (T0 v6) W (A1<|B0<|sq W<|sp W W<|sq W<|sp W W<|sl W (gq W) W (sd W (D7 W)<|sv W<|A1<|bs hz2 fun y7 hy7 hz2=>D9 (fun s=> ∃g9:Nat,Sb ⟨T [(0,(.ptr (30,u7) 0)),(16,(dl D0 p2.Agents)),(17,(di (p2.Agents.length:Int))),(18,(di x2.1))],G [((30,u7),some<|.box 135 ((L4 p1)++ (J5 p2)++ [(di v2.Tick),(oS y2 (10060030,g2)),(oS y7 (85,g9)),(dl A4 p3),(.d .nilS)])),((6,u1),some<|.box 25 [(di 0),(.d .nilS),(.d .nilS)]),((10060030,g2),oB 45 7 D0 y2),((85,g9),oB 127 4 J7 y7)]⟩ s) ?_ ?_))
 refine A7<|E4 (Bz p1 p2 p3 v2 y2 x2 v6) (fun (x3:(Int× (List Stay))) (g10:Nat)=>⟨T [(0,(.ptr (30,u7) 0)),(2,(di x2.1)),(3,(.ptr (3,u28) 0)),(16,(dl D0 p2.Agents)),(17,(di (p2.Agents.length:Int))),(18,(di x2.1)),(28,(di (p1.Zones.length:Int))),(29,(di x3.1))],G [((30,u7),some<|.box 135 ((L4 p1)++ (J5 p2)++ [(di v2.Tick),(oS y2 (10060030,g2)),(oS x3.2 (85,g10)),(dl A4 p3),(.d .nilS)])),((3,u28),some<|.box 45 (T0 v6)),((6,u1),some<|.box 25 [(di 0),(.d .nilS),(.d .nilS)]),((10060030,g2),oB 45 7 D0 y2),((85,g10),oB 127 4 J7 x3.2)]⟩) (0,x2.2) g8 _ hy7 (E0 (Z7 W)<|sg W<|B5 G_hit (.of W)<|sg W<|B8 (gq W)<|B8 (gq W) trivial) ?_
 intro x3 g10 z3 hz3 ez3
 unfold Bz at hz3
 refine B0<|sv W<|A1<|A5<|cc W hz3 (fun c6 hz3=> ?_)<|fun c6 hz3=> ?_
 refine A8<|A5<|A7<|B0<|sv W<|sv W<|A1<|A5<|B0<|sq W<|sv W<|sv W<|bs hz3 fun v7 hv7 hz3=>A9 W (E6 (Bi G_hit<|rD<|rD<|rD<|rD<|rD<|rD<|rD<|rD<|rD<|E6 (T9<|gq W)<|E6 (T9<|gq W)<|rD<|rD G1)<|rD<|rD G1) (.cons (DLe.bp<|ca W<|ca W<|ca W<|ca W<|ca W<|ca W<|ca W<|ca W<|ca W<|.cons ⟨T8,W⟩ (.cons ⟨T8,W⟩ (ca W<|.cons ⟨DLe.nil,W⟩ .nil))) (.cons (.refl _) A3)) (Bv _ _ _ _ hv7) (.inr W) (C0 (.d (bo (!v7))) W W (A1<|cc W hz3 (fun c7 hz3=> ?_)<|fun c7 hz3=> ?_))
 refine Pa W<|B7<|sv W<|sv W<|A1<|E2 ?_
 cases hz3
 exact ⟨W,g10,(E0 (Z7 W)<|B5 G_hit (.of W)<|sg W<|sg W<|B8 (gq W)<|B8 (gq W) trivial)⟩
 refine A8<|lr<|fun u34 _=>sv W<|sv W<|sq W<|sp W W<|sq W<|sp W W<|sl W G_hit W<|sv W<|sm W<|U0 W G_hit [(di x2.1),(di x3.1),(di p2.Tick),(di 0)] W (A1<|A5<|A5<|E7 W<|sq W<|sq W<|sp W W<|sq W<|sl W (gq W) W (sd W (B1 W G_hit W W)<|bs hz3 fun _ hv8 hz3=>A9 W W A3 (P1 _ _ _ hv8) (.inl W) (sv W<|sv W<|sv W<|sv W<|sv W<|A1<|B0<|sv W<|A1<|bs hz3 fun y8 hy8 hz3=>D9 (fun s=> ∃g11:Unit,Sb ⟨T [(0,(.ptr (30,u7) 0)),(2,(di x2.1)),(3,(.ptr (3,u28) 0)),(5,(.ptr (5,u34) 0)),(16,(dl D0 p2.Agents)),(17,(di (p2.Agents.length:Int))),(18,(di x2.1)),(28,(di (p1.Zones.length:Int))),(29,(di x3.1))],G [((30,u7),some<|.box 135 ((L4 p1)++ (J5 p2)++ [(di v2.Tick),(oS y2 (10060030,g2)),(oS x3.2 (85,g10)),(dl A4 p3),(.d .nilS)])),((3,u28),some<|.box 45 (T0 v6)),((5,u34),some<|.box 127 (Wx y8)),((6,u1),some<|.box 25 [(di 0),(.d .nilS),(.d .nilS)]),((10060030,g2),oB 45 7 D0 y2),((85,g10),oB 127 4 J7 x3.2)]⟩ s) ?_ ?_)))
 refine cc W hy8 (fun c8 hy8=> ?_)<|fun c8 hy8=> ?_
 refine B7<|sq W<|sq W<|sp W W<|sq W<|sl W (gq W) W (sv W<|bs hy8 fun v9 hv9 hy8=>sd W (C5 W W hv9 W)<|sd W (D4 W hv9 W W)<|U0 W G_hit (Wx v9) W (A1 ?_))
 obtain rfl:=(lD hy8)
 exact U4 ⟨(),(E0 (Z7 W)<|sg W<|sg W<|B5 G_hit (.of W)<|sg W<|B8 (gq W)<|B8 (gq W) trivial)⟩
 refine E7 W<|sq W<|sq W<|sp W W<|sd W (B1 W (gq W) W W)<|sd W (B1 W (gq W) W W)<|sv W<|sq W<|sp W W<|sq W<|sp W W<|sl W (gq W) W (bs hy8 fun v10 hv10 hy8=>A9 W W A3 (BD _ _ _ _ _ hv10) (.inl W) (sq W<|U0 W G_hit [(di x2.1),(di x3.1),(di p2.Tick),(di v10)] W (A1 ?_)))
 cases hy8
 exact U4 ⟨(),(E0 (Z7 W)<|sg W<|sg W<|B5 G_hit (.of W)<|sg W<|B8 (gq W)<|B8 (gq W) trivial)⟩
 rintro _ ⟨g11,q3⟩
 refine B4 q3<|Nr W fun u39 _=>sq W<|sq W<|sp W W<|sq W<|sp W W<|C0 (oS x3.2 (85,g10)) W (Q8 W G_hit W) (sd W (B1 W (gq W) W W)<|C0 (dl J7 [y8]) W W (bs hz3 fun _ hv11 hz3=>Q3 J7 (85,g10) x3.2 y8 [] _ (K7<|fun _=>W) W (gq W) hv11 (sq W<|sp W W<|sq W<|U0 W (gq W) ((L4 p1)++ (J5 p2)++ [(di v2.Tick),(oS y2 (10060030,g2)),(.sl (85,u39)),(dl A4 p3),(.d .nilS)]) W (A1<|E3<|B7<|sv W<|sv W<|A1<|E2 ?_))))
 cases hz3
 exact ⟨W,u39,(E0 (Z7 W)<|B5 G_hit (.box (cv<|cv<|cv<|cv<|cv<|cv<|cv<|cv<|cv<|cv<|.cons (.of (V1<|V4 hv11).symm) cw))<|sg W<|sg W<|B8 (gq W)<|N8 (gq W) trivial)⟩
 refine C8 W ?_
 cases hz3
 obtain rfl:=ez3 _ rfl
 refine ⟨nofun,C6 W<|U4 ?_⟩
 exact ⟨g10,(E0 (Z7 W)<|B5 G_hit (.of W)<|sg W<|B8 (gq W)<|B8 (gq W) trivial)⟩
 rintro _ ⟨g9,q4⟩
 refine E3<|B4 q4<|B7<|sv W<|sv W<|A1<|E2 ?_
 cases hz2
 exact ⟨W,g9,(E0 (Z7 W)<|B5 G_hit (.of W)<|sg W<|B8 (gq W)<|B8 (gq W) trivial)⟩
 refine C8 W ?_
 cases hz2
 obtain rfl:=ez2 _ rfl
 refine ⟨nofun,C6 W<|U4 ?_⟩
 exact ⟨g8,(E0 trivial<|sg W<|B5 G_hit (.of W)<|B8 (gq W)<|B8 (gq W) trivial)⟩
 rintro _ ⟨g7,q5⟩
 refine E2 ?_
 obtain rfl:=(lD hy5)
 exact Yp q5 (.inl W) g7 (Z7 W) (B5 G_hit (.of W)<|sg W<|B8 (gq W)<|B8 (gq W) trivial)
 intro g6
 intro u42 hu42
 refine A1<|E3<|B7<|sv W<|sv W<|A1<|DW<|B0<|sv W<|A1<|A5<|Zv W<|A8<|A5<|A7<|B0<|sv W<|sv W<|A1<|B7<|sv W<|sq W<|bs hy1 fun y9 hy9 hy1=>CK (fk func91 ntmps91 (fun r=>if r==1 then [1]else if r==4 then [3]else if r==5 then [3]else []) (by with_unfolding_all rfl)) (fun (g12:({d:Nat // d∈ [72,158]}×Nat))=> [(6,(.ptr (6,u1) 0)),(10,(.ptr (30,u7) 0)),(31,(.d (.agg [(.fn (.func 90) [] []),(.fn (.func 80) [] []),(.fn (.func 91) [] [])]))),(32,(di 2))]) (fun (g12:({d:Nat // d∈ [72,158]}×Nat))=> [((6,u1),some<|.box 25 [(di 0),(.d .nilS),(.d .nilS)]),((30,u7),some<|.box 135 ((L4 p1)++ (J5 p2)++ [(di v2.Tick),(oS y2 (10060030,g2)),(oS y5 (85,g6)),(dl A4 p3),(oS y9 (g12.1.val,g12.2))])),((10060030,g2),oB 45 7 D0 y2),((85,g6),oB 127 4 J7 y5),((g12.1.val,g12.2),oB 77 6 Es y9)]) W (nl W) ?_ ?_
 unfold Gh at hy9
 refine B4 (s0:=⟨T [(0,(.ptr (30,u7) 0))],G [((30,u7),some<|.box 135 ((L4 p1)++ (J5 p2)++ [(di v2.Tick),(oS y2 (10060030,g2)),(oS y5 (85,g6)),(dl A4 p3),(.d .nilS)])),((10060030,g2),oB 45 7 D0 y2),((85,g6),oB 127 4 J7 y5),((6,u1),some<|.box 25 [(di 0),(.d .nilS),(.d .nilS)])]⟩) (E0 ⟨.of W,trivial⟩<|sg W<|B8 (gq W)<|B8 (gq W)<|B5 G_hit (.of W) trivial) ?_
 refine lr<|fun u47 _=>sm W<|A1<|B0<|sp W (Q8 W G_hit W)<|bs hy9 fun _ hy10 hy9=>CK (fk func81 ntmps81 m0 (by with_unfolding_all rfl)) (fun (g13:{g:Nat // g≠u47})=> [(1,(.ptr (1,u47) 0)),(5,(.fn (.func 174) [] [(.ptr (1,g13.1) 0)]))]) (fun (g13:{g:Nat // g≠u47})=> [((1,u47),some<|.box 133 [(.ptr (30,u7) 0)]),((30,u7),some<|.box 135 ((L4 p1)++ (J5 p2)++ [(di v2.Tick),(oS y2 (10060030,g2)),(oS y5 (85,g6)),(dl A4 p3),(.d .nilS)])),((6,u1),some<|.box 25 [(di 0),(.d .nilS),(.d .nilS)]),((10060030,g2),oB 45 7 D0 y2),((85,g6),oB 127 4 J7 y5),((1,g13.1),some<|.box 133 [(.ptr (30,u7) 0)])]) W (nl W) ?_ ?_
 unfold Uh at hy10
 refine B4 (s0:=⟨T [(0,(.ptr (30,u7) 0))],G [((30,u7),some<|.box 135 ((L4 p1)++ (J5 p2)++ [(di v2.Tick),(oS y2 (10060030,g2)),(oS y5 (85,g6)),(dl A4 p3),(.d .nilS)])),((10060030,g2),oB 45 7 D0 y2),((85,g6),oB 127 4 J7 y5),((6,u1),some<|.box 25 [(di 0),(.d .nilS),(.d .nilS)]),((1,u47),some<|.box 133 [(.ptr (30,u7) 0)])]⟩) (E0 ⟨.of W,trivial⟩<|sg W<|B8 (gq W)<|B8 (gq W)<|sg W<|B5 G_hit (.of W) trivial) ?_
 refine lr<|fun u49 hu49=>sm W<|sv W<|A1<|B0<|C0 (.fn _ _ _) W W (C0 (.fn _ _ _) W W (A1<|B2 ?_))
 cases hy10
 exact PW (.inr W) (SF<|B3 W) ⟨u49,(Ne.symm<|RX (k:=(1,u47)) hu49 (gq W))⟩ (Z7 W) (B5 (Ac (RX hu49<|gq W)<|gq W) (.of W) (sg W<|sg W<|B8 (gq W)<|B8 (gq W)<|B5 G_hit (.of W) trivial))
 intro g13
 intro u51 hu51
 refine A1<|bs hy9 fun y11 hy11 hy9=>D9 (fun s=> ∃g14:({d:Nat // d∈ [72,158]}×Nat),Sb ⟨T [],G [((6,u1),some<|.box 25 [(di 0),(.d .nilS),(.d .nilS)]),((30,u7),some<|.box 135 ((L4 p1)++ (J5 p2)++ [(di v2.Tick),(oS y2 (10060030,g2)),(oS y5 (85,g6)),(dl A4 p3),(oS y11 (g14.1.val,g14.2))])),((10060030,g2),oB 45 7 D0 y2),((85,g6),oB 127 4 J7 y5),((g14.1.val,g14.2),oB 77 6 Es y11)]⟩ s) ?_ ?_
 refine A7<|bs hy11 fun v12 hv12 hy11=>B4 (s0:=⟨T [(1,(.ptr (1,u47) 0)),(5,(.fn (.func 174) [] [(.ptr (1,g13.1) 0)]))],G [((1,u47),some<|.box 133 [(.ptr (30,u7) 0)]),((30,u7),some<|.box 135 ((L4 p1)++ (J5 p2)++ [(di v2.Tick),(oS y2 (10060030,g2)),(oS y5 (85,g6)),(dl A4 p3),(.d .nilS)])),((10060030,g2),oB 45 7 D0 y2),((85,g6),oB 127 4 J7 y5),((1,g13.1),some<|.box 133 [(.ptr (30,u7) 0)]),((6,u1),some<|.box 25 [(di 0),(.d .nilS),(.d .nilS)])]⟩) (E0 (Z7 W)<|B5 G_hit (.of W)<|sg W<|B8 (gq W)<|B8 (gq W)<|B5 (Ac g13.2<|gq W) (.of W) (sg W trivial)) ?_
 refine SM (.fn (.func 174) [] [(.ptr (1,g13.1) 0)]) (Vz (1,g13.1) (30,u7) p2) KI v12 (By p1 p2 p3 v2 y2 y5) (fun (x4:(List Crash))=>x4) (fun (x4:(List Crash)) (g15:({d:Nat // d∈ [72,158]}×Nat))=> [((1,u47),some<|.box 133 [(.ptr (30,u7) 0)]),((1,g13.1),some<|.box 133 [(.ptr (30,u7) 0)]),((6,u1),some<|.box 25 [(di 0),(.d .nilS),(.d .nilS)]),((30,u7),some<|.box 135 ((L4 p1)++ (J5 p2)++ [(di v2.Tick),(oS y2 (10060030,g2)),(oS y5 (85,g6)),(dl A4 p3),(oS x4 (g15.1.val,g15.2))])),((10060030,g2),oB 45 7 D0 y2),((85,g6),oB 127 4 J7 y5),((g15.1.val,g15.2),oB 77 6 Es x4)]) [] (⟨72, .head _⟩,0) _ W (KJ hv12 _ _) (fun x4 g15 _ _=>⟨F5 W<|Ac g13.2 G_hit,_,_,_,_,_,_,_,_,_,_,F5 W<|gq W⟩) (fun _=>W) hy11 (E0 trivial<|B5 G_hit (.of W)<|B5 (Ac g13.2<|gq W) (.of W) (sg W<|sg W<|B8 (gq W)<|B8 (gq W)<|S5 trivial)) nofun ?_ ?_
 intro u53 hu53 hku53
 refine ⟨fun x4 g15=>(F5 W<|F5 W<|F5 W<|F5 W<|F5 W<|F5 W<|F5 (CG g15.1.property W) W),?_⟩
 intro r1 x4 g15 a1 z4 hrr1 hz4 ez4
 unfold By at hz4
 show De _ _ _ _ _ _ ⟨T [(7,(di a1.2)),(6,(di a1.1)),(1,(.ptr (1,u47) 0)),(5,(.fn (.func 174) [] [(.ptr (1,g13.1) 0)]))],G [((1000000,u53),some (.obj (T [(1,(.ptr (1,u47) 0)),(5,(.fn (.func 174) [] [(.ptr (1,g13.1) 0)]))]) r1)),((1,u47),some (.box 133 [(.ptr (30,u7) 0)])),((1,g13.1),some (.box 133 [(.ptr (30,u7) 0)])),((6,u1),some (.box 25 [(di 0),(.d .nilS),(.d .nilS)])),((30,u7),some (.box 135 ((L4 p1)++ (J5 p2)++ [(di v2.Tick),(oS y2 (10060030,g2)),(oS y5 (85,g6)),(dl A4 p3),(oS x4 (g15.1.val,g15.2))]))),((10060030,g2),oB 45 7 D0 y2),((85,g6),oB 127 4 J7 y5),((g15.1.val,g15.2),oB 77 6 Es x4)]⟩
 refine B0<|sv W<|A1<|B7<|sv W<|A1<|U4<|VR G_hit ?_
 refine A7<|B0<|sp W (Q8 W (gq W) W)<|sv W<|sv W<|bs hz4 fun y12 hy12 hz4=>CK (fk func183 ntmps183 (fun r=>if r==13 then [1014,1016]else []) (by with_unfolding_all rfl)) (fun (g16:({d:Nat // d∈ [72,158]}×Nat))=> [(1,(.ptr (1,u47) 0)),(2,(di a1.1)),(3,(di a1.2))]) (fun (g16:({d:Nat // d∈ [72,158]}×Nat))=> [((1,u47),some<|.box 133 [(.ptr (30,u7) 0)]),((6,u1),some<|.box 25 [(di 0),(.d .nilS),(.d .nilS)]),((30,u7),some<|.box 135 ((L4 p1)++ (J5 p2)++ [(di v2.Tick),(oS y2 (10060030,g2)),(oS y5 (85,g6)),(dl A4 p3),(oS y12 (g16.1.val,g16.2))])),((1,g13.1),some<|.box 133 [(.ptr (30,u7) 0)]),((1000000,u53),some<|.obj (T [(1,(.ptr (1,u47) 0)),(5,(.fn (.func 174) [] [(.ptr (1,g13.1) 0)]))]) {r1 with state:= .busy}),((10060030,g2),oB 45 7 D0 y2),((85,g6),oB 127 4 J7 y5),((g16.1.val,g16.2),oB 77 6 Es y12)]) W (nl W) ?_ ?_
 unfold Gg at hy12
 refine B4 (s0:=⟨T [(0,(.ptr (30,u7) 0)),(1,(di a1.1)),(2,(di a1.2))],G [((30,u7),some<|.box 135 ((L4 p1)++ (J5 p2)++ [(di v2.Tick),(oS y2 (10060030,g2)),(oS y5 (85,g6)),(dl A4 p3),(oS x4 (g15.1.val,g15.2))])),((10060030,g2),oB 45 7 D0 y2),((85,g6),oB 127 4 J7 y5),((g15.1.val,g15.2),oB 77 6 Es x4),((6,u1),some<|.box 25 [(di 0),(.d .nilS),(.d .nilS)]),((1,u47),some<|.box 133 [(.ptr (30,u7) 0)]),((1,g13.1),some<|.box 133 [(.ptr (30,u7) 0)]),((1000000,u53),some<|.obj (T [(1,(.ptr (1,u47) 0)),(5,(.fn (.func 174) [] [(.ptr (1,g13.1) 0)]))]) {r1 with state:= .busy})]⟩) (E0 (Z7 W)<|sg W<|B8 (gq W)<|B8 (gq W)<|B8 (Vu g15.1.property 8 W G_hit)<|sg W<|sg W<|B5 (Wv 2 W<|Ac g13.2 G_hit) (.of W) (B5 G_hit (.of W) trivial)) ?_
 refine B0<|sq W<|sp W W<|sq W<|sp W W<|sl W G_hit W<|sd W (D7 W)<|sv W<|A1<|js hy12 fun z5 hz5 hy12=>D9 (fun s=> ∃(y13:Unit) (g17:Unit),z5= .inl y13∧Sb ⟨T [],G [((6,u1),some<|.box 25 [(di 0),(.d .nilS),(.d .nilS)]),((30,u7),some<|.box 135 ((L4 p1)++ (J5 p2)++ [(di v2.Tick),(oS y2 (10060030,g2)),(oS y5 (85,g6)),(dl A4 p3),(oS x4 (g15.1.val,g15.2))])),((1,u47),some<|.box 133 [(.ptr (30,u7) 0)]),((1,g13.1),some<|.box 133 [(.ptr (30,u7) 0)]),((1000000,u53),some<|.obj (T [(1,(.ptr (1,u47) 0)),(5,(.fn (.func 174) [] [(.ptr (1,g13.1) 0)]))]) {r1 with state:= .busy}),((10060030,g2),oB 45 7 D0 y2),((85,g6),oB 127 4 J7 y5),((g15.1.val,g15.2),oB 77 6 Es x4)]⟩ s) ?_ ?_
 refine A7<|E4 (Ao p1 p2 p3 v2 y2 y5 x4 a1) (fun (x5:Int) (g18:Unit)=>⟨T [(0,(.ptr (30,u7) 0)),(1,(di a1.1)),(2,(di a1.2)),(22,(di (p1.Lanes.length:Int))),(23,(di x5))],G [((30,u7),some<|.box 135 ((L4 p1)++ (J5 p2)++ [(di v2.Tick),(oS y2 (10060030,g2)),(oS y5 (85,g6)),(dl A4 p3),(oS x4 (g15.1.val,g15.2))])),((6,u1),some<|.box 25 [(di 0),(.d .nilS),(.d .nilS)]),((1,u47),some<|.box 133 [(.ptr (30,u7) 0)]),((1,g13.1),some<|.box 133 [(.ptr (30,u7) 0)]),((1000000,u53),some<|.obj (T [(1,(.ptr (1,u47) 0)),(5,(.fn (.func 174) [] [(.ptr (1,g13.1) 0)]))]) {r1 with state:= .busy}),((10060030,g2),oB 45 7 D0 y2),((85,g6),oB 127 4 J7 y5),((g15.1.val,g15.2),oB 77 6 Es x4)]⟩) 0 () _ hz5 (E0 (Z7 W)<|B5 G_hit (.of W)<|B5 (Wv 3 W<|F5 (CG g15.1.property W) G_hit) (.of W) (B5 (Wv 3 W<|F5 (CG g15.1.property W)<|gq W) (.of W) (B5 (Wv 3 W<|F5 (CG g15.1.property W)<|F5 W<|Ac g13.2 G_hit) (.of W) (B5 (Wv 3 W<|F5 (CG g15.1.property W)<|gq W) (.of W) (B8 (gq W)<|B8 (gq W)<|B8 (Vu g15.1.property 3 W G_hit) trivial))))) ?_
 intro x5 g18 z6 hz6 ez6
 unfold Ao at hz6
 refine B0<|sv W<|A1<|A5<|cc W hz6 (fun c9 hz6=> ?_)<|fun c9 hz6=> ?_
 refine A8<|A5<|A7<|B0<|sv W<|sv W<|A1<|B0<|sq W<|sv W<|sv W<|bs hz6 fun v13 hv13 hz6=>A9 W (E6 (Bi G_hit<|rD<|rD<|rD<|rD<|rD<|rD<|rD<|rD<|rD<|E6 (T9<|gq W)<|E6 (T9<|gq W)<|rD<|E6 (T9<|Vu g15.1.property 7 W G_hit) G1)<|rD<|rD G1) (.cons (DLe.bp<|ca W<|ca W<|ca W<|ca W<|ca W<|ca W<|ca W<|ca W<|ca W<|.cons ⟨T8,W⟩ (.cons ⟨T8,W⟩ (ca W<|.cons ⟨T8,W⟩ .nil))) (.cons (.refl _) A3)) (Od _ _ _ _ hv13) (.inr W) (sv W<|sv W<|sv W<|sv W<|sv W<|A1<|B0<|sq W<|sv W<|sv W<|bs hz6 fun v14 hv14 hz6=>A9 W (E6 (Bi G_hit<|rD<|rD<|rD<|rD<|rD<|rD<|rD<|rD<|rD<|E6 (T9<|gq W)<|E6 (T9<|gq W)<|rD<|E6 (T9<|Vu g15.1.property 7 W G_hit) G1)<|rD<|rD G1) (.cons (DLe.bp<|ca W<|ca W<|ca W<|ca W<|ca W<|ca W<|ca W<|ca W<|ca W<|.cons ⟨T8,W⟩ (.cons ⟨T8,W⟩ (ca W<|.cons ⟨T8,W⟩ .nil))) (.cons (.refl _) A3)) (Od _ _ _ _ hv14) (.inr W) (sv W<|sv W<|sv W<|sv W<|sv W<|A1<|A5<|B0<|sv W<|C0 (.d (bo (!v13.2))) W W (sv W<|gf W (fun _=>W) ?_)))
 refine M8 _ (.d (bo (!v14.2))) W (K6 W) (fun w2=>(by simp only [A2 w2];rfl)) ?_
 refine sd W (O2 W W<|fun hc=>A2<|J4 hc)<|A1<|cc W hz6 (fun c10 hz6=> ?_)<|fun c10 hz6=> ?_
 refine Pa W<|B7<|sv W<|sv W<|A1<|E2 ?_
 cases hz6
 exact ⟨W,(),(E0 (Z7 W)<|B5 G_hit (.of W)<|sg W<|sg W<|B5 (Wv 2 W<|Ac g13.2 G_hit) (.of W) (sg W<|B8 (gq W)<|B8 (gq W)<|B8 (Vu g15.1.property 7 W G_hit) trivial))⟩
 refine A8<|B0<|sv W<|sv W<|sv W<|sv W<|A1<|A5<|A5<|E7 W<|sq W<|sq W<|sp W W<|sq W<|sl W G_hit W<|sv W<|bs hz6 fun _ hv15 hz6=>sd W (C5 W W hv15 W)<|sv W<|sd W (C9 W hv15 W)<|sv W<|sv W<|sq W<|sp W W<|sq W<|sp W W<|sl W G_hit W<|sv W<|bs hz6 fun _ hv16 hz6=>sd W (C5 W W hv16 W)<|sv W<|sd W (C9 W hv16 W)<|sv W<|sv W<|sv W<|A1<|bs hz6 fun y14 hy14 hz6=>D9 (fun s=> ∃g19:Unit,Sb ⟨T [(0,(.ptr (30,u7) 0)),(1,(di a1.1)),(2,(di a1.2)),(6,(di x5)),(7,(di y14.1)),(9,(di y14.2.1)),(11,(di y14.2.2.1)),(12,(di y14.2.2.2)),(22,(di (p1.Lanes.length:Int))),(23,(di x5))],G [((30,u7),some<|.box 135 ((L4 p1)++ (J5 p2)++ [(di v2.Tick),(oS y2 (10060030,g2)),(oS y5 (85,g6)),(dl A4 p3),(oS x4 (g15.1.val,g15.2))])),((6,u1),some<|.box 25 [(di 0),(.d .nilS),(.d .nilS)]),((1,u47),some<|.box 133 [(.ptr (30,u7) 0)]),((1,g13.1),some<|.box 133 [(.ptr (30,u7) 0)]),((1000000,u53),some<|.obj (T [(1,(.ptr (1,u47) 0)),(5,(.fn (.func 174) [] [(.ptr (1,g13.1) 0)]))]) {r1 with state:= .busy}),((10060030,g2),oB 45 7 D0 y2),((85,g6),oB 127 4 J7 y5),((g15.1.val,g15.2),oB 77 6 Es x4)]⟩ s) ?_ ?_
 refine cc W hy14 (fun c11 hy14=> ?_)<|fun c11 hy14=> ?_
 refine B7<|sv W<|sv W<|sv W<|sv W<|sv W<|sv W<|sv W<|sv W<|A1 ?_
 cases hy14
 exact U4 ⟨(),(E0 (Z7 W)<|B5 G_hit (.of W)<|sg W<|sg W<|B5 (Wv 2 W<|Ac g13.2 G_hit) (.of W) (sg W<|B8 (gq W)<|B8 (gq W)<|B8 (Vu g15.1.property 7 W G_hit) trivial))⟩
 refine A8 ?_
 cases hy14
 exact U4 ⟨(),(E0 (Z7 W)<|B5 G_hit (.of W)<|sg W<|sg W<|B5 (Wv 2 W<|Ac g13.2 G_hit) (.of W) (sg W<|B8 (gq W)<|B8 (gq W)<|B8 (Vu g15.1.property 7 W G_hit) trivial))⟩
 rintro _ ⟨g19,q6⟩
 refine B4 q6<|A5<|E7 W<|sq W<|sq W<|sp W W<|sq W<|C0 (oS y2 (10060030,g2)) W (Q8 W G_hit W) (sv W<|bs hz6 fun _ hv17 hz6=>C0 (.aptr _ _ _ _) W (Qr W W (gq W) hv17) (sd W (Qe W (Ii (gq W)<|Ek hv17) hv17 W W)<|bs hz6 fun _ hv18 hz6=>A9 W W A3 (Jq _ _ hv18) (.inl W) (sv W<|bs hz6 fun v19 hv19 hz6=>A9 W W A3 (Io _ _ _ hv19) (.inl W) (sq W<|sp W W<|sq W<|sp W W<|C0 (oS y2 (10060030,g2)) W (Q8 W G_hit W) (sv W<|bs hz6 fun _ hv20 hz6=>C0 (.aptr _ _ _ _) W (Qr W W (gq W) hv20) (sd W (Qe W (Ii (gq W)<|Ek hv20) hv20 W W)<|bs hz6 fun _ hv21 hz6=>A9 W W A3 (Jq _ _ hv21) (.inl W) (sv W<|bs hz6 fun v22 hv22 hz6=>A9 W W A3 (Io _ _ _ hv22) (.inl W) (sm W<|sn W W<|U0 W (gq W) [(di v19.from_),(di v19.to)] W (U0 W (gq W) [(di v22.from_),(di v22.to)] W (A1<|B0<|sq W<|sp W W<|sq W<|sp W W<|sl W (gq W) W (sv W<|bs hz6 fun _ hv23 hz6=>sd W (C5 W W hv23 W)<|sd W (D4 W hv23 W W)<|bs hz6 fun _ hv24 hz6=>A9 W W A3 (Jq _ _ hv24) (.inl W) (sv W<|bs hz6 fun v25 hv25 hz6=>A9 W W A3 (Io _ _ _ hv25) (.inl W) (sm W<|U0 W G_hit [(di v25.from_),(di v25.to)] W (A1<|B0<|sq W<|sp W W<|sp W W ?_))))))))))))))
 refine sd W (B1 W (gq W) W W)<|sv W<|bs hz6 fun _ hv26 hz6=>A9 W W A3 (Qu _ _ _ hv26) (.inl W) (sv W<|A1<|B0<|sq W<|sl W (gq W) W (sv W<|sv W<|gp W (M3 W) (fun _=>W) (gt W (vl W (gq W) W)<|gt W (vb W W W)<|sa W W W<|sv W<|gp W (M3 W) (fun _=>W) (gt W (vl W G_hit W)<|gt W (fun _=>W)<|gt W (fun w9=>(M7 (A2 w9) (A2 w9) W))<|sa W W W<|sv W<|gp W (M3 W) (fun _=>W) (gt W (vl W (gq W) W)<|gt W (fun _=>W)<|gt W (fun w13=>(M7 (A2 w13) (A2 w13) W))<|sa W W W<|sv W<|gp W (M3 W) (fun _=>W) (gt W (vl W (gq W) W)<|gp W (M3 W) (fun _=>W) (gt W (vl W (gq W) W)<|gt W (fun w18=>(M7 (A2 w18) (A2 w18) W))<|sa W W W<|A1<|cc W hz6 (fun c12 hz6=> ?_)<|fun c12 hz6=> ?_)))))))
 refine A5<|Nr W fun u71 _=>sq W<|sq W<|sp W W<|sq W<|C0 (oS x4 (g15.1.val,g15.2)) W (Q8 W (gq W) W) (sq W<|sp W W<|sq W<|sp W W<|sl W (gq W) W (sv W<|sv W<|sv W<|sv W<|C0 (dl A4 [y14.2.2.2]) W W (sv W<|C0 (dl Es [(Crash.mk p2.Tick a1.1 a1.2 x5 (-1) [y14.2.2.2])]) W W (bs hz6 fun _ hv27 hz6=>Q3 Es (g15.1.val,g15.2) x4 (Crash.mk p2.Tick a1.1 a1.2 x5 (-1) [y14.2.2.2]) [] _ (K7<|fun _=>W) W (F5 (AX g15.1.property W)<|F5 (AX g15.1.property W)<|F5 (AX g15.1.property W)<|F5 (AX g15.1.property W)<|F5 (AX g15.1.property W)<|F5 (AX g15.1.property W)<|F5 (AX g15.1.property W)<|F5 (AX g15.1.property W)<|F5 (AX g15.1.property W)<|F5 (AX g15.1.property W)<|F5 (AX g15.1.property W)<|F5 (AX g15.1.property W)<|F5 (AX g15.1.property W) G_hit) hv27 (sq W<|sp W W<|Jz _ _ _ _ _ W W W (F5 W<|F5 (CG g15.1.property W)<|gq W) (nl W) ((L4 p1)++ (J5 p2)++ [(di v2.Tick),(oS y2 (10060030,g2)),(oS y5 (85,g6)),(dl A4 p3),(.sl (158,u71))]) W (A1<|B2 ?_))))))
 cases hz6
 obtain rfl:=ez6 _ rfl
 refine ⟨nofun,F4 ?_⟩
 rw [wE]at hy12
 cases hy12
 exact PW (.inr W) (pV) (⟨158, .tail _ (.head _)⟩,u71) (Z7 W) (B5 (Wv 2 W<|F5 (CG g15.1.property W)<|gq W) (.of W) (B5 (Wv 2 W<|F5 (CG g15.1.property W)<|gq W) (.of W) (B5 G_hit (.box (cv<|cv<|cv<|cv<|cv<|cv<|cv<|cv<|cv<|cv<|cv<|cv<|.cons (.of (V1<|V4 hv27).symm) .nil))<|B5 (Wv 2 W<|F5 (CG g15.1.property W)<|F5 W<|F5 W<|F5 W<|F5 W<|F5 W<|F5 W<|F5 W<|F5 W<|Ac g13.2 G_hit) (.of W) (B5 (Wv 2 W<|F5 (CG g15.1.property W)<|gq W) (.of W) (B8 (Wv 2 W<|F5 (CG g15.1.property W)<|gq W)<|B8 (Wv 2 W<|F5 (CG g15.1.property W)<|gq W)<|N8 (gq W) trivial)))))
 refine A8<|E3<|B7<|sv W<|sv W<|A1<|E2 ?_
 cases hz6
 exact ⟨W,(),(E0 (Z7 W)<|sg W<|sg W<|sg W<|B5 (Wv 8 W<|Ac g13.2 G_hit) (.of W) (sg W<|B8 (gq W)<|B8 (gq W)<|B8 (Vu g15.1.property 13 W G_hit) trivial))⟩
 refine C8 W ?_
 cases hz6
 obtain rfl:=ez6 _ rfl
 refine ⟨nofun,C6 W<|U4 ?_⟩
 exact ⟨_,(),W,(E0 trivial<|sg W<|B5 G_hit (.of W)<|sg W<|B5 (Wv 2 W<|Ac g13.2 G_hit) (.of W) (sg W<|B8 (gq W)<|B8 (gq W)<|B8 (Vu g15.1.property 7 W G_hit) trivial))⟩
 rintro _ ⟨y13,g17,rfl,q7⟩
 rw [wD]at hy12
 refine E2 ?_
 obtain rfl:=(lD hy12)
 exact Yp q7 (.inl W) (g15.1,g15.2) (Z7 W) (sg W<|B5 G_hit (.of W)<|sg W<|B5 (Wv 2 W<|Ac g13.2 G_hit) (.of W) (sg W<|B8 (gq W)<|B8 (gq W)<|B8 (Vu g15.1.property 7 W G_hit) trivial))
 intro g16
 intro u73 hu73
 refine A1<|B7<|sp W (Q8 W G_hit W)<|sv W<|sv W<|bs hz4 fun y15 hy15 hz4=>CK (fk func184 ntmps184 (fun r=>if r==5 then [1002]else if r==6 then [1010]else if r==8 then [1001]else if r==10 then [1001]else if r==11 then [1015]else []) (by with_unfolding_all rfl)) (fun (g20:({d:Nat // d∈ [72,158]}×Nat))=> []) (fun (g20:({d:Nat // d∈ [72,158]}×Nat))=> [((6,u1),some<|.box 25 [(di 0),(.d .nilS),(.d .nilS)]),((30,u7),some<|.box 135 ((L4 p1)++ (J5 p2)++ [(di v2.Tick),(oS y2 (10060030,g2)),(oS y5 (85,g6)),(dl A4 p3),(oS y15 (g20.1.val,g20.2))])),((1,u47),some<|.box 133 [(.ptr (30,u7) 0)]),((1,g13.1),some<|.box 133 [(.ptr (30,u7) 0)]),((1000000,u53),some<|.obj (T [(1,(.ptr (1,u47) 0)),(5,(.fn (.func 174) [] [(.ptr (1,g13.1) 0)]))]) {r1 with state:= .busy}),((10060030,g2),oB 45 7 D0 y2),((85,g6),oB 127 4 J7 y5),((g20.1.val,g20.2),oB 77 6 Es y15)]) W (nl W) ?_ ?_
 unfold Ee at hy15
 refine B4 (s0:=⟨T [(0,(.ptr (30,u7) 0)),(1,(di a1.1)),(2,(di a1.2))],G [((30,u7),some<|.box 135 ((L4 p1)++ (J5 p2)++ [(di v2.Tick),(oS y2 (10060030,g2)),(oS y5 (85,g6)),(dl A4 p3),(oS y12 (g16.1.val,g16.2))])),((10060030,g2),oB 45 7 D0 y2),((85,g6),oB 127 4 J7 y5),((g16.1.val,g16.2),oB 77 6 Es y12),((6,u1),some<|.box 25 [(di 0),(.d .nilS),(.d .nilS)]),((1,u47),some<|.box 133 [(.ptr (30,u7) 0)]),((1,g13.1),some<|.box 133 [(.ptr (30,u7) 0)]),((1000000,u53),some<|.obj (T [(1,(.ptr (1,u47) 0)),(5,(.fn (.func 174) [] [(.ptr (1,g13.1) 0)]))]) {r1 with state:= .busy})]⟩) (E0 (Z7 W)<|sg W<|B8 (gq W)<|B8 (gq W)<|B8 (Vu g16.1.property 7 W G_hit)<|sg W<|B5 G_hit (.of W)<|B5 (Ac g13.2<|gq W) (.of W) (sg W trivial)) ?_
 refine B0<|sq W<|sp W W<|sq W<|sp W W<|sl W G_hit W<|sd W (D7 W)<|sv W<|A1<|bs hy15 fun y16 hy16 hy15=>D9 (fun s=> ∃g21:({d:Nat // d∈ [72,158]}×Nat),Sb ⟨T [],G [((6,u1),some<|.box 25 [(di 0),(.d .nilS),(.d .nilS)]),((30,u7),some<|.box 135 ((L4 p1)++ (J5 p2)++ [(di v2.Tick),(oS y2 (10060030,g2)),(oS y5 (85,g6)),(dl A4 p3),(oS y16 (g21.1.val,g21.2))])),((1,u47),some<|.box 133 [(.ptr (30,u7) 0)]),((1,g13.1),some<|.box 133 [(.ptr (30,u7) 0)]),((1000000,u53),some<|.obj (T [(1,(.ptr (1,u47) 0)),(5,(.fn (.func 174) [] [(.ptr (1,g13.1) 0)]))]) {r1 with state:= .busy}),((10060030,g2),oB 45 7 D0 y2),((85,g6),oB 127 4 J7 y5),((g21.1.val,g21.2),oB 77 6 Es y16)]⟩ s) ?_ ?_
 refine A7<|E4 (An p1 p2 p3 v2 y2 y5 a1) (fun (x6:(Int× (List Crash))) (g22:({d:Nat // d∈ [72,158]}×Nat))=>⟨T [(0,(.ptr (30,u7) 0)),(1,(di a1.1)),(2,(di a1.2)),(15,(di (p1.Zones.length:Int))),(16,(di x6.1))],G [((30,u7),some<|.box 135 ((L4 p1)++ (J5 p2)++ [(di v2.Tick),(oS y2 (10060030,g2)),(oS y5 (85,g6)),(dl A4 p3),(oS x6.2 (g22.1.val,g22.2))])),((6,u1),some<|.box 25 [(di 0),(.d .nilS),(.d .nilS)]),((1,u47),some<|.box 133 [(.ptr (30,u7) 0)]),((1,g13.1),some<|.box 133 [(.ptr (30,u7) 0)]),((1000000,u53),some<|.obj (T [(1,(.ptr (1,u47) 0)),(5,(.fn (.func 174) [] [(.ptr (1,g13.1) 0)]))]) {r1 with state:= .busy}),((10060030,g2),oB 45 7 D0 y2),((85,g6),oB 127 4 J7 y5),((g22.1.val,g22.2),oB 77 6 Es x6.2)]⟩) (0,y12) (g16.1,g16.2) _ hy16 (E0 (Z7 W)<|B5 G_hit (.of W)<|B5 (Wv 3 W<|F5 (CG g16.1.property W) G_hit) (.of W) (B5 (Wv 3 W<|F5 (CG g16.1.property W)<|gq W) (.of W) (B5 (Wv 3 W<|F5 (CG g16.1.property W)<|F5 W<|Ac g13.2 G_hit) (.of W) (B5 (Wv 3 W<|F5 (CG g16.1.property W)<|gq W) (.of W) (B8 (gq W)<|B8 (gq W)<|B8 (Vu g16.1.property 3 W G_hit) trivial))))) ?_
 intro x6 g22 z7 hz7 ez7
 unfold An at hz7
 refine B0<|sv W<|A1<|A5<|cc W hz7 (fun c13 hz7=> ?_)<|fun c13 hz7=> ?_
 refine A8<|A5<|A7<|B0<|sv W<|sv W<|A1<|A5<|B0<|sq W<|sv W<|sv W<|sv W<|bs hz7 fun v28 hv28 hz7=>A9 W (E6 (Bi G_hit<|rD<|rD<|rD<|rD<|rD<|rD<|rD<|rD<|rD<|E6 (T9<|gq W)<|E6 (T9<|gq W)<|rD<|E6 (T9<|Vu g22.1.property 7 W G_hit) G1)<|rD<|rD<|rD G1) (.cons (DLe.bp<|ca W<|ca W<|ca W<|ca W<|ca W<|ca W<|ca W<|ca W<|ca W<|.cons ⟨T8,W⟩ (.cons ⟨T8,W⟩ (ca W<|.cons ⟨T8,W⟩ .nil))) (.cons (.refl _) (.cons (.refl _) A3))) (Oa _ _ _ _ _ hv28) (.inr W) (C0 (.d (bo (!v28))) W W (A1<|cc W hz7 (fun c14 hz7=> ?_)<|fun c14 hz7=> ?_))
 refine Pa W<|B7<|sv W<|sv W<|A1<|E2 ?_
 cases hz7
 exact ⟨W,(g22.1,g22.2),(E0 (Z7 W)<|B5 G_hit (.of W)<|sg W<|sg W<|B5 (Wv 2 W<|Ac g13.2 G_hit) (.of W) (sg W<|B8 (gq W)<|B8 (gq W)<|B8 (Vu g22.1.property 7 W G_hit) trivial))⟩
 refine A8<|B0<|sq W<|sv W<|sv W<|bs hz7 fun v29 hv29 hz7=>A9 W (E6 (Bi G_hit<|rD<|rD<|rD<|rD<|rD<|rD<|rD<|rD<|rD<|E6 (T9<|gq W)<|E6 (T9<|gq W)<|rD<|E6 (T9<|Vu g22.1.property 7 W G_hit) G1)<|rD<|rD G1) (.cons (DLe.bp<|ca W<|ca W<|ca W<|ca W<|ca W<|ca W<|ca W<|ca W<|ca W<|.cons ⟨T8,W⟩ (.cons ⟨T8,W⟩ (ca W<|.cons ⟨T8,W⟩ .nil))) (.cons (.refl _) A3)) (Ou _ _ _ _ hv29) (.inr W) (sq W<|sv W<|sv W<|bs hz7 fun v30 hv30 hz7=>A9 W (E6 (Bi G_hit<|rD<|rD<|rD<|rD<|rD<|rD<|rD<|rD<|rD<|E6 (T9<|gq W)<|E6 (T9<|gq W)<|rD<|E6 (T9<|Vu g22.1.property 7 W G_hit) G1)<|rD<|rD G1) (.cons (DLe.bp<|ca W<|ca W<|ca W<|ca W<|ca W<|ca W<|ca W<|ca W<|ca W<|.cons ⟨T8,W⟩ (.cons ⟨T8,W⟩ (ca W<|.cons ⟨T8,W⟩ .nil))) (.cons (.refl _) A3)) (Ou _ _ _ _ hv30) (.inr W) (sm W<|sn W W<|U0 W (gq W) (Wx v29) W (U0 W (gq W) (Wx v30) W (A1<|B0<|sv W<|sv W<|C0 (dl A4 [a1.1,a1.2]) W W (C0 (dl A4 [a1.1,a1.2]) W W (A1<|A5<|A5<|E7 W<|sq W<|sl W (gq W) W (sq W<|sl W G_hit W<|bs hz7 fun v31 hv31 hz7=>A9 W W A3 (Il _ _ _ hv31) (.inl W) (sq W<|sl W G_hit W<|sq W<|sl W (gq W) W (bs hz7 fun v32 hv32 hz7=>A9 W W A3 (Qi _ _ _ hv32) (.inl W) (C0 (dl A4 [v31,v32]) W W (bs hz7 fun _ hv33 hz7=>A9 W W A3 (Ue _ _ hv33) (.inl W) (A1<|bs hz7 fun y17 hy17 hz7=>D9 (fun s=> ∃g23:Unit,Sb ⟨T [(0,(.ptr (30,u7) 0)),(1,(di a1.1)),(2,(di a1.2)),(6,(di x6.1)),(9,(dl A4 y17)),(15,(di (p1.Zones.length:Int))),(16,(di x6.1))],G [((30,u7),some<|.box 135 ((L4 p1)++ (J5 p2)++ [(di v2.Tick),(oS y2 (10060030,g2)),(oS y5 (85,g6)),(dl A4 p3),(oS x6.2 (g22.1.val,g22.2))])),((6,u1),some<|.box 25 [(di 0),(.d .nilS),(.d .nilS)]),((1,u47),some<|.box 133 [(.ptr (30,u7) 0)]),((1,g13.1),some<|.box 133 [(.ptr (30,u7) 0)]),((1000000,u53),some<|.obj (T [(1,(.ptr (1,u47) 0)),(5,(.fn (.func 174) [] [(.ptr (1,g13.1) 0)]))]) {r1 with state:= .busy}),((10060030,g2),oB 45 7 D0 y2),((85,g6),oB 127 4 J7 y5),((g22.1.val,g22.2),oB 77 6 Es x6.2)]⟩ s) ?_ ?_))))))))))))
 refine A7<|B0<|sv W<|sv W<|A1<|cc W hy17 (fun c15 hy17=> ?_)<|fun c15 hy17=> ?_
 refine B7<|sv W<|C0 (dl A4 [a1.1]) W W (C0 (dl A4 [a1.1]) W W (A1<|E3 ?_))
 cases hy17
 exact U4 ⟨(),(E0 (Z7 W)<|sg W<|sg W<|sg W<|B5 (Wv 6 W<|Ac g13.2 G_hit) (.of W) (sg W<|B8 (gq W)<|B8 (gq W)<|B8 (Vu g22.1.property 11 W G_hit) trivial))⟩
 refine B0<|sv W<|sv W<|A1<|cc W hy17 (fun c16 hy17=> ?_)<|fun c16 hy17=> ?_
 refine B7<|sv W<|C0 (dl A4 [a1.2]) W W (C0 (dl A4 [a1.2]) W W (A1<|E3 ?_))
 cases hy17
 exact U4 ⟨(),(E0 (Z7 W)<|sg W<|sg W<|sg W<|B5 (Wv 6 W<|Ac g13.2 G_hit) (.of W) (sg W<|B8 (gq W)<|B8 (gq W)<|B8 (Vu g22.1.property 11 W G_hit) trivial))⟩
 refine A8<|E3 ?_
 cases hy17
 exact U4 ⟨(),(E0 (Z7 W)<|sg W<|sg W<|sg W<|B5 (Wv 6 W<|Ac g13.2 G_hit) (.of W) (sg W<|B8 (gq W)<|B8 (gq W)<|B8 (Vu g22.1.property 11 W G_hit) trivial))⟩
 rintro _ ⟨g23,q8⟩
 refine B4 q8<|Nr W fun u87 _=>sq W<|sq W<|sp W W<|sq W<|C0 (oS x6.2 (g22.1.val,g22.2)) W (Q8 W G_hit W) (sq W<|sp W W<|sq W<|sp W W<|sl W G_hit W<|sv W<|sv W<|sv W<|sv W<|sv W<|C0 (dl Es [(Crash.mk p2.Tick a1.1 a1.2 (-1) x6.1 y17)]) W W (bs hz7 fun _ hv34 hz7=>Q3 Es (g22.1.val,g22.2) x6.2 (Crash.mk p2.Tick a1.1 a1.2 (-1) x6.1 y17) [] _ (K7<|fun _=>W) W (F5 (AX g22.1.property W)<|F5 (AX g22.1.property W)<|F5 (AX g22.1.property W)<|F5 (AX g22.1.property W)<|F5 (AX g22.1.property W)<|F5 (AX g22.1.property W)<|F5 (AX g22.1.property W) G_hit) hv34 (sq W<|sp W W<|Jz _ _ _ _ _ W W W (F5 W<|F5 (CG g22.1.property W) G_hit) (nl W) ((L4 p1)++ (J5 p2)++ [(di v2.Tick),(oS y2 (10060030,g2)),(oS y5 (85,g6)),(dl A4 p3),(.sl (72,u87))]) W (A1<|E3<|B7<|sv W<|sv W<|A1<|E2 ?_))))
 cases hz7
 exact ⟨W,(⟨72, .head _⟩,u87),(E0 (Z7 W)<|B5 G_hit (.box (cv<|cv<|cv<|cv<|cv<|cv<|cv<|cv<|cv<|cv<|cv<|cv<|.cons (.of (V1<|V4 hv34).symm) .nil))<|B5 (Wv 2 W<|F5 (CG g22.1.property W)<|gq W) (.of W) (B5 (Wv 2 W<|F5 (CG g22.1.property W)<|gq W) (.of W) (B5 (Wv 2 W<|F5 (CG g22.1.property W)<|F5 W<|F5 W<|Ac g13.2 G_hit) (.of W) (B5 (Wv 2 W<|F5 (CG g22.1.property W)<|gq W) (.of W) (B8 (Wv 2 W<|F5 (CG g22.1.property W)<|gq W)<|B8 (Wv 2 W<|F5 (CG g22.1.property W)<|gq W)<|N8 (gq W) trivial)))))⟩
 refine C8 W ?_
 cases hz7
 obtain rfl:=ez7 _ rfl
 refine ⟨nofun,C6 W<|U4 ?_⟩
 exact ⟨(g22.1,g22.2),(E0 trivial<|sg W<|B5 G_hit (.of W)<|sg W<|B5 (Wv 2 W<|Ac g13.2 G_hit) (.of W) (sg W<|B8 (gq W)<|B8 (gq W)<|B8 (Vu g22.1.property 7 W G_hit) trivial))⟩
 rintro _ ⟨g21,q9⟩
 refine E2 ?_
 obtain rfl:=(lD hy15)
 exact Yp q9 (.inl W) (g21.1,g21.2) trivial (B5 G_hit (.of W)<|sg W<|sg W<|B5 (Wv 2 W<|Ac g13.2 G_hit) (.of W) (sg W<|B8 (gq W)<|B8 (gq W)<|B8 (Vu g21.1.property 7 W G_hit) trivial))
 intro g20
 intro u89 hu89
 refine A1<|E3<|E2 ?_
 cases hz4
 exact fA (gq W) (g20.1,g20.2) (sg W<|B5 (Wv 2 W<|Ac g13.2 G_hit) (.of W) (B5 G_hit (.of W)<|sg W<|B8 (gq W)<|B8 (gq W)<|B8 (Vu g20.1.property 7 W G_hit) trivial))
 rintro x4 g15 _ rfl qx4
 refine E3<|U4 ?_
 exact ⟨(g15.1,g15.2),(Sb.after qx4<|E0 trivial<|sg W<|sg W<|B8 (gq W)<|B8 (gq W)<|B8 (Vu g15.1.property 6 W G_hit) trivial)⟩
 rintro _ ⟨g14,q10⟩
 refine E2 ?_
 obtain rfl:=(lD hy9)
 exact Yp q10 (.inl W) (g14.1,g14.2) (Z7 W) (B5 G_hit (.of W)<|sg W<|B8 (gq W)<|B8 (gq W)<|B8 (Vu g14.1.property 4 W G_hit) trivial)
 intro g12
 intro u90 hu90
 refine A1<|E3<|B7<|sv W<|sv W<|A1<|DW<|B0<|sv W<|A1<|A5<|Tm W<|Pa W ?_
 cases hy1
 exact U4 ⟨(g2,g6,(g12.1,g12.2)),(E0 (Z7 W)<|B5 G_hit (.of W)<|sg W<|B8 (gq W)<|B8 (gq W)<|B8 (Vu g12.1.property 4 W G_hit) trivial)⟩
 rintro _ ⟨g1,q11⟩
 refine B4 q11<|B0<|sq W<|sp W W<|sq W<|sp W W<|sl W (gq W) W (sv W<|sq W<|sp W W<|sq W<|U0 W (gq W) ((L4 p1)++ (J5 p2)++ [(di<|D3 (v2.Tick+1)),(oS y1.1 (10060030,g1.1)),(oS y1.2.1 (85,g1.2.1)),(dl A4 p3),(oS y1.2.2 (g1.2.2.1.val,g1.2.2.2))]) W (A1<|A5<|Rm fun _ _=>N9 (.ptr _ _) W W (N9 (.ptr _ _) W W (N9 (.ptr _ _) W W (N9 (X5 [(di<|D3 (v2.Tick+1)),(oS y1.1 (10060030,g1.1)),(oS y1.2.1 (85,g1.2.1))]) W (B1 W G_hit W W) (N9 (.ptr _ _) W W (N9 (.ptr _ _) W W (N9 (.ptr _ _) W W (N9 (oS y1.2.2 (g1.2.2.1.val,g1.2.2.2)) W (Q8 W G_hit W) (Vr _ _ _ _ _ (X1 _) W W (gq W) (nl W) [(di<|D3 (v2.Tick+1)),(oS y1.1 (10060030,g1.1)),(oS y1.2.1 (85,g1.2.1))] W (N9 (oS y1.2.2 (g1.2.2.1.val,g1.2.2.2)) W W (N9 (.d _) W W (DZ ⟨by first|rfl|((generalize g1.2.2.1=q0;rcases q0 with ⟨d0,_|⟨_,_|⟨_,h0⟩⟩⟩)<;>(generalize y1.2.2=z4;cases z4)<;>first|rfl|contradiction),?_⟩)))))))))))))
 refine B2 ?_
 cases h
 exact A6 (.inr W) (Yj (K2 W G_hit (nl W) W) (B3 W) (B3 W) (Ns<|rD<|E6 (T9<|gq W)<|E6 (T9<|gq W) G1) (T9<|Vu g1.2.2.1.property 6 W G_hit) C2) (.tup (.cons (.agg (ca W<|.cons ⟨T8,W⟩ (.cons ⟨T8,W⟩ .nil))) (.cons T8 A3)))
def If [Lp]:Option Bool:=
  (Rt).bind fun v1=>(Tp 0 10000 1000).bind fun v2=>(Tp 1 46000 1000).bind fun v3=>(Ru v1 [v2,v3]).bind fun v4=>cond (((v4.2 !=0)||((v4.1.In.length:Int) !=0))||((v4.1.Agents.length:Int) !=2)) (some false) ((Ir v1 v4.1 [50,(-90)]).bind fun v5=>((cond (((v5.2.2==0)&& ((v5.2.1.length:Int)==0))&& ((v5.1.Agents.length:Int)==2)) (C1 v5.1.Agents 0) (some default))).bind fun v6=>((cond ((((v5.2.2==0)&& ((v5.2.1.length:Int)==0))&& ((v5.1.Agents.length:Int)==2))&& (v6.S==11030)) (C1 v5.1.Agents 1) (some default))).bind fun v7=>((cond (((((v5.2.2==0)&& ((v5.2.1.length:Int)==0))&& ((v5.1.Agents.length:Int)==2))&& (v6.S==11030))&& (v7.V==910)) (Iq 100 30) (some default))).bind fun v8=>some ((((((v5.2.2==0)&& ((v5.2.1.length:Int)==0))&& ((v5.1.Agents.length:Int)==2))&& (v6.S==11030))&& (v7.V==910))&& (v8==120)))
theorem Zb(r)(h:If=some r):PCall prog 21 [] (bo r):=by
 refine C4 (fk func21 ntmps21 (fun r=>if r==2 then [1003]else if r==5 then [1002]else []) (by with_unfolding_all rfl)) (nl W) ?_
 unfold If at h
 refine B4 (s0:=⟨T [],G []⟩) (F2 W W) ?_
 refine B0<|sv W<|A1<|B0<|bs h fun v1 hv1 h=>A9 W W A3 (PX _ hv1) (.inl W) (sm W<|U0 W G_hit (L4 v1) W (A1<|A5<|E7 W<|sd W (B1 W G_hit W W)<|bs h fun v2 hv2 h=>A9 W W A3 (Yr _ _ _ _ hv2) (.inl W) (bs h fun v3 hv3 h=>A9 W W A3 (Yr _ _ _ _ hv3) (.inl W) (C0 (dl D0 [v2,v3]) W (FV D0 ([v2,v3]:List Agent) (fun _=>W) W W ⟨W,W,W,W,W,W,trivial⟩ (fun _=>W)) (bs h fun v4 hv4 h=>A9 W W A3 (PZ _ _ _ hv4) (.inl W) (sv W<|sv W<|sv W<|sm W<|U0 W G_hit (J5 v4.1) W (sv W<|A1<|A5<|B0<|sv W<|sv W<|sv W<|gp W (K6 W) (fun _=>W) (gf W (vl W G_hit W)<|gf W (fun w3=>(D7<|A2 w3))<|gf W (vb W W W)<|sd W (O2 W W<|fun hc=>A2<|J4 hc)<|sv W<|gp W (K6 W) (fun _=>W) (gf W (vl W G_hit W)<|gf W (fun w7=>(D7<|A2 w7))<|gf W (vb W W W)<|sd W (O2 W W<|fun hc=>A2<|J4 hc)<|A1<|cc W h (fun c1 h=> ?_)<|fun c1 h=> ?_)))))))))
 refine B0<|sv W<|A1<|B2 ?_
 cases h
 exact A6 (.inr W) (B6 (B3 W) C2) (.refl _)
 refine A8<|B0<|sd W (B1 W (gq W) W W)<|sd W (B1 W G_hit W W)<|C0 (dl A4 [50,(-90)]) W W (bs h fun v5 hv5 h=>A9 W W A3 (BF _ _ _ _ hv5) (.inl W) (sv W<|sv W<|sv W<|sv W<|sm W<|U0 W G_hit (J5 v5.1) W (sv W<|sv W<|A1<|B0<|sv W<|sv W<|sv W<|gt W (fun _=>W)<|gt W (fun w10=>(D7<|A2 w10))<|gt W (vb W W W)<|sa W W W<|sv W<|gp W (M3 W) (fun _=>W) (gt W (vl W G_hit W)<|gt W (fun w14=>(D7<|A2 w14))<|gt W (vb W W W)<|sa W W W<|sv W<|gp W (M3 W) (fun _=>W) (gt W (vl W G_hit W)<|bs h fun _ hv6 h=>gt W (fun w18=>(C5 (A2 w18) W (B9 w18 hv6) W)) ?_)))))
 refine gt W (fun w19=>(by simp only [A2 w19];rfl)) ?_
 refine gt W (fun w20=>(C9 (A2 w20) (B9 w20 hv6) W))<|gt W (vb W W W)<|sa W W W<|sv W<|gp W (M3 W) (fun _=>W) (gt W (vl W G_hit W)<|bs h fun _ hv7 h=>gt W (fun w24=>(C5 (A2 w24) W (B9 w24 hv7) W)) ?_)
 refine gt W (fun w25=>(by simp only [A2 w25];rfl)) ?_
 refine gt W (fun w26=>(C9 (A2 w26) (B9 w26 hv7) W))<|gt W (vb W W W)<|sa W W W<|sv W<|bs h fun v8 hv8 h=>N6 _ (i64 v8) (M3 W) (fun w28=>⟨_,_,_,_,W,W,A3,Mb _ _ _<|B9 w28 hv8,(.inl W)⟩) (gt W (vb W W W)<|sa W W W<|sv W<|A1<|B2 ?_)
 cases h
 exact A6 (.inr W) (B6 (B3 W) C2) (.refl _)
def Pu (p1:Int)(p2:Int):Option Int:=
  (Vq p1 p2).bind fun v1=>cond (decide (v1<0)) (some (D3 (v1+p2))) (some v1)
theorem Pf(p1 p2 r)(h:Pu p1 p2=some r):PCall prog 37 [(i64 p1),(i64 p2)] (i64 r):=by
 refine C4 (fk func37 ntmps37 m0 (by with_unfolding_all rfl)) (nl W) ?_
 unfold Pu at h
 refine B4 (s0:=⟨T [(0,(.d _)),(1,(.d _))],G []⟩) (F2 W W) ?_
 refine B0<|sv W<|A1<|B0<|sv W<|sv W<|bs h fun _ hv1 h=>sd W (AT W W hv1)<|sv W<|A1<|A5<|B0<|sv W<|sv W<|A1<|cc W h (fun c1 h=> ?_)<|fun c1 h=> ?_
 refine B7<|sv W<|sv W<|sv W<|sv W<|A1<|B0<|sv W<|sv W<|A1<|B2 ?_
 cases h
 exact A6 (.inr W) (B6 (B3 W) C2) (.refl _)
 refine A8<|B0<|sv W<|sv W<|A1<|B2 ?_
 cases h
 exact A6 (.inr W) (B6 (B3 W) C2) (.refl _)
def So (p1:Int)(p2:Int)(p3:Int):Option Signal:=
  some (Signal.mk p1 [(Phase.mk 12 [p2]),(Phase.mk 5 []),(Phase.mk 9 [p3]),(Phase.mk 4 [])])
theorem Ui(p1 p2 p3 r)(h:So p1 p2 p3=some r):PCall prog 70 [(i64 p1),(i64 p2),(i64 p3)] (.agg [(i64 r.Offset),(.list (List.map Bb r.Phases))]):=by
 refine C4 (fk func70 ntmps70 (fun r=>if r==1 then [1002,1006,1009]else []) (by with_unfolding_all rfl)) (nl W) ?_
 unfold So at h
 refine B4 (s0:=⟨T [(0,(.d _)),(1,(.d _)),(2,(.d _))],G []⟩) (F2 W W) ?_
 refine B0<|sm W<|A1<|B0<|sv W<|sv W<|C0 (dl A4 [p2]) W W (sv W<|sv W<|sv W<|C0 (dl A4 [p3]) W W (sv W<|sv W<|C0 (dl Bb [(Phase.mk 12 [p2]),(Phase.mk 5 []),(Phase.mk 9 [p3]),(Phase.mk 4 [])]) W W (sv W<|U0 W G_hit [(di p1),(dl Bb [(Phase.mk 12 [p2]),(Phase.mk 5 []),(Phase.mk 9 [p3]),(Phase.mk 4 [])])] W (A1<|B2 ?_))))
 cases h
 exact A6 (.inr W) (B6 (K2 W G_hit (nl W) W) C2) (.refl _)
def Zz [Lp](p1:Int):Option Map:=
  (Pu p1 16777216).bind fun v1=>(C1 [1500,600,1000,300] ((D3 (v1.tdiv 7)).tmod 4)).bind fun v2=>(cond ((v1.tmod 7)==0) ((U6 1 v2 [] [0,0,60000,0]).bind fun v3=>some ([v3],[],[])) ((cond ((v1.tmod 7)==1) (some ((v1.tmod 7)==1)) (some ((v1.tmod 7)==2))).bind fun y2=>cond y2 ((U6 1 v2 [] [0,0,50000,0]).bind fun v4=>(U6 1 1500 [] [30000,(-20000),30000,20000]).bind fun v5=>cond ((v1.tmod 7)==2) ((C1 [(Zone.mk [(Part.mk 0 28000 32000 ((D3 (v1.tdiv 28)).tmod 2)),(Part.mk 1 18000 22000 (D3 (2 - (D3 (2* ((D3 (v1.tdiv 28)).tmod 2))))))] 0)] 0).bind fun v6=>(So ((D3 (v1.tdiv 28)).tmod 31) 0 1).bind fun v7=>some ([v4,v5],(Lx [(Zone.mk [(Part.mk 0 28000 32000 ((D3 (v1.tdiv 28)).tmod 2)),(Part.mk 1 18000 22000 (D3 (2 - (D3 (2* ((D3 (v1.tdiv 28)).tmod 2))))))] 0)] 0 (Zone.mk v6.Parts 1)),[v7])) (some ([v4,v5],[(Zone.mk [(Part.mk 0 28000 32000 ((D3 (v1.tdiv 28)).tmod 2)),(Part.mk 1 18000 22000 (D3 (2 - (D3 (2* ((D3 (v1.tdiv 28)).tmod 2))))))] 0)],[]))) (cond ((v1.tmod 7)==3) ((U6 1 v2 [1,2] [0,0,30000,0]).bind fun v8=>(U6 1 1500 [] [30000,0,60000,0]).bind fun v9=>(U6 1 800 [] [30000,0,54000,10000]).bind fun v10=>some ([v8,v9,v10],[],[])) (cond ((v1.tmod 7)==4) ((U6 1 v2 [2] [0,0,30000,0]).bind fun v11=>(U6 1 1500 [2] [6000,(-10000),30000,0]).bind fun v12=>(U6 1 1500 [] [30000,0,60000,0]).bind fun v13=>some ([v11,v12,v13],[(Zone.mk [(Part.mk 0 25000 30000 1),(Part.mk 1 20000 26000 0),(Part.mk 2 0 5000 0)] 0)],[])) (cond ((v1.tmod 7)==5) ((U6 1 v2 [1] [0,0,20000,0]).bind fun v14=>(U6 1 v2 [] [20000,0,50000,0]).bind fun v15=>(U6 3 200 [] [35000,(-8000),35000,8000]).bind fun v16=>some ([v14,v15,v16],[(Zone.mk [(Part.mk 1 14000 16000 0),(Part.mk 2 6000 10000 3)] 0)],[])) (cond ((v1.tmod 7)==6) ((U6 1 v2 [1,2] [0,0,20000,0]).bind fun v17=>(U6 1 1500 [] [20000,0,50000,0]).bind fun v18=>(U6 1 1000 [] [20000,0,44000,10000]).bind fun v19=>(U6 2 700 [] [36000,(-12000),36000,18000]).bind fun v20=>cond (((D3 (v1.tdiv 28)).tmod 2)==1) ((C1 [(Zone.mk [(Part.mk 1 14000 18000 1),(Part.mk 3 10000 14000 0)] 0),(Zone.mk [(Part.mk 2 14000 21000 1),(Part.mk 3 14500 23000 0)] 0)] 0).bind fun v21=>(C1 (Lx [(Zone.mk [(Part.mk 1 14000 18000 1),(Part.mk 3 10000 14000 0)] 0),(Zone.mk [(Part.mk 2 14000 21000 1),(Part.mk 3 14500 23000 0)] 0)] 0 (Zone.mk v21.Parts 1)) 1).bind fun v22=>(So ((D3 (v1.tdiv 56)).tmod 31) 1 3).bind fun v23=>(So ((D3 (v1.tdiv 56)).tmod 17) 2 3).bind fun v24=>some ([v17,v18,v19,v20],(Lx (Lx [(Zone.mk [(Part.mk 1 14000 18000 1),(Part.mk 3 10000 14000 0)] 0),(Zone.mk [(Part.mk 2 14000 21000 1),(Part.mk 3 14500 23000 0)] 0)] 0 (Zone.mk v21.Parts 1)) 1 (Zone.mk v22.Parts 2)),[v23,v24])) (some ([v17,v18,v19,v20],[(Zone.mk [(Part.mk 1 14000 18000 1),(Part.mk 3 10000 14000 0)] 0),(Zone.mk [(Part.mk 2 14000 21000 1),(Part.mk 3 14500 23000 0)] 0)],[]))) (some ([],[],[])))))))).bind fun y1=>cond (((D3 (v1.tdiv 1736)).tmod 3)==1) (some (Map.mk ((D3 (v1.tdiv 28)).tmod 5) y1.1 y1.2.1 y1.2.2 [(Work.mk 0 10000 15000 ((D3 (v1.tdiv 5208)).tmod 40) (D3 (((D3 (v1.tdiv 5208)).tmod 40)+20)) (D3 (((D3 (v1.tdiv 208320)).tmod 3)*200)))])) (some (Map.mk ((D3 (v1.tdiv 28)).tmod 5) y1.1 y1.2.1 y1.2.2 []))
theorem VY(p1 r)(h:Zz p1=some r):PCall prog 22 [(i64 p1)] (.agg (P7 r)):=by
 refine C4 (fk func22 ntmps22 (fun r=>if r==2 then [1000]else if r==6 then [1001]else if r==9 then [1001,1003]else if r==10 then [1010]else if r==15 then [1001,1002,1004,1006]else if r==17 then [1001,1002,1004,1005,1007]else if r==18 then [1003]else if r==20 then [1001,1002,1005,1007]else if r==21 then [1002]else if r==23 then [1001,1002,1004,1006,1008]else if r==24 then [1002,1006]else if r==30 then [1012]else []) (by with_unfolding_all rfl)) (nl W) ?_
 unfold Zz at h
 refine B4 (s0:=⟨T [(0,(.d _))],G []⟩) (F2 W W) ?_
 refine lr<|fun u1 _=>sm W<|A1<|B0<|sv W<|bs h fun v1 hv1 h=>A9 W W A3 (Pf _ _ _ hv1) (.inl W) (sv W<|A1<|B0<|C0 (dl A4 [1500,600,1000,300]) W W (sv W<|sv W<|sv W<|bs h fun v2 hv2 h=>sd W (C5 W W hv2 W)<|sd W (C9 W hv2 W)<|sv W<|A1<|lr<|fun u4 _=>sm W<|A1<|A5<|B0<|sv W<|sv W<|A1<|bs h fun y1 hy1 h=>D9 (fun s=> ∃g1:(({d:Nat // d∈ [20,30,69,82,102,122]}×Nat)× ({d:Nat // d∈ [44,89,108,132]}×Nat)× ({d:Nat // d∈ [57,154]}×Nat)),Sb ⟨T [(0,(di v1)),(2,(.ptr (2,u1) 0)),(4,(.ptr (4,u4) 0))],G [((2,u1),some<|.box 33 [(di 0),(.d .nilS),(.d .nilS),(.d .nilS),(.d .nilS)]),((4,u4),some<|.box 33 [(di 0),(oS y1.1 (g1.1.1.val,g1.1.2)),(oS y1.2.1 (g1.2.1.1.val,g1.2.1.2)),(oS y1.2.2 (g1.2.2.1.val,g1.2.2.2)),(.d .nilS)]),((g1.1.1.val,g1.1.2),oB 63 5 Gr y1.1),((g1.2.1.1.val,g1.2.1.2),oB 117 2 Gs y1.2.1),((g1.2.2.1.val,g1.2.2.2),oB 120 2 Nv y1.2.2)]⟩ s) ?_ ?_))
 refine A7<|B0<|sv W<|sv W<|A1<|cc W hy1 (fun c1 hy1=> ?_)<|fun c1 hy1=> ?_
 refine Br fun u7 _=>sv W<|C0 (dl A4 [0,0,60000,0]) W W (bs hy1 fun v3 hv3 hy1=>A9 W W (.cons (.refl _) (.cons (.refl _) (.cons DLe.nil A3))) (S4 _ _ _ _ _ hv3) (.inl W) (Ot (.sl _) (.arr 63 5 (List.map Gr ([v3]:List Lane))) W W (sq W<|U0 W (gq W) [(di 0),(.sl (20,u7)),(.d .nilS),(.d .nilS),(.d .nilS)] W (A1<|E3 ?_))))
 cases hy1
 exact U4 ⟨((⟨20, .head _⟩,u7),(⟨44, .head _⟩,0),(⟨57, .head _⟩,0)),(E0 (Z7 W)<|sg W<|B5 G_hit (.box (cv<|.cons (.of (V1<|List.cons_ne_nil _ _).symm) cw))<|N8 (gq W)<|S5<|S5 trivial)⟩
 refine A5<|B0<|sv W<|sv W<|A1<|bs hy1 fun y2 hy2 hy1=>D9 (fun s=> ∃g2:Unit,Sb ⟨T [(0,(di v1)),(2,(.ptr (2,u1) 0)),(3,(di v2)),(4,(.ptr (4,u4) 0)),(14,(di<|v1.tmod 7)),(22,(.d (bo y2)))],G [((2,u1),some<|.box 33 [(di 0),(.d .nilS),(.d .nilS),(.d .nilS),(.d .nilS)]),((4,u4),some<|.box 33 [(di 0),(.d .nilS),(.d .nilS),(.d .nilS),(.d .nilS)])]⟩ s) ?_ ?_
 refine cc W hy2 (fun c2 hy2=> ?_)<|fun c2 hy2=> ?_
 refine A8 ?_
 cases hy2
 exact U4 ⟨(),(F2 W W)⟩
 refine B7<|sv W<|sv W<|A1 ?_
 cases hy2
 exact U4 ⟨(),(F2 W W)⟩
 rintro _ ⟨g2,q1⟩
 refine B4 q1<|cc W hy1 (fun c3 hy1=> ?_)<|fun c3 hy1=> ?_
 refine lr<|fun u10 _=>sv W<|C0 (dl A4 [0,0,50000,0]) W W (bs hy1 fun v4 hv4 hy1=>A9 W W (.cons (.refl _) (.cons (.refl _) (.cons DLe.nil A3))) (S4 _ _ _ _ _ hv4) (.inl W) (C0 (dl A4 [30000,(-20000),30000,20000]) W W (bs hy1 fun v5 hv5 hy1=>A9 W W (.cons (.refl _) (.cons (.refl _) (.cons DLe.nil A3))) (S4 _ _ _ _ _ hv5) (.inl W) (Ot (.sl _) (.arr 63 5 (List.map Gr ([v4,v5]:List Lane))) W (Nu Gr _ (fun _=>W) W W ⟨W,W,W,W,W,W,trivial⟩) (sq W<|U0 W (gq W) [(di 0),(.sl (30,u10)),(.d .nilS),(.d .nilS),(.d .nilS)] W (A1<|lr<|fun u11 _=>sv W<|sv W<|sv W<|sv W<|sv W<|sv W<|sv W<|sv W<|sv W<|sv W<|C0 (dl Bf [(Part.mk 0 28000 32000 ((D3<|v1.tdiv 28).tmod 2)),(Part.mk 1 18000 22000<|D3 (2 - (D3 (2* ((D3<|v1.tdiv 28).tmod 2)))))]) W W (sv W<|Ot (.sl _) (.arr 117 2 (List.map Gs ([(Zone.mk [(Part.mk 0 28000 32000 ((D3<|v1.tdiv 28).tmod 2)),(Part.mk 1 18000 22000<|D3 (2 - (D3 (2* ((D3<|v1.tdiv 28).tmod 2)))))] 0)]:List Zone))) W W (sq W<|U0 W (gq W) [(di 0),(.sl (30,u10)),(.sl (44,u11)),(.d .nilS),(.d .nilS)] W (A1<|B0<|sv W<|sv W<|sv W<|A1<|cc W hy1 (fun c4 hy1=> ?_)<|fun c4 hy1=> ?_)))))))))
 refine B0<|sq W<|C0 (.sl _) W (Q8 W G_hit W) (bs hy1 fun v6 hv6 hy1=>C0 (.aptr _ _ _ _) W (Kg W W (gq W) hv6) (C0 (.aptr _ _ _ _) W W (Qd Gs _ _ _ (0) _ (Zone.mk v6.Parts 1) [(i64 1)] W W W (gq W) hv6 (nl W) W (A1<|Br fun u14 _=>sv W<|sv W<|sv W<|bs hy1 fun v7 hv7 hy1=>A9 W W A3 (Ui _ _ _ _ hv7) (.inl W) (Ot (.sl _) (.arr 120 2 (List.map Nv ([v7]:List Signal))) W W (sq W<|U0 W (gq W) [(di 0),(.sl (30,u10)),(.sl (44,u11)),(.sl (57,u14)),(.d .nilS)] W (A1<|E3 ?_)))))))
 cases hy1
 exact U4 ⟨((⟨30, .tail _ (.head _)⟩,u10),(⟨44, .head _⟩,u11),(⟨57, .head _⟩,u14)),(E0 (Z7 W)<|sg W<|B5 G_hit (.box (cv<|.cons (.of (V1<|List.cons_ne_nil _ _).symm) (.cons (.of (V1<|Zw<|List.cons_ne_nil _ _).symm) (.cons (.of (V1<|List.cons_ne_nil _ _).symm) cw))))<|N8 (gq W)<|N8 (gq W)<|N8 (gq W) trivial)⟩
 refine A8<|E3 ?_
 cases hy1
 exact U4 ⟨((⟨30, .tail _ (.head _)⟩,u10),(⟨44, .head _⟩,u11),(⟨57, .head _⟩,0)),(E0 (Z7 W)<|sg W<|B5 G_hit (.box (cv<|.cons (.of (V1<|List.cons_ne_nil _ _).symm) (.cons (.of (V1<|List.cons_ne_nil _ _).symm) cw)))<|N8 (gq W)<|N8 (gq W)<|S5 trivial)⟩
 refine B0<|sv W<|sv W<|A1<|cc W hy1 (fun c5 hy1=> ?_)<|fun c5 hy1=> ?_
 refine Br fun u16 _=>sv W<|C0 (dl A4 [1,2]) W W (C0 (dl A4 [0,0,30000,0]) W W (bs hy1 fun v8 hv8 hy1=>A9 W W A3 (S4 _ _ _ _ _ hv8) (.inl W) (C0 (dl A4 [30000,0,60000,0]) W W (bs hy1 fun v9 hv9 hy1=>A9 W W (.cons (.refl _) (.cons (.refl _) (.cons DLe.nil A3))) (S4 _ _ _ _ _ hv9) (.inl W) (C0 (dl A4 [30000,0,54000,10000]) W W (bs hy1 fun v10 hv10 hy1=>A9 W W (.cons (.refl _) (.cons (.refl _) (.cons DLe.nil A3))) (S4 _ _ _ _ _ hv10) (.inl W) (Ot (.sl _) (.arr 63 5 (List.map Gr ([v8,v9,v10]:List Lane))) W (Nu Gr _ (fun _=>W) W W ⟨W,W,W,W,W,W,W,W,W,trivial⟩) (sq W<|U0 W (gq W) [(di 0),(.sl (69,u16)),(.d .nilS),(.d .nilS),(.d .nilS)] W (A1<|E3 ?_)))))))))
 cases hy1
 exact U4 ⟨((⟨69, .tail _ (.tail _ (.head _))⟩,u16),(⟨44, .head _⟩,0),(⟨57, .head _⟩,0)),(E0 (Z7 W)<|sg W<|B5 G_hit (.box (cv<|.cons (.of (V1<|List.cons_ne_nil _ _).symm) cw))<|N8 (gq W)<|S5<|S5 trivial)⟩
 refine B0<|sv W<|sv W<|A1<|cc W hy1 (fun c6 hy1=> ?_)<|fun c6 hy1=> ?_
 refine lr<|fun u18 _=>sv W<|C0 (dl A4 [2]) W W (C0 (dl A4 [0,0,30000,0]) W W (bs hy1 fun v11 hv11 hy1=>A9 W W A3 (S4 _ _ _ _ _ hv11) (.inl W) (C0 (dl A4 [2]) W W (C0 (dl A4 [6000,(-10000),30000,0]) W W (bs hy1 fun v12 hv12 hy1=>A9 W W A3 (S4 _ _ _ _ _ hv12) (.inl W) (C0 (dl A4 [30000,0,60000,0]) W W (bs hy1 fun v13 hv13 hy1=>A9 W W (.cons (.refl _) (.cons (.refl _) (.cons DLe.nil A3))) (S4 _ _ _ _ _ hv13) (.inl W) (Ot (.sl _) (.arr 63 5 (List.map Gr ([v11,v12,v13]:List Lane))) W (Nu Gr _ (fun _=>W) W W ⟨W,W,W,W,W,W,W,W,W,trivial⟩) (sq W<|U0 W (gq W) [(di 0),(.sl (82,u18)),(.d .nilS),(.d .nilS),(.d .nilS)] W (A1<|Br fun u19 _=>sv W<|sv W<|sv W<|C0 (dl Bf [(Part.mk 0 25000 30000 1),(Part.mk 1 20000 26000 0),(Part.mk 2 0 5000 0)]) W (FV Bf ([(Part.mk 0 25000 30000 1),(Part.mk 1 20000 26000 0),(Part.mk 2 0 5000 0)]:List Part) (fun _=>W) W W ⟨W,W,W,W,W,W,W,W,W,trivial⟩ (fun _=>W)) (sv W<|Ot (.sl _) (.arr 117 2 (List.map Gs ([(Zone.mk [(Part.mk 0 25000 30000 1),(Part.mk 1 20000 26000 0),(Part.mk 2 0 5000 0)] 0)]:List Zone))) W W (sq W<|U0 W (gq W) [(di 0),(.sl (82,u18)),(.sl (89,u19)),(.d .nilS),(.d .nilS)] W (A1<|E3 ?_)))))))))))))
 cases hy1
 exact U4 ⟨((⟨82, .tail _ (.tail _ (.tail _ (.head _)))⟩,u18),(⟨89, .tail _ (.head _)⟩,u19),(⟨57, .head _⟩,0)),(E0 (Z7 W)<|sg W<|B5 G_hit (.box (cv<|.cons (.of (V1<|List.cons_ne_nil _ _).symm) (.cons (.of (V1<|List.cons_ne_nil _ _).symm) cw)))<|N8 (gq W)<|N8 (gq W)<|S5 trivial)⟩
 refine B0<|sv W<|sv W<|A1<|cc W hy1 (fun c7 hy1=> ?_)<|fun c7 hy1=> ?_
 refine lr<|fun u21 _=>sv W<|C0 (dl A4 [1]) W W (C0 (dl A4 [0,0,20000,0]) W W (bs hy1 fun v14 hv14 hy1=>A9 W W A3 (S4 _ _ _ _ _ hv14) (.inl W) (sv W<|C0 (dl A4 [20000,0,50000,0]) W W (bs hy1 fun v15 hv15 hy1=>A9 W W (.cons (.refl _) (.cons (.refl _) (.cons DLe.nil A3))) (S4 _ _ _ _ _ hv15) (.inl W) (C0 (dl A4 [35000,(-8000),35000,8000]) W W (bs hy1 fun v16 hv16 hy1=>A9 W W (.cons (.refl _) (.cons (.refl _) (.cons DLe.nil A3))) (S4 _ _ _ _ _ hv16) (.inl W) (Ot (.sl _) (.arr 63 5 (List.map Gr ([v14,v15,v16]:List Lane))) W (Nu Gr _ (fun _=>W) W W ⟨W,W,W,W,W,W,W,W,W,trivial⟩) (sq W<|U0 W (gq W) [(di 0),(.sl (102,u21)),(.d .nilS),(.d .nilS),(.d .nilS)] W (A1<|Br fun u22 _=>sv W<|sv W<|C0 (dl Bf [(Part.mk 1 14000 16000 0),(Part.mk 2 6000 10000 3)]) W W (sv W<|Ot (.sl _) (.arr 117 2 (List.map Gs ([(Zone.mk [(Part.mk 1 14000 16000 0),(Part.mk 2 6000 10000 3)] 0)]:List Zone))) W W (sq W<|U0 W (gq W) [(di 0),(.sl (102,u21)),(.sl (108,u22)),(.d .nilS),(.d .nilS)] W (A1<|E3 ?_))))))))))))
 cases hy1
 exact U4 ⟨((⟨102, .tail _ (.tail _ (.tail _ (.tail _ (.head _))))⟩,u21),(⟨108, .tail _ (.tail _ (.head _))⟩,u22),(⟨57, .head _⟩,0)),(E0 (Z7 W)<|sg W<|B5 G_hit (.box (cv<|.cons (.of (V1<|List.cons_ne_nil _ _).symm) (.cons (.of (V1<|List.cons_ne_nil _ _).symm) cw)))<|N8 (gq W)<|N8 (gq W)<|S5 trivial)⟩
 refine B0<|sv W<|sv W<|A1<|cc W hy1 (fun c8 hy1=> ?_)<|fun c8 hy1=> ?_
 refine lr<|fun u24 _=>sv W<|C0 (dl A4 [1,2]) W W (C0 (dl A4 [0,0,20000,0]) W W (bs hy1 fun v17 hv17 hy1=>A9 W W A3 (S4 _ _ _ _ _ hv17) (.inl W) (C0 (dl A4 [20000,0,50000,0]) W W (bs hy1 fun v18 hv18 hy1=>A9 W W (.cons (.refl _) (.cons (.refl _) (.cons DLe.nil A3))) (S4 _ _ _ _ _ hv18) (.inl W) (C0 (dl A4 [20000,0,44000,10000]) W W (bs hy1 fun v19 hv19 hy1=>A9 W W (.cons (.refl _) (.cons (.refl _) (.cons DLe.nil A3))) (S4 _ _ _ _ _ hv19) (.inl W) (C0 (dl A4 [36000,(-12000),36000,18000]) W W (bs hy1 fun v20 hv20 hy1=>A9 W W (.cons (.refl _) (.cons (.refl _) (.cons DLe.nil A3))) (S4 _ _ _ _ _ hv20) (.inl W) (Ot (.sl _) (.arr 63 5 (List.map Gr ([v17,v18,v19,v20]:List Lane))) W (Nu Gr _ (fun _=>W) W W ⟨W,W,W,W,W,W,W,W,W,W,W,W,trivial⟩) (sq W<|U0 W (gq W) [(di 0),(.sl (122,u24)),(.d .nilS),(.d .nilS),(.d .nilS)] W (A1<|lr<|fun u25 _=>sv W<|sv W<|C0 (dl Bf [(Part.mk 1 14000 18000 1),(Part.mk 3 10000 14000 0)]) W W (sv W<|sv W<|sv W<|C0 (dl Bf [(Part.mk 2 14000 21000 1),(Part.mk 3 14500 23000 0)]) W W (sv W<|Ot (.sl _) (.arr 117 2 (List.map Gs ([(Zone.mk [(Part.mk 1 14000 18000 1),(Part.mk 3 10000 14000 0)] 0),(Zone.mk [(Part.mk 2 14000 21000 1),(Part.mk 3 14500 23000 0)] 0)]:List Zone))) W W (sq W<|U0 W (gq W) [(di 0),(.sl (122,u24)),(.sl (132,u25)),(.d .nilS),(.d .nilS)] W (A1<|B0<|sv W<|sv W<|sv W<|sv W<|A1<|cc W hy1 (fun c9 hy1=> ?_)<|fun c9 hy1=> ?_)))))))))))))))
 refine A5<|Rm fun _ _=>N9 (.ptr _ _) W W (N9 (.sl _) W (Q8 W G_hit W) (N9 (.ptr _ _) W W (N9 (.sl _) W (Q8 W G_hit W) (bs hy1 fun v21 hv21 hy1=>N9 (.aptr _ _ _ _) W (Kg W W (gq W) hv21) (N9 (.aptr _ _ _ _) W W (SL Gs _ _ _ (0) _ (Zone.mk v21.Parts 1) [(i64 1)] W W W (gq W) hv21 (nl W) W (bs hy1 fun v22 hv22 hy1=>N9 (.aptr _ _ _ _) W (Kg W W G_hit hv22) (N9 (.aptr _ _ _ _) W W (SL Gs _ _ _ (1) _ (Zone.mk v22.Parts 2) [(i64 2)] W W W G_hit hv22 (nl W) W (DZ ⟨W,?_⟩))))))))))
 refine Br fun u28 _=>sv W<|sv W<|sv W<|bs hy1 fun v23 hv23 hy1=>A9 W W A3 (Ui _ _ _ _ hv23) (.inl W) (sv W<|sv W<|sv W<|bs hy1 fun v24 hv24 hy1=>A9 W W A3 (Ui _ _ _ _ hv24) (.inl W) (Ot (.sl _) (.arr 120 2 (List.map Nv ([v23,v24]:List Signal))) W W (sq W<|U0 W (gq W) [(di 0),(.sl (122,u24)),(.sl (132,u25)),(.sl (154,u28)),(.d .nilS)] W (A1<|E3 ?_))))
 cases hy1
 exact U4 ⟨((⟨122, .tail _ (.tail _ (.tail _ (.tail _ (.tail _ (.head _)))))⟩,u24),(⟨132, .tail _ (.tail _ (.tail _ (.head _)))⟩,u25),(⟨154, .tail _ (.head _)⟩,u28)),(E0 (Z7 W)<|sg W<|B5 G_hit (.box (cv<|.cons (.of (V1<|List.cons_ne_nil _ _).symm) (.cons (.of (V1<|Zw<|Zw<|List.cons_ne_nil _ _).symm) (.cons (.of (V1<|List.cons_ne_nil _ _).symm) cw))))<|N8 (gq W)<|N8 (gq W)<|N8 (gq W) trivial)⟩
 refine A8<|E3 ?_
 cases hy1
 exact U4 ⟨((⟨122, .tail _ (.tail _ (.tail _ (.tail _ (.tail _ (.head _)))))⟩,u24),(⟨132, .tail _ (.tail _ (.tail _ (.head _)))⟩,u25),(⟨57, .head _⟩,0)),(E0 (Z7 W)<|sg W<|B5 G_hit (.box (cv<|.cons (.of (V1<|List.cons_ne_nil _ _).symm) (.cons (.of (V1<|List.cons_ne_nil _ _).symm) cw)))<|N8 (gq W)<|N8 (gq W)<|S5 trivial)⟩
 refine A8<|E3 ?_
 cases hy1
 exact U4 ⟨((⟨20, .head _⟩,0),(⟨44, .head _⟩,0),(⟨57, .head _⟩,0)),(E0 (Z7 W)<|B5 G_hit (.of W)<|sg W<|S5<|S5<|S5 trivial)⟩
 rintro _ ⟨g1,q2⟩
 refine B4 q2<|B0<|sv W<|sv W<|sv W<|sq W<|U0 W (gq W) [(di ((D3<|v1.tdiv 28).tmod 5)),(oS y1.1 (g1.1.1.val,g1.1.2)),(oS y1.2.1 (g1.2.1.1.val,g1.2.1.2)),(oS y1.2.2 (g1.2.2.1.val,g1.2.2.2)),(.d .nilS)] W (A1<|A5<|B0<|sv W<|sv W<|sv W<|sv W<|A1<|cc W h (fun c10 h=> ?_)<|fun c10 h=> ?_)
 refine B7<|sv W<|sv W<|sv W<|sv W<|sv W<|sv W<|sv W<|sv W<|sv W<|sv W<|sv W<|sv W<|C0 (dl Ut [(Work.mk 0 10000 15000 ((D3<|v1.tdiv 5208).tmod 40) (D3 (((D3<|v1.tdiv 5208).tmod 40)+20)) (D3 (((D3<|v1.tdiv 208320).tmod 3)*200)))]) W W (sq W<|U0 W G_hit [(di ((D3<|v1.tdiv 28).tmod 5)),(oS y1.1 (g1.1.1.val,g1.1.2)),(oS y1.2.1 (g1.2.1.1.val,g1.2.1.2)),(oS y1.2.2 (g1.2.2.1.val,g1.2.2.2)),(dl Ut [(Work.mk 0 10000 15000 ((D3<|v1.tdiv 5208).tmod 40) (D3 (((D3<|v1.tdiv 5208).tmod 40)+20)) (D3 (((D3<|v1.tdiv 208320).tmod 3)*200)))])] W (A1<|B0<|C0 (X5 [(di ((D3<|v1.tdiv 28).tmod 5)),(oS y1.1 (g1.1.1.val,g1.1.2)),(oS y1.2.1 (g1.2.1.1.val,g1.2.1.2)),(oS y1.2.2 (g1.2.2.1.val,g1.2.2.2)),(dl Ut [(Work.mk 0 10000 15000 ((D3<|v1.tdiv 5208).tmod 40) (D3 (((D3<|v1.tdiv 5208).tmod 40)+20)) (D3 (((D3<|v1.tdiv 208320).tmod 3)*200)))])]) W (B1 W G_hit W W) (Jz _ _ _ _ _ (X1 _) W W (gq W) (nl W) [(di ((D3<|v1.tdiv 28).tmod 5)),(oS y1.1 (g1.1.1.val,g1.1.2)),(oS y1.2.1 (g1.2.1.1.val,g1.2.1.2)),(oS y1.2.2 (g1.2.2.1.val,g1.2.2.2)),(dl Ut [(Work.mk 0 10000 15000 ((D3<|v1.tdiv 5208).tmod 40) (D3 (((D3<|v1.tdiv 5208).tmod 40)+20)) (D3 (((D3<|v1.tdiv 208320).tmod 3)*200)))])] W (A1<|B2 ?_))))
 cases h
 exact A6 (.inr W) (B6 (K2 W G_hit (nl W) W)<|Ns<|rD<|E6 (T9<|Vu g1.1.1.property 5 W G_hit)<|E6 (T9<|Vu g1.2.1.1.property 5 W<|F5 (ZT g1.2.1.1.property g1.1.1.property W) G_hit)<|E6 (T9<|Vu g1.2.2.1.property 5 W<|F5 (ZT g1.2.2.1.property g1.1.1.property W)<|F5 (ZT g1.2.2.1.property g1.2.1.1.property W) G_hit)<|rD G1) (.agg (ca W<|.cons ⟨T8,W⟩ (.cons ⟨T8,W⟩ (.cons ⟨T8,W⟩ (cz W)))))
 refine A8<|B0<|C0 (X5 [(di ((D3<|v1.tdiv 28).tmod 5)),(oS y1.1 (g1.1.1.val,g1.1.2)),(oS y1.2.1 (g1.2.1.1.val,g1.2.1.2)),(oS y1.2.2 (g1.2.2.1.val,g1.2.2.2)),(.d .nilS)]) W (B1 W G_hit W W) (Jz _ _ _ _ _ (X1 _) W W (gq W) (nl W) [(di ((D3<|v1.tdiv 28).tmod 5)),(oS y1.1 (g1.1.1.val,g1.1.2)),(oS y1.2.1 (g1.2.1.1.val,g1.2.1.2)),(oS y1.2.2 (g1.2.2.1.val,g1.2.2.2)),(.d .nilS)] W (A1<|B2 ?_))
 cases h
 exact A6 (.inr W) (B6 (K2 W G_hit (nl W) W)<|Ns<|rD<|E6 (T9<|Vu g1.1.1.property 4 W G_hit)<|E6 (T9<|Vu g1.2.1.1.property 4 W<|F5 (ZT g1.2.1.1.property g1.1.1.property W) G_hit)<|E6 (T9<|Vu g1.2.2.1.property 4 W<|F5 (ZT g1.2.2.1.property g1.1.1.property W)<|F5 (ZT g1.2.2.1.property g1.2.1.1.property W) G_hit)<|rD G1) (.agg (ca W<|.cons ⟨T8,W⟩ (.cons ⟨T8,W⟩ (.cons ⟨T8,W⟩ (.cons ⟨DLe.nil,W⟩ .nil)))))
def Dk (p1:Int)(p2:Int)(p3:Int):Option Bool:=
  some ((decide (p1≥p2))&& (decide (p1≤p3)))
theorem Ey(p1 p2 p3 r)(h:Dk p1 p2 p3=some r):PCall prog 162 [(i64 p1),(i64 p2),(i64 p3)] (bo r):=by
 refine C4 (fk func162 ntmps162 m0 (by with_unfolding_all rfl)) (nl W) ?_
 unfold Dk at h
 refine B4 (s0:=⟨T [(0,(.d _)),(1,(.d _)),(2,(.d _))],G []⟩) (F2 W W) ?_
 refine B0<|sv W<|A1<|B0<|sv W<|sv W<|sv W<|sv W<|gt W (fun _=>W)<|gt W (fun _=>W)<|gt W (fun w3=>(M7 (A2 w3) (A2 w3) W))<|sa W W W<|sv W<|A1<|B2 ?_
 cases h
 exact A6 (.inr W) (B6 (B3 W) C2) (.refl _)
def Qj (p1:Spot):Option Bool:=
  some ((((decide (p1.X≥(-16777216)))&& (decide (p1.X≤16777216)))&& (decide (p1.Y≥(-16777216))))&& (decide (p1.Y≤16777216)))
theorem KM(p1 r)(h:Qj p1=some r):PCall prog 234 [(.agg [(i64 p1.X),(i64 p1.Y)])] (bo r):=by
 refine C4 (fk func234 ntmps234 m0 (by with_unfolding_all rfl)) (nl W) ?_
 unfold Qj at h
 refine B4 (s0:=⟨T [(0,(.d _))],G []⟩) (F2 W W) ?_
 refine B0<|sm W<|sv W<|A1<|B0<|sq W<|sl W G_hit W<|sv W<|sv W<|gp W (M3 W) (fun _=>W) (gt W (vl W G_hit W)<|gt W (vb W W W)<|sa W W W<|sv W<|gp W (M3 W) (fun _=>W) (gt W (vl W G_hit W)<|gt W (vb W W W)<|sa W W W<|sv W<|gp W (M3 W) (fun _=>W) (gt W (vl W G_hit W)<|gt W (vb W W W)<|sa W W W<|sv W<|A1<|B2 ?_)))
 cases h
 exact A6 (.inr W) (B6 (B3 W) C2) (.refl _)
def Ko (p1:Spot)(p2:Spot):Option Spot:=
  some (Spot.mk (D3 (p1.X - p2.X)) (D3 (p1.Y - p2.Y)))
theorem Sp(p1 p2 r)(h:Ko p1 p2=some r):PCall prog 136 [(.agg [(i64 p1.X),(i64 p1.Y)]),(.agg [(i64 p2.X),(i64 p2.Y)])] (.agg [(i64 r.X),(i64 r.Y)]):=by
 refine C4 (fk func136 ntmps136 m0 (by with_unfolding_all rfl)) (nl W) ?_
 unfold Ko at h
 refine B4 (s0:=⟨T [(0,(.d _)),(1,(.d _))],G []⟩) (F2 W W) ?_
 refine B0<|sm W<|sn W W<|sm W<|A1<|B0<|sq W<|sl W (gq W) W (sq W<|sl W (gq W) W (sv W<|sq W<|sl W (gq W) W (sq W<|sl W (gq W) W (sv W<|sv W<|U0 W G_hit [(di<|D3 (p1.X - p2.X)),(di<|D3 (p1.Y - p2.Y))] W (A1<|B2 ?_)))))
 cases h
 exact A6 (.inr W) (B6 (K2 W G_hit (nl W) W) C2) (.refl _)
def Nf (p1:Spot)(p2:Spot):Option Int:=
  some (D3 ((D3 (p1.X*p2.X))+ (D3 (p1.Y*p2.Y))))
theorem Rn(p1 p2 r)(h:Nf p1 p2=some r):PCall prog 203 [(.agg [(i64 p1.X),(i64 p1.Y)]),(.agg [(i64 p2.X),(i64 p2.Y)])] (i64 r):=by
 refine C4 (fk func203 ntmps203 m0 (by with_unfolding_all rfl)) (nl W) ?_
 unfold Nf at h
 refine B4 (s0:=⟨T [(0,(.d _)),(1,(.d _))],G []⟩) (F2 W W) ?_
 refine B0<|sm W<|sn W W<|sv W<|A1<|B0<|sq W<|sl W (gq W) W (sq W<|sl W G_hit W<|sv W<|sq W<|sl W (gq W) W (sq W<|sl W G_hit W<|sv W<|sv W<|sv W<|A1<|B2 ?_))
 cases h
 exact A6 (.inr W) (B6 (B3 W) C2) (.refl _)
def Mc (p1:Int)(x1:(Int×Int)):Option (Stp (Int×Int) Int):=
  cond (decide (x1.2>0)) (cond (decide ((D3 ((D3 (x1.1+x1.2))* (D3 (x1.1+x1.2))))≤p1)) (some (.go ((D3 (x1.1+x1.2)),(D3 (x1.2.tdiv 2))))) (some (.go (x1.1,(D3 (x1.2.tdiv 2)))))) (some (.out x1.1))
def Kp [Lp](p1:Int):Option Int:=
  (loop (Mc p1) (0,67108864)).bind fun y1=>some y1
theorem BG(p1 r)(h:Kp p1=some r):PCall prog 202 [(i64 p1)] (i64 r):=by
 refine C4 (fk func202 ntmps202 m0 (by with_unfolding_all rfl)) (nl W) ?_
 unfold Kp at h
 refine B4 (s0:=⟨T [(0,(.d _))],G []⟩) (F2 W W) ?_
 refine B0<|sv W<|A1<|B0<|sv W<|A1<|A5<|B0<|sv W<|A1<|bs h fun y1 hy1 h=>D9 (fun s=> ∃g1:Unit,Sb ⟨T [(3,(di y1))],G []⟩ s) ?_ ?_
 refine A7<|E4 (Mc p1) (fun (x1:(Int×Int)) (g2:Unit)=>⟨T [(0,(di p1)),(3,(di x1.1)),(4,(di x1.2))],G []⟩) (0,67108864) () _ hy1 (F2 W W) ?_
 intro x1 g2 z1 hz1 ez1
 unfold Mc at hz1
 refine A5<|B0<|sv W<|sv W<|A1<|cc W hz1 (fun c1 hz1=> ?_)<|fun c1 hz1=> ?_
 refine A8<|A5<|A7<|B0<|sv W<|sv W<|sv W<|sv W<|sv W<|sv W<|sv W<|sv W<|sv W<|A1<|cc W hz1 (fun c2 hz1=> ?_)<|fun c2 hz1=> ?_
 refine B7<|sv W<|sv W<|sv W<|sv W<|A1<|E3<|B7<|sv W<|sv W<|sv W<|A1<|E2 ?_
 cases hz1
 exact ⟨W,(),(F2 W W)⟩
 refine A8<|E3<|B7<|sv W<|sv W<|sv W<|A1<|E2 ?_
 cases hz1
 exact ⟨W,(),(F2 W W)⟩
 refine C8 W ?_
 cases hz1
 obtain rfl:=ez1 _ rfl
 refine ⟨nofun,C6 W<|U4 ?_⟩
 exact ⟨(),(F2 W W)⟩
 rintro _ ⟨g1,q1⟩
 refine B4 q1<|B0<|sv W<|sv W<|A1<|B2 ?_
 cases h
 exact A6 (.inr W) (B6 (B3 W) C2) (.refl _)
def Ef [Lp](p1:Curve)(x2:Int):Option (Stp Int (Sum Unit Int)):=
  cond (decide ((D3 (x2+1))< (p1.Pts.length:Int))) ((C1 p1.Pts (D3 (x2+1))).bind fun v3=>(C1 p1.Pts x2).bind fun v4=>(Ko v3 v4).bind fun v5=>(Nf v5 v5).bind fun v6=>(Kp v6).bind fun v7=>(Nf v5 v5).bind fun v8=>cond ((D3 (v7*v7)) !=v8) (some (.out (.inr 3))) (cond ((decide (v7<1000))||(decide (v7>1048576))) (some (.out (.inr 2))) (((cond (decide (x2>0)) (C1 p1.Pts x2) (some default))).bind fun v9=>((cond (decide (x2>0)) (C1 p1.Pts (D3 (x2 - 1))) (some default))).bind fun v10=>((cond (decide (x2>0)) (Ko v9 v10) (some default))).bind fun v11=>((cond (decide (x2>0)) (Nf v5 v11) (some default))).bind fun v12=>cond ((decide (x2>0))&& (decide (v12≤0))) (some (.out (.inr 12))) (some (.go (D3 (x2+1))))))) (some (.out (.inl ())))
def Eg (p1:Curve)(x1:Int):Option (Stp Int (Sum Unit Int)):=
  cond (decide (x1< (p1.Pts.length:Int))) ((C1 p1.Pts x1).bind fun v1=>(Qj v1).bind fun v2=>cond (!v2) (some (.out (.inr 2))) (some (.go (D3 (x1+1))))) (some (.out (.inl ())))
def Ng [Lp](p1:Curve):Option Int:=
  cond (decide ((p1.Pts.length:Int)<2)) (some 6) (cond (decide ((p1.Pts.length:Int)>16)) (some 5) (thenS (loop (Eg p1) 0) (fun _=>thenS (loop (Ef p1) 0) (fun _=>some 0) (fun r=>some r)) (fun r=>some r)))
theorem Zc(p1 r)(h:Ng p1=some r):PCall prog 201 [(.agg [(.list (List.map Cp p1.Pts))])] (i64 r):=by
 refine C4 (fk func201 ntmps201 m0 (by with_unfolding_all rfl)) (nl W) ?_
 unfold Ng at h
 refine B4 (s0:=⟨T [(0,(.d _))],G []⟩) (F2 W W) ?_
 refine lr<|fun u1 _=>sm W<|sv W<|A1<|A5<|B0<|sq W<|sl W G_hit W<|sd W (D7 W)<|sv W<|A1<|cc W h (fun c1 h=> ?_)<|fun c1 h=> ?_
 refine B0<|sv W<|A1<|B2 ?_
 cases h
 exact A6 (.inr W) (B6 (B3 W) C2) (.refl _)
 refine A8<|A5<|B0<|sq W<|sl W G_hit W<|sd W (D7 W)<|sv W<|A1<|cc W h (fun c2 h=> ?_)<|fun c2 h=> ?_
 refine B0<|sv W<|A1<|B2 ?_
 cases h
 exact A6 (.inr W) (B6 (B3 W) C2) (.refl _)
 refine A8<|A5<|B0<|sv W<|A1<|js h fun z1 hz1 h=>D9 (fun s=> ∃(y1:Unit) (g1:Unit),z1= .inl y1∧Sb ⟨T [(1,(.ptr (1,u1) 0))],G [((1,u1),some<|.box 61 [(dl Cp p1.Pts)])]⟩ s) ?_ ?_
 refine A7<|E4 (Eg p1) (fun (x1:Int) (g2:Unit)=>⟨T [(1,(.ptr (1,u1) 0)),(3,(di x1))],G [((1,u1),some<|.box 61 [(dl Cp p1.Pts)])]⟩) 0 () _ hz1 (F2 W W) ?_
 intro x1 g2 z2 hz2 ez2
 unfold Eg at hz2
 refine A5<|B0<|sv W<|sq W<|sl W G_hit W<|sd W (D7 W)<|sv W<|A1<|cc W hz2 (fun c3 hz2=> ?_)<|fun c3 hz2=> ?_
 refine A8<|A5<|A7<|B0<|sq W<|sl W G_hit W<|sv W<|bs hz2 fun _ hv1 hz2=>sd W (C5 W W hv1 W)<|sd W (D4 W hv1 W W)<|bs hz2 fun v2 hv2 hz2=>A9 W W A3 (KM _ _ hv2) (.inl W) (C0 (.d (bo (!v2))) W W (A1<|cc W hz2 (fun c4 hz2=> ?_)<|fun c4 hz2=> ?_))
 refine B0<|sv W<|A1<|B2 ?_
 cases hz2
 obtain rfl:=ez2 _ rfl
 refine ⟨nofun,F4 ?_⟩
 rw [wE]at h
 cases h
 exact A6 (.inr W) (B6 (B3 W) C2) (.refl _)
 refine A8<|E3<|B7<|sv W<|sv W<|sv W<|A1<|E2 ?_
 cases hz2
 exact ⟨W,(),(F2 W W)⟩
 refine C8 W ?_
 cases hz2
 obtain rfl:=ez2 _ rfl
 refine ⟨nofun,C6 W<|U4 ?_⟩
 exact ⟨_,(),W,(F2 W W)⟩
 rintro _ ⟨y1,g1,rfl,q1⟩
 rw [wD]at h
 refine B4 q1<|A5<|B0<|sv W<|A1<|js h fun z3 hz3 h=>D9 (fun s=> ∃(y2:Unit) (g3:Unit),z3= .inl y2∧Sb ⟨T [],G []⟩ s) ?_ ?_
 refine A7<|E4 (Ef p1) (fun (x2:Int) (g4:Unit)=>⟨T [(1,(.ptr (1,u1) 0)),(4,(di x2))],G [((1,u1),some<|.box 61 [(dl Cp p1.Pts)])]⟩) 0 () _ hz3 (F2 W W) ?_
 intro x2 g4 z4 hz4 ez4
 unfold Ef at hz4
 refine A5<|B0<|sv W<|sv W<|sq W<|sl W G_hit W<|sd W (D7 W)<|sv W<|A1<|cc W hz4 (fun c5 hz4=> ?_)<|fun c5 hz4=> ?_
 refine A8<|A5<|A7<|A5<|E7 W<|sq W<|sl W G_hit W<|sv W<|sv W<|bs hz4 fun _ hv3 hz4=>sd W (C5 W W hv3 W)<|sd W (D4 W hv3 W W)<|sq W<|sl W G_hit W<|sv W<|bs hz4 fun _ hv4 hz4=>sd W (C5 W W hv4 W)<|sd W (D4 W hv4 W W)<|bs hz4 fun v5 hv5 hz4=>A9 W W A3 (Sp _ _ _ hv5) (.inl W) (sm W<|U0 W G_hit [(di v5.X),(di v5.Y)] W (A1<|B0<|sd W (B1 W G_hit W W)<|sd W (B1 W G_hit W W)<|bs hz4 fun _ hv6 hz4=>A9 W W A3 (Rn _ _ _ hv6) (.inl W) (bs hz4 fun _ hv7 hz4=>A9 W W A3 (BG _ _ hv7) (.inl W) (sv W<|A1<|A5<|B0<|sv W<|sv W<|sv W<|sd W (B1 W G_hit W W)<|sd W (B1 W G_hit W W)<|bs hz4 fun _ hv8 hz4=>A9 W W A3 (Rn _ _ _ hv8) (.inl W) (sv W<|A1<|cc W hz4 (fun c6 hz4=> ?_)<|fun c6 hz4=> ?_)))))
 refine B0<|sv W<|A1<|B2 ?_
 cases hz4
 obtain rfl:=ez4 _ rfl
 refine ⟨nofun,F4 ?_⟩
 rw [wE]at h
 cases h
 exact A6 (.inr W) (B6 (B3 W) C2) (.refl _)
 refine A8<|A5<|B0<|sv W<|sv W<|sv W<|gf W (fun _=>W)<|gf W (vb W W W)<|sd W (O2 W W<|fun hc=>A2<|J4 hc)<|A1<|cc W hz4 (fun c7 hz4=> ?_)<|fun c7 hz4=> ?_
 refine B0<|sv W<|A1<|B2 ?_
 cases hz4
 obtain rfl:=ez4 _ rfl
 refine ⟨nofun,F4 ?_⟩
 rw [wE]at h
 cases h
 exact A6 (.inr W) (B6 (B3 W) C2) (.refl _)
 refine A8<|A5<|E7 W<|sv W<|sv W<|sv W<|gt W (fun _=>(B1 W G_hit W W))<|gp W (M3 W) (fun _=>W) (gt W (vl W (gq W) W)<|gt W (fun _=>W)<|bs hz4 fun v9 hv9 hz4=>gt W (fun w7=>(C5 (A2 w7) (A2 w7) (B9 w7 hv9) W))<|gt W (fun w8=>(D4 (A2 w8) (B9 w8 hv9) W W))<|gp W (M3 W) (fun _=>W) (gt W (vl W (gq W) W)<|gt W (fun _=>W)<|gt W (vb W W W)<|bs hz4 fun v10 hv10 hz4=>gt W (fun w13=>(C5 (A2 w13) (A2 w13) (B9 w13 hv10) W))<|gt W (fun w14=>(D4 (A2 w14) (B9 w14 hv10) W W))<|bs hz4 fun v11 hv11 hz4=> ?_))
 refine N6 _ (.agg [(i64 v11.X),(i64 v11.Y)]) (M3 W) (fun w15=>⟨_,[(.d (.agg [(i64 v9.X),(i64 v9.Y)])),(.d (.agg [(i64 v10.X),(i64 v10.Y)]))],_,_,(by simp only [A2 w15];rfl),W,A3,Sp _ _ _<|B9 w15 hv11,(.inl W)⟩) ?_
 refine bs hz4 fun v12 hv12 hz4=> ?_
 refine N6 _ (i64 v12) (M3 W) (fun w16=>⟨_,[(.d (.agg [(i64 v5.X),(i64 v5.Y)])),(.d (.agg [(i64 v11.X),(i64 v11.Y)]))],_,_,(by simp only [A2 w16];rfl),W,A3,Rn _ _ _<|B9 w16 hv12,(.inl W)⟩) ?_
 refine gt W (vb W W W)<|sa W W W<|A1<|cc W hz4 (fun c8 hz4=> ?_)<|fun c8 hz4=> ?_
 refine B0<|sv W<|A1<|B2 ?_
 cases hz4
 obtain rfl:=ez4 _ rfl
 refine ⟨nofun,F4 ?_⟩
 rw [wE]at h
 cases h
 exact A6 (.inr W) (B6 (B3 W) C2) (.refl _)
 refine A8<|E3<|B7<|sv W<|sv W<|sv W<|A1<|E2 ?_
 cases hz4
 exact ⟨W,(),(F2 W W)⟩
 refine C8 W ?_
 cases hz4
 obtain rfl:=ez4 _ rfl
 refine ⟨nofun,C6 W<|U4 ?_⟩
 exact ⟨_,(),W,(F2 W W)⟩
 rintro _ ⟨y2,g3,rfl,q2⟩
 rw [wD]at h
 refine B4 q2<|B0<|sv W<|A1<|B2 ?_
 cases h
 exact A6 (.inr W) (B6 (B3 W) C2) (.refl _)
def Cc (p1:Int):Option (Int×Int×Int):=
  cond (p1==1) (some (2000,30,90)) (cond (p1==2) (some (1000,20,60)) (cond (p1==3) (some (300,100,300)) (some (0,0,0))))
theorem Je(p1 r)(h:Cc p1=some r):PCall prog 35 [(i64 p1)] (.tup [(i64 r.1),(i64 r.2.1),(i64 r.2.2)]):=by
 refine C4 (fk func35 ntmps35 m0 (by with_unfolding_all rfl)) (nl W) ?_
 unfold Cc at h
 refine B4 (s0:=⟨T [(0,(.d _))],G []⟩) (F2 W W) ?_
 refine B0<|sv W<|sv W<|sv W<|A1<|A5<|B0<|sv W<|A1<|A7<|B0<|sv W<|sv W<|A1<|cc W h (fun c1 h=> ?_)<|fun c1 h=> ?_
 refine B0<|sv W<|sv W<|sv W<|A1<|B2 ?_
 cases h
 exact A6 (.inr W) (Yj (B3 W) (B3 W) (B3 W) C2 C2 C2) (.refl _)
 refine B0<|sv W<|sv W<|A1<|cc W h (fun c2 h=> ?_)<|fun c2 h=> ?_
 refine B0<|sv W<|sv W<|sv W<|A1<|B2 ?_
 cases h
 exact A6 (.inr W) (Yj (B3 W) (B3 W) (B3 W) C2 C2 C2) (.refl _)
 refine B0<|sv W<|sv W<|A1<|cc W h (fun c3 h=> ?_)<|fun c3 h=> ?_
 refine B0<|sv W<|sv W<|sv W<|A1<|B2 ?_
 cases h
 exact A6 (.inr W) (Yj (B3 W) (B3 W) (B3 W) C2 C2 C2) (.refl _)
 refine A8<|E3<|B0<|sv W<|sv W<|sv W<|A1<|B2 ?_
 cases h
 exact A6 (.inr W) (Yj (B3 W) (B3 W) (B3 W) C2 C2 C2) (.refl _)
def Bl (p1:(List Int))(p2:Int)(p3:Int)(x1:Int):Option (Stp Int (Sum Unit Bool)):=
  cond (decide (x1< (p1.length:Int))) ((C1 p1 x1).bind fun v1=>((cond (!(decide (v1<p2))) (C1 p1 x1) (some default))).bind fun v2=>((cond ((!((decide (v1<p2))||(decide (v2≥p3))))&& (decide (x1>0))) (C1 p1 x1) (some default))).bind fun v3=>((cond ((!((decide (v1<p2))||(decide (v2≥p3))))&& (decide (x1>0))) (C1 p1 (D3 (x1 - 1))) (some default))).bind fun v4=>cond (((decide (v1<p2))||(decide (v2≥p3)))||((decide (x1>0))&& (decide (v3≤v4)))) (some (.out (.inr false))) (some (.go (D3 (x1+1))))) (some (.out (.inl ())))
def Gk [Lp](p1:(List Int))(p2:Int)(p3:Int):Option Bool:=
  thenS (loop (Bl p1 p2 p3) 0) (fun _=>some true) (fun r=>some r)
theorem Pg(p1 p2 p3 r)(h:Gk p1 p2 p3=some r):PCall prog 217 [(.list (List.map A4 p1)),(i64 p2),(i64 p3)] (bo r):=by
 refine C4 (fk func217 ntmps217 m0 (by with_unfolding_all rfl)) (nl W) ?_
 unfold Gk at h
 refine B4 (s0:=⟨T [(0,(.d _)),(1,(.d _)),(2,(.d _))],G []⟩) (F2 W W) ?_
 refine B0<|sv W<|A1<|A5<|B0<|sv W<|A1<|js h fun z1 hz1 h=>D9 (fun s=> ∃(y1:Unit) (g1:Unit),z1= .inl y1∧Sb ⟨T [],G []⟩ s) ?_ ?_
 refine A7<|E4 (Bl p1 p2 p3) (fun (x1:Int) (g2:Unit)=>⟨T [(0,(dl A4 p1)),(1,(di p2)),(2,(di p3)),(7,(di x1))],G []⟩) 0 () _ hz1 (F2 W W) ?_
 intro x1 g2 z2 hz2 ez2
 unfold Bl at hz2
 refine A5<|B0<|sv W<|sv W<|sd W (D7 W)<|sv W<|A1<|cc W hz2 (fun c1 hz2=> ?_)<|fun c1 hz2=> ?_
 refine A8<|A5<|A7<|A5<|E7 W<|sv W<|sv W<|bs hz2 fun _ hv1 hz2=>sd W (C5 W W hv1 W)<|sd W (C9 W hv1 W)<|sv W<|sv W<|sv W<|gf W (fun _=>W)<|gf W (fun _=>W)<|bs hz2 fun _ hv2 hz2=>gf W (fun w3=>(C5 (A2 w3) (A2 w3) (B9 w3 hv2) W))<|gf W (fun w4=>(C9 (A2 w4) (B9 w4 hv2) W))<|gf W (fun _=>W)<|gf W (fun w6=>(M7 (A2 w6) (A2 w6) W))<|sd W (O2 W W<|fun hc=>A2<|J4 hc)<|sv W<|gf W (fun _=>W)<|gf W (vb W W W)<|gf W (fun w9=>(PQ<|A2 w9))<|gv W (V2 W) (fun _=>W) (gv W (V2 W) (fun _=>W) (bs hz2 fun _ hv3 hz2=>gv W (V2 W) (fun w12=>(C5 (A2 w12) (A2 w12) (B9 w12 hv3) W)) (gv W (V2 W) (fun w13=>(C9 (A2 w13) (B9 w13 hv3) W)) (gv W (V2 W) (fun _=>W) (gv W (V2 W) (fun _=>W) (gv W (V2 W) (vb W W W) (bs hz2 fun _ hv4 hz2=>gv W (V2 W) (fun w17=>(C5 (A2 w17) (A2 w17) (B9 w17 hv4) W)) (gv W (V2 W) (fun w18=>(C9 (A2 w18) (B9 w18 hv4) W)) (gv W (V2 W) (fun w19=>(M7 (A2 w19) (A2 w19) W)) (gf W (fun w20=>(HF (A2 w20) (fun hc=>A2<|DY w20 hc) W))<|sd W (O2 W W<|fun hc=>A2<|J4 hc)<|A1<|cc W hz2 (fun c2 hz2=> ?_)<|fun c2 hz2=> ?_))))))))))
 refine B0<|sv W<|A1<|B2 ?_
 cases hz2
 obtain rfl:=ez2 _ rfl
 refine ⟨nofun,F4 ?_⟩
 rw [wE]at h
 cases h
 exact A6 (.inr W) (B6 (B3 W) C2) (.refl _)
 refine A8<|E3<|B7<|sv W<|sv W<|sv W<|A1<|E2 ?_
 cases hz2
 exact ⟨W,(),(F2 W W)⟩
 refine C8 W ?_
 cases hz2
 obtain rfl:=ez2 _ rfl
 refine ⟨nofun,C6 W<|U4 ?_⟩
 exact ⟨_,(),W,(F2 W W)⟩
 rintro _ ⟨y1,g1,rfl,q1⟩
 rw [wD]at h
 refine B4 q1<|B0<|sv W<|A1<|B2 ?_
 cases h
 exact A6 (.inr W) (B6 (B3 W) C2) (.refl _)
def Jf [Lp](p1:Map)(p2:Int):Option Int:=
  (C1 p1.Lanes p2).bind fun v1=>cond ((decide (v1.Kind<1))||(decide (v1.Kind>3))) (some 4) ((Ng v1.Curve_).bind fun v2=>cond (v2 !=0) (some v2) ((Cc v1.Kind).bind fun v3=>(Dk v1.Half 200 4000).bind fun v4=>((cond (!(!v4)) (Dk v1.Limit 1 v3.1) (some default))).bind fun v5=>cond ((!v4)||(!v5)) (some 2) (cond (decide ((v1.Next.length:Int)>3)) (some 8) ((Gk v1.Next (D3 (p2+1)) (p1.Lanes.length:Int)).bind fun v6=>cond (!v6) (some 11) (some 0)))))
theorem CO(p1 p2 r)(h:Jf p1 p2=some r):PCall prog 163 [(.agg (P7 p1)),(i64 p2)] (i64 r):=by
 refine C4 (fk func163 ntmps163 m0 (by with_unfolding_all rfl)) (nl W) ?_
 unfold Jf at h
 refine B4 (s0:=⟨T [(0,(.d _)),(1,(.d _))],G []⟩) (F2 W W) ?_
 refine B0<|sm W<|sv W<|A1<|B0<|sq W<|sl W G_hit W<|sv W<|bs h fun v1 hv1 h=>sd W (C5 W W hv1 W)<|sd W (D4 W hv1 W W)<|sm W<|U0 W G_hit (EG v1) W (A1<|A5<|B0<|sq W<|sl W G_hit W<|sv W<|sv W<|gp W (K6 W) (fun _=>W) (gf W (vl W G_hit W)<|gf W (vb W W W)<|sd W (O2 W W<|fun hc=>A2<|J4 hc)<|A1<|cc W h (fun c1 h=> ?_)<|fun c1 h=> ?_))
 refine B0<|sv W<|A1<|B2 ?_
 cases h
 exact A6 (.inr W) (B6 (B3 W) C2) (.refl _)
 refine A8<|B0<|sq W<|sd W (B1 W G_hit W W)<|bs h fun _ hv2 h=>A9 W W A3 (Zc _ _ hv2) (.inl W) (sv W<|A1<|A5<|B0<|sv W<|sv W<|A1<|cc W h (fun c2 h=> ?_)<|fun c2 h=> ?_)
 refine B0<|sv W<|sv W<|A1<|B2 ?_
 cases h
 exact A6 (.inr W) (B6 (B3 W) C2) (.refl _)
 refine A8<|B0<|sq W<|sl W G_hit W<|bs h fun v3 hv3 h=>A9 W W A3 (Je _ _ hv3) (.inl W) (sv W<|sv W<|sv W<|sv W<|sv W<|sv W<|sv W<|A1<|A5<|B0<|sq W<|sl W G_hit W<|bs h fun v4 hv4 h=>A9 W W A3 (Ey _ _ _ _ hv4) (.inl W) (C0 (.d (bo (!v4))) W W (sv W<|gp W (K6 W) (fun _=>W) (gf W (vl W G_hit W)<|gf W (fun _=>W)<|bs h fun v5 hv5 h=> ?_))))
 refine N6 _ (bo v5) (K6 W) (fun w7=>⟨_,[(di v1.Limit),(di 1),(di v3.1)],_,_,(by simp only [A2 w7];rfl),W,A3,Ey _ _ _ _<|B9 w7 hv5,(.inl W)⟩) ?_
 refine M8 _ (.d (bo (!v5))) W (K6 W) (fun w8=>(by simp only [A2 w8];rfl)) ?_
 refine sd W (O2 W W<|fun hc=>A2<|J4 hc)<|A1<|cc W h (fun c3 h=> ?_)<|fun c3 h=> ?_
 refine B0<|sv W<|A1<|B2 ?_
 cases h
 exact A6 (.inr W) (B6 (B3 W) C2) (.refl _)
 refine A8<|A5<|B0<|sq W<|sl W G_hit W<|sd W (D7 W)<|sv W<|A1<|cc W h (fun c4 h=> ?_)<|fun c4 h=> ?_
 refine B0<|sv W<|A1<|B2 ?_
 cases h
 exact A6 (.inr W) (B6 (B3 W) C2) (.refl _)
 refine A8<|A5<|B0<|sq W<|sl W G_hit W<|sv W<|sv W<|sq W<|sl W (gq W) W (sd W (D7 W)<|bs h fun v6 hv6 h=>A9 W W A3 (Pg _ _ _ _ hv6) (.inl W) (C0 (.d (bo (!v6))) W W (A1<|cc W h (fun c5 h=> ?_)<|fun c5 h=> ?_)))
 refine B0<|sv W<|A1<|B2 ?_
 cases h
 exact A6 (.inr W) (B6 (B3 W) C2) (.refl _)
 refine A8<|B0<|sv W<|A1<|B2 ?_
 cases h
 exact A6 (.inr W) (B6 (B3 W) C2) (.refl _)
def Bm (p1:Map)(v1:Lane)(x2:Int):Option (Stp Int (Sum Unit Int)):=
  cond (decide (x2< (v1.Next.length:Int))) ((C1 v1.Next x2).bind fun v2=>(C1 p1.Lanes v2).bind fun v3=>cond (v3.Kind !=v1.Kind) (some (.out (.inr 4))) ((C1 v3.Curve_.Pts 0).bind fun v4=>(C1 v1.Curve_.Pts (D3 ((v1.Curve_.Pts.length:Int) - 1))).bind fun v5=>cond (!(v4.X==v5.X&& (v4.Y==v5.Y&&true))) (some (.out (.inr 3))) (some (.go (D3 (x2+1)))))) (some (.out (.inl ())))
def Bn [Lp](p1:Map)(x1:Int):Option (Stp Int (Sum Unit Int)):=
  cond (decide (x1< (p1.Lanes.length:Int))) ((C1 p1.Lanes x1).bind fun v1=>thenS (loop (Bm p1 v1) 0) (fun _=>some (.go (D3 (x1+1)))) (fun r=>some (.out (.inr r)))) (some (.out (.inl ())))
def Jg [Lp](p1:Map):Option Int:=
  thenS (loop (Bn p1) 0) (fun _=>some 0) (fun r=>some r)
theorem CP(p1 r)(h:Jg p1=some r):PCall prog 164 [(.agg (P7 p1))] (i64 r):=by
 refine C4 (fk func164 ntmps164 m0 (by with_unfolding_all rfl)) (nl W) ?_
 unfold Jg at h
 refine B4 (s0:=⟨T [(0,(.d _))],G []⟩) (F2 W W) ?_
 refine lr<|fun u1 _=>sm W<|sv W<|A1<|A5<|B0<|sv W<|A1<|js h fun z1 hz1 h=>D9 (fun s=> ∃(y1:Unit) (g1:Unit),z1= .inl y1∧Sb ⟨T [],G []⟩ s) ?_ ?_
 refine A7<|E4 (Bn p1) (fun (x1:Int) (g2:Unit)=>⟨T [(1,(.ptr (1,u1) 0)),(3,(di x1))],G [((1,u1),some<|.box 33 (L4 p1))]⟩) 0 () _ hz1 (F2 W W) ?_
 intro x1 g2 z2 hz2 ez2
 unfold Bn at hz2
 refine A5<|B0<|sv W<|sq W<|sl W G_hit W<|sd W (D7 W)<|sv W<|A1<|cc W hz2 (fun c1 hz2=> ?_)<|fun c1 hz2=> ?_
 refine A8<|A5<|A7<|lr<|fun u4 _=>sq W<|sl W G_hit W<|sv W<|bs hz2 fun v1 hv1 hz2=>sd W (C5 W W hv1 W)<|sd W (D4 W hv1 W W)<|sm W<|U0 W G_hit (EG v1) W (A1<|B0<|sv W<|A1<|js hz2 fun z3 hz3 hz2=>D9 (fun s=> ∃(y2:Unit) (g3:Unit),z3= .inl y2∧Sb ⟨T [(1,(.ptr (1,u1) 0)),(3,(di x1))],G [((1,u1),some<|.box 33 (L4 p1))]⟩ s) ?_ ?_)
 refine A7<|E4 (Bm p1 v1) (fun (x2:Int) (g4:Unit)=>⟨T [(1,(.ptr (1,u1) 0)),(3,(di x1)),(4,(.ptr (4,u4) 0)),(5,(di x2))],G [((1,u1),some<|.box 33 (L4 p1)),((4,u4),some<|.box 63 (EG v1))]⟩) 0 () _ hz3 (F2 W W) ?_
 intro x2 g4 z4 hz4 ez4
 unfold Bm at hz4
 refine A5<|B0<|sv W<|sq W<|sl W (gq W) W (sd W (D7 W)<|sv W<|A1<|cc W hz4 (fun c2 hz4=> ?_)<|fun c2 hz4=> ?_)
 refine A8<|A5<|A7<|A5<|E7 W<|sq W<|sl W G_hit W<|sq W<|sl W (gq W) W (sv W<|bs hz4 fun _ hv2 hz4=>sd W (C5 W W hv2 W)<|sd W (C9 W hv2 W)<|bs hz4 fun v3 hv3 hz4=>sd W (C5 W W hv3 W)<|sd W (D4 W hv3 W W)<|sm W<|U0 W G_hit (EG v3) W (A1<|A5<|B0<|sq W<|sl W G_hit W<|sq W<|sl W (gq W) W (sv W<|A1<|cc W hz4 (fun c3 hz4=> ?_)<|fun c3 hz4=> ?_)))
 refine B0<|sv W<|A1<|B2 ?_
 cases hz4
 obtain rfl:=ez4 _ rfl
 refine ⟨nofun,F4 ?_⟩
 rw [wE]at hz2
 cases hz2
 obtain rfl:=ez2 _ rfl
 refine ⟨nofun,F4 ?_⟩
 rw [wE]at h
 cases h
 exact A6 (.inr W) (B6 (B3 W) C2) (.refl _)
 refine A8<|A5<|E7 W<|sq W<|sq W<|sl W G_hit W<|bs hz4 fun v4 hv4 hz4=>sd W (C5 W W hv4 W)<|sd W (D4 W hv4 W W)<|sq W<|sp W W<|sl W (gq W) W (sq W<|sp W W<|sl W (gq W) W (sd W (D7 W)<|sv W<|bs hz4 fun v5 hv5 hz4=>sd W (C5 W W hv5 W)<|sd W (D4 W hv5 W W)<|C0 (.d (bo (!(v4.X==v5.X&& (v4.Y==v5.Y&&true))))) W W (A1<|cc W hz4 (fun c4 hz4=> ?_)<|fun c4 hz4=> ?_)))
 refine B0<|sv W<|A1<|B2 ?_
 cases hz4
 obtain rfl:=ez4 _ rfl
 refine ⟨nofun,F4 ?_⟩
 rw [wE]at hz2
 cases hz2
 obtain rfl:=ez2 _ rfl
 refine ⟨nofun,F4 ?_⟩
 rw [wE]at h
 cases h
 exact A6 (.inr W) (B6 (B3 W) C2) (.refl _)
 refine A8<|E3<|B7<|sv W<|sv W<|sv W<|A1<|E2 ?_
 cases hz4
 exact ⟨W,(),(F2 W W)⟩
 refine C8 W ?_
 cases hz4
 obtain rfl:=ez4 _ rfl
 refine ⟨nofun,C6 W<|U4 ?_⟩
 exact ⟨_,(),W,(F2 W W)⟩
 rintro _ ⟨y2,g3,rfl,q1⟩
 rw [wD]at hz2
 refine E3<|B4 q1<|B7<|sv W<|sv W<|sv W<|A1<|E2 ?_
 cases hz2
 exact ⟨W,(),(F2 W W)⟩
 refine C8 W ?_
 cases hz2
 obtain rfl:=ez2 _ rfl
 refine ⟨nofun,C6 W<|U4 ?_⟩
 exact ⟨_,(),W,(F2 W W)⟩
 rintro _ ⟨y1,g1,rfl,q2⟩
 rw [wD]at h
 refine B4 q2<|B0<|sv W<|A1<|B2 ?_
 cases h
 exact A6 (.inr W) (B6 (B3 W) C2) (.refl _)
def W6 [Lp](p1:Map)(p2:Signal)(x2:Int):Option (Stp Int (Sum Unit Int)):=
  cond (decide (x2< (p2.Phases.length:Int))) ((C1 p2.Phases x2).bind fun v4=>(Gk v4.Green 0 (p1.Lanes.length:Int)).bind fun v5=>cond (!v5) (some (.out (.inr 11))) (some (.go (D3 (x2+1))))) (some (.out (.inl ())))
def W7 (p2:Signal)(x1:(Bool×Int)):Option (Stp (Bool×Int) Bool):=
  cond (decide (x1.2< (p2.Phases.length:Int))) (((cond x1.1 (C1 p2.Phases x1.2) (some default))).bind fun v2=>((cond x1.1 (Dk v2.Ticks 1 10000) (some default))).bind fun v3=>some (.go ((x1.1&&v3),(D3 (x1.2+1))))) (some (.out x1.1))
def Fo [Lp](p1:Map)(p2:Signal):Option Int:=
  cond ((p2.Phases.length:Int)==0) (some 6) (cond (decide ((p2.Phases.length:Int)>6)) (some 8) ((Dk p2.Offset 0 1099511627776).bind fun v1=>(loop (W7 p2) (v1,0)).bind fun y1=>cond (!y1) (some 2) (thenS (loop (W6 p1 p2) 0) (fun _=>some 0) (fun r=>some r))))
theorem Zd(p1 p2 r)(h:Fo p1 p2=some r):PCall prog 165 [(.agg (P7 p1)),(.agg [(i64 p2.Offset),(.list (List.map Bb p2.Phases))])] (i64 r):=by
 refine C4 (fk func165 ntmps165 m0 (by with_unfolding_all rfl)) (nl W) ?_
 unfold Fo at h
 refine B4 (s0:=⟨T [(0,(.d _)),(1,(.d _))],G []⟩) (F2 W W) ?_
 refine lr<|fun u1 _=>sm W<|sm W<|sv W<|A1<|A5<|B0<|sq W<|sl W G_hit W<|sd W (D7 W)<|sv W<|A1<|cc W h (fun c1 h=> ?_)<|fun c1 h=> ?_
 refine B0<|sv W<|A1<|B2 ?_
 cases h
 exact A6 (.inr W) (B6 (B3 W) C2) (.refl _)
 refine A8<|A5<|B0<|sq W<|sl W G_hit W<|sd W (D7 W)<|sv W<|A1<|cc W h (fun c2 h=> ?_)<|fun c2 h=> ?_
 refine B0<|sv W<|A1<|B2 ?_
 cases h
 exact A6 (.inr W) (B6 (B3 W) C2) (.refl _)
 refine A8<|B0<|sq W<|sl W G_hit W<|bs h fun v1 hv1 h=>A9 W W A3 (Ey _ _ _ _ hv1) (.inl W) (sv W<|A1<|A5<|B0<|sv W<|A1<|bs h fun y1 hy1 h=>D9 (fun s=> ∃g1:Unit,Sb ⟨T [(2,(.ptr (2,u1) 0)),(3,(.ptr (3,u1) 0)),(5,(.d (bo y1)))],G [((2,u1),some<|.box 33 (L4 p1)),((3,u1),some<|.box 120 [(di p2.Offset),(dl Bb p2.Phases)])]⟩ s) ?_ ?_)
 refine A7<|E4 (W7 p2) (fun (x1:(Bool×Int)) (g2:Unit)=>⟨T [(2,(.ptr (2,u1) 0)),(3,(.ptr (3,u1) 0)),(5,(.d (bo x1.1))),(6,(di x1.2))],G [((2,u1),some<|.box 33 (L4 p1)),((3,u1),some<|.box 120 [(di p2.Offset),(dl Bb p2.Phases)])]⟩) (v1,0) () _ hy1 (F2 W W) ?_
 intro x1 g2 z1 hz1 ez1
 unfold W7 at hz1
 refine A5<|B0<|sv W<|sq W<|sl W (gq W) W (sd W (D7 W)<|sv W<|A1<|cc W hz1 (fun c3 hz1=> ?_)<|fun c3 hz1=> ?_)
 refine A8<|A5<|A7<|B7<|sv W<|sv W<|gp W (M3 W) (fun _=>W) (gt W (vl W (gq W) W)<|gt W (fun _=>W)<|bs hz1 fun v2 hv2 hz1=>gt W (fun w4=>(C5 (A2 w4) (A2 w4) (B9 w4 hv2) W)) ?_)
 refine gt W (fun w5=>(by simp only [A2 w5];rfl)) ?_
 refine gt W (fun w6=>(C9 (A2 w6) (B9 w6 hv2) W))<|bs hz1 fun v3 hv3 hz1=> ?_
 refine N6 x1.1 (bo v3) (M3 W) (fun w7=>⟨_,[(di v2.Ticks),(di 1),(di 10000)],_,_,(by simp only [A2 w7];rfl),W,A3,Ey _ _ _ _<|B9 w7 hv3,(.inl W)⟩) ?_
 refine sa W W W<|sv W<|A1<|E3<|B7<|sv W<|sv W<|sv W<|A1<|E2 ?_
 cases hz1
 exact ⟨W,(),(F2 W W)⟩
 refine C8 W ?_
 cases hz1
 obtain rfl:=ez1 _ rfl
 refine ⟨nofun,C6 W<|U4 ?_⟩
 exact ⟨(),(F2 W W)⟩
 rintro _ ⟨g1,q1⟩
 refine B4 q1<|A5<|B0<|sv W<|C0 (.d (bo (!y1))) W W (A1<|cc W h (fun c4 h=> ?_)<|fun c4 h=> ?_)
 refine B0<|sv W<|A1<|B2 ?_
 cases h
 exact A6 (.inr W) (B6 (B3 W) C2) (.refl _)
 refine A8<|A5<|B0<|sv W<|A1<|js h fun z2 hz2 h=>D9 (fun s=> ∃(y2:Unit) (g3:Unit),z2= .inl y2∧Sb ⟨T [],G []⟩ s) ?_ ?_
 refine A7<|E4 (W6 p1 p2) (fun (x2:Int) (g4:Unit)=>⟨T [(2,(.ptr (2,u1) 0)),(3,(.ptr (3,u1) 0)),(7,(di x2))],G [((2,u1),some<|.box 33 (L4 p1)),((3,u1),some<|.box 120 [(di p2.Offset),(dl Bb p2.Phases)])]⟩) 0 () _ hz2 (F2 W W) ?_
 intro x2 g4 z3 hz3 ez3
 unfold W6 at hz3
 refine A5<|B0<|sv W<|sq W<|sl W (gq W) W (sd W (D7 W)<|sv W<|A1<|cc W hz3 (fun c5 hz3=> ?_)<|fun c5 hz3=> ?_)
 refine A8<|A5<|A7<|A5<|E7 W<|sq W<|sl W (gq W) W (sv W<|bs hz3 fun _ hv4 hz3=>sd W (C5 W W hv4 W)<|sv W<|sd W (C9 W hv4 W)<|sq W<|sl W G_hit W<|sd W (D7 W)<|bs hz3 fun v5 hv5 hz3=>A9 W W A3 (Pg _ _ _ _ hv5) (.inl W) (C0 (.d (bo (!v5))) W W (A1<|cc W hz3 (fun c6 hz3=> ?_)<|fun c6 hz3=> ?_)))
 refine B0<|sv W<|A1<|B2 ?_
 cases hz3
 obtain rfl:=ez3 _ rfl
 refine ⟨nofun,F4 ?_⟩
 rw [wE]at h
 cases h
 exact A6 (.inr W) (B6 (B3 W) C2) (.refl _)
 refine A8<|E3<|B7<|sv W<|sv W<|sv W<|A1<|E2 ?_
 cases hz3
 exact ⟨W,(),(F2 W W)⟩
 refine C8 W ?_
 cases hz3
 obtain rfl:=ez3 _ rfl
 refine ⟨nofun,C6 W<|U4 ?_⟩
 exact ⟨_,(),W,(F2 W W)⟩
 rintro _ ⟨y2,g3,rfl,q2⟩
 rw [wD]at h
 refine B4 q2<|B0<|sv W<|A1<|B2 ?_
 cases h
 exact A6 (.inr W) (B6 (B3 W) C2) (.refl _)
def Cy [Lp](p1:Curve)(x1:((List Int)×Int)):Option (Stp ((List Int)×Int) (List Int)):=
  cond (decide ((D3 (x1.2+1))< (p1.Pts.length:Int))) ((C1 p1.Pts (D3 (x1.2+1))).bind fun v2=>(C1 p1.Pts x1.2).bind fun v3=>(Ko v2 v3).bind fun v4=>(Nf v4 v4).bind fun v5=>(Kp v5).bind fun v6=>(X6 x1.1 [v6]).bind fun v7=>some (.go (v7,(D3 (x1.2+1))))) (some (.out x1.1))
def Oe [Lp](p1:Curve):Option (List Int):=
  (Ng p1).bind fun v1=>cond (v1 !=0) (some []) ((loop (Cy p1) ([],0)).bind fun y1=>some y1)
theorem IC(p1 r)(h:Oe p1=some r):PCall prog 134 [(.agg [(.list (List.map Cp p1.Pts))])] (.list (List.map A4 r)):=by
 refine C4 (fk func134 ntmps134 (fun r=>if r==8 then [1005]else []) (by with_unfolding_all rfl)) (nl W) ?_
 unfold Oe at h
 refine B4 (s0:=⟨T [(0,(.d _))],G []⟩) (F2 W W) ?_
 refine lr<|fun u1 _=>sm W<|sv W<|A1<|A5<|B0<|sd W (B1 W G_hit W W)<|bs h fun _ hv1 h=>A9 W W A3 (Zc _ _ hv1) (.inl W) (sv W<|A1<|cc W h (fun c1 h=> ?_)<|fun c1 h=> ?_)
 refine B0<|sv W<|A1<|B2 ?_
 cases h
 exact A6 (.inr W) (B6 (B3 W) C2) DLe.nil
 refine A8<|B0<|sv W<|A1<|A5<|B0<|sv W<|A1<|bs h fun y1 hy1 h=>D9 (fun s=> ∃g1:Nat,Sb ⟨T [(3,(oS y1 (35,g1)))],G [((35,g1),oB 2 1 A4 y1)]⟩ s) ?_ ?_
 refine A7<|E4 (Cy p1) (fun (x1:((List Int)×Int)) (g2:Nat)=>⟨T [(1,(.ptr (1,u1) 0)),(3,(oS x1.1 (35,g2))),(4,(di x1.2))],G [((1,u1),some<|.box 61 [(dl Cp p1.Pts)]),((35,g2),oB 2 1 A4 x1.1)]⟩) ([],0) 0 _ hy1 (E0 (Z7 W)<|B5 G_hit (.of W)<|S5 trivial) ?_
 intro x1 g2 z1 hz1 ez1
 unfold Cy at hz1
 refine A5<|B0<|sv W<|sv W<|sq W<|sl W G_hit W<|sd W (D7 W)<|sv W<|A1<|cc W hz1 (fun c2 hz1=> ?_)<|fun c2 hz1=> ?_
 refine A8<|A5<|A7<|A5<|E7 W<|sq W<|sl W G_hit W<|sv W<|sv W<|bs hz1 fun _ hv2 hz1=>sd W (C5 W W hv2 W)<|sd W (D4 W hv2 W W)<|sq W<|sl W G_hit W<|sv W<|bs hz1 fun _ hv3 hz1=>sd W (C5 W W hv3 W)<|sd W (D4 W hv3 W W)<|bs hz1 fun v4 hv4 hz1=>A9 W W A3 (Sp _ _ _ hv4) (.inl W) (sm W<|U0 W G_hit [(di v4.X),(di v4.Y)] W (A1<|Br fun u8 _=>C0 (oS x1.1 (35,g2)) W W (sd W (B1 W G_hit W W)<|sd W (B1 W G_hit W W)<|bs hz1 fun _ hv5 hz1=>A9 W W A3 (Rn _ _ _ hv5) (.inl W) (bs hz1 fun v6 hv6 hz1=>A9 W W A3 (BG _ _ hv6) (.inl W) (C0 (dl A4 [v6]) W W (bs hz1 fun _ hv7 hz1=>Q3 A4 (35,g2) x1.1 v6 [] _ (K7<|fun _=>W) W (gq W) hv7 (ss W<|A1<|E3<|B7<|sv W<|sv W<|sv W<|A1<|E2 ?_)))))))
 cases hz1
 exact ⟨W,u8,(E0 ⟨.of W,(.of (V1<|V4 hv7).symm), .of W,trivial⟩<|sg W<|N8 G_hit trivial)⟩
 refine C8 W ?_
 cases hz1
 obtain rfl:=ez1 _ rfl
 refine ⟨nofun,C6 W<|U4 ?_⟩
 exact ⟨g2,(E0 ⟨.of W,trivial⟩<|B8 (gq W) trivial)⟩
 rintro _ ⟨g1,q1⟩
 refine B4 q1<|B0<|C0 (oS y1 (35,g1)) W W (C0 (oS y1 (35,g1)) W W (A1<|B2 ?_))
 cases h
 exact A6 (.inr W) (B6 (B3 W)<|T9 G_hit) T8
def Ax (v1:(List Int))(x1:(Int×Int)):Option (Stp (Int×Int) Int):=
  cond (decide (x1.2< (v1.length:Int))) ((C1 v1 x1.2).bind fun v2=>some (.go ((D3 (x1.1+v2)),(D3 (x1.2+1))))) (some (.out x1.1))
def Fp [Lp](p1:Curve):Option Int:=
  (Oe p1).bind fun v1=>(loop (Ax v1) (0,0)).bind fun y1=>some y1
theorem Qy(p1 r)(h:Fp p1=some r):PCall prog 204 [(.agg [(.list (List.map Cp p1.Pts))])] (i64 r):=by
 refine C4 (fk func204 ntmps204 m0 (by with_unfolding_all rfl)) (nl W) ?_
 unfold Fp at h
 refine B4 (s0:=⟨T [(0,(.d _))],G []⟩) (F2 W W) ?_
 refine B0<|sm W<|sv W<|A1<|B0<|sv W<|A1<|B0<|sd W (B1 W G_hit W W)<|bs h fun v1 hv1 h=>A9 W W A3 (IC _ _ hv1) (.inl W) (sv W<|A1<|A5<|B0<|sv W<|A1<|bs h fun y1 hy1 h=>D9 (fun s=> ∃g1:Unit,Sb ⟨T [(3,(di y1))],G []⟩ s) ?_ ?_)
 refine A7<|E4 (Ax v1) (fun (x1:(Int×Int)) (g2:Unit)=>⟨T [(3,(di x1.1)),(4,(dl A4 v1)),(5,(di x1.2))],G []⟩) (0,0) () _ hy1 (F2 W W) ?_
 intro x1 g2 z1 hz1 ez1
 unfold Ax at hz1
 refine A5<|B0<|sv W<|sv W<|sd W (D7 W)<|sv W<|A1<|cc W hz1 (fun c1 hz1=> ?_)<|fun c1 hz1=> ?_
 refine A8<|A5<|A7<|B7<|sv W<|sv W<|sv W<|bs hz1 fun _ hv2 hz1=>sd W (C5 W W hv2 W)<|sd W (C9 W hv2 W)<|sv W<|sv W<|A1<|E3<|B7<|sv W<|sv W<|sv W<|A1<|E2 ?_
 cases hz1
 exact ⟨W,(),(F2 W W)⟩
 refine C8 W ?_
 cases hz1
 obtain rfl:=ez1 _ rfl
 refine ⟨nofun,C6 W<|U4 ?_⟩
 exact ⟨(),(F2 W W)⟩
 rintro _ ⟨g1,q1⟩
 refine B4 q1<|B0<|sv W<|sv W<|A1<|B2 ?_
 cases h
 exact A6 (.inr W) (B6 (B3 W) C2) (.refl _)
def Bo [Lp](p1:Map)(p2:Zone)(x2:Int):Option (Stp Int (Sum Unit Int)):=
  cond (decide (x2< (p2.Parts.length:Int))) ((C1 p2.Parts x2).bind fun v4=>((cond (!((decide (v4.From<0))||(decide (v4.From≥v4.To)))) (C1 p1.Lanes v4.Lane_) (some default))).bind fun v5=>((cond (!((decide (v4.From<0))||(decide (v4.From≥v4.To)))) (Fp v5.Curve_) (some default))).bind fun v6=>cond (((((decide (v4.From<0))||(decide (v4.From≥v4.To)))||(decide (v4.To>v6)))||(decide (v4.Rank<0)))||(decide (v4.Rank>100))) (some (.out (.inr 2))) (some (.go (D3 (x2+1))))) (some (.out (.inl ())))
def Is (p2:Zone)(x1:((List Int)×Int)):Option (Stp ((List Int)×Int) (List Int)):=
  cond (decide (x1.2< (p2.Parts.length:Int))) ((C1 p2.Parts x1.2).bind fun v1=>(X6 x1.1 [v1.Lane_]).bind fun v2=>some (.go (v2,(D3 (x1.2+1))))) (some (.out x1.1))
def Jh [Lp](p1:Map)(p2:Zone):Option Int:=
  cond (decide ((p2.Parts.length:Int)<2)) (some 6) (cond (decide ((p2.Parts.length:Int)>6)) (some 8) (cond ((decide (p2.Signal_<0))||(decide (p2.Signal_>(p1.Signals.length:Int)))) (some 2) ((loop (Is p2) ([],0)).bind fun y1=>(Gk y1 0 (p1.Lanes.length:Int)).bind fun v3=>cond (!v3) (some 11) (thenS (loop (Bo p1 p2) 0) (fun _=>some 0) (fun r=>some r)))))
theorem CQ(p1 p2 r)(h:Jh p1 p2=some r):PCall prog 166 [(.agg (P7 p1)),(.agg [(.list (List.map Bf p2.Parts)),(i64 p2.Signal_)])] (i64 r):=by
 refine C4 (fk func166 ntmps166 (fun r=>if r==11 then [1007]else []) (by with_unfolding_all rfl)) (nl W) ?_
 unfold Jh at h
 refine B4 (s0:=⟨T [(0,(.d _)),(1,(.d _))],G []⟩) (F2 W W) ?_
 refine lr<|fun u1 _=>sm W<|sm W<|sv W<|A1<|A5<|B0<|sq W<|sl W G_hit W<|sd W (D7 W)<|sv W<|A1<|cc W h (fun c1 h=> ?_)<|fun c1 h=> ?_
 refine B0<|sv W<|A1<|B2 ?_
 cases h
 exact A6 (.inr W) (B6 (B3 W) C2) (.refl _)
 refine A8<|A5<|B0<|sq W<|sl W G_hit W<|sd W (D7 W)<|sv W<|A1<|cc W h (fun c2 h=> ?_)<|fun c2 h=> ?_
 refine B0<|sv W<|A1<|B2 ?_
 cases h
 exact A6 (.inr W) (B6 (B3 W) C2) (.refl _)
 refine A8<|A5<|B0<|sq W<|sl W G_hit W<|sv W<|sv W<|gp W (K6 W) (fun _=>W) (gf W (vl W G_hit W)<|gp W (K6 W) (fun _=>W) (gf W (vl W (gq W) W)<|gf W (fun w5=>(D7<|A2 w5))<|gf W (fun w6=>(M7 (A2 w6) (A2 w6) W))<|sd W (O2 W W<|fun hc=>A2<|J4 hc)<|A1<|cc W h (fun c3 h=> ?_)<|fun c3 h=> ?_))
 refine B0<|sv W<|A1<|B2 ?_
 cases h
 exact A6 (.inr W) (B6 (B3 W) C2) (.refl _)
 refine A8<|B0<|sv W<|A1<|A5<|B0<|sv W<|A1<|bs h fun y1 hy1 h=>D9 (fun s=> ∃g1:Nat,Sb ⟨T [(2,(.ptr (2,u1) 0)),(3,(.ptr (3,u1) 0)),(5,(oS y1 (43,g1)))],G [((2,u1),some<|.box 33 (L4 p1)),((3,u1),some<|.box 117 [(dl Bf p2.Parts),(di p2.Signal_)]),((43,g1),oB 3 1 A4 y1)]⟩ s) ?_ ?_
 refine A7<|E4 (Is p2) (fun (x1:((List Int)×Int)) (g2:Nat)=>⟨T [(2,(.ptr (2,u1) 0)),(3,(.ptr (3,u1) 0)),(5,(oS x1.1 (43,g2))),(6,(di x1.2))],G [((2,u1),some<|.box 33 (L4 p1)),((3,u1),some<|.box 117 [(dl Bf p2.Parts),(di p2.Signal_)]),((43,g2),oB 3 1 A4 x1.1)]⟩) ([],0) 0 _ hy1 (E0 (Z7 W)<|sg W<|B5 G_hit (.of W)<|S5 trivial) ?_
 intro x1 g2 z1 hz1 ez1
 unfold Is at hz1
 refine A5<|B0<|sv W<|sq W<|sl W (gq W) W (sd W (D7 W)<|sv W<|A1<|cc W hz1 (fun c4 hz1=> ?_)<|fun c4 hz1=> ?_)
 refine A8<|A5<|A7<|Br fun u11 _=>C0 (oS x1.1 (43,g2)) W W (sq W<|sl W (gq W) W (sv W<|bs hz1 fun v1 hv1 hz1=>sd W (C5 W W hv1 W)<|sv W<|sd W (C9 W hv1 W)<|C0 (dl A4 [v1.Lane_]) W W (bs hz1 fun _ hv2 hz1=>Q3 A4 (43,g2) x1.1 v1.Lane_ [] _ (K7<|fun _=>W) W (gq W) hv2 (ss W<|A1<|E3<|B7<|sv W<|sv W<|sv W<|A1<|E2 ?_))))
 cases hz1
 exact ⟨W,u11,(E0 ⟨.of W, .of W,(.of (V1<|V4 hv2).symm), .of W,trivial⟩<|sg W<|sg W<|N8 G_hit trivial)⟩
 refine C8 W ?_
 cases hz1
 obtain rfl:=ez1 _ rfl
 refine ⟨nofun,C6 W<|U4 ?_⟩
 exact ⟨g2,(E0 (Z7 W)<|B5 G_hit (.of W)<|sg W<|B8 (gq W) trivial)⟩
 rintro _ ⟨g1,q1⟩
 refine B4 q1<|A5<|B0<|C0 (oS y1 (43,g1)) W W (sq W<|sl W G_hit W<|sd W (D7 W)<|bs h fun v3 hv3 h=>A9 W (E6 (T9<|gq W)<|rD<|rD G1) (.cons T8 (.cons (.refl _) A3)) (Pg _ _ _ _ hv3) (.inr W) (C0 (.d (bo (!v3))) W W (A1<|cc W h (fun c5 h=> ?_)<|fun c5 h=> ?_)))
 refine B0<|sv W<|A1<|B2 ?_
 cases h
 exact A6 (.inr W) (B6 (B3 W) C2) (.refl _)
 refine A8<|A5<|B0<|sv W<|A1<|js h fun z2 hz2 h=>D9 (fun s=> ∃(y2:Unit) (g3:Unit),z2= .inl y2∧Sb ⟨T [],G []⟩ s) ?_ ?_
 refine A7<|E4 (Bo p1 p2) (fun (x2:Int) (g4:Unit)=>⟨T [(2,(.ptr (2,u1) 0)),(3,(.ptr (3,u1) 0)),(7,(di x2))],G [((2,u1),some<|.box 33 (L4 p1)),((3,u1),some<|.box 117 [(dl Bf p2.Parts),(di p2.Signal_)])]⟩) 0 () _ hz2 (F2 W W) ?_
 intro x2 g4 z3 hz3 ez3
 unfold Bo at hz3
 refine A5<|B0<|sv W<|sq W<|sl W (gq W) W (sd W (D7 W)<|sv W<|A1<|cc W hz3 (fun c6 hz3=> ?_)<|fun c6 hz3=> ?_)
 refine A8<|A5<|A7<|B0<|sq W<|sl W (gq W) W (sv W<|bs hz3 fun v4 hv4 hz3=>sd W (C5 W W hv4 W)<|sd W (D4 W hv4 W W)<|sm W<|U0 W G_hit (Tn v4) W (A1<|A5<|E7 W<|sq W<|sl W G_hit W<|sv W<|sv W<|gp W (K6 W) (fun _=>W) (gf W (vl W G_hit W)<|gp W (K6 W) (fun _=>W) (gf W (vl W G_hit W)<|gf W (fun w11=>(M7 (A2 w11) (A2 w11) W))<|sd W (O2 W W<|fun hc=>A2<|J4 hc)<|sv W<|gp W (K6 W) (fun _=>W) (gf W (vl W G_hit W)<|gp W (K6 W) (fun _=>W) (gf W (vl W (gq W) W)<|gp W (K6 W) (fun _=>W) (gf W (vl W G_hit W)<|bs hz3 fun v5 hv5 hz3=>gf W (fun w18=>(C5 (A2 w18) (A2 w18) (B9 w18 hv5) W)) ?_)))))))
 refine gf W (fun w19=>(by simp only [A2 w19];rfl)) ?_
 refine gf W (fun w20=>(D4 (A2 w20) (B9 w20 hv5) W W))<|bs hz3 fun v6 hv6 hz3=> ?_
 refine N6 _ (i64 v6) (K6 W) (fun w21=>⟨_,[(.d (.agg [(.list (List.map Cp v5.Curve_.Pts))]))],_,_,(by simp only [A2 w21];rfl),W,A3,Qy _ _<|B9 w21 hv6,(.inl W)⟩) ?_
 refine gf W (fun w22=>(M7 (A2 w22) (A2 w22) W))<|sd W (O2 W W<|fun hc=>A2<|J4 hc)<|sv W<|gp W (K6 W) (fun _=>W) (gf W (vl W G_hit W)<|gf W (vb W W W)<|sd W (O2 W W<|fun hc=>A2<|J4 hc)<|sv W<|gp W (K6 W) (fun _=>W) (gf W (vl W G_hit W)<|gf W (vb W W W)<|sd W (O2 W W<|fun hc=>A2<|J4 hc)<|A1<|cc W hz3 (fun c7 hz3=> ?_)<|fun c7 hz3=> ?_))
 refine B0<|sv W<|A1<|B2 ?_
 cases hz3
 obtain rfl:=ez3 _ rfl
 refine ⟨nofun,F4 ?_⟩
 rw [wE]at h
 cases h
 exact A6 (.inr W) (B6 (B3 W) C2) (.refl _)
 refine A8<|E3<|B7<|sv W<|sv W<|sv W<|A1<|E2 ?_
 cases hz3
 exact ⟨W,(),(F2 W W)⟩
 refine C8 W ?_
 cases hz3
 obtain rfl:=ez3 _ rfl
 refine ⟨nofun,C6 W<|U4 ?_⟩
 exact ⟨_,(),W,(F2 W W)⟩
 rintro _ ⟨y2,g3,rfl,q2⟩
 rw [wD]at h
 refine B4 q2<|B0<|sv W<|A1<|B2 ?_
 cases h
 exact A6 (.inr W) (B6 (B3 W) C2) (.refl _)
def Ji [Lp](p1:Map)(p2:Work):Option Int:=
  cond ((decide (p2.Lane_<0))||(decide (p2.Lane_≥(p1.Lanes.length:Int)))) (some 7) ((C1 p1.Lanes p2.Lane_).bind fun v1=>(Cc v1.Kind).bind fun v2=>((cond (!((decide (p2.From<0))||(decide (p2.From>p2.To)))) (Fp v1.Curve_) (some default))).bind fun v3=>((cond (!((((((decide (p2.From<0))||(decide (p2.From>p2.To)))||(decide (p2.To>v3)))||(decide (p2.Begin<0)))||(decide (p2.Begin≥p2.End)))||(decide (p2.End>1099511627776)))) (Dk p2.Limit 0 v2.1) (some default))).bind fun v4=>cond (((((((decide (p2.From<0))||(decide (p2.From>p2.To)))||(decide (p2.To>v3)))||(decide (p2.Begin<0)))||(decide (p2.Begin≥p2.End)))||(decide (p2.End>1099511627776)))||(!v4)) (some 2) (some 0))
theorem CR(p1 p2 r)(h:Ji p1 p2=some r):PCall prog 167 [(.agg (P7 p1)),(.agg (Ut p2))] (i64 r):=by
 refine C4 (fk func167 ntmps167 m0 (by with_unfolding_all rfl)) (nl W) ?_
 unfold Ji at h
 refine B4 (s0:=⟨T [(0,(.d _)),(1,(.d _))],G []⟩) (F2 W W) ?_
 refine B0<|sm W<|sn W W<|sv W<|A1<|A5<|B0<|sq W<|sl W G_hit W<|sv W<|sv W<|gp W (K6 W) (fun _=>W) (gf W (vl W G_hit W)<|gp W (K6 W) (fun _=>W) (gf W (vl W (gq W) W)<|gf W (fun w5=>(D7<|A2 w5))<|gf W (fun w6=>(M7 (A2 w6) (A2 w6) W))<|sd W (O2 W W<|fun hc=>A2<|J4 hc)<|A1<|cc W h (fun c1 h=> ?_)<|fun c1 h=> ?_))
 refine B0<|sv W<|A1<|B2 ?_
 cases h
 exact A6 (.inr W) (B6 (B3 W) C2) (.refl _)
 refine A8<|B0<|sq W<|sl W (gq W) W (sq W<|sl W G_hit W<|bs h fun v1 hv1 h=>sd W (C5 W W hv1 W)<|sd W (D4 W hv1 W W)<|sm W<|U0 W G_hit (EG v1) W (A1<|B0<|sq W<|sl W G_hit W<|bs h fun v2 hv2 h=>A9 W W A3 (Je _ _ hv2) (.inl W) (sv W<|sv W<|sv W<|sv W<|sv W<|sv W<|sv W<|A1<|A5<|A5<|E7 W<|sq W<|sl W (gq W) W (sv W<|sv W<|gp W (K6 W) (fun _=>W) (gf W (vl W (gq W) W)<|gp W (K6 W) (fun _=>W) (gf W (vl W (gq W) W)<|gf W (fun w11=>(M7 (A2 w11) (A2 w11) W))<|sd W (O2 W W<|fun hc=>A2<|J4 hc)<|sv W<|gp W (K6 W) (fun _=>W) (gf W (vl W (gq W) W)<|gp W (K6 W) (fun _=>W) (gf W (fun w15=>(B1 (A2 w15) G_hit W W))<|bs h fun v3 hv3 h=> ?_))))))))
 refine N6 _ (i64 v3) (K6 W) (fun w16=>⟨_,[(.d (.agg [(.list (List.map Cp v1.Curve_.Pts))]))],_,_,(by simp only [A2 w16];rfl),W,A3,Qy _ _<|B9 w16 hv3,(.inl W)⟩) ?_
 refine gf W (fun w17=>(M7 (A2 w17) (A2 w17) W))<|sd W (O2 W W<|fun hc=>A2<|J4 hc)<|sv W<|gp W (K6 W) (fun _=>W) (gf W (vl W (gq W) W)<|gf W (vb W W W)<|sd W (O2 W W<|fun hc=>A2<|J4 hc)<|sv W<|gp W (K6 W) (fun _=>W) (gf W (vl W (gq W) W)<|gp W (K6 W) (fun _=>W) (gf W (vl W (gq W) W)<|gf W (fun w25=>(M7 (A2 w25) (A2 w25) W))<|sd W (O2 W W<|fun hc=>A2<|J4 hc)<|sv W<|gp W (K6 W) (fun _=>W) (gf W (vl W (gq W) W)<|gf W (vb W W W)<|sd W (O2 W W<|fun hc=>A2<|J4 hc)<|sv W<|gp W (K6 W) (fun _=>W) (gf W (vl W (gq W) W)<|gf W (fun _=>W)<|bs h fun v4 hv4 h=> ?_)))))
 refine N6 _ (bo v4) (K6 W) (fun w32=>⟨_,[(di p2.Limit),(di 0),(di v2.1)],_,_,(by simp only [A2 w32];rfl),W,A3,Ey _ _ _ _<|B9 w32 hv4,(.inl W)⟩) ?_
 refine M8 _ (.d (bo (!v4))) W (K6 W) (fun w33=>(by simp only [A2 w33];rfl)) ?_
 refine sd W (O2 W W<|fun hc=>A2<|J4 hc)<|A1<|cc W h (fun c2 h=> ?_)<|fun c2 h=> ?_
 refine B0<|sv W<|A1<|B2 ?_
 cases h
 exact A6 (.inr W) (B6 (B3 W) C2) (.refl _)
 refine A8<|B0<|sv W<|A1<|B2 ?_
 cases h
 exact A6 (.inr W) (B6 (B3 W) C2) (.refl _)
def Hf [Lp](p1:Map)(x4:(Int×Int)):Option (Stp (Int×Int) Int):=
  cond ((decide (x4.2< (p1.Works.length:Int)))&& (x4.1==0)) ((C1 p1.Works x4.2).bind fun v8=>(Ji p1 v8).bind fun v9=>some (.go (v9,(D3 (x4.2+1))))) (some (.out x4.1))
def Hg [Lp](p1:Map)(x3:(Int×Int)):Option (Stp (Int×Int) Int):=
  cond ((decide (x3.2< (p1.Zones.length:Int)))&& (x3.1==0)) ((C1 p1.Zones x3.2).bind fun v6=>(Jh p1 v6).bind fun v7=>some (.go (v7,(D3 (x3.2+1))))) (some (.out x3.1))
def Hh [Lp](p1:Map)(x2:(Int×Int)):Option (Stp (Int×Int) Int):=
  cond ((decide (x2.2< (p1.Signals.length:Int)))&& (x2.1==0)) ((C1 p1.Signals x2.2).bind fun v4=>(Fo p1 v4).bind fun v5=>some (.go (v5,(D3 (x2.2+1))))) (some (.out x2.1))
def Eh [Lp](p1:Map)(x1:Int):Option (Stp Int (Sum Unit Int)):=
  cond (decide (x1< (p1.Lanes.length:Int))) ((Jf p1 x1).bind fun v2=>cond (v2 !=0) (some (.out (.inr v2))) (some (.go (D3 (x1+1))))) (some (.out (.inl ())))
def Kq [Lp](p1:Map):Option Int:=
  (Dk p1.Version 0 1099511627776).bind fun v1=>cond (!v1) (some 2) (cond ((p1.Lanes.length:Int)==0) (some 6) (cond ((((decide ((p1.Lanes.length:Int)>12))||(decide ((p1.Zones.length:Int)>12)))||(decide ((p1.Signals.length:Int)>4)))||(decide ((p1.Works.length:Int)>8))) (some 8) (thenS (loop (Eh p1) 0) (fun _=>(Jg p1).bind fun v3=>(loop (Hh p1) (v3,0)).bind fun y2=>(loop (Hg p1) (y2,0)).bind fun y3=>(loop (Hf p1) (y3,0)).bind fun y4=>some y4) (fun r=>some r))))
theorem Sq(p1 r)(h:Kq p1=some r):PCall prog 76 [(.agg (P7 p1))] (i64 r):=by
 refine C4 (fk func76 ntmps76 m0 (by with_unfolding_all rfl)) (nl W) ?_
 unfold Kq at h
 refine B4 (s0:=⟨T [(0,(.d _))],G []⟩) (F2 W W) ?_
 refine lr<|fun u1 _=>sm W<|sv W<|A1<|A5<|B0<|sq W<|sl W G_hit W<|bs h fun v1 hv1 h=>A9 W W A3 (Ey _ _ _ _ hv1) (.inl W) (C0 (.d (bo (!v1))) W W (A1<|cc W h (fun c1 h=> ?_)<|fun c1 h=> ?_))
 refine B0<|sv W<|A1<|B2 ?_
 cases h
 exact A6 (.inr W) (B6 (B3 W) C2) (.refl _)
 refine A8<|A5<|B0<|sq W<|sl W G_hit W<|sd W (D7 W)<|sv W<|A1<|cc W h (fun c2 h=> ?_)<|fun c2 h=> ?_
 refine B0<|sv W<|A1<|B2 ?_
 cases h
 exact A6 (.inr W) (B6 (B3 W) C2) (.refl _)
 refine A8<|A5<|B0<|sq W<|sl W G_hit W<|sd W (D7 W)<|sv W<|sv W<|gp W (K6 W) (fun _=>W) (gf W (vl W G_hit W)<|gf W (fun w3=>(D7<|A2 w3))<|gf W (vb W W W)<|sd W (O2 W W<|fun hc=>A2<|J4 hc)<|sv W<|gp W (K6 W) (fun _=>W) (gf W (vl W G_hit W)<|gf W (fun w7=>(D7<|A2 w7))<|gf W (vb W W W)<|sd W (O2 W W<|fun hc=>A2<|J4 hc)<|sv W<|gp W (K6 W) (fun _=>W) (gf W (vl W G_hit W)<|gf W (fun w11=>(D7<|A2 w11))<|gf W (vb W W W)<|sd W (O2 W W<|fun hc=>A2<|J4 hc)<|A1<|cc W h (fun c3 h=> ?_)<|fun c3 h=> ?_)))
 refine B0<|sv W<|A1<|B2 ?_
 cases h
 exact A6 (.inr W) (B6 (B3 W) C2) (.refl _)
 refine A8<|A5<|B0<|sv W<|A1<|js h fun z1 hz1 h=>D9 (fun s=> ∃(y1:Unit) (g1:Unit),z1= .inl y1∧Sb ⟨T [(1,(.ptr (1,u1) 0))],G [((1,u1),some<|.box 33 (L4 p1))]⟩ s) ?_ ?_
 refine A7<|E4 (Eh p1) (fun (x1:Int) (g2:Unit)=>⟨T [(1,(.ptr (1,u1) 0)),(3,(di x1))],G [((1,u1),some<|.box 33 (L4 p1))]⟩) 0 () _ hz1 (F2 W W) ?_
 intro x1 g2 z2 hz2 ez2
 unfold Eh at hz2
 refine A5<|B0<|sv W<|sq W<|sl W G_hit W<|sd W (D7 W)<|sv W<|A1<|cc W hz2 (fun c4 hz2=> ?_)<|fun c4 hz2=> ?_
 refine A8<|A5<|A7<|B0<|sd W (B1 W G_hit W W)<|sv W<|bs hz2 fun _ hv2 hz2=>A9 W W A3 (CO _ _ _ hv2) (.inl W) (sv W<|A1<|B0<|sv W<|sv W<|A1<|cc W hz2 (fun c5 hz2=> ?_)<|fun c5 hz2=> ?_)
 refine B0<|sv W<|sv W<|A1<|B2 ?_
 cases hz2
 obtain rfl:=ez2 _ rfl
 refine ⟨nofun,F4 ?_⟩
 rw [wE]at h
 cases h
 exact A6 (.inr W) (B6 (B3 W) C2) (.refl _)
 refine A8<|E3<|B7<|sv W<|sv W<|sv W<|A1<|E2 ?_
 cases hz2
 exact ⟨W,(),(F2 W W)⟩
 refine C8 W ?_
 cases hz2
 obtain rfl:=ez2 _ rfl
 refine ⟨nofun,C6 W<|U4 ?_⟩
 exact ⟨_,(),W,(F2 W W)⟩
 rintro _ ⟨y1,g1,rfl,q1⟩
 rw [wD]at h
 refine B4 q1<|B0<|sd W (B1 W G_hit W W)<|bs h fun v3 hv3 h=>A9 W W A3 (CP _ _ hv3) (.inl W) (sv W<|A1<|A5<|B0<|sv W<|A1<|bs h fun y2 hy2 h=>D9 (fun s=> ∃g3:Unit,Sb ⟨T [(1,(.ptr (1,u1) 0)),(5,(di y2))],G [((1,u1),some<|.box 33 (L4 p1))]⟩ s) ?_ ?_)
 refine A7<|E4 (Hh p1) (fun (x2:(Int×Int)) (g4:Unit)=>⟨T [(1,(.ptr (1,u1) 0)),(5,(di x2.1)),(6,(di x2.2))],G [((1,u1),some<|.box 33 (L4 p1))]⟩) (v3,0) () _ hy2 (F2 W W) ?_
 intro x2 g4 z3 hz3 ez3
 unfold Hh at hz3
 refine A5<|B0<|sv W<|sq W<|sl W G_hit W<|sd W (D7 W)<|sv W<|sv W<|gt W (fun _=>W)<|gt W (vb W W W)<|sa W W W<|A1<|cc W hz3 (fun c6 hz3=> ?_)<|fun c6 hz3=> ?_
 refine A8<|A5<|A7<|E7 W<|sd W (B1 W G_hit W W)<|sq W<|sl W G_hit W<|sv W<|bs hz3 fun _ hv4 hz3=>sd W (C5 W W hv4 W)<|sd W (D4 W hv4 W W)<|bs hz3 fun _ hv5 hz3=>A9 W W A3 (Zd _ _ _ hv5) (.inl W) (sv W<|A1<|E3<|B7<|sv W<|sv W<|sv W<|A1<|E2 ?_)
 cases hz3
 exact ⟨W,(),(F2 W W)⟩
 refine C8 W ?_
 cases hz3
 obtain rfl:=ez3 _ rfl
 refine ⟨nofun,C6 W<|U4 ?_⟩
 exact ⟨(),(F2 W W)⟩
 rintro _ ⟨g3,q2⟩
 refine B4 q2<|A5<|B0<|sv W<|A1<|bs h fun y3 hy3 h=>D9 (fun s=> ∃g5:Unit,Sb ⟨T [(1,(.ptr (1,u1) 0)),(5,(di y3))],G [((1,u1),some<|.box 33 (L4 p1))]⟩ s) ?_ ?_
 refine A7<|E4 (Hg p1) (fun (x3:(Int×Int)) (g6:Unit)=>⟨T [(1,(.ptr (1,u1) 0)),(5,(di x3.1)),(7,(di x3.2))],G [((1,u1),some<|.box 33 (L4 p1))]⟩) (y2,0) () _ hy3 (F2 W W) ?_
 intro x3 g6 z4 hz4 ez4
 unfold Hg at hz4
 refine A5<|B0<|sv W<|sq W<|sl W G_hit W<|sd W (D7 W)<|sv W<|sv W<|gt W (fun _=>W)<|gt W (vb W W W)<|sa W W W<|A1<|cc W hz4 (fun c7 hz4=> ?_)<|fun c7 hz4=> ?_
 refine A8<|A5<|A7<|E7 W<|sd W (B1 W G_hit W W)<|sq W<|sl W G_hit W<|sv W<|bs hz4 fun _ hv6 hz4=>sd W (C5 W W hv6 W)<|sd W (D4 W hv6 W W)<|bs hz4 fun _ hv7 hz4=>A9 W W A3 (CQ _ _ _ hv7) (.inl W) (sv W<|A1<|E3<|B7<|sv W<|sv W<|sv W<|A1<|E2 ?_)
 cases hz4
 exact ⟨W,(),(F2 W W)⟩
 refine C8 W ?_
 cases hz4
 obtain rfl:=ez4 _ rfl
 refine ⟨nofun,C6 W<|U4 ?_⟩
 exact ⟨(),(F2 W W)⟩
 rintro _ ⟨g5,q3⟩
 refine B4 q3<|A5<|B0<|sv W<|A1<|bs h fun y4 hy4 h=>D9 (fun s=> ∃g7:Unit,Sb ⟨T [(5,(di y4))],G []⟩ s) ?_ ?_
 refine A7<|E4 (Hf p1) (fun (x4:(Int×Int)) (g8:Unit)=>⟨T [(1,(.ptr (1,u1) 0)),(5,(di x4.1)),(8,(di x4.2))],G [((1,u1),some<|.box 33 (L4 p1))]⟩) (y3,0) () _ hy4 (F2 W W) ?_
 intro x4 g8 z5 hz5 ez5
 unfold Hf at hz5
 refine A5<|B0<|sv W<|sq W<|sl W G_hit W<|sd W (D7 W)<|sv W<|sv W<|gt W (fun _=>W)<|gt W (vb W W W)<|sa W W W<|A1<|cc W hz5 (fun c8 hz5=> ?_)<|fun c8 hz5=> ?_
 refine A8<|A5<|A7<|E7 W<|sd W (B1 W G_hit W W)<|sq W<|sl W G_hit W<|sv W<|bs hz5 fun _ hv8 hz5=>sd W (C5 W W hv8 W)<|sd W (D4 W hv8 W W)<|bs hz5 fun _ hv9 hz5=>A9 W W A3 (CR _ _ _ hv9) (.inl W) (sv W<|A1<|E3<|B7<|sv W<|sv W<|sv W<|A1<|E2 ?_)
 cases hz5
 exact ⟨W,(),(F2 W W)⟩
 refine C8 W ?_
 cases hz5
 obtain rfl:=ez5 _ rfl
 refine ⟨nofun,C6 W<|U4 ?_⟩
 exact ⟨(),(F2 W W)⟩
 rintro _ ⟨g7,q4⟩
 refine B4 q4<|B0<|sv W<|sv W<|A1<|B2 ?_
 cases h
 exact A6 (.inr W) (B6 (B3 W) C2) (.refl _)
def Of (p1:(List Int))(p2:Int)(x1:Int):Option (Stp Int (Sum Unit Bool)):=
  cond (decide (x1< (p1.length:Int))) ((C1 p1 x1).bind fun v1=>cond (v1==p2) (some (.out (.inr true))) (some (.go (D3 (x1+1))))) (some (.out (.inl ())))
def Ph [Lp](p1:(List Int))(p2:Int):Option Bool:=
  thenS (loop (Of p1 p2) 0) (fun _=>some false) (fun r=>some r)
theorem Wa(p1 p2 r)(h:Ph p1 p2=some r):PCall prog 190 [(.list (List.map A4 p1)),(i64 p2)] (bo r):=by
 refine C4 (fk func190 ntmps190 m0 (by with_unfolding_all rfl)) (nl W) ?_
 unfold Ph at h
 refine B4 (s0:=⟨T [(0,(.d _)),(1,(.d _))],G []⟩) (F2 W W) ?_
 refine B0<|sv W<|A1<|A5<|B0<|sv W<|A1<|js h fun z1 hz1 h=>D9 (fun s=> ∃(y1:Unit) (g1:Unit),z1= .inl y1∧Sb ⟨T [],G []⟩ s) ?_ ?_
 refine A7<|E4 (Of p1 p2) (fun (x1:Int) (g2:Unit)=>⟨T [(0,(dl A4 p1)),(1,(di p2)),(5,(di x1))],G []⟩) 0 () _ hz1 (F2 W W) ?_
 intro x1 g2 z2 hz2 ez2
 unfold Of at hz2
 refine A5<|B0<|sv W<|sv W<|sd W (D7 W)<|sv W<|A1<|cc W hz2 (fun c1 hz2=> ?_)<|fun c1 hz2=> ?_
 refine A8<|A5<|A7<|B0<|sv W<|sv W<|bs hz2 fun _ hv1 hz2=>sd W (C5 W W hv1 W)<|sd W (C9 W hv1 W)<|sv W<|sv W<|A1<|cc W hz2 (fun c2 hz2=> ?_)<|fun c2 hz2=> ?_
 refine B0<|sv W<|A1<|B2 ?_
 cases hz2
 obtain rfl:=ez2 _ rfl
 refine ⟨nofun,F4 ?_⟩
 rw [wE]at h
 cases h
 exact A6 (.inr W) (B6 (B3 W) C2) (.refl _)
 refine A8<|E3<|B7<|sv W<|sv W<|sv W<|A1<|E2 ?_
 cases hz2
 exact ⟨W,(),(F2 W W)⟩
 refine C8 W ?_
 cases hz2
 obtain rfl:=ez2 _ rfl
 refine ⟨nofun,C6 W<|U4 ?_⟩
 exact ⟨_,(),W,(F2 W W)⟩
 rintro _ ⟨y1,g1,rfl,q1⟩
 rw [wD]at h
 refine B4 q1<|B0<|sv W<|A1<|B2 ?_
 cases h
 exact A6 (.inr W) (B6 (B3 W) C2) (.refl _)
def Jj [Lp](p1:Map)(p2:Int)(x1:((List Int)×Int)):Option (Stp ((List Int)×Int) (List Int)):=
  cond (decide (x1.2< (p1.Lanes.length:Int))) ((C1 p1.Lanes x1.2).bind fun v1=>(Ph v1.Next p2).bind fun v2=>cond v2 ((X6 x1.1 [x1.2]).bind fun v3=>some (.go (v3,(D3 (x1.2+1))))) (some (.go (x1.1,(D3 (x1.2+1)))))) (some (.out x1.1))
def Ld [Lp](p1:Map)(p2:Int):Option (List Int):=
  (loop (Jj p1 p2) ([],0)).bind fun y1=>some y1
theorem Wz(p1 p2 r)(h:Ld p1 p2=some r):PCall prog 189 [(.agg (P7 p1)),(i64 p2)] (.list (List.map A4 r)):=by
 refine C4 (fk func189 ntmps189 (fun r=>if r==6 then [1002]else []) (by with_unfolding_all rfl)) (nl W) ?_
 unfold Ld at h
 refine B4 (s0:=⟨T [(0,(.d _)),(1,(.d _))],G []⟩) (F2 W W) ?_
 refine lr<|fun u1 _=>sm W<|sv W<|A1<|B0<|sv W<|A1<|A5<|B0<|sv W<|A1<|bs h fun y1 hy1 h=>D9 (fun s=> ∃g1:Nat,Sb ⟨T [(5,(oS y1 (25,g1)))],G [((25,g1),oB 3 1 A4 y1)]⟩ s) ?_ ?_
 refine A7<|E4 (Jj p1 p2) (fun (x1:((List Int)×Int)) (g2:Nat)=>⟨T [(1,(di p2)),(2,(.ptr (2,u1) 0)),(5,(oS x1.1 (25,g2))),(6,(di x1.2))],G [((2,u1),some<|.box 33 (L4 p1)),((25,g2),oB 3 1 A4 x1.1)]⟩) ([],0) 0 _ hy1 (E0 (Z7 W)<|B5 G_hit (.of W)<|S5 trivial) ?_
 intro x1 g2 z1 hz1 ez1
 unfold Jj at hz1
 refine A5<|B0<|sv W<|sq W<|sl W G_hit W<|sd W (D7 W)<|sv W<|A1<|cc W hz1 (fun c1 hz1=> ?_)<|fun c1 hz1=> ?_
 refine A8<|A5<|A7<|B0<|sq W<|sl W G_hit W<|sv W<|bs hz1 fun _ hv1 hz1=>sd W (C5 W W hv1 W)<|sv W<|sd W (C9 W hv1 W)<|sv W<|bs hz1 fun _ hv2 hz1=>A9 W W A3 (Wa _ _ _ hv2) (.inl W) (A1<|cc W hz1 (fun c2 hz1=> ?_)<|fun c2 hz1=> ?_)
 refine Br fun u6 _=>C0 (oS x1.1 (25,g2)) W W (sv W<|C0 (dl A4 [x1.2]) W W (bs hz1 fun _ hv3 hz1=>Q3 A4 (25,g2) x1.1 x1.2 [] _ (K7<|fun _=>W) W (gq W) hv3 (ss W<|A1<|E3<|B7<|sv W<|sv W<|sv W<|A1<|E2 ?_)))
 cases hz1
 exact ⟨W,u6,(E0 ⟨.of W, .of W,(.of (V1<|V4 hv3).symm), .of W,trivial⟩<|sg W<|N8 G_hit trivial)⟩
 refine A8<|E3<|B7<|sv W<|sv W<|sv W<|A1<|E2 ?_
 cases hz1
 exact ⟨W,g2,(E0 (Z7 W)<|B5 G_hit (.of W)<|B8 (gq W) trivial)⟩
 refine C8 W ?_
 cases hz1
 obtain rfl:=ez1 _ rfl
 refine ⟨nofun,C6 W<|U4 ?_⟩
 exact ⟨g2,(E0 ⟨.of W,trivial⟩<|B8 (gq W) trivial)⟩
 rintro _ ⟨g1,q1⟩
 refine B4 q1<|B0<|C0 (oS y1 (25,g1)) W W (C0 (oS y1 (25,g1)) W W (A1<|B2 ?_))
 cases h
 exact A6 (.inr W) (B6 (B3 W)<|T9 G_hit) T8
end
end Go.Abs.World
