/-
  The functions, part 2.
-/
import Derived.Test.YtgjdiioennhoeaaGreatFns1
set_option maxRecDepth 20000
set_option maxHeartbeats 4000000
set_option linter.unusedVariables false
namespace Go.Abs.World
noncomputable section
open Go Go.Abs Go.Proofs Tryz
attribute [local irreducible] L3 Lm Cq
def Dt (p1:Phase):Option Bool:=
  (Cj p1.Ticks 1 10000).bind fun v1=>some (!v1)
theorem Rs(p1 r)(h:Dt p1=some r):PCall prog 212 [(.agg [(i64 p1.Ticks),(.list (List.map A4 p1.Green))])] (bo r):=by
 refine C3 (fk func212 ntmps212 m0 (by with_unfolding_all rfl)) (nl W) ?_
 unfold Dt at h
 refine B4 (s0:=⟨T [(0,(.d _))],G []⟩) (G9 W W) ?_
 refine B1<|sm W<|sv W<|A2<|B1<|sq W<|sl W G_hit W<|bs h fun v1 hv1 h=>B0 W W A3 (Ed _ _ _ _ hv1) (.inl W) (C0 (.d (bo (!v1))) W W (sv W<|A2<|B2 ?_))
 cases h
 exact A7 (.inr W) (B6 (B3 W) C1) (.refl _)
def J9 (p1:(List Phase))(x1:Int):Option (Stp Int (Sum Unit Int)):=
  cond (decide (x1< (p1.length:Int))) ((B8 p1 x1).bind fun v1=>(Dt v1).bind fun v2=>cond v2 (some (.out (.inr x1))) (some (.go (D2 (x1+1))))) (some (.out (.inl ())))
def G4 [Lp](p1:(List Phase)):Option Int:=
  thenS (loop (J9 p1) 0) (fun _=>some (-1)) (fun r=>some r)
theorem Ce(p1 r)(h:G4 p1=some r):PCall prog 243 [(.list (List.map Eb p1)),(.fn (.func 212) [] [])] (i64 r):=by
 refine C3 (fk func243 ntmps243 m0 (by with_unfolding_all rfl)) (nl W) ?_
 unfold G4 at h
 refine B4 (s0:=⟨T [(0,(.d _)),(1,(.d _))],G []⟩) (G9 W W) ?_
 refine B1<|sv W<|A2<|A6<|B1<|sv W<|sd W (E8 W)<|sv W<|A2<|js h fun z1 hz1 h=>E7 (fun s=> ∃(y1:Unit) (g1:Unit),z1= .inl y1∧Sb ⟨T [],G []⟩ s) ?_ ?_
 refine A8<|G6 (J9 p1) (fun (x1:Int) (g2:Unit)=>⟨T [(0,(dl Eb p1)),(1,(.d (.fn (.func 212) [] []))),(7,(di (p1.length:Int))),(8,(di x1))],G []⟩) 0 () _ hz1 (G9 W W) ?_
 intro x1 g2 z2 hz2 ez2
 unfold J9 at hz2
 refine B1<|sv W<|A2<|A6<|cc W hz2 (fun c1 hz2=> ?_)<|fun c1 hz2=> ?_
 refine A9<|A6<|A8<|B1<|sv W<|sv W<|A2<|B1<|sv W<|sv W<|sv W<|bs hz2 fun _ hv1 hz2=>sd W (E2 W W hv1 W)<|sd W (E4 W hv1 W W)<|bs hz2 fun _ hv2 hz2=>B0 W W A3 (Rs _ _ hv2) (.inl W) (A2<|cc W hz2 (fun c2 hz2=> ?_)<|fun c2 hz2=> ?_)
 refine B1<|sv W<|sv W<|A2<|B2 ?_
 cases hz2
 obtain rfl:=ez2 _ rfl
 refine ⟨nofun,H4 ?_⟩
 rw [wE]at h
 cases h
 exact A7 (.inr W) (B6 (B3 W) C1) (.refl _)
 refine A9<|F9<|C6<|sv W<|sv W<|A2<|G5 ?_
 cases hz2
 exact ⟨W,(),(G9 W W)⟩
 refine D5 W ?_
 cases hz2
 obtain rfl:=ez2 _ rfl
 refine ⟨nofun,D4 W<|X2 ?_⟩
 exact ⟨_,(),W,(G9 W W)⟩
 rintro _ ⟨y1,g1,rfl,q1⟩
 rw [wD]at h
 refine B4 q1<|B1<|sv W<|A2<|B2 ?_
 cases h
 exact A7 (.inr W) (B6 (B3 W) C1) (.refl _)
def D9 [Lp](p1:(List Phase)):Option Bool:=
  (G4 p1).bind fun v1=>some (decide (v1≥0))
theorem Bk(p1 r)(h:D9 p1=some r):PCall prog 211 [(.list (List.map Eb p1)),(.fn (.func 212) [] [])] (bo r):=by
 refine C3 (fk func211 ntmps211 m0 (by with_unfolding_all rfl)) (nl W) ?_
 unfold D9 at h
 refine B4 (s0:=⟨T [(0,(.d _)),(1,(.d _))],G []⟩) (G9 W W) ?_
 refine B1<|sv W<|A2<|B1<|sv W<|sv W<|bs h fun _ hv1 h=>B0 W W A3 (Ce _ _ hv1) (.inl W) (sv W<|sv W<|A2<|B2 ?_)
 cases h
 exact A7 (.inr W) (B6 (B3 W) C1) (.refl _)
def R7 [Lp](p1:Phase)(p2:RoadsCheck):Option Bool:=
  (Ax p1.Green 0 (p2.Map_.Lanes.length:Int)).bind fun v1=>some (!v1)
theorem Pv(p1 p2 r)(h:R7 p1 p2=some r):PCall prog 213 [(.agg [(i64 p1.Ticks),(.list (List.map A4 p1.Green))]),(.bp (V1 p2.Map_) 0)] (bo r):=by
 refine C3 (fk func213 ntmps213 m0 (by with_unfolding_all rfl)) (nl W) ?_
 unfold R7 at h
 refine B4 (s0:=⟨T [(0,(.d _)),(1,(.d _))],G []⟩) (G9 W W) ?_
 refine B1<|sm W<|sv W<|A2<|B1<|sq W<|sl W G_hit W<|sv W<|sv W<|sv W<|sd W (E8 W)<|bs h fun v1 hv1 h=>B0 W W A3 (Og _ _ _ _ hv1) (.inl W) (C0 (.d (bo (!v1))) W W (sv W<|A2<|B2 ?_))
 cases h
 exact A7 (.inr W) (B6 (B3 W) C1) (.refl _)
def D7 [Lp](p1:(List Phase))(p2:RoadsCheck)(x1:Int):Option (Stp Int (Sum Unit Int)):=
  cond (decide (x1< (p1.length:Int))) ((B8 p1 x1).bind fun v1=>(R7 v1 p2).bind fun v2=>cond v2 (some (.out (.inr x1))) (some (.go (D2 (x1+1))))) (some (.out (.inl ())))
def G0 [Lp](p1:(List Phase))(p2:RoadsCheck):Option Int:=
  thenS (loop (D7 p1 p2) 0) (fun _=>some (-1)) (fun r=>some r)
theorem Bz(p1 p2 r)(h:G0 p1 p2=some r):PCall prog 243 [(.list (List.map Eb p1)),(.fn (.func 213) [] [(.bp (V1 p2.Map_) 0)])] (i64 r):=by
 refine C3 (fk func243 ntmps243 m0 (by with_unfolding_all rfl)) (nl W) ?_
 unfold G0 at h
 refine B4 (s0:=⟨T [(0,(.d _)),(1,(.d _))],G []⟩) (G9 W W) ?_
 refine B1<|sv W<|A2<|A6<|B1<|sv W<|sd W (E8 W)<|sv W<|A2<|js h fun z1 hz1 h=>E7 (fun s=> ∃(y1:Unit) (g1:Unit),z1= .inl y1∧Sb ⟨T [],G []⟩ s) ?_ ?_
 refine A8<|G6 (D7 p1 p2) (fun (x1:Int) (g2:Unit)=>⟨T [(0,(dl Eb p1)),(1,(.d (.fn (.func 213) [] [(.bp (V1 p2.Map_) 0)]))),(7,(di (p1.length:Int))),(8,(di x1))],G []⟩) 0 () _ hz1 (G9 W W) ?_
 intro x1 g2 z2 hz2 ez2
 unfold D7 at hz2
 refine B1<|sv W<|A2<|A6<|cc W hz2 (fun c1 hz2=> ?_)<|fun c1 hz2=> ?_
 refine A9<|A6<|A8<|B1<|sv W<|sv W<|A2<|B1<|sv W<|sv W<|sv W<|bs hz2 fun _ hv1 hz2=>sd W (E2 W W hv1 W)<|sd W (E4 W hv1 W W)<|bs hz2 fun _ hv2 hz2=>B0 W W A3 (Pv _ _ _ hv2) (.inl W) (A2<|cc W hz2 (fun c2 hz2=> ?_)<|fun c2 hz2=> ?_)
 refine B1<|sv W<|sv W<|A2<|B2 ?_
 cases hz2
 obtain rfl:=ez2 _ rfl
 refine ⟨nofun,H4 ?_⟩
 rw [wE]at h
 cases h
 exact A7 (.inr W) (B6 (B3 W) C1) (.refl _)
 refine A9<|F9<|C6<|sv W<|sv W<|A2<|G5 ?_
 cases hz2
 exact ⟨W,(),(G9 W W)⟩
 refine D5 W ?_
 cases hz2
 obtain rfl:=ez2 _ rfl
 refine ⟨nofun,D4 W<|X2 ?_⟩
 exact ⟨_,(),W,(G9 W W)⟩
 rintro _ ⟨y1,g1,rfl,q1⟩
 rw [wD]at h
 refine B4 q1<|B1<|sv W<|A2<|B2 ?_
 cases h
 exact A7 (.inr W) (B6 (B3 W) C1) (.refl _)
def D8 [Lp](p1:(List Phase))(p2:RoadsCheck):Option Bool:=
  (G0 p1 p2).bind fun v1=>some (decide (v1≥0))
theorem Ay(p1 p2 r)(h:D8 p1 p2=some r):PCall prog 211 [(.list (List.map Eb p1)),(.fn (.func 213) [] [(.bp (V1 p2.Map_) 0)])] (bo r):=by
 refine C3 (fk func211 ntmps211 m0 (by with_unfolding_all rfl)) (nl W) ?_
 unfold D8 at h
 refine B4 (s0:=⟨T [(0,(.d _)),(1,(.d _))],G []⟩) (G9 W W) ?_
 refine B1<|sv W<|A2<|B1<|sv W<|sv W<|bs h fun _ hv1 h=>B0 W W A3 (Bz _ _ _ hv1) (.inl W) (sv W<|sv W<|A2<|B2 ?_)
 cases h
 exact A7 (.inr W) (B6 (B3 W) C1) (.refl _)
def O2 [Lp](p1:RoadsCheck)(x1:Int):Option (Stp Int (Sum Unit Int)):=
  cond (decide (x1< (p1.Map_.Signals.length:Int))) ((B8 p1.Map_.Signals x1).bind fun v1=>cond ((v1.Phases.length:Int)==0) (some (.out (.inr 6))) (cond (decide ((v1.Phases.length:Int)>6)) (some (.out (.inr 8))) ((Cj v1.Offset 0 1099511627776).bind fun v2=>cond (!v2) (some (.out (.inr 2))) ((D9 v1.Phases).bind fun v3=>cond v3 (some (.out (.inr 2))) ((D8 v1.Phases p1).bind fun v4=>cond v4 (some (.out (.inr 11))) (some (.go (D2 (x1+1))))))))) (some (.out (.inl ())))
def R4 [Lp](p1:RoadsCheck):Option Int:=
  thenS (loop (O2 p1) 0) (fun _=>some 0) (fun r=>some r)
theorem Tu(p1 r)(h:R4 p1=some r):PCall prog 151 [(.agg (V1 p1.Map_))] (i64 r):=by
 refine C3 (fk func151 ntmps151 m0 (by with_unfolding_all rfl)) (nl W) ?_
 unfold R4 at h
 refine B4 (s0:=⟨T [(0,(.d _))],G []⟩) (G9 W W) ?_
 refine lr<|fun u1 _=>sm W<|sv W<|A2<|A6<|B1<|sq W<|sp W W<|sl W G_hit W<|sd W (E8 W)<|sv W<|A2<|js h fun z1 hz1 h=>E7 (fun s=> ∃(y1:Unit) (g1:Unit),z1= .inl y1∧Sb ⟨T [],G []⟩ s) ?_ ?_
 refine A8<|G6 (O2 p1) (fun (x1:Int) (g2:Unit)=>⟨T [(1,(.ptr (1,u1) 0)),(8,(dl Lw p1.Map_.Signals)),(9,(di (p1.Map_.Signals.length:Int))),(10,(di x1))],G [((1,u1),some<|.box 212 (N4 p1.Map_))]⟩) 0 () _ hz1 (G9 W W) ?_
 intro x1 g2 z2 hz2 ez2
 unfold O2 at hz2
 refine B1<|sv W<|A2<|A6<|cc W hz2 (fun c1 hz2=> ?_)<|fun c1 hz2=> ?_
 refine A9<|A6<|A8<|B1<|bs hz2 fun v1 hv1 hz2=>sd W (E2 W W hv1 W)<|sd W (E4 W hv1 W W)<|sm W<|V5 W G_hit [(di v1.Offset),(dl Eb v1.Phases)] W (A2<|B1<|sq W<|sl W G_hit W<|sd W (E8 W)<|sv W<|A2<|A8<|B1<|sv W<|sv W<|sv W<|A2<|cc W hz2 (fun c2 hz2=> ?_)<|fun c2 hz2=> ?_)
 refine B1<|sv W<|A2<|B2 ?_
 cases hz2
 obtain rfl:=ez2 _ rfl
 refine ⟨nofun,H4 ?_⟩
 rw [wE]at h
 cases h
 exact A7 (.inr W) (B6 (B3 W) C1) (.refl _)
 refine B1<|sv W<|sv W<|sv W<|A2<|cc W hz2 (fun c3 hz2=> ?_)<|fun c3 hz2=> ?_
 refine B1<|sv W<|A2<|B2 ?_
 cases hz2
 obtain rfl:=ez2 _ rfl
 refine ⟨nofun,H4 ?_⟩
 rw [wE]at h
 cases h
 exact A7 (.inr W) (B6 (B3 W) C1) (.refl _)
 refine B1<|sq W<|sl W G_hit W<|bs hz2 fun v2 hv2 hz2=>B0 W W A3 (Ed _ _ _ _ hv2) (.inl W) (C0 (.d (bo (!v2))) W W (sv W<|A2<|cc W hz2 (fun c4 hz2=> ?_)<|fun c4 hz2=> ?_))
 refine B1<|sv W<|A2<|B2 ?_
 cases hz2
 obtain rfl:=ez2 _ rfl
 refine ⟨nofun,H4 ?_⟩
 rw [wE]at h
 cases h
 exact A7 (.inr W) (B6 (B3 W) C1) (.refl _)
 refine B1<|sq W<|sl W G_hit W<|bs hz2 fun _ hv3 hz2=>B0 W W A3 (Bk _ _ hv3) (.inl W) (sv W<|A2<|cc W hz2 (fun c5 hz2=> ?_)<|fun c5 hz2=> ?_)
 refine B1<|sv W<|A2<|B2 ?_
 cases hz2
 obtain rfl:=ez2 _ rfl
 refine ⟨nofun,H4 ?_⟩
 rw [wE]at h
 cases h
 exact A7 (.inr W) (B6 (B3 W) C1) (.refl _)
 refine B1<|sq W<|sl W G_hit W<|C0 (.fn _ _ _) W W (bs hz2 fun _ hv4 hz2=>B0 W (rD<|E3 (Yq G2<|E3 (An (gq W)<|rD<|rD<|rD<|rD<|rD G2) G2) G2) A3 (Ay _ _ _ hv4) (.inr W) (sv W<|A2<|cc W hz2 (fun c6 hz2=> ?_)<|fun c6 hz2=> ?_))
 refine B1<|sv W<|A2<|B2 ?_
 cases hz2
 obtain rfl:=ez2 _ rfl
 refine ⟨nofun,H4 ?_⟩
 rw [wE]at h
 cases h
 exact A7 (.inr W) (B6 (B3 W) C1) (.refl _)
 refine A9<|F9<|F9<|C6<|sv W<|sv W<|A2<|G5 ?_
 cases hz2
 exact ⟨W,(),(G9 W W)⟩
 refine D5 W ?_
 cases hz2
 obtain rfl:=ez2 _ rfl
 refine ⟨nofun,D4 W<|X2 ?_⟩
 exact ⟨_,(),W,(G9 W W)⟩
 rintro _ ⟨y1,g1,rfl,q1⟩
 rw [wD]at h
 refine B4 q1<|B1<|sv W<|A2<|B2 ?_
 cases h
 exact A7 (.inr W) (B6 (B3 W) C1) (.refl _)
/-- kerbstone/curve.pieces$1 -/
def Qz:AC:=(.seq (.reg [oo 3 (.mv (ci 0))]) (.seq (.reg [oo 8 (.fieldA 0 (.t 1)),oo 9 (.load 1 false (.t 8)),oo 10 (.len (.t 9)),oo 11 (.bin .sub (.t 10) (ci 1)),oo 12 (.mv (ci 0))]) (.block 0 (.loop (.seq (.reg [oo 13 (.bin .lss (.t 12) (.t 11))]) (.seq (.cond (.t 13) .skip (.exit 0)) (.seq (.block 1 (.seq (.reg [oo 14 (.mv (.t 12)),oo 4 (.mv (.t 14))]) (.seq (.draw [oo 15 (.fieldA 0 (.t 1)),oo 16 (.load 1 false (.t 15)),oo 17 (.mv (.t 4)),oo 18 (.idxS 2 (.t 16) (.t 17)),oo 19 (.load 2 true (.t 18)),oo 20 (.fieldA 0 (.t 1)),oo 21 (.load 1 false (.t 20)),oo 22 (.mv (.t 4)),oo 23 (.bin .add (.t 22) (ci 1)),oo 24 (.idxS 2 (.t 21) (.t 23)),oo 25 (.load 2 true (.t 24)),oo 26 (.call (cf 238) [(.t 19),(.t 25)]),oo 5 (.alloc 253 [z0,z0]),oe (.store 2 (.t 5) (.t 26))] []) (.seq (.reg [oo 28 (.load 2 true (.t 5)),oo 29 (.load 2 true (.t 5)),oo 30 (.call (cf 240) [(.t 28),(.t 29)]),oo 31 (.call (cf 239) [(.t 30)]),oo 27 (.mv (.t 31)),oo 32 (.ext (.t 27) 0),oo 33 (.ext (.t 27) 1),oo 6 (.mv (.t 32)),oo 7 (.mv (.t 33))]) (.seq (.seq (.drawB [oo 34 (.mv (.t 0)),oo 35 (.mv (.t 4)),oo 36 (.fieldA 0 (.t 1)),oo 37 (.load 1 false (.t 36)),oo 38 (.mv (.t 4)),oo 39 (.idxS 2 (.t 37) (.t 38)),oo 40 (.load 2 true (.t 39)),oo 41 (.load 2 true (.t 5)),oo 42 (.mv (.t 6)),oo 43 (.mv (.t 3)),oo 44 (.build [z0,z0,z0,z0,z0,z0] [(0,2,(.t 40)),(2,2,(.t 41)),(4,1,(.t 42)),(5,1,(.t 43))]),oo 45 (.icall (.t 34) [(.t 35),(.t 44)]),oo 46 (.un .not (.t 45))] 11 []) (.cond (.t 46) .ret .skip)) (.reg [oo 47 (.mv (.t 3)),oo 48 (.mv (.t 6)),oo 49 (.bin .add (.t 47) (.t 48)),oo 3 (.mv (.t 49))])))))) (.reg [oo 50 (.bin .add (.t 12) (ci 1)),oo 12 (.mv (.t 50))]))))))))
theorem CA:FnOK prog 260 51 [] Qz:=⟨_,_,func260,rfl,ntmps260,by kernel_rfl,⟨fun r=>if r==6 then [11]else [],by kernel_rfl⟩,by kernel_rfl⟩
/-- The pieces of a chain of points, from a number on. -/
def Hy [Lp](pts:List Spot):Nat→Nat→Int→Option (List (Int×CurvePiece))
  |0,_,_=>some []
  |n+1,i,start=>(pts[i]?).bind fun p=>(pts[i+1]?).bind fun q=>(Ng p q).bind fun v=>(As v v).bind fun d=>(Fi d).bind fun r=>
   (Hy pts n (i+1) (D2 (start+r.1))).bind fun l=>some (((i:Int),CurvePiece.mk p v r.1 start)::l)
def Ra [Lp](pts:List Spot):Option (List (Int×CurvePiece)):=if pts.length≤1000000 then Hy pts (pts.length - 1) 0 0 else none
/-- kerbstone/curve.pieces -/
def Uu:AC:=(.seq (.reg [oo 1 (.box 61 true (.t 0)),oo 2 (.mv (.c (.v .nilFunc)))]) (.seq (.reg [oo 3 (.mkfn (.func 260) [] [(.t 1)]),oo 2 (.mv (.t 3))]) .ret))
theorem FH:FnOK prog 241 4 [.t 2] Uu:=⟨_,_,func241,rfl,ntmps241,by kernel_rfl,⟨fun _=> [],by kernel_rfl⟩,by kernel_rfl⟩
abbrev NJ (a:Int×CurvePiece):List D:= [i64 a.1, .agg [i64 a.2.p.X,i64 a.2.p.Y,i64 a.2.v.x,i64 a.2.v.y,i64 a.2.l,i64 a.2.start]]
theorem PZ (c:Curve):PCall prog 241 [.agg [.list (List.map Bs c.Pts)]] (.fn (.func 260) [] [.bp [.list (List.map Bs c.Pts)] 0]):=by
  refine aD FH (by simp) ?_
  unfold Uu
  refine My<|Po fun _ _=> ?_
  refine SR (.ptr _ _) _ W W ?_
  refine F5 (.d _) W W ?_
  refine Am ?_
  refine My<|Po fun u' hu'=> ?_
  refine F5 (.fn _ _ _) W W ?_
  refine F5 (.fn _ _ _) W W ?_
  refine Am ?_
  refine SN ⟨.inr W,?_⟩
  refine B6 (B3 (v:= .fn _ _ _) W) ?_
  exact Yq G2<|E3 (An (by simp only [Al,if_true];rfl)<|E3 C1 G2) G2
theorem cH (ps:List Spot)(n:Int)(i:Nat)(p:Spot)(hn:n=i)(h:ps[i]? =some p):(List.map Bs ps)[n.toNat]? =some (Bs p):=by
  subst hn
  rw [wF,lK,h];rfl
theorem TF {n:Int}(h: -9223372036854775808≤n∧n≤9223372036854775807):D2 n=n:=Go.IntWalk.i64_in n h
theorem FI (pts:List Spot): ∀n i s L,Hy pts n i s=some L→L.length=n:=by
  intro n
  induction n with
  |zero=>intro i s L h;cases h;rfl
  |succ n ih=>
   intro i s L h
   rw [Hy]at h
   obtain ⟨p,hp,h⟩:=bind_some h
   obtain ⟨q,hq,h⟩:=bind_some h
   obtain ⟨v,hv,h⟩:=bind_some h
   obtain ⟨d,hd,h⟩:=bind_some h
   obtain ⟨r,hr,h⟩:=bind_some h
   obtain ⟨l,hl,h⟩:=bind_some h
   cases h
   rw [lL,ih _ _ _ hl]
theorem QA {pts:List Spot}{L:List (Int×CurvePiece)}(h:Ra pts=some L):aN prog (.fn (.func 260) [] [.bp [.list (List.map Bs pts)] 0]) (L.map NJ):=by
  unfold Ra at h
  split at h
  case isFalse=>cases h
  rename_i hlen
  refine ⟨260,[],_,W,?_⟩
  intro k h0 Inv Stop hi0 hy
  refine HH CA (by simp) ?_
  unfold Qz
  refine My<|Po fun u hu=> ?_
  refine F5 (.d _) W W ?_
  refine Am ?_
  refine My<|Po fun u hu=> ?_
  refine F5 (.d _) W W ?_
  refine F5 (.d _) W W ?_
  refine F5 (.d (i64 pts.length)) W (E8 (f:=Bs) W) ?_
  refine F5 (.d _) W W ?_
  refine F5 (.d _) W W ?_
  refine Am ?_
  refine HD ?_
  refine PE (α:=Nat×Int×E0) (fun x=>⟨T [(0, .yld k),(1, .d (.bp [.list (List.map Bs pts)] 0)),(3, .d (i64 x.2.1)),(11, .d (i64<|D2 (pts.length - 1))),(12, .d (i64 x.1))],x.2.2⟩) (fun x=>pts.length - x.1)
    (fun x=>Inv x.1 x.2.2∧x.1≤pts.length - 1∧Hy pts (pts.length - 1 - x.1) x.1 x.2.1=some (L.drop x.1)) (0,0,h0) ⟨hi0,by omega,h⟩ (Wb ⟨rfl,rfl,rfl,rfl,rfl,trivial⟩ fun _ _ h=>h) ?_
  rintro ⟨i,start,hh⟩ ⟨hinv,hi,hgo⟩
  dsimp only at hinv hi hgo ⊢
  refine My<|Po fun u hu=> ?_
  refine F5 (.d _) W W ?_
  refine Am ?_
  refine My ?_
  refine aF W (fun hlt=> ?_)<|fun hlt=> ?_
  ·refine MW ?_
   have hlen1:D2 ((pts.length:Int) - 1)=pts.length - 1:=TF (by omega)
   rw [hlen1]at hlt
   have hi1:i+1<pts.length:=by omega
   have hw1:IntKind.i64.wrap ((i:Int)+1)=(i:Int)+1:=TF (by omega)
   obtain ⟨m,hm⟩: ∃m,pts.length - 1 - i=m+1:=⟨pts.length - 1 - i - 1,by omega⟩
   rw [hm,Hy]at hgo
   obtain ⟨p,hp,hgo⟩:=bind_some hgo
   obtain ⟨q,hq,hgo⟩:=bind_some hgo
   obtain ⟨v,hv,hgo⟩:=bind_some hgo
   obtain ⟨d,hd,hgo⟩:=bind_some hgo
   obtain ⟨r,hr,hgo⟩:=bind_some hgo
   obtain ⟨l,hl,hgo⟩:=bind_some hgo
   have hgo:((i:Int),CurvePiece.mk p v r.1 start)::l=L.drop i:=lD hgo
   have hLi:L[i]? =some ((i:Int),CurvePiece.mk p v r.1 start):=by
     have:=congrArg (fun z=>z[0]?) hgo
     simpa using this.symm
   have hLd:L.drop (i+1)=l:=by
     have:=congrArg (fun z=>z.drop 1) hgo
     simpa using this.symm
   have hin: ∀(p:Spot) (n:Int) (j:Nat),n=j→pts[j]? =some p→(List.map Bs pts)[n.toNat]? =some (Bs p):=fun p n j=>cH pts n j p
   refine My ?_
   refine HD ?_
   refine My<|Po fun u hu=> ?_
   refine F5 (.d _) W W ?_
   refine F5 (.d _) W W ?_
   refine Am ?_
   refine My<|US W fun u hu=> ?_
   refine F5 (.d _) W W ?_
   refine F5 (.d _) W W ?_
   refine F5 (.d _) W W ?_
   refine SS _ _ _ _ W W (Int.natCast_nonneg i) (hin p _ i W hp) W ?_
   refine DD _ _ _ _ _ W (hin p _ i W hp) (by simp) W ?_
   refine F5 (.d _) W W ?_
   refine F5 (.d _) W W ?_
   refine F5 (.d _) W W ?_
   refine F5 (.d _) W W ?_
   refine SS _ _ _ _ W W (by rw [hw1];omega) (hin q _ (i+1) (by rw [hw1];rfl) hq) W ?_
   refine DD _ _ _ _ _ W (hin q _ (i+1) (by rw [hw1];rfl) hq) (by simp) W ?_
   refine Xt W W (Yv p q _ hv) (.inl W) ?_
   refine SR (.ptr _ _) _ W W ?_
   refine PH _ _ _ _ _ W W W (by simp only [Al,if_true];rfl) (by simp) ?_
   refine Am ?_
   refine My<|Po fun u' hu'=> ?_
   refine HJ _ _ _ _ (.d (.agg [i64 v.x,i64 v.y])) W (by simp only [Al,if_true];rfl) (by simp [Jd]) W ?_
   refine HJ _ _ _ _ (.d (.agg [i64 v.x,i64 v.y])) W (by simp only [Al,if_true];rfl) (by simp [Jd]) W ?_
   refine Xt W W (Jz v v _ hd) (.inl W) ?_
   refine Xt W W (Yw d _ hr) (.inl W) ?_
   refine F5 (.d _) W W ?_
   refine F5 (.d _) W W ?_
   refine F5 (.d _) W W ?_
   refine F5 (.d _) W W ?_
   refine F5 (.d _) W W ?_
   refine Am ?_
   refine My<|My ?_
   refine aC W fun _ _=> ?_
   simp only [List.take,List.drop]
   refine F5 (.yld _) W W ?_
   refine F5 (.d _) W W ?_
   refine F5 (.d _) W W ?_
   refine F5 (.d _) W W ?_
   refine F5 (.d _) W W ?_
   refine SS _ _ _ _ W W (Int.natCast_nonneg i) (hin p _ i W hp) W ?_
   refine DD _ _ _ _ _ W (hin p _ i W hp) (by simp) W ?_
   refine HJ _ _ _ _ (.d (.agg [i64 v.x,i64 v.y])) W (by simp only [Al,if_true];rfl) (by simp [Jd]) W ?_
   refine F5 (.d _) W W ?_
   refine F5 (.d _) W W ?_
   refine F5 (.d _) W W ?_
   refine Am ?_
   intro u3 hu3
   refine aJ k ((NJ ((i:Int),CurvePiece.mk p v r.1 start)).map .d) W W ?_
   refine YCall.weak (UT hu<|UT hu fun _ _ h=>h) ((hy i hh _ (by rw [lK,hLi];rfl) hinv).mono ?_)
   rintro v' h' (⟨rfl,hin⟩|⟨rfl,hst⟩)
   ·intro u4 hu4
    refine F5 (.d _) W W ?_
    refine Am ?_
    refine BJ (t:=false) W (fun h=>by cases h) (fun _=> ?_)
    refine MW ?_
    refine Po fun u hu=> ?_
    refine F5 (.d _) W W ?_
    refine F5 (.d _) W W ?_
    refine F5 (.d _) W W ?_
    refine F5 (.d _) W W ?_
    refine Am ?_
    refine Po fun u hu=> ?_
    refine F5 (.d _) W W ?_
    refine F5 (.d _) W W ?_
    refine Am ?_
    refine ⟨(i+1,D2 (start+r.1),h'),⟨hin,by dsimp only;omega,?_⟩,by dsimp only;omega,Wb ⟨rfl,rfl,rfl,rfl,?_,trivial⟩ fun _ _ h=>h⟩
    ·dsimp only
     rw [hLd,show pts.length - 1 - (i+1)=m by omega];exact hl
    ·show AV.d (i64 (IntKind.i64.wrap ((i:Int)+1)))=_
     rw [hw1];rfl
   ·intro u4 hu4
    refine F5 (.d _) W W ?_
    refine Am ?_
    refine BJ (t:=true) W (fun _=> ?_) (fun h=>by cases h)
    refine SN ?_
    dsimp only
    exact ⟨Or.inr trivial,AV.tup [],W,Or.inr hst⟩
  ·refine MX ?_
   have hlen1:1≤pts.length→D2 ((pts.length:Int) - 1)=pts.length - 1:=fun _=>TF (by omega)
   have:i=pts.length - 1:=by
     by_cases h:1≤pts.length
     ·rw [hlen1 h]at hlt;omega
     ·omega
   subst this
   rw [Nat.sub_self,Hy]at hgo
   have hL:(L.map NJ).length=pts.length - 1:=by
     have h1:L.drop (pts.length - 1)= []:=(lD hgo).symm
     have h2:=List.drop_eq_nil_iff.1 h1
     rw [lS]
     refine Nat.le_antisymm h2 ?_
     exact Nat.le_of_eq (FI _ _ _ _ _ h).symm
   exact ⟨.inl W,_,W, .inl (by rw [hL];exact hinv)⟩
def Ee (x1:(List Int))(a1:(Int×CurvePiece)):Option (Stp (List Int) (List Int)):=
  (Bj x1 [a1.2.l]).bind fun v3=>some (.go v3)
def Et [Lp](p1:Curve):Option (List Int):=
  (Es p1).bind fun v1=>cond (v1 !=0) (some []) (((Ra p1.Pts).bind fun v2=>loopL (Ee) (fun (x1:(List Int))=>x1) v2 []).bind fun y1=>some y1)
theorem FJ(p1 r)(h:Et p1=some r):PCall prog 261 [(.agg [(.list (List.map Bs p1.Pts))])] (.list (List.map A4 r)):=by
 refine C3 (fk func261 ntmps261 (fun r=>if r==6 then [1003]else []) (by with_unfolding_all rfl)) (nl W) ?_
 unfold Et at h
 refine B4 (s0:=⟨T [(0,(.d _))],G []⟩) (G9 W W) ?_
 refine B1<|sm W<|sv W<|A2<|A6<|B1<|sd W (B7 W G_hit W W)<|bs h fun _ hv1 h=>B0 W W A3 (Wm _ _ hv1) (.inl W) (sv W<|A2<|cc W h (fun c1 h=> ?_)<|fun c1 h=> ?_)
 refine B1<|sv W<|A2<|B2 ?_
 cases h
 exact A7 (.inr W) (B6 (B3 W) C1) DLe.nil
 refine A9<|lr<|fun u4 _=>sm W<|A2<|A6<|B1<|sd W (B7 W (gq W) W W)<|B0 W W A3 (PZ p1) (.inl W) (A2<|bs h fun y1 hy1 h=>E7 (fun s=> ∃g1:Nat,Sb ⟨T [(3,(.ptr (3,u4) 0))],G [((3,u4),some<|.box 48 [(oS y1 (17,g1))]),((17,g1),oB 2 1 A4 y1)]⟩ s) ?_ ?_)
 refine A8<|bs hy1 fun v2 hv2 hy1=>B4 (s0:=⟨T [(3,(.ptr _ _)),(10,(.d _))],G [((3,u4),some<|.box 48 _)]⟩) (G9 W W) ?_
 refine aP (.fn (.func 260) [] [(.bp [(.list (List.map Bs p1.Pts))] 0)]) NJ v2 (Ee) (fun (x1:(List Int))=>x1) (fun (x1:(List Int)) (g2:Nat)=> [((3,u4),some<|.box 48 [(oS x1 (17,g2))]),((17,g2),oB 2 1 A4 x1)]) [] 0 _ W (QA hv2) (fun _=>W) hy1 (F6 trivial<|B5 G_hit (.of W)<|T8 trivial) nofun ?_ ?_
 intro u7 hu7 hku7
 refine ⟨fun x1 g2=>(G3 W<|G3 W W),?_⟩
 intro r1 x1 g2 a1 z1 hrr1 hz1 ez1
 unfold Ee at hz1
 show Cq _ _ _ _ _ _ ⟨T [(12,(.d (.agg (PX a1.2)))),(11,(di a1.1)),(3,(.ptr (3,u4) 0)),(10,(.d (.fn (.func 260) [] [(.bp [(.list (List.map Bs p1.Pts))] 0)])))],G [((1000000,u7),some (.obj (T [(3,(.ptr (3,u4) 0)),(10,(.d (.fn (.func 260) [] [(.bp [(.list (List.map Bs p1.Pts))] 0)])))]) r1)),((3,u4),some (.box 48 [(oS x1 (17,g2))])),((17,g2),oB 2 1 A4 x1)]⟩
 refine C6<|sm W<|V5 W G_hit (PY a1.2) W (A2<|X2<|SX (gq W) ?_)
 refine A8<|Cd fun u9 _=>C0 (oS x1 (17,g2)) W (U5 W (gq W) W) (sq W<|sl W (gq W) W (C0 (dl A4 [a1.2.l]) W W (bs hz1 fun _ hv3 hz1=>U7 A4 (17,g2) x1 a1.2.l [] _ (P0<|fun _=>W) W (gq W) hv3 (V5 W (gq W) [(.sl (17,u9))] W (A2<|F9<|G5 ?_)))))
 cases hz1
 exact aQ (gq W) u9 (B5 G_hit (.box (.cons (.of (X1<|Aj hv3).symm) .nil))<|O8 (gq W) trivial)
 rintro x1 g2 _ rfl qx1
 refine F9<|X2 ?_
 exact ⟨g2,(Sb.after qx1<|F6 ⟨.of W,trivial⟩<|B5 G_hit (.of W)<|C2 (gq W) trivial)⟩
 rintro _ ⟨g1,q1⟩
 refine B4 q1<|B1<|C0 (oS y1 (17,g1)) W (U5 W G_hit W) (C0 (oS y1 (17,g1)) W W (A2<|B2 ?_))
 cases h
 exact A7 (.inr W) (B6 (B3 W)<|X4<|gq W) X3
def Ae (v1:(List Int))(x1:(Int×Int)):Option (Stp (Int×Int) Int):=
  cond (decide (x1.2< (v1.length:Int))) ((B8 v1 x1.2).bind fun v2=>some (.go ((D2 (x1.1+v2)),(D2 (x1.2+1))))) (some (.out x1.1))
def Ck [Lp](p1:Curve):Option Int:=
  (Et p1).bind fun v1=>(loop (Ae v1) (0,0)).bind fun y1=>some y1
theorem FK(p1 r)(h:Ck p1=some r):PCall prog 242 [(.agg [(.list (List.map Bs p1.Pts))])] (i64 r):=by
 refine C3 (fk func242 ntmps242 m0 (by with_unfolding_all rfl)) (nl W) ?_
 unfold Ck at h
 refine B4 (s0:=⟨T [(0,(.d _))],G []⟩) (G9 W W) ?_
 refine B1<|sm W<|sv W<|A2<|B1<|sv W<|A2<|A6<|B1<|sd W (B7 W G_hit W W)<|bs h fun v1 hv1 h=>B0 W W A3 (FJ _ _ hv1) (.inl W) (sd W (E8 W)<|sv W<|A2<|bs h fun y1 hy1 h=>E7 (fun s=> ∃g1:Unit,Sb ⟨T [(3,(di y1))],G []⟩ s) ?_ ?_)
 refine A8<|G6 (Ae v1) (fun (x1:(Int×Int)) (g2:Unit)=>⟨T [(3,(di x1.1)),(7,(dl A4 v1)),(8,(di (v1.length:Int))),(9,(di x1.2))],G []⟩) (0,0) () _ hy1 (G9 W W) ?_
 intro x1 g2 z1 hz1 ez1
 unfold Ae at hz1
 refine B1<|sv W<|A2<|A6<|cc W hz1 (fun c1 hz1=> ?_)<|fun c1 hz1=> ?_
 refine A9<|A6<|A8<|B1<|bs hz1 fun _ hv2 hz1=>sd W (E2 W W hv2 W)<|sd W (H5 W hv2 W)<|sv W<|A2<|C6<|sv W<|sv W<|sv W<|sv W<|A2<|F9<|C6<|sv W<|sv W<|A2<|G5 ?_
 cases hz1
 exact ⟨W,(),(G9 W W)⟩
 refine D5 W ?_
 cases hz1
 obtain rfl:=ez1 _ rfl
 refine ⟨nofun,D4 W<|X2 ?_⟩
 exact ⟨(),(G9 W W)⟩
 rintro _ ⟨g1,q1⟩
 refine B4 q1<|B1<|sv W<|sv W<|A2<|B2 ?_
 cases h
 exact A7 (.inr W) (B6 (B3 W) C1) (.refl _)
def Ca [Lp](p1:Map)(p2:Int):Option Int:=
  (B8 p1.Lanes p2).bind fun v1=>(Ck v1.Curve_).bind fun v2=>some v2
theorem No(p1 p2 r)(h:Ca p1 p2=some r):PCall prog 207 [(.agg (V1 p1)),(i64 p2)] (i64 r):=by
 refine C3 (fk func207 ntmps207 m0 (by with_unfolding_all rfl)) (nl W) ?_
 unfold Ca at h
 refine B4 (s0:=⟨T [(0,(.d _)),(1,(.d _))],G []⟩) (G9 W W) ?_
 refine B1<|sm W<|sv W<|A2<|B1<|sq W<|sl W G_hit W<|sv W<|bs h fun _ hv1 h=>sd W (E2 W W hv1 W)<|sv W<|sd W (E4 W hv1 W W)<|bs h fun _ hv2 h=>B0 W W A3 (FK _ _ hv2) (.inl W) (sv W<|A2<|B2 ?_)
 cases h
 exact A7 (.inr W) (B6 (B3 W) C1) (.refl _)
def Q3 [Lp](p1:RoadsCheck)(v1:Zone)(x3:Int):Option (Stp Int (Sum Unit Int)):=
  cond (decide (x3< (v1.Parts.length:Int))) ((B8 v1.Parts x3).bind fun v5=>((cond (!((decide (v5.From<0))||(decide (v5.From≥v5.To)))) (Ca p1.Map_ v5.Lane_) (some default))).bind fun v6=>cond (((((decide (v5.From<0))||(decide (v5.From≥v5.To)))||(decide (v5.To>v6)))||(decide (v5.Rank<0)))||(decide (v5.Rank>100))) (some (.out (.inr 2))) (some (.go (D2 (x3+1))))) (some (.out (.inl ())))
def Eu (v1:Zone)(x2:((List Int)×Int)):Option (Stp ((List Int)×Int) (List Int)):=
  cond (decide (x2.2< (v1.Parts.length:Int))) ((B8 v1.Parts x2.2).bind fun v2=>(Bj x2.1 [v2.Lane_]).bind fun v3=>some (.go (v3,(D2 (x2.2+1))))) (some (.out x2.1))
def Q4 [Lp](p1:RoadsCheck)(x1:Int):Option (Stp Int (Sum Unit Int)):=
  cond (decide (x1< (p1.Map_.Zones.length:Int))) ((B8 p1.Map_.Zones x1).bind fun v1=>cond (decide ((v1.Parts.length:Int)<2)) (some (.out (.inr 6))) (cond (decide ((v1.Parts.length:Int)>6)) (some (.out (.inr 8))) (cond ((decide (v1.Signal_<0))||(decide (v1.Signal_>(p1.Map_.Signals.length:Int)))) (some (.out (.inr 2))) ((loop (Eu v1) ([],0)).bind fun y2=>(Ax y2 0 (p1.Map_.Lanes.length:Int)).bind fun v4=>cond (!v4) (some (.out (.inr 11))) (thenS (loop (Q3 p1 v1) 0) (fun _=>some (.go (D2 (x1+1)))) (fun r=>some (.out (.inr r)))))))) (some (.out (.inl ())))
def U0 [Lp](p1:RoadsCheck):Option Int:=
  thenS (loop (Q4 p1) 0) (fun _=>some 0) (fun r=>some r)
theorem Wo(p1 r)(h:U0 p1=some r):PCall prog 152 [(.agg (V1 p1.Map_))] (i64 r):=by
 refine C3 (fk func152 ntmps152 (fun r=>if r==15 then [1003]else []) (by with_unfolding_all rfl)) (nl W) ?_
 unfold U0 at h
 refine B4 (s0:=⟨T [(0,(.d _))],G []⟩) (G9 W W) ?_
 refine lr<|fun u1 _=>sm W<|sv W<|A2<|A6<|B1<|sq W<|sp W W<|sl W G_hit W<|sd W (E8 W)<|sv W<|A2<|js h fun z1 hz1 h=>E7 (fun s=> ∃(y1:Unit) (g1:Unit),z1= .inl y1∧Sb ⟨T [],G []⟩ s) ?_ ?_
 refine A8<|G6 (Q4 p1) (fun (x1:Int) (g2:Unit)=>⟨T [(1,(.ptr (1,u1) 0)),(13,(dl Fu p1.Map_.Zones)),(14,(di (p1.Map_.Zones.length:Int))),(15,(di x1))],G [((1,u1),some<|.box 212 (N4 p1.Map_))]⟩) 0 () _ hz1 (G9 W W) ?_
 intro x1 g2 z2 hz2 ez2
 unfold Q4 at hz2
 refine B1<|sv W<|A2<|A6<|cc W hz2 (fun c1 hz2=> ?_)<|fun c1 hz2=> ?_
 refine A9<|A6<|A8<|lr<|fun u4 _=>bs hz2 fun v1 hv1 hz2=>sd W (E2 W W hv1 W)<|sd W (E4 W hv1 W W)<|sm W<|V5 W G_hit [(dl Df v1.Parts),(di v1.Signal_)] W (A2<|A6<|B1<|sq W<|sl W G_hit W<|sd W (E8 W)<|sv W<|A2<|A8<|B1<|sv W<|sv W<|sv W<|A2<|cc W hz2 (fun c2 hz2=> ?_)<|fun c2 hz2=> ?_)
 refine B1<|sv W<|A2<|B2 ?_
 cases hz2
 obtain rfl:=ez2 _ rfl
 refine ⟨nofun,H4 ?_⟩
 rw [wE]at h
 cases h
 exact A7 (.inr W) (B6 (B3 W) C1) (.refl _)
 refine B1<|sv W<|sv W<|sv W<|A2<|cc W hz2 (fun c3 hz2=> ?_)<|fun c3 hz2=> ?_
 refine B1<|sv W<|A2<|B2 ?_
 cases hz2
 obtain rfl:=ez2 _ rfl
 refine ⟨nofun,H4 ?_⟩
 rw [wE]at h
 cases h
 exact A7 (.inr W) (B6 (B3 W) C1) (.refl _)
 refine B1<|sq W<|sl W G_hit W<|sv W<|sv W<|gp W (N5 W) (fun _=>W) (gf W (vl W G_hit W)<|gp W (N5 W) (fun _=>W) ?_)
 refine U8 _ (.ptr _ _) W (N5 W) (fun w4=>(by simp only [A5 w4];rfl)) ?_
 refine gf W (vl W (gq W) W)<|gf W (fun w6=>(E8<|A5 w6))<|gf W (fun w7=>(S9 (A5 w7) (A5 w7) W))<|sd W (T5 W W<|fun hc=>A5<|M7 hc)<|sv W<|A2<|cc W hz2 (fun c4 hz2=> ?_)<|fun c4 hz2=> ?_
 refine B1<|sv W<|A2<|B2 ?_
 cases hz2
 obtain rfl:=ez2 _ rfl
 refine ⟨nofun,H4 ?_⟩
 rw [wE]at h
 cases h
 exact A7 (.inr W) (B6 (B3 W) C1) (.refl _)
 refine A9<|F9<|B1<|sv W<|A2<|A6<|B1<|sq W<|sl W G_hit W<|sd W (E8 W)<|sv W<|A2<|bs hz2 fun y2 hy2 hz2=>E7 (fun s=> ∃g3:Nat,Sb ⟨T [(1,(.ptr (1,u1) 0)),(4,(.ptr (4,u4) 0)),(6,(oS y2 (52,g3))),(13,(dl Fu p1.Map_.Zones)),(14,(di (p1.Map_.Zones.length:Int))),(15,(di x1))],G [((1,u1),some<|.box 212 (N4 p1.Map_)),((4,u4),some<|.box 117 [(dl Df v1.Parts),(di v1.Signal_)]),((52,g3),oB 3 1 A4 y2)]⟩ s) ?_ ?_
 refine A8<|G6 (Eu v1) (fun (x2:((List Int)×Int)) (g4:Nat)=>⟨T [(1,(.ptr (1,u1) 0)),(4,(.ptr (4,u4) 0)),(6,(oS x2.1 (52,g4))),(13,(dl Fu p1.Map_.Zones)),(14,(di (p1.Map_.Zones.length:Int))),(15,(di x1)),(42,(dl Df v1.Parts)),(43,(di (v1.Parts.length:Int))),(44,(di x2.2))],G [((1,u1),some<|.box 212 (N4 p1.Map_)),((4,u4),some<|.box 117 [(dl Df v1.Parts),(di v1.Signal_)]),((52,g4),oB 3 1 A4 x2.1)]⟩) ([],0) 0 _ hy2 (F6 (Dv W)<|sg W<|B5 G_hit (.of W)<|T8 trivial) ?_
 intro x2 g4 z3 hz3 ez3
 unfold Eu at hz3
 refine B1<|sv W<|A2<|A6<|cc W hz3 (fun c5 hz3=> ?_)<|fun c5 hz3=> ?_
 refine A9<|A6<|A8<|B1<|bs hz3 fun v2 hv2 hz3=>sd W (E2 W W hv2 W)<|sd W (E4 W hv2 W W)<|sm W<|V5 W G_hit (HR v2) W (A2<|Cd fun u16 _=>C0 (oS x2.1 (52,g4)) W W (sq W<|sl W G_hit W<|C0 (dl A4 [v2.Lane_]) W W (bs hz3 fun _ hv3 hz3=>U7 A4 (52,g4) x2.1 v2.Lane_ [] _ (P0<|fun _=>W) W (gq W) hv3 (ss W<|A2<|F9<|C6<|sv W<|sv W<|A2<|G5 ?_))))
 cases hz3
 exact ⟨W,u16,(F6 ⟨.of W, .of W,(.of (X1<|Aj hv3).symm), .of W, .of W, .of W, .of W, .of W, .of W,trivial⟩<|sg W<|sg W<|O8 G_hit trivial)⟩
 refine D5 W ?_
 cases hz3
 obtain rfl:=ez3 _ rfl
 refine ⟨nofun,D4 W<|X2 ?_⟩
 exact ⟨g4,(F6 (Dv W)<|B5 G_hit (.of W)<|sg W<|C2 (gq W) trivial)⟩
 rintro _ ⟨g3,q1⟩
 refine B4 q1<|A6<|B1<|C0 (oS y2 (52,g3)) W W (sq W<|sp W W<|sl W G_hit W<|sd W (E8 W)<|bs hz2 fun v4 hv4 hz2=>B0 W (E3 (X4<|gq W)<|rD<|rD G2) (.cons X3 (.cons (.refl _) A3)) (Og _ _ _ _ hv4) (.inr W) (C0 (.d (bo (!v4))) W W (A2<|cc W hz2 (fun c6 hz2=> ?_)<|fun c6 hz2=> ?_)))
 refine B1<|sv W<|A2<|B2 ?_
 cases hz2
 obtain rfl:=ez2 _ rfl
 refine ⟨nofun,H4 ?_⟩
 rw [wE]at h
 cases h
 exact A7 (.inr W) (B6 (B3 W) C1) (.refl _)
 refine A9<|B1<|sq W<|sl W (gq W) W (sd W (E8 W)<|sv W<|A2<|js hz2 fun z4 hz4 hz2=>E7 (fun s=> ∃(y3:Unit) (g5:Unit),z4= .inl y3∧Sb ⟨T [(1,(.ptr (1,u1) 0)),(13,(dl Fu p1.Map_.Zones)),(14,(di (p1.Map_.Zones.length:Int))),(15,(di x1))],G [((1,u1),some<|.box 212 (N4 p1.Map_))]⟩ s) ?_ ?_)
 refine A8<|G6 (Q3 p1 v1) (fun (x3:Int) (g6:Unit)=>⟨T [(1,(.ptr (1,u1) 0)),(13,(dl Fu p1.Map_.Zones)),(14,(di (p1.Map_.Zones.length:Int))),(15,(di x1)),(62,(dl Df v1.Parts)),(63,(di (v1.Parts.length:Int))),(64,(di x3))],G [((1,u1),some<|.box 212 (N4 p1.Map_))]⟩) 0 () _ hz4 (G9 W W) ?_
 intro x3 g6 z5 hz5 ez5
 unfold Q3 at hz5
 refine B1<|sv W<|A2<|A6<|cc W hz5 (fun c7 hz5=> ?_)<|fun c7 hz5=> ?_
 refine A9<|A6<|A8<|B1<|bs hz5 fun v5 hv5 hz5=>sd W (E2 W W hv5 W)<|sd W (E4 W hv5 W W)<|sm W<|V5 W G_hit (HR v5) W (A2<|A6<|J0 W<|sq W<|sl W G_hit W<|sv W<|sv W<|gp W (N5 W) (fun _=>W) (gf W (vl W G_hit W)<|gp W (N5 W) (fun _=>W) (gf W (vl W G_hit W)<|gf W (fun w12=>(S9 (A5 w12) (A5 w12) W))<|sd W (T5 W W<|fun hc=>A5<|M7 hc)<|sv W<|gp W (N5 W) (fun _=>W) (gf W (vl W G_hit W)<|gp W (N5 W) (fun _=>W) (gf W (fun w16=>(B7 (A5 w16) (gq W) W W))<|gp W (N5 W) (fun _=>W) (gf W (vl W G_hit W)<|bs hz5 fun v6 hv6 hz5=> ?_))))))
 refine P3 _ (i64 v6) (N5 W) (fun w19=>⟨_,[(.d (.agg (V1 p1.Map_))),(di v5.Lane_)],_,_,(by simp only [A5 w19];rfl),W,A3,No _ _ _<|D3 w19 hv6,(.inl W)⟩) ?_
 refine gf W (fun w20=>(S9 (A5 w20) (A5 w20) W))<|sd W (T5 W W<|fun hc=>A5<|M7 hc)<|sv W<|gp W (N5 W) (fun _=>W) (gf W (vl W G_hit W)<|gf W (vb W W W)<|sd W (T5 W W<|fun hc=>A5<|M7 hc)<|sv W<|gp W (N5 W) (fun _=>W) (gf W (vl W G_hit W)<|gf W (vb W W W)<|sd W (T5 W W<|fun hc=>A5<|M7 hc)<|A2<|cc W hz5 (fun c8 hz5=> ?_)<|fun c8 hz5=> ?_))
 refine B1<|sv W<|A2<|B2 ?_
 cases hz5
 obtain rfl:=ez5 _ rfl
 refine ⟨nofun,H4 ?_⟩
 rw [wE]at hz2
 cases hz2
 obtain rfl:=ez2 _ rfl
 refine ⟨nofun,H4 ?_⟩
 rw [wE]at h
 cases h
 exact A7 (.inr W) (B6 (B3 W) C1) (.refl _)
 refine A9<|F9<|C6<|sv W<|sv W<|A2<|G5 ?_
 cases hz5
 exact ⟨W,(),(G9 W W)⟩
 refine D5 W ?_
 cases hz5
 obtain rfl:=ez5 _ rfl
 refine ⟨nofun,D4 W<|X2 ?_⟩
 exact ⟨_,(),W,(G9 W W)⟩
 rintro _ ⟨y3,g5,rfl,q2⟩
 rw [wD]at hz2
 refine F9<|B4 q2<|C6<|sv W<|sv W<|A2<|G5 ?_
 cases hz2
 exact ⟨W,(),(G9 W W)⟩
 refine D5 W ?_
 cases hz2
 obtain rfl:=ez2 _ rfl
 refine ⟨nofun,D4 W<|X2 ?_⟩
 exact ⟨_,(),W,(G9 W W)⟩
 rintro _ ⟨y1,g1,rfl,q3⟩
 rw [wD]at h
 refine B4 q3<|B1<|sv W<|A2<|B2 ?_
 cases h
 exact A7 (.inr W) (B6 (B3 W) C1) (.refl _)
def Q5 [Lp](p1:RoadsCheck)(x1:Int):Option (Stp Int (Sum Unit Int)):=
  cond (decide (x1< (p1.Map_.Works.length:Int))) ((B8 p1.Map_.Works x1).bind fun v1=>cond ((decide (v1.Lane_<0))||(decide (v1.Lane_≥(p1.Map_.Lanes.length:Int)))) (some (.out (.inr 7))) ((B8 p1.Map_.Lanes v1.Lane_).bind fun v2=>(Er v2.Kind).bind fun v3=>((cond (!((decide (v1.From<0))||(decide (v1.From>v1.To)))) (Ca p1.Map_ v1.Lane_) (some default))).bind fun v4=>((cond (!((((((decide (v1.From<0))||(decide (v1.From>v1.To)))||(decide (v1.To>v4)))||(decide (v1.Begin<0)))||(decide (v1.Begin≥v1.End)))||(decide (v1.End>1099511627776)))) (Cj v1.Limit 0 v3.1) (some default))).bind fun v5=>cond (((((((decide (v1.From<0))||(decide (v1.From>v1.To)))||(decide (v1.To>v4)))||(decide (v1.Begin<0)))||(decide (v1.Begin≥v1.End)))||(decide (v1.End>1099511627776)))||(!v5)) (some (.out (.inr 2))) (some (.go (D2 (x1+1)))))) (some (.out (.inl ())))
def U1 [Lp](p1:RoadsCheck):Option Int:=
  thenS (loop (Q5 p1) 0) (fun _=>some 0) (fun r=>some r)
theorem Wq(p1 r)(h:U1 p1=some r):PCall prog 153 [(.agg (V1 p1.Map_))] (i64 r):=by
 refine C3 (fk func153 ntmps153 m0 (by with_unfolding_all rfl)) (nl W) ?_
 unfold U1 at h
 refine B4 (s0:=⟨T [(0,(.d _))],G []⟩) (G9 W W) ?_
 refine lr<|fun u1 _=>sm W<|sv W<|A2<|A6<|B1<|sq W<|sp W W<|sl W G_hit W<|sd W (E8 W)<|sv W<|A2<|js h fun z1 hz1 h=>E7 (fun s=> ∃(y1:Unit) (g1:Unit),z1= .inl y1∧Sb ⟨T [],G []⟩ s) ?_ ?_
 refine A8<|G6 (Q5 p1) (fun (x1:Int) (g2:Unit)=>⟨T [(1,(.ptr (1,u1) 0)),(10,(dl Sl p1.Map_.Works)),(11,(di (p1.Map_.Works.length:Int))),(12,(di x1))],G [((1,u1),some<|.box 212 (N4 p1.Map_))]⟩) 0 () _ hz1 (G9 W W) ?_
 intro x1 g2 z2 hz2 ez2
 unfold Q5 at hz2
 refine B1<|sv W<|A2<|A6<|cc W hz2 (fun c1 hz2=> ?_)<|fun c1 hz2=> ?_
 refine A9<|A6<|A8<|B1<|bs hz2 fun v1 hv1 hz2=>sd W (E2 W W hv1 W)<|sd W (E4 W hv1 W W)<|sm W<|V5 W G_hit (mQ v1) W (A2<|A6<|B1<|sq W<|sl W G_hit W<|sv W<|sv W<|gp W (N5 W) (fun _=>W) (gf W (vl W G_hit W)<|gp W (N5 W) (fun _=>W) ?_))
 refine U8 _ (.ptr _ _) W (N5 W) (fun w4=>(by simp only [A5 w4];rfl)) ?_
 refine gf W (vl W (gq W) W)<|gf W (fun w6=>(E8<|A5 w6))<|gf W (fun w7=>(S9 (A5 w7) (A5 w7) W))<|sd W (T5 W W<|fun hc=>A5<|M7 hc)<|A2<|cc W hz2 (fun c2 hz2=> ?_)<|fun c2 hz2=> ?_
 refine B1<|sv W<|A2<|B2 ?_
 cases hz2
 obtain rfl:=ez2 _ rfl
 refine ⟨nofun,H4 ?_⟩
 rw [wE]at h
 cases h
 exact A7 (.inr W) (B6 (B3 W) C1) (.refl _)
 refine A9<|B1<|sq W<|sp W W<|sl W (gq W) W (sq W<|sl W G_hit W<|bs hz2 fun _ hv2 hz2=>sd W (E2 W W hv2 W)<|sv W<|sd W (H5 W hv2 W)<|bs hz2 fun v3 hv3 hz2=>B0 W W A3 (Ko _ _ hv3) (.inl W) (sv W<|sv W<|sv W<|sv W<|sv W<|sv W<|sv W<|A2<|A6<|J0 W<|sq W<|sl W G_hit W<|sv W<|sv W<|gp W (N5 W) (fun _=>W) (gf W (vl W G_hit W)<|gp W (N5 W) (fun _=>W) (gf W (vl W G_hit W)<|gf W (fun w12=>(S9 (A5 w12) (A5 w12) W))<|sd W (T5 W W<|fun hc=>A5<|M7 hc)<|sv W<|gp W (N5 W) (fun _=>W) (gf W (vl W G_hit W)<|gp W (N5 W) (fun _=>W) (gf W (fun w16=>(B7 (A5 w16) (gq W) W W))<|gp W (N5 W) (fun _=>W) (gf W (vl W G_hit W)<|bs hz2 fun v4 hv4 hz2=> ?_)))))))
 refine P3 _ (i64 v4) (N5 W) (fun w19=>⟨_,[(.d (.agg (V1 p1.Map_))),(di v1.Lane_)],_,_,(by simp only [A5 w19];rfl),W,A3,No _ _ _<|D3 w19 hv4,(.inl W)⟩) ?_
 refine gf W (fun w20=>(S9 (A5 w20) (A5 w20) W))<|sd W (T5 W W<|fun hc=>A5<|M7 hc)<|sv W<|gp W (N5 W) (fun _=>W) (gf W (vl W G_hit W)<|gf W (vb W W W)<|sd W (T5 W W<|fun hc=>A5<|M7 hc)<|sv W<|gp W (N5 W) (fun _=>W) (gf W (vl W G_hit W)<|gp W (N5 W) (fun _=>W) (gf W (vl W G_hit W)<|gf W (fun w28=>(S9 (A5 w28) (A5 w28) W))<|sd W (T5 W W<|fun hc=>A5<|M7 hc)<|sv W<|gp W (N5 W) (fun _=>W) (gf W (vl W G_hit W)<|gf W (vb W W W)<|sd W (T5 W W<|fun hc=>A5<|M7 hc)<|sv W<|gp W (N5 W) (fun _=>W) (gf W (vl W G_hit W)<|gf W (fun _=>W)<|bs hz2 fun v5 hv5 hz2=> ?_)))))
 refine P3 _ (bo v5) (N5 W) (fun w35=>⟨_,[(di v1.Limit),(di 0),(di v3.1)],_,_,(by simp only [A5 w35];rfl),W,A3,Ed _ _ _ _<|D3 w35 hv5,(.inl W)⟩) ?_
 refine U8 _ (.d (bo (!v5))) W (N5 W) (fun w36=>(by simp only [A5 w36];rfl)) ?_
 refine sd W (T5 W W<|fun hc=>A5<|M7 hc)<|A2<|cc W hz2 (fun c3 hz2=> ?_)<|fun c3 hz2=> ?_
 refine B1<|sv W<|A2<|B2 ?_
 cases hz2
 obtain rfl:=ez2 _ rfl
 refine ⟨nofun,H4 ?_⟩
 rw [wE]at h
 cases h
 exact A7 (.inr W) (B6 (B3 W) C1) (.refl _)
 refine A9<|F9<|C6<|sv W<|sv W<|A2<|G5 ?_
 cases hz2
 exact ⟨W,(),(G9 W W)⟩
 refine D5 W ?_
 cases hz2
 obtain rfl:=ez2 _ rfl
 refine ⟨nofun,D4 W<|X2 ?_⟩
 exact ⟨_,(),W,(G9 W W)⟩
 rintro _ ⟨y1,g1,rfl,q1⟩
 rw [wD]at h
 refine B4 q1<|B1<|sv W<|A2<|B2 ?_
 cases h
 exact A7 (.inr W) (B6 (B3 W) C1) (.refl _)
def R8 [Lp](v:Nat)(p1:RoadsCheck):Option Int:=
  cond (Nat.beq v 148) (Ac p1) (cond (Nat.beq v 149) (T9 p1) (cond (Nat.beq v 150) (S6 p1) (cond (Nat.beq v 151) (R4 p1) (cond (Nat.beq v 152) (U0 p1) (cond (Nat.beq v 153) (U1 p1) (none))))))
theorem Nx(v p1 r)(h:R8 v p1=some r):PCall prog v [(.agg [(i64 p1.Map_.Version),(.list (List.map Ft p1.Map_.Lanes)),(.list (List.map Fu p1.Map_.Zones)),(.list (List.map Lw p1.Map_.Signals)),(.list (List.map Sl p1.Map_.Works))])] (i64 r):=by
  unfold R8 at h
  rcases DK h with ⟨rfl,h⟩|⟨_,h⟩
  ·exact Tt _ r h
  rcases DK h with ⟨rfl,h⟩|⟨_,h⟩
  ·exact Wn _ r h
  rcases DK h with ⟨rfl,h⟩|⟨_,h⟩
  ·exact Vf _ r h
  rcases DK h with ⟨rfl,h⟩|⟨_,h⟩
  ·exact Tu _ r h
  rcases DK h with ⟨rfl,h⟩|⟨_,h⟩
  ·exact Wo _ r h
  rcases DK h with ⟨rfl,h⟩|⟨_,h⟩
  ·exact Wq _ r h
  cases h
def O0 [Lp](p1:Map)(x1:Int):Option (Stp Int (Sum Unit Int)):=
  cond (decide (x1< ([148,149,150,151,152,153].length:Int))) ((B8 [148,149,150,151,152,153] x1).bind fun v1=>(R8 v1 (RoadsCheck.mk p1)).bind fun v2=>cond (v2 !=0) (some (.out (.inr v2))) (some (.go (D2 (x1+1))))) (some (.out (.inl ())))
def Bl [Lp](p1:Map):Option Int:=
  thenS (loop (O0 p1) 0) (fun _=>some 0) (fun r=>some r)
theorem Pw(p1 r)(h:Bl p1=some r):PCall prog 71 [(.agg (V1 p1))] (i64 r):=by
 refine C3 (fk func71 ntmps71 (fun r=>if r==1 then [1000]else []) (by with_unfolding_all rfl)) (nl W) ?_
 unfold Bl at h
 refine B4 (s0:=⟨T [(0,(.d _))],G []⟩) (G9 W W) ?_
 refine lr<|fun u1 _=>sm W<|sv W<|A2<|A6<|B1<|C0 (dl oC [148,149,150,151,152,153]) W W (sd W (E8 W)<|sv W<|A2<|js h fun z1 hz1 h=>E7 (fun s=> ∃(y1:Unit) (g1:Unit),z1= .inl y1∧Sb ⟨T [],G []⟩ s) ?_ ?_)
 refine A8<|G6 (O0 p1) (fun (x1:Int) (g2:Unit)=>⟨T [(1,(.ptr (1,u1) 0)),(6,(dl oC [148,149,150,151,152,153])),(7,(di ([148,149,150,151,152,153].length:Int))),(8,(di x1))],G [((1,u1),some<|.box 33 (N4 p1))]⟩) 0 () _ hz1 (G9 W W) ?_
 intro x1 g2 z2 hz2 ez2
 unfold O0 at hz2
 refine B1<|sv W<|A2<|A6<|cc W hz2 (fun c1 hz2=> ?_)<|fun c1 hz2=> ?_
 refine A9<|A6<|A8<|B1<|bs hz2 fun _ hv1 hz2=>sd W (E2 W W hv1 W)<|sd W (H5 W hv1 W)<|sv W<|A2<|B1<|sv W<|sd W (B7 W G_hit W W)<|sv W<|bs hz2 fun _ hv2 hz2=>B0 W W A3 (Nx _ _ _ hv2) (.inl W) (sv W<|A2<|B1<|sv W<|sv W<|A2<|cc W hz2 (fun c2 hz2=> ?_)<|fun c2 hz2=> ?_)
 refine B1<|sv W<|sv W<|A2<|B2 ?_
 cases hz2
 obtain rfl:=ez2 _ rfl
 refine ⟨nofun,H4 ?_⟩
 rw [wE]at h
 cases h
 exact A7 (.inr W) (B6 (B3 W) C1) (.refl _)
 refine A9<|F9<|C6<|sv W<|sv W<|A2<|G5 ?_
 cases hz2
 exact ⟨W,(),(G9 W W)⟩
 refine D5 W ?_
 cases hz2
 obtain rfl:=ez2 _ rfl
 refine ⟨nofun,D4 W<|X2 ?_⟩
 exact ⟨_,(),W,(G9 W W)⟩
 rintro _ ⟨y1,g1,rfl,q1⟩
 rw [wD]at h
 refine B4 q1<|B1<|sv W<|A2<|B2 ?_
 cases h
 exact A7 (.inr W) (B6 (B3 W) C1) (.refl _)
def R9 (p1:(List Int))(p2:Int)(x1:Int):Option (Stp Int (Sum Unit Int)):=
  cond (decide (x1< (p1.length:Int))) ((B8 p1 x1).bind fun v1=>cond (p2==v1) (some (.out (.inr x1))) (some (.go (D2 (x1+1))))) (some (.out (.inl ())))
def Q6 [Lp](p1:(List Int))(p2:Int):Option Int:=
  thenS (loop (R9 p1 p2) 0) (fun _=>some (-1)) (fun r=>some r)
theorem Lf(p1 p2 r)(h:Q6 p1 p2=some r):PCall prog 244 [(.list (List.map A4 p1)),(i64 p2)] (i64 r):=by
 refine C3 (fk func244 ntmps244 m0 (by with_unfolding_all rfl)) (nl W) ?_
 unfold Q6 at h
 refine B4 (s0:=⟨T [(0,(.d _)),(1,(.d _))],G []⟩) (G9 W W) ?_
 refine B1<|sv W<|A2<|A6<|B1<|sv W<|sd W (E8 W)<|sv W<|A2<|js h fun z1 hz1 h=>E7 (fun s=> ∃(y1:Unit) (g1:Unit),z1= .inl y1∧Sb ⟨T [],G []⟩ s) ?_ ?_
 refine A8<|G6 (R9 p1 p2) (fun (x1:Int) (g2:Unit)=>⟨T [(0,(dl A4 p1)),(1,(di p2)),(7,(di (p1.length:Int))),(8,(di x1))],G []⟩) 0 () _ hz1 (G9 W W) ?_
 intro x1 g2 z2 hz2 ez2
 unfold R9 at hz2
 refine B1<|sv W<|A2<|A6<|cc W hz2 (fun c1 hz2=> ?_)<|fun c1 hz2=> ?_
 refine A9<|A6<|A8<|B1<|sv W<|sv W<|A2<|B1<|sv W<|sv W<|sv W<|bs hz2 fun _ hv1 hz2=>sd W (E2 W W hv1 W)<|sd W (H5 W hv1 W)<|sv W<|A2<|cc W hz2 (fun c2 hz2=> ?_)<|fun c2 hz2=> ?_
 refine B1<|sv W<|sv W<|A2<|B2 ?_
 cases hz2
 obtain rfl:=ez2 _ rfl
 refine ⟨nofun,H4 ?_⟩
 rw [wE]at h
 cases h
 exact A7 (.inr W) (B6 (B3 W) C1) (.refl _)
 refine A9<|F9<|C6<|sv W<|sv W<|A2<|G5 ?_
 cases hz2
 exact ⟨W,(),(G9 W W)⟩
 refine D5 W ?_
 cases hz2
 obtain rfl:=ez2 _ rfl
 refine ⟨nofun,D4 W<|X2 ?_⟩
 exact ⟨_,(),W,(G9 W W)⟩
 rintro _ ⟨y1,g1,rfl,q1⟩
 rw [wD]at h
 refine B4 q1<|B1<|sv W<|A2<|B2 ?_
 cases h
 exact A7 (.inr W) (B6 (B3 W) C1) (.refl _)
def M8 [Lp](p1:(List Int))(p2:Int):Option Bool:=
  (Q6 p1 p2).bind fun v1=>some (decide (v1≥0))
theorem Dl(p1 p2 r)(h:M8 p1 p2=some r):PCall prog 215 [(.list (List.map A4 p1)),(i64 p2)] (bo r):=by
 refine C3 (fk func215 ntmps215 m0 (by with_unfolding_all rfl)) (nl W) ?_
 unfold M8 at h
 refine B4 (s0:=⟨T [(0,(.d _)),(1,(.d _))],G []⟩) (G9 W W) ?_
 refine B1<|sv W<|A2<|B1<|sv W<|sv W<|bs h fun _ hv1 h=>B0 W W A3 (Lf _ _ _ hv1) (.inl W) (sv W<|sv W<|A2<|B2 ?_)
 cases h
 exact A7 (.inr W) (B6 (B3 W) C1) (.refl _)
def Af [Lp](p1:Map)(p2:Int)(x1:((List Int)×Int)):Option (Stp ((List Int)×Int) (List Int)):=
  cond (decide (x1.2< (p1.Lanes.length:Int))) ((B8 p1.Lanes x1.2).bind fun v1=>(M8 v1.Next p2).bind fun v2=>cond v2 ((Bj x1.1 [x1.2]).bind fun v3=>some (.go (v3,(D2 (x1.2+1))))) (some (.go (x1.1,(D2 (x1.2+1)))))) (some (.out x1.1))
def Ev [Lp](p1:Map)(p2:Int):Option (List Int):=
  (loop (Af p1 p2) ([],0)).bind fun y1=>some y1
theorem FL(p1 p2 r)(h:Ev p1 p2=some r):PCall prog 214 [(.agg (V1 p1)),(i64 p2)] (.list (List.map A4 r)):=by
 refine C3 (fk func214 ntmps214 (fun r=>if r==6 then [1002]else []) (by with_unfolding_all rfl)) (nl W) ?_
 unfold Ev at h
 refine B4 (s0:=⟨T [(0,(.d _)),(1,(.d _))],G []⟩) (G9 W W) ?_
 refine B1<|sm W<|sv W<|A2<|B1<|sv W<|A2<|A6<|B1<|sq W<|sl W G_hit W<|sd W (E8 W)<|sv W<|A2<|bs h fun y1 hy1 h=>E7 (fun s=> ∃g1:Nat,Sb ⟨T [(5,(oS y1 (23,g1)))],G [((23,g1),oB 3 1 A4 y1)]⟩ s) ?_ ?_
 refine A8<|G6 (Af p1 p2) (fun (x1:((List Int)×Int)) (g2:Nat)=>⟨T [(1,(di p2)),(5,(oS x1.1 (23,g2))),(9,(dl Ft p1.Lanes)),(10,(di (p1.Lanes.length:Int))),(11,(di x1.2))],G [((23,g2),oB 3 1 A4 x1.1)]⟩) ([],0) 0 _ hy1 (F6 (Dv W)<|T8 trivial) ?_
 intro x1 g2 z1 hz1 ez1
 unfold Af at hz1
 refine B1<|sv W<|A2<|A6<|cc W hz1 (fun c1 hz1=> ?_)<|fun c1 hz1=> ?_
 refine A9<|A6<|A8<|B1<|sv W<|bs hz1 fun v1 hv1 hz1=>sd W (E2 W W hv1 W)<|sd W (E4 W hv1 W W)<|sm W<|sv W<|V5 W G_hit (BX v1) W (A2<|B1<|sq W<|sl W G_hit W<|sv W<|bs hz1 fun _ hv2 hz1=>B0 W W A3 (Dl _ _ _ hv2) (.inl W) (A2<|cc W hz1 (fun c2 hz1=> ?_)<|fun c2 hz1=> ?_))
 refine Cd fun u7 _=>C0 (oS x1.1 (23,g2)) W W (sv W<|C0 (dl A4 [x1.2]) W W (bs hz1 fun _ hv3 hz1=>U7 A4 (23,g2) x1.1 x1.2 [] _ (P0<|fun _=>W) W (gq W) hv3 (ss W<|A2<|F9<|C6<|sv W<|sv W<|A2<|G5 ?_)))
 cases hz1
 exact ⟨W,u7,(F6 ⟨.of W,(.of (X1<|Aj hv3).symm), .of W, .of W, .of W,trivial⟩<|O8 G_hit trivial)⟩
 refine A9<|F9<|C6<|sv W<|sv W<|A2<|G5 ?_
 cases hz1
 exact ⟨W,g2,(F6 (Dv W)<|C2 (gq W) trivial)⟩
 refine D5 W ?_
 cases hz1
 obtain rfl:=ez1 _ rfl
 refine ⟨nofun,D4 W<|X2 ?_⟩
 exact ⟨g2,(F6 ⟨.of W,trivial⟩<|C2 G_hit trivial)⟩
 rintro _ ⟨g1,q1⟩
 refine B4 q1<|B1<|C0 (oS y1 (23,g1)) W W (C0 (oS y1 (23,g1)) W W (A2<|B2 ?_))
 cases h
 exact A7 (.inr W) (B6 (B3 W)<|X4 G_hit) X3
def P4 [Lp](p1:Map)(v7:List Int)(x1:(Int×Int)):Option (Stp (Int×Int) (Sum Unit Int)):=
  cond (decide (x1.2< (v7.length:Int))) ((B8 v7 x1.2).bind fun v8=>(B8 p1.Lanes x1.1).bind fun v9=>(M8 v9.Next v8).bind fun v10=>cond (!v10) (some (.out (.inr 13))) (some (.go (v8,(D2 (x1.2+1)))))) (some (.out (.inl ())))
def V9 [Lp](p1:Map)(p2:(List Int)):Option Int:=
  (Bl p1).bind fun v1=>cond (v1 !=0) (some v1) (((cond (!(((p2.length:Int)==0)||(decide ((p2.length:Int)>8)))) (B8 p2 0) (some default))).bind fun v2=>((cond (!((((p2.length:Int)==0)||(decide ((p2.length:Int)>8)))||(decide (v2<0)))) (B8 p2 0) (some default))).bind fun v3=>((cond (!(((((p2.length:Int)==0)||(decide ((p2.length:Int)>8)))||(decide (v2<0)))||(decide (v3≥(p1.Lanes.length:Int))))) (B8 p2 0) (some default))).bind fun v4=>((cond (!(((((p2.length:Int)==0)||(decide ((p2.length:Int)>8)))||(decide (v2<0)))||(decide (v3≥(p1.Lanes.length:Int))))) (Ev p1 v4) (some default))).bind fun v5=>cond ((((((p2.length:Int)==0)||(decide ((p2.length:Int)>8)))||(decide (v2<0)))||(decide (v3≥(p1.Lanes.length:Int))))||(decide ((v5.length:Int)>0))) (some 13) ((B8 p2 0).bind fun v6=>(Yj p2 1 (p2.length:Int)).bind fun v7=>thenS (loop (P4 p1 v7) (v6,0)) (fun _=>some 0) (fun r=>some r)))
theorem Ot(p1 p2 r)(h:V9 p1 p2=some r):PCall prog 154 [(.agg (V1 p1)),(.list (List.map A4 p2))] (i64 r):=by
 refine C3 (fk func154 ntmps154 m0 (by with_unfolding_all rfl)) (nl W) ?_
 unfold V9 at h
 refine B4 (s0:=⟨T [(0,(.d _)),(1,(.d _))],G []⟩) (G9 W W) ?_
 refine lr<|fun u1 _=>sm W<|sv W<|A2<|A6<|B1<|sd W (B7 W G_hit W W)<|bs h fun _ hv1 h=>B0 W W A3 (Pw _ _ hv1) (.inl W) (sv W<|A2<|B1<|sv W<|sv W<|A2<|cc W h (fun c1 h=> ?_)<|fun c1 h=> ?_)
 refine B1<|sv W<|sv W<|A2<|B2 ?_
 cases h
 exact A7 (.inr W) (B6 (B3 W) C1) (.refl _)
 refine A9<|A6<|A6<|J0 W<|sv W<|sd W (E8 W)<|sv W<|sv W<|gf W (fun _=>W)<|gf W (fun w2=>(E8<|A5 w2))<|gf W (vb W W W)<|sd W (T5 W W<|fun hc=>A5<|M7 hc)<|sv W<|gf W (fun _=>W)<|bs h fun _ hv2 h=>gf W (fun w5=>(E2 (A5 w5) W (D3 w5 hv2) W))<|gf W (fun w6=>(H5 (A5 w6) (D3 w6 hv2) W))<|gf W (vb W W W)<|sd W (T5 W W<|fun hc=>A5<|M7 hc)<|sv W<|gf W (fun _=>W)<|bs h fun _ hv3 h=>gf W (fun w9=>(E2 (A5 w9) W (D3 w9 hv3) W))<|gf W (fun w10=>(H5 (A5 w10) (D3 w10 hv3) W))<|gp W (N5 W) (fun _=>W) (gf W (vl W G_hit W)<|gf W (fun w13=>(E8<|A5 w13))<|gf W (fun w14=>(S9 (A5 w14) (A5 w14) W))<|sd W (T5 W W<|fun hc=>A5<|M7 hc)<|sv W<|gf W (fun _=>(B7 W G_hit W W))<|gf W (fun _=>W)<|bs h fun v4 hv4 h=>gf W (fun w17=>(E2 (A5 w17) W (D3 w17 hv4) W))<|gf W (fun w18=>(H5 (A5 w18) (D3 w18 hv4) W))<|bs h fun v5 hv5 h=> ?_)
 refine P3 _ (.list (List.map A4 v5)) (N5 W) (fun w19=>⟨_,[(.d (.agg (V1 p1))),(di v4)],_,_,(by simp only [A5 w19];rfl),W,A3,FL _ _ _<|D3 w19 hv5,(.inl W)⟩) ?_
 refine gf W (fun w20=>(E8<|A5 w20))<|gf W (vb W W W)<|sd W (T5 W W<|fun hc=>A5<|M7 hc)<|A2<|cc W h (fun c2 h=> ?_)<|fun c2 h=> ?_
 refine B1<|sv W<|A2<|B2 ?_
 cases h
 exact A7 (.inr W) (B6 (B3 W) C1) (.refl _)
 refine A9<|B1<|sv W<|bs h fun v6 hv6 h=>sd W (E2 W W hv6 W)<|sd W (H5 W hv6 W)<|sv W<|A2<|A6<|B1<|sv W<|bs h fun v7 hv7 h=>sd W (mF W (fun _=>W) (nQ W) jP hv7)<|sd W (E8 W)<|sv W<|A2<|js h fun z1 hz1 h=>E7 (fun s=> ∃(y1:Unit) (g1:Unit),z1= .inl y1∧Sb ⟨T [],G []⟩ s) ?_ ?_
 refine A8<|G6 (P4 p1 v7) (fun (x1:(Int×Int)) (g2:Unit)=>⟨T [(2,(.ptr (2,u1) 0)),(6,(di x1.1)),(50,(dl A4 v7)),(51,(di (v7.length:Int))),(52,(di x1.2))],G [((2,u1),some<|.box 33 (N4 p1))]⟩) (v6,0) () _ hz1 (G9 W W) ?_
 intro x1 g2 z2 hz2 ez2
 unfold P4 at hz2
 refine B1<|sv W<|A2<|A6<|cc W hz2 (fun c3 hz2=> ?_)<|fun c3 hz2=> ?_
 refine A9<|A6<|A8<|B1<|bs hz2 fun _ hv8 hz2=>sd W (E2 W W hv8 W)<|sd W (H5 W hv8 W)<|sv W<|A2<|A6<|B1<|sq W<|sl W G_hit W<|sv W<|bs hz2 fun _ hv9 hz2=>sd W (E2 W W hv9 W)<|sv W<|sd W (H5 W hv9 W)<|sv W<|bs hz2 fun v10 hv10 hz2=>B0 W W A3 (Dl _ _ _ hv10) (.inl W) (C0 (.d (bo (!v10))) W W (A2<|cc W hz2 (fun c4 hz2=> ?_)<|fun c4 hz2=> ?_))
 refine B1<|sv W<|A2<|B2 ?_
 cases hz2
 obtain rfl:=ez2 _ rfl
 refine ⟨nofun,H4 ?_⟩
 rw [wE]at h
 cases h
 exact A7 (.inr W) (B6 (B3 W) C1) (.refl _)
 refine A9<|C6<|sv W<|sv W<|A2<|F9<|C6<|sv W<|sv W<|A2<|G5 ?_
 cases hz2
 exact ⟨W,(),(G9 W W)⟩
 refine D5 W ?_
 cases hz2
 obtain rfl:=ez2 _ rfl
 refine ⟨nofun,D4 W<|X2 ?_⟩
 exact ⟨_,(),W,(G9 W W)⟩
 rintro _ ⟨y1,g1,rfl,q1⟩
 rw [wD]at h
 refine B4 q1<|B1<|sv W<|A2<|B2 ?_
 cases h
 exact A7 (.inr W) (B6 (B3 W) C1) (.refl _)
def V6 [Lp](p1:Map)(p2:(List Int))(x1:(Int× ((List Int)×Int))):Option (Stp (Int× ((List Int)×Int)) ((List Int)×Int)):=
  cond (decide (x1.1< (p2.length:Int))) ((B8 p2 x1.1).bind fun v2=>(Bj x1.2.1 [x1.2.2]).bind fun v3=>(Ca p1 v2).bind fun v4=>some (.go ((D2 (x1.1+1)),(v3,(D2 (x1.2.2+v4)))))) (some (.out x1.2))
def Z2 [Lp](p1:Map)(p2:(List Int)):Option RoadsWay:=
  (V9 p1 p2).bind fun v1=>cond (v1 !=0) (some (RoadsWay.mk (Map.mk 0 [] [] [] []) [] [] 0)) ((loop (V6 p1 p2) (0,([],0))).bind fun y1=>some (RoadsWay.mk p1 p2 y1.1 y1.2))
theorem Kp(p1 p2 r)(h:Z2 p1 p2=some r):PCall prog 205 [(.agg (V1 p1)),(.list (List.map A4 p2))] (.agg (WX r)):=by
 refine C3 (fk func205 ntmps205 (fun r=>if r==7 then [1004]else []) (by with_unfolding_all rfl)) (nl W) ?_
 unfold Z2 at h
 refine B4 (s0:=⟨T [(0,(.d _)),(1,(.d _))],G []⟩) (G9 W W) ?_
 refine lr<|fun u1 _=>sm W<|sm W<|A2<|A6<|B1<|sd W (B7 W (gq W) W W)<|sv W<|bs h fun _ hv1 h=>B0 W W A3 (Ot _ _ _ hv1) (.inl W) (sv W<|A2<|cc W h (fun c1 h=> ?_)<|fun c1 h=> ?_)
 refine B1<|sv W<|V5 W G_hit [(di 0),(.d .nilS),(.d .nilS),(.d .nilS),(.d .nilS),(.d .nilS),(.d .nilS),(di 0)] W (A2<|B2 ?_)
 cases h
 exact A7 (.inr W) (B6 (M1 W G_hit (nl W) W) C1) (.agg (ca W<|.cons ⟨DLe.nil,W⟩ (.cons ⟨DLe.nil,W⟩ (.cons ⟨DLe.nil,W⟩ (.cons ⟨DLe.nil,W⟩ (.cons ⟨DLe.nil,W⟩ (.cons ⟨DLe.nil,W⟩ (cz W))))))))
 refine A9<|lr<|fun u4 _=>sd W (B7 W (gq W) W W)<|sv W<|sv W<|sm W<|V5 W G_hit ((N4 p1)++ [(dl A4 p2),(.d .nilS),(di 0)]) W (A2<|A6<|B1<|sv W<|sd W (E8 W)<|sv W<|A2<|bs h fun y1 hy1 h=>E7 (fun s=> ∃g1:Nat,Sb ⟨T [(4,(.ptr (4,u1) 0)),(5,(.ptr (5,u4) 0))],G [((4,u1),some<|.box 260 [(di 0),(.d .nilS),(.d .nilS),(.d .nilS),(.d .nilS),(.d .nilS),(.d .nilS),(di 0)]),((5,u4),some<|.box 260 ((N4 p1)++ [(dl A4 p2),(oS y1.1 (27,g1)),(di y1.2)])),((27,g1),oB 2 1 A4 y1.1)]⟩ s) ?_ ?_)
 refine A8<|G6 (V6 p1 p2) (fun (x1:(Int× ((List Int)×Int))) (g2:Nat)=>⟨T [(2,(.ptr (2,u1) 0)),(4,(.ptr (4,u1) 0)),(5,(.ptr (5,u4) 0)),(16,(dl A4 p2)),(17,(di (p2.length:Int))),(18,(di x1.1))],G [((2,u1),some<|.box 33 (N4 p1)),((4,u1),some<|.box 260 [(di 0),(.d .nilS),(.d .nilS),(.d .nilS),(.d .nilS),(.d .nilS),(.d .nilS),(di 0)]),((5,u4),some<|.box 260 ((N4 p1)++ [(dl A4 p2),(oS x1.2.1 (27,g2)),(di x1.2.2)])),((27,g2),oB 2 1 A4 x1.2.1)]⟩) (0,([],0)) 0 _ hy1 (F6 (Dv W)<|sg W<|sg W<|B5 G_hit (.of W)<|T8 trivial) ?_
 intro x1 g2 z1 hz1 ez1
 unfold V6 at hz1
 refine B1<|sv W<|A2<|A6<|cc W hz1 (fun c2 hz1=> ?_)<|fun c2 hz1=> ?_
 refine A9<|A6<|A8<|B1<|bs hz1 fun _ hv2 hz1=>sd W (E2 W W hv2 W)<|sd W (H5 W hv2 W)<|sv W<|A2<|lr<|fun u8 _=>sq W<|C0 (oS x1.2.1 (27,g2)) W (U5 W (gq W) W) (sq W<|sl W (gq W) W (C0 (dl A4 [x1.2.2]) W W (bs hz1 fun _ hv3 hz1=>U7 A4 (27,g2) x1.2.1 x1.2.2 [] _ (P0<|fun _=>W) W (gq W) hv3 (sq W<|V5 W (gq W) ((N4 p1)++ [(dl A4 p2),(.sl (27,u8)),(di x1.2.2)]) W (A2<|J0 W<|sq W<|sl W G_hit W<|sd W (B7 W (gq W) W W)<|sv W<|bs hz1 fun v4 hv4 hz1=>B0 W W A3 (No _ _ _ hv4) (.inl W) (sv W<|sq W<|V5 W G_hit ((N4 p1)++ [(dl A4 p2),(.sl (27,u8)),(di<|D2 (x1.2.2+v4))]) W (A2<|F9<|C6<|sv W<|sv W<|A2<|G5 ?_)))))))
 cases hz1
 exact ⟨W,u8,(F6 (Dv W)<|sg W<|sg W<|B5 G_hit (.box (cv<|cv<|cv<|cv<|cv<|cv<|.cons (.of (X1<|Aj hv3).symm) cw))<|O8 (gq W) trivial)⟩
 refine D5 W ?_
 cases hz1
 obtain rfl:=ez1 _ rfl
 refine ⟨nofun,D4 W<|X2 ?_⟩
 exact ⟨g2,(F6 (Dv W)<|sg W<|sg W<|C2 (gq W) trivial)⟩
 rintro _ ⟨g1,q1⟩
 refine B4 q1<|B1<|C0 (Ak ((N4 p1)++ [(dl A4 p2),(oS y1.1 (27,g1)),(di y1.2)])) W (B7 W (gq W) W W) (Nn _ _ _ _ _ (Aw _) W W G_hit (nl W) ((N4 p1)++ [(dl A4 p2),(oS y1.1 (27,g1)),(di y1.2)]) W (A2<|B2 ?_))
 cases h
 exact A7 (.inr W) (B6 (M1 W G_hit (nl W) W)<|Pq<|rD<|rD<|rD<|rD<|rD<|rD<|E3 (X4<|gq W)<|rD G2) (.agg (ca W<|ca W<|ca W<|ca W<|ca W<|ca W<|.cons ⟨X3,W⟩ (cz W)))
def U2 [Lp](p1:Map)(p2:(List Int)):Option Int:=
  (Z2 p1 p2).bind fun v1=>some v1.length
theorem Ny(p1 p2 r)(h:U2 p1 p2=some r):PCall prog 155 [(.agg (V1 p1)),(.list (List.map A4 p2))] (i64 r):=by
 refine C3 (fk func155 ntmps155 m0 (by with_unfolding_all rfl)) (nl W) ?_
 unfold U2 at h
 refine B4 (s0:=⟨T [(0,(.d _)),(1,(.d _))],G []⟩) (G9 W W) ?_
 refine B1<|sm W<|sv W<|A2<|B1<|sd W (B7 W G_hit W W)<|sv W<|bs h fun _ hv1 h=>B0 W W A3 (Kp _ _ _ hv1) (.inl W) (sv W<|sv W<|A2<|B2 ?_)
 cases h
 exact A7 (.inr W) (B6 (B3 W) C1) (.refl _)
def Az [Lp](p1:Map)(p2:(List Int)):Option (List Int):=
  (Z2 p1 p2).bind fun v1=>some v1.starts
theorem Oh(p1 p2 r)(h:Az p1 p2=some r):PCall prog 139 [(.agg (V1 p1)),(.list (List.map A4 p2))] (.list (List.map A4 r)):=by
 refine C3 (fk func139 ntmps139 m0 (by with_unfolding_all rfl)) (nl W) ?_
 unfold Az at h
 refine B4 (s0:=⟨T [(0,(.d _)),(1,(.d _))],G []⟩) (G9 W W) ?_
 refine B1<|sm W<|sv W<|A2<|B1<|sd W (B7 W G_hit W W)<|sv W<|bs h fun _ hv1 h=>B0 W W A3 (Kp _ _ _ hv1) (.inl W) (sv W<|sv W<|A2<|B2 ?_)
 cases h
 exact A7 (.inr W) (B6 (B3 W) C1) (.refl _)
def Ie (p2:Agent)(v1:(List Int))(x1:Int):Option (Stp Int Int):=
  (B8 v1 x1).bind fun v2=>cond (decide (v2>p2.S)) (some (.go (D2 (x1 - 1)))) (some (.out x1))
def Hc [Lp](p1:Map)(p2:Agent):Option (Int×Int):=
  (Az p1 p2.Route).bind fun v1=>(loop (Ie p2 v1) (D2 ((v1.length:Int) - 1))).bind fun y1=>(B8 p2.Route y1).bind fun v3=>(B8 v1 y1).bind fun v4=>some (v3,(D2 (p2.S - v4)))
theorem Yx(p1 p2 r)(h:Hc p1 p2=some r):PCall prog 156 [(.agg (V1 p1)),(.agg (E5 p2))] (.tup [(i64 r.1),(i64 r.2)]):=by
 refine C3 (fk func156 ntmps156 m0 (by with_unfolding_all rfl)) (nl W) ?_
 unfold Hc at h
 refine B4 (s0:=⟨T [(0,(.d _)),(1,(.d _))],G []⟩) (G9 W W) ?_
 refine lr<|fun u1 _=>sm W<|sm W<|sv W<|sv W<|A2<|B1<|sd W (B7 W (gq W) W W)<|sq W<|sl W G_hit W<|bs h fun v1 hv1 h=>B0 W W A3 (Oh _ _ _ hv1) (.inl W) (sv W<|A2<|B1<|sv W<|sd W (E8 W)<|sv W<|sv W<|A2<|A6<|bs h fun y1 hy1 h=>E7 (fun s=> ∃g1:Unit,Sb ⟨T [(3,(.ptr (3,u1) 0)),(6,(dl A4 v1)),(7,(di y1))],G [((3,u1),some<|.box 45 (X5 p2))]⟩ s) ?_ ?_)
 refine A8<|G6 (Ie p2 v1) (fun (x1:Int) (g2:Unit)=>⟨T [(3,(.ptr (3,u1) 0)),(6,(dl A4 v1)),(7,(di x1))],G [((3,u1),some<|.box 45 (X5 p2))]⟩) (D2 ((v1.length:Int) - 1)) () _ hy1 (G9 W W) ?_
 intro x1 g2 z1 hz1 ez1
 unfold Ie at hz1
 refine A6<|A6<|J0 W<|sv W<|sv W<|bs hz1 fun _ hv2 hz1=>sd W (E2 W W hv2 W)<|sd W (H5 W hv2 W)<|sq W<|sl W G_hit W<|sv W<|A2<|cc W hz1 (fun c1 hz1=> ?_)<|fun c1 hz1=> ?_
 refine A9<|A8<|C6<|sv W<|sv W<|sv W<|A2<|F9<|G5 ?_
 cases hz1
 exact ⟨W,(),(G9 W W)⟩
 refine D5 W ?_
 cases hz1
 obtain rfl:=ez1 _ rfl
 refine ⟨nofun,D4 W<|X2 ?_⟩
 exact ⟨(),(G9 W W)⟩
 rintro _ ⟨g1,q1⟩
 refine B4 q1<|A6<|J0 W<|sq W<|sl W G_hit W<|sv W<|bs h fun _ hv3 h=>sd W (E2 W W hv3 W)<|sd W (H5 W hv3 W)<|sq W<|sl W G_hit W<|sv W<|sv W<|bs h fun _ hv4 h=>sd W (E2 W W hv4 W)<|sd W (H5 W hv4 W)<|sv W<|sv W<|sv W<|A2<|B2 ?_
 cases h
 exact A7 (.inr W) (Sg (B3 W) (B3 W) C1 C1) (.refl _)
def Z3 (p1:Agent):Option WorldSpan:=
  some (WorldSpan.mk (D2 (p1.S - p1.Len)) p1.S)
theorem If(p1 r)(h:Z3 p1=some r):PCall prog 140 [(.agg (E5 p1))] (.agg [(i64 r.from_),(i64 r.to)]):=by
 refine C3 (fk func140 ntmps140 m0 (by with_unfolding_all rfl)) (nl W) ?_
 unfold Z3 at h
 refine B4 (s0:=⟨T [(0,(.d _))],G []⟩) (G9 W W) ?_
 refine B1<|sm W<|sn W W<|A2<|B1<|sq W<|sl W (gq W) W (sq W<|sl W (gq W) W (sv W<|sq W<|sl W (gq W) W (sv W<|V5 W G_hit [(di<|D2 (p1.S - p1.Len)),(di p1.S)] W (A2<|B2 ?_))))
 cases h
 exact A7 (.inr W) (B6 (M1 W G_hit (nl W) W) C1) (.refl _)
def Fj [Lp](p1:Map)(p2:Agent):Option Bool:=
  (Z3 p2).bind fun v1=>(U2 p1 p2.Route).bind fun v2=>some (decide (v1.from_>v2))
theorem Yy(p1 p2 r)(h:Fj p1 p2=some r):PCall prog 158 [(.agg (V1 p1)),(.agg (E5 p2))] (bo r):=by
 refine C3 (fk func158 ntmps158 m0 (by with_unfolding_all rfl)) (nl W) ?_
 unfold Fj at h
 refine B4 (s0:=⟨T [(0,(.d _)),(1,(.d _))],G []⟩) (G9 W W) ?_
 refine B1<|sm W<|sn W W<|sv W<|A2<|A6<|J0 W<|sd W (B7 W G_hit W W)<|bs h fun _ hv1 h=>B0 W W A3 (If _ _ hv1) (.inl W) (sv W<|sd W (B7 W (gq W) W W)<|sq W<|sl W G_hit W<|bs h fun _ hv2 h=>B0 W W A3 (Ny _ _ _ hv2) (.inl W) (sv W<|sv W<|A2<|B2 ?_))
 cases h
 exact A7 (.inr W) (B6 (B3 W) C1) (.refl _)
def Y2 [Lp](p1:Map)(p2:State)(p3:Int):Option Int:=
  (B8 p2.Agents p3).bind fun v1=>(V9 p1 v1.Route).bind fun v2=>cond (v2 !=0) (some 13) (((cond (!(((((decide (v1.Len<300))||(decide (v1.Len>20000)))||(decide (v1.Begin<0)))||(decide (v1.Begin>1099511627776)))||(decide (v1.S<0)))) (U2 p1 v1.Route) (some default))).bind fun v3=>cond ((((((decide (v1.Len<300))||(decide (v1.Len>20000)))||(decide (v1.Begin<0)))||(decide (v1.Begin>1099511627776)))||(decide (v1.S<0)))||(decide (v1.S>(D2 ((D2 (v3+v1.Len))+2000))))) (some 2) ((Hc p1 v1).bind fun v4=>(B8 p1.Lanes v4.1).bind fun v5=>(Er v5.Kind).bind fun v6=>cond ((decide (v1.V<0))||(decide (v1.V>v6.1))) (some 2) ((Fj p1 v1).bind fun v7=>cond ((!(v1.Gone==v7))||(((decide (v1.Begin>p2.Tick))&& (v1.S !=0))||((p3==0)&& (v1.Begin !=0)))) (some 10) (some 0))))
theorem Ym(p1 p2 p3 r)(h:Y2 p1 p2 p3=some r):PCall prog 72 [(.agg (V1 p1)),(.agg (Ku p2)),(i64 p3)] (i64 r):=by
 refine C3 (fk func72 ntmps72 m0 (by with_unfolding_all rfl)) (nl W) ?_
 unfold Y2 at h
 refine B4 (s0:=⟨T [(0,(.d _)),(1,(.d _)),(2,(.d _))],G []⟩) (G9 W W) ?_
 refine B1<|sm W<|sn W W<|sv W<|A2<|B1<|sq W<|sl W G_hit W<|sv W<|bs h fun v1 hv1 h=>sd W (E2 W W hv1 W)<|sd W (E4 W hv1 W W)<|sm W<|V5 W G_hit (X5 v1) W (A2<|A6<|B1<|sd W (B7 W (gq W) W W)<|sq W<|sl W G_hit W<|bs h fun _ hv2 h=>B0 W W A3 (Ot _ _ _ hv2) (.inl W) (sv W<|A2<|cc W h (fun c1 h=> ?_)<|fun c1 h=> ?_))
 refine B1<|sv W<|A2<|B2 ?_
 cases h
 exact A7 (.inr W) (B6 (B3 W) C1) (.refl _)
 refine A9<|A6<|A6<|J0 W<|sq W<|sl W G_hit W<|sv W<|sv W<|gp W (N5 W) (fun _=>W) (gf W (vl W G_hit W)<|gf W (vb W W W)<|sd W (T5 W W<|fun hc=>A5<|M7 hc)<|sv W<|gp W (N5 W) (fun _=>W) (gf W (vl W G_hit W)<|gf W (vb W W W)<|sd W (T5 W W<|fun hc=>A5<|M7 hc)<|sv W<|gp W (N5 W) (fun _=>W) (gf W (vl W G_hit W)<|gf W (vb W W W)<|sd W (T5 W W<|fun hc=>A5<|M7 hc)<|sv W<|gp W (N5 W) (fun _=>W) (gf W (vl W G_hit W)<|gf W (vb W W W)<|sd W (T5 W W<|fun hc=>A5<|M7 hc)<|sv W<|gp W (N5 W) (fun _=>W) (gf W (vl W G_hit W)<|gf W (fun _=>(B7 W (gq W) W W))<|gp W (N5 W) (fun _=>W) (gf W (vl W G_hit W)<|bs h fun v3 hv3 h=> ?_))))))
 refine P3 _ (i64 v3) (N5 W) (fun w18=>⟨_,[(.d (.agg (V1 p1))),(dl A4 v1.Route)],_,_,(by simp only [A5 w18];rfl),W,A3,Ny _ _ _<|D3 w18 hv3,(.inl W)⟩) ?_
 refine gp W (N5 W) (fun _=>W) (gf W (vl W G_hit W)<|gf W (fun w21=>(S9 (A5 w21) (A5 w21) W))<|gf W (vb W W W)<|gf W (fun w23=>(S9 (A5 w23) (A5 w23) W))<|sd W (T5 W W<|fun hc=>A5<|M7 hc)<|A2<|cc W h (fun c2 h=> ?_)<|fun c2 h=> ?_)
 refine B1<|sv W<|A2<|B2 ?_
 cases h
 exact A7 (.inr W) (B6 (B3 W) C1) (.refl _)
 refine A9<|B1<|sd W (B7 W (gq W) W W)<|sd W (B7 W G_hit W W)<|bs h fun _ hv4 h=>B0 W W A3 (Yx _ _ _ hv4) (.inl W) (sv W<|sv W<|sv W<|sv W<|sv W<|A2<|A6<|B1<|sq W<|sl W (gq W) W (sv W<|bs h fun _ hv5 h=>sd W (E2 W W hv5 W)<|sv W<|sd W (H5 W hv5 W)<|bs h fun _ hv6 h=>B0 W W A3 (Ko _ _ hv6) (.inl W) (sv W<|sv W<|sv W<|sv W<|sv W<|sv W<|sv W<|A2<|B1<|sq W<|sl W G_hit W<|sv W<|sv W<|gp W (N5 W) (fun _=>W) (gf W (vl W G_hit W)<|gf W (fun _=>W)<|gf W (fun w27=>(S9 (A5 w27) (A5 w27) W))<|sd W (T5 W W<|fun hc=>A5<|M7 hc)<|A2<|cc W h (fun c3 h=> ?_)<|fun c3 h=> ?_))))
 refine B1<|sv W<|A2<|B2 ?_
 cases h
 exact A7 (.inr W) (B6 (B3 W) C1) (.refl _)
 refine A9<|B1<|sq W<|sl W G_hit W<|sq W<|sl W (gq W) W (sv W<|sv W<|gp W (O5 W) (fun _=>W) (gt W (vl W G_hit W)<|gt W (vb W W W)<|sa W W W<|sv W<|gf W (fun _=>W)<|gf W (vb W W W)<|gf W (fun w33=>(jN<|A5 w33))<|U8 _ (.ptr _ _) W (Js W) (fun _=>W) (gv W (Js W) (vl W G_hit W) (gv W (Js W) (vb W W W) (gf W (fun w37=>(UW (A5 w37) (fun hc=>A5<|aS w37 hc) W))<|sd W (T5 W W<|fun hc=>A5<|M7 hc)<|sv W<|A2<|A6<|A6<|J0 W<|sq W<|sl W G_hit W<|sd W (B7 W (gq W) W W)<|sd W (B7 W G_hit W W)<|bs h fun v7 hv7 h=>B0 W W A3 (Yy _ _ _ hv7) (.inl W) (C0 (.d (bo (!(v1.Gone==v7)))) W W (sv W<|gf W (fun _=>W)<|sd W (T5 W W<|fun hc=>A5<|M7 hc)<|A2<|cc W h (fun c4 h=> ?_)<|fun c4 h=> ?_)))))))
 refine B1<|sv W<|A2<|B2 ?_
 cases h
 exact A7 (.inr W) (B6 (B3 W) C1) (.refl _)
 refine A9<|B1<|sv W<|A2<|B2 ?_
 cases h
 exact A7 (.inr W) (B6 (B3 W) C1) (.refl _)
def Ig (p1:Int):Option Bool:=
  some (p1 !=p1)
theorem So(p1 r)(h:Ig p1=some r):PCall prog 216 [(i64 p1)] (bo r):=by
 refine C3 (fk func216 ntmps216 m0 (by with_unfolding_all rfl)) (nl W) ?_
 unfold Ig at h
 refine B4 (s0:=⟨T [(0,(.d _))],G []⟩) (G9 W W) ?_
 refine B1<|sv W<|A2<|B1<|sv W<|sv W<|sv W<|sv W<|A2<|B2 ?_
 cases h
 exact A7 (.inr W) (B6 (B3 W) C1) (.refl _)
def W7 (p1:Int)(p2:Int):Option Int:=
  (Ig p1).bind fun v1=>(Ig p2).bind fun v2=>cond v1 (cond v2 (some 0) (some (-1))) (cond v2 (some 1) (cond (decide (p1<p2)) (some (-1)) (cond (decide (p1>p2)) (some 1) (some 0))))
theorem Hd(p1 p2 r)(h:W7 p1 p2=some r):PCall prog 160 [(i64 p1),(i64 p2)] (i64 r):=by
 refine C3 (fk func160 ntmps160 m0 (by with_unfolding_all rfl)) (nl W) ?_
 unfold W7 at h
 refine B4 (s0:=⟨T [(0,(.d _)),(1,(.d _))],G []⟩) (G9 W W) ?_
 refine B1<|sv W<|A2<|B1<|sv W<|bs h fun _ hv1 h=>B0 W W A3 (So _ _ hv1) (.inl W) (sv W<|A2<|B1<|sv W<|bs h fun _ hv2 h=>B0 W W A3 (So _ _ hv2) (.inl W) (sv W<|A2<|A6<|B1<|sv W<|A2<|cc W h (fun c1 h=> ?_)<|fun c1 h=> ?_))
 refine A6<|B1<|sv W<|A2<|cc W h (fun c2 h=> ?_)<|fun c2 h=> ?_
 refine B1<|sv W<|A2<|B2 ?_
 cases h
 exact A7 (.inr W) (B6 (B3 W) C1) (.refl _)
 refine A9<|B1<|sv W<|A2<|B2 ?_
 cases h
 exact A7 (.inr W) (B6 (B3 W) C1) (.refl _)
 refine A9<|A6<|B1<|sv W<|A2<|cc W h (fun c3 h=> ?_)<|fun c3 h=> ?_
 refine B1<|sv W<|A2<|B2 ?_
 cases h
 exact A7 (.inr W) (B6 (B3 W) C1) (.refl _)
 refine A9<|A6<|B1<|sv W<|sv W<|sv W<|A2<|cc W h (fun c4 h=> ?_)<|fun c4 h=> ?_
 refine B1<|sv W<|A2<|B2 ?_
 cases h
 exact A7 (.inr W) (B6 (B3 W) C1) (.refl _)
 refine A9<|A6<|B1<|sv W<|sv W<|sv W<|A2<|cc W h (fun c5 h=> ?_)<|fun c5 h=> ?_
 refine B1<|sv W<|A2<|B2 ?_
 cases h
 exact A7 (.inr W) (B6 (B3 W) C1) (.refl _)
 refine A9<|B1<|sv W<|A2<|B2 ?_
 cases h
 exact A7 (.inr W) (B6 (B3 W) C1) (.refl _)
def Y5 (p1:(List Int))(x1:Int):Option (Stp Int (Sum Unit Int)):=
  cond (decide (x1< (p1.length:Int))) ((B8 p1 x1).bind fun v1=>cond (v1 !=0) (some (.out (.inr v1))) (some (.go (D2 (x1+1))))) (some (.out (.inl ())))
def At [Lp](p1:(List Int)):Option Int:=
  thenS (loop (Y5 p1) 0) (fun _=>some 0) (fun r=>some r)
theorem Rt(p1 r)(h:At p1=some r):PCall prog 159 [(.list (List.map A4 p1))] (i64 r):=by
 refine C3 (fk func159 ntmps159 m0 (by with_unfolding_all rfl)) (nl W) ?_
 unfold At at h
 refine B4 (s0:=⟨T [(0,(.d _))],G []⟩) (G9 W W) ?_
 refine B1<|sv W<|A2<|B1<|sv W<|A2<|A6<|B1<|sv W<|sd W (E8 W)<|sv W<|A2<|js h fun z1 hz1 h=>E7 (fun s=> ∃(y1:Unit) (g1:Unit),z1= .inl y1∧Sb ⟨T [(3,(di 0))],G []⟩ s) ?_ ?_
 refine A8<|G6 (Y5 p1) (fun (x1:Int) (g2:Unit)=>⟨T [(3,(di 0)),(6,(dl A4 p1)),(7,(di (p1.length:Int))),(8,(di x1))],G []⟩) 0 () _ hz1 (G9 W W) ?_
 intro x1 g2 z2 hz2 ez2
 unfold Y5 at hz2
 refine B1<|sv W<|A2<|A6<|cc W hz2 (fun c1 hz2=> ?_)<|fun c1 hz2=> ?_
 refine A9<|A6<|A8<|B1<|bs hz2 fun _ hv1 hz2=>sd W (E2 W W hv1 W)<|sd W (H5 W hv1 W)<|sv W<|A2<|B1<|sv W<|sv W<|sv W<|A2<|cc W hz2 (fun c2 hz2=> ?_)<|fun c2 hz2=> ?_
 refine B1<|sv W<|sv W<|A2<|B2 ?_
 cases hz2
 obtain rfl:=ez2 _ rfl
 refine ⟨nofun,H4 ?_⟩
 rw [wE]at h
 cases h
 exact A7 (.inr W) (B6 (B3 W) C1) (.refl _)
 refine A9<|F9<|C6<|sv W<|sv W<|A2<|G5 ?_
 cases hz2
 exact ⟨W,(),(G9 W W)⟩
 refine D5 W ?_
 cases hz2
 obtain rfl:=ez2 _ rfl
 refine ⟨nofun,D4 W<|X2 ?_⟩
 exact ⟨_,(),W,(G9 W W)⟩
 rintro _ ⟨y1,g1,rfl,q1⟩
 rw [wD]at h
 refine B4 q1<|B1<|sv W<|sv W<|A2<|B2 ?_
 cases h
 exact A7 (.inr W) (B6 (B3 W) C1) (.refl _)
def Cs [Lp](p1:Stay)(p2:Stay):Option Int:=
  (W7 p1.Agent_ p2.Agent_).bind fun v1=>(W7 p1.Zone_ p2.Zone_).bind fun v2=>(At [v1,v2]).bind fun v3=>some v3
theorem Px(p1 p2 r)(h:Cs p1 p2=some r):PCall prog 73 [(.agg (K7 p1)),(.agg (K7 p2))] (i64 r):=by
 refine C3 (fk func73 ntmps73 (fun r=>if r==1 then [1010]else []) (by with_unfolding_all rfl)) (nl W) ?_
 unfold Cs at h
 refine B4 (s0:=⟨T [(0,(.d _)),(1,(.d _))],G []⟩) (G9 W W) ?_
 refine B1<|sm W<|sn W W<|sv W<|A2<|A6<|J0 W<|sq W<|sl W (gq W) W (sq W<|sl W G_hit W<|bs h fun v1 hv1 h=>B0 W W A3 (Hd _ _ _ hv1) (.inl W) (sq W<|sl W (gq W) W (sq W<|sl W G_hit W<|bs h fun v2 hv2 h=>B0 W W A3 (Hd _ _ _ hv2) (.inl W) (C0 (dl A4 [v1,v2]) W W (bs h fun _ hv3 h=>B0 W W A3 (Rt _ _ hv3) (.inl W) (sv W<|A2<|B2 ?_))))))
 cases h
 exact A7 (.inr W) (B6 (B3 W) C1) (.refl _)
def Kq (p1:Stay)(p2:State):Option Bool:=
  some ((((decide (p1.Since<0))||(decide (p1.Since>p2.Tick)))||(decide (p1.Rank<0)))||(decide (p1.Rank>100)))
theorem AF(p1 p2 r)(h:Kq p1 p2=some r):PCall prog 75 [(.agg (K7 p1)),(.bp (Ku p2) 0)] (bo r):=by
 refine C3 (fk func75 ntmps75 m0 (by with_unfolding_all rfl)) (nl W) ?_
 unfold Kq at h
 refine B4 (s0:=⟨T [(0,(.d _)),(1,(.d _))],G []⟩) (G9 W W) ?_
 refine B1<|sm W<|sv W<|A2<|B1<|sq W<|sl W G_hit W<|sv W<|sv W<|gp W (N5 W) (fun _=>W) (gf W (vl W G_hit W)<|gf W (fun _=>W) ?_)
 refine gf W (fun w4=>(by simp only [A5 w4];rfl)) ?_
 refine gf W (fun w5=>(S9 (A5 w5) (A5 w5) W))<|sd W (T5 W W<|fun hc=>A5<|M7 hc)<|sv W<|gp W (N5 W) (fun _=>W) (gf W (vl W G_hit W)<|gf W (vb W W W)<|sd W (T5 W W<|fun hc=>A5<|M7 hc)<|sv W<|gp W (N5 W) (fun _=>W) (gf W (vl W G_hit W)<|gf W (vb W W W)<|sd W (T5 W W<|fun hc=>A5<|M7 hc)<|sv W<|A2<|B2 ?_))
 cases h
 exact A7 (.inr W) (B6 (B3 W) C1) (.refl _)
def L5 (p1:(List Stay))(p2:State)(x1:Int):Option (Stp Int (Sum Unit Int)):=
  cond (decide (x1< (p1.length:Int))) ((B8 p1 x1).bind fun v1=>(Kq v1 p2).bind fun v2=>cond v2 (some (.out (.inr x1))) (some (.go (D2 (x1+1))))) (some (.out (.inl ())))
def J8 [Lp](p1:(List Stay))(p2:State):Option Int:=
  thenS (loop (L5 p1 p2) 0) (fun _=>some (-1)) (fun r=>some r)
theorem Gi(p1 p2 r)(h:J8 p1 p2=some r):PCall prog 161 [(.list (List.map K7 p1)),(.fn (.func 75) [] [(.bp (Ku p2) 0)])] (i64 r):=by
 refine C3 (fk func161 ntmps161 m0 (by with_unfolding_all rfl)) (nl W) ?_
 unfold J8 at h
 refine B4 (s0:=⟨T [(0,(.d _)),(1,(.d _))],G []⟩) (G9 W W) ?_
 refine B1<|sv W<|A2<|A6<|B1<|sv W<|sd W (E8 W)<|sv W<|A2<|js h fun z1 hz1 h=>E7 (fun s=> ∃(y1:Unit) (g1:Unit),z1= .inl y1∧Sb ⟨T [],G []⟩ s) ?_ ?_
 refine A8<|G6 (L5 p1 p2) (fun (x1:Int) (g2:Unit)=>⟨T [(0,(dl K7 p1)),(1,(.d (.fn (.func 75) [] [(.bp (Ku p2) 0)]))),(7,(di (p1.length:Int))),(8,(di x1))],G []⟩) 0 () _ hz1 (G9 W W) ?_
 intro x1 g2 z2 hz2 ez2
 unfold L5 at hz2
 refine B1<|sv W<|A2<|A6<|cc W hz2 (fun c1 hz2=> ?_)<|fun c1 hz2=> ?_
 refine A9<|A6<|A8<|B1<|sv W<|sv W<|A2<|B1<|sv W<|sv W<|sv W<|bs hz2 fun _ hv1 hz2=>sd W (E2 W W hv1 W)<|sd W (E4 W hv1 W W)<|bs hz2 fun _ hv2 hz2=>B0 W W A3 (AF _ _ _ hv2) (.inl W) (A2<|cc W hz2 (fun c2 hz2=> ?_)<|fun c2 hz2=> ?_)
 refine B1<|sv W<|sv W<|A2<|B2 ?_
 cases hz2
 obtain rfl:=ez2 _ rfl
 refine ⟨nofun,H4 ?_⟩
 rw [wE]at h
 cases h
 exact A7 (.inr W) (B6 (B3 W) C1) (.refl _)
 refine A9<|F9<|C6<|sv W<|sv W<|A2<|G5 ?_
 cases hz2
 exact ⟨W,(),(G9 W W)⟩
 refine D5 W ?_
 cases hz2
 obtain rfl:=ez2 _ rfl
 refine ⟨nofun,D4 W<|X2 ?_⟩
 exact ⟨_,(),W,(G9 W W)⟩
 rintro _ ⟨y1,g1,rfl,q1⟩
 rw [wD]at h
 refine B4 q1<|B1<|sv W<|A2<|B2 ?_
 cases h
 exact A7 (.inr W) (B6 (B3 W) C1) (.refl _)
def E9 [Lp](p1:(List Stay))(p2:State):Option Bool:=
  (J8 p1 p2).bind fun v1=>some (decide (v1≥0))
theorem Ew(p1 p2 r)(h:E9 p1 p2=some r):PCall prog 74 [(.list (List.map K7 p1)),(.fn (.func 75) [] [(.bp (Ku p2) 0)])] (bo r):=by
 refine C3 (fk func74 ntmps74 m0 (by with_unfolding_all rfl)) (nl W) ?_
 unfold E9 at h
 refine B4 (s0:=⟨T [(0,(.d _)),(1,(.d _))],G []⟩) (G9 W W) ?_
 refine B1<|sv W<|A2<|B1<|sv W<|sv W<|bs h fun _ hv1 h=>B0 W W A3 (Gi _ _ _ hv1) (.inl W) (sv W<|sv W<|A2<|B2 ?_)
 cases h
 exact A7 (.inr W) (B6 (B3 W) C1) (.refl _)
def Z4 [Lp](p1:Map)(p2:State)(x2:Int):Option (Stp Int (Sum Unit Int)):=
  cond (decide (x2< (p2.In.length:Int))) ((B8 p2.In x2).bind fun v3=>((cond ((!((((decide (v3.Agent_<0))||(decide (v3.Agent_≥(p2.Agents.length:Int))))||(decide (v3.Zone_<0)))||(decide (v3.Zone_≥(p1.Zones.length:Int)))))&& (decide (x2>0))) (B8 p2.In (D2 (x2 - 1))) (some default))).bind fun v4=>((cond ((!((((decide (v3.Agent_<0))||(decide (v3.Agent_≥(p2.Agents.length:Int))))||(decide (v3.Zone_<0)))||(decide (v3.Zone_≥(p1.Zones.length:Int)))))&& (decide (x2>0))) (Cs v4 v3) (some default))).bind fun v5=>cond (((((decide (v3.Agent_<0))||(decide (v3.Agent_≥(p2.Agents.length:Int))))||(decide (v3.Zone_<0)))||(decide (v3.Zone_≥(p1.Zones.length:Int))))||((decide (x2>0))&& (decide (v5≥0)))) (some (.out (.inr 11))) (some (.go (D2 (x2+1))))) (some (.out (.inl ())))
def Z5 [Lp](p1:Map)(p2:State)(x1:Int):Option (Stp Int (Sum Unit Int)):=
  cond (decide (x1< (p2.Agents.length:Int))) ((Y2 p1 p2 x1).bind fun v2=>cond (v2 !=0) (some (.out (.inr v2))) (some (.go (D2 (x1+1))))) (some (.out (.inl ())))
def Ct [Lp](p1:Map)(p2:State):Option Int:=
  (Bl p1).bind fun v1=>cond (v1 !=0) (some v1) (cond ((decide (p2.Tick<0))||(decide (p2.Tick>1099511627776))) (some 2) (cond ((p2.Agents.length:Int)==0) (some 6) (cond (decide ((p2.Agents.length:Int)>8)) (some 8) (thenS (loop (Z5 p1 p2) 0) (fun _=>thenS (loop (Z4 p1 p2) 0) (fun _=>(E9 p2.In p2).bind fun v6=>cond v6 (some 2) (some 0)) (fun r=>some r)) (fun r=>some r)))))
theorem Py(p1 p2 r)(h:Ct p1 p2=some r):PCall prog 24 [(.agg (V1 p1)),(.agg (Ku p2))] (i64 r):=by
 refine C3 (fk func24 ntmps24 m0 (by with_unfolding_all rfl)) (nl W) ?_
 unfold Ct at h
 refine B4 (s0:=⟨T [(0,(.d _)),(1,(.d _))],G []⟩) (G9 W W) ?_
 refine lr<|fun u1 _=>sm W<|sm W<|sv W<|A2<|A6<|B1<|sd W (B7 W (gq W) W W)<|bs h fun _ hv1 h=>B0 W W A3 (Pw _ _ hv1) (.inl W) (sv W<|A2<|B1<|sv W<|sv W<|A2<|cc W h (fun c1 h=> ?_)<|fun c1 h=> ?_)
 refine B1<|sv W<|sv W<|A2<|B2 ?_
 cases h
 exact A7 (.inr W) (B6 (B3 W) C1) (.refl _)
 refine A9<|A6<|B1<|sq W<|sl W G_hit W<|sd W (E8 W)<|sv W<|A2<|A8<|B1<|sq W<|sl W G_hit W<|sv W<|sv W<|gp W (N5 W) (fun _=>W) (gf W (vl W G_hit W)<|gf W (vb W W W)<|sd W (T5 W W<|fun hc=>A5<|M7 hc)<|sv W<|A2<|cc W h (fun c2 h=> ?_)<|fun c2 h=> ?_)
 refine B1<|sv W<|A2<|B2 ?_
 cases h
 exact A7 (.inr W) (B6 (B3 W) C1) (.refl _)
 refine B1<|sv W<|sv W<|sv W<|A2<|cc W h (fun c3 h=> ?_)<|fun c3 h=> ?_
 refine B1<|sv W<|A2<|B2 ?_
 cases h
 exact A7 (.inr W) (B6 (B3 W) C1) (.refl _)
 refine B1<|sv W<|sv W<|sv W<|A2<|cc W h (fun c4 h=> ?_)<|fun c4 h=> ?_
 refine B1<|sv W<|A2<|B2 ?_
 cases h
 exact A7 (.inr W) (B6 (B3 W) C1) (.refl _)
 refine A9<|F9<|A6<|B1<|sq W<|sl W G_hit W<|sd W (E8 W)<|sv W<|A2<|js h fun z1 hz1 h=>E7 (fun s=> ∃(y1:Unit) (g1:Unit),z1= .inl y1∧Sb ⟨T [(2,(.ptr (2,u1) 0)),(3,(.ptr (3,u1) 0))],G [((2,u1),some<|.box 33 (N4 p1)),((3,u1),some<|.box 25 (O7 p2))]⟩ s) ?_ ?_
 refine A8<|G6 (Z5 p1 p2) (fun (x1:Int) (g2:Unit)=>⟨T [(2,(.ptr (2,u1) 0)),(3,(.ptr (3,u1) 0)),(36,(di (p2.Agents.length:Int))),(37,(di x1))],G [((2,u1),some<|.box 33 (N4 p1)),((3,u1),some<|.box 25 (O7 p2))]⟩) 0 () _ hz1 (G9 W W) ?_
 intro x1 g2 z2 hz2 ez2
 unfold Z5 at hz2
 refine B1<|sv W<|A2<|A6<|cc W hz2 (fun c5 hz2=> ?_)<|fun c5 hz2=> ?_
 refine A9<|A6<|A8<|B1<|sv W<|sv W<|A2<|B1<|sd W (B7 W G_hit W W)<|sd W (B7 W (gq W) W W)<|sv W<|bs hz2 fun _ hv2 hz2=>B0 W W A3 (Ym _ _ _ _ hv2) (.inl W) (sv W<|A2<|B1<|sv W<|sv W<|A2<|cc W hz2 (fun c6 hz2=> ?_)<|fun c6 hz2=> ?_)
 refine B1<|sv W<|sv W<|A2<|B2 ?_
 cases hz2
 obtain rfl:=ez2 _ rfl
 refine ⟨nofun,H4 ?_⟩
 rw [wE]at h
 cases h
 exact A7 (.inr W) (B6 (B3 W) C1) (.refl _)
 refine A9<|F9<|C6<|sv W<|sv W<|A2<|G5 ?_
 cases hz2
 exact ⟨W,(),(G9 W W)⟩
 refine D5 W ?_
 cases hz2
 obtain rfl:=ez2 _ rfl
 refine ⟨nofun,D4 W<|X2 ?_⟩
 exact ⟨_,(),W,(G9 W W)⟩
 rintro _ ⟨y1,g1,rfl,q1⟩
 rw [wD]at h
 refine B4 q1<|A6<|B1<|sq W<|sl W (gq W) W (sd W (E8 W)<|sv W<|A2<|js h fun z3 hz3 h=>E7 (fun s=> ∃(y2:Unit) (g3:Unit),z3= .inl y2∧Sb ⟨T [(3,(.ptr (3,u1) 0))],G [((3,u1),some<|.box 25 (O7 p2))]⟩ s) ?_ ?_)
 refine A8<|G6 (Z4 p1 p2) (fun (x2:Int) (g4:Unit)=>⟨T [(2,(.ptr (2,u1) 0)),(3,(.ptr (3,u1) 0)),(49,(dl K7 p2.In)),(50,(di (p2.In.length:Int))),(51,(di x2))],G [((2,u1),some<|.box 33 (N4 p1)),((3,u1),some<|.box 25 (O7 p2))]⟩) 0 () _ hz3 (G9 W W) ?_
 intro x2 g4 z4 hz4 ez4
 unfold Z4 at hz4
 refine B1<|sv W<|A2<|A6<|cc W hz4 (fun c7 hz4=> ?_)<|fun c7 hz4=> ?_
 refine A9<|A6<|A8<|B1<|sv W<|bs hz4 fun v3 hv3 hz4=>sd W (E2 W W hv3 W)<|sd W (E4 W hv3 W W)<|sm W<|sv W<|V5 W G_hit (Ys v3) W (A2<|A6<|J0 W<|sq W<|sl W G_hit W<|sv W<|sv W<|gp W (N5 W) (fun _=>W) (gf W (vl W G_hit W)<|gp W (N5 W) (fun _=>W) (gf W (vl W (gq W) W)<|gf W (fun w8=>(E8<|A5 w8))<|gf W (fun w9=>(S9 (A5 w9) (A5 w9) W))<|sd W (T5 W W<|fun hc=>A5<|M7 hc)<|sv W<|gp W (N5 W) (fun _=>W) (gf W (vl W G_hit W)<|gf W (vb W W W)<|sd W (T5 W W<|fun hc=>A5<|M7 hc)<|sv W<|gp W (N5 W) (fun _=>W) (gf W (vl W G_hit W)<|gp W (N5 W) (fun _=>W) (gf W (vl W (gq W) W)<|gf W (fun w17=>(E8<|A5 w17))<|gf W (fun w18=>(S9 (A5 w18) (A5 w18) W))<|sd W (T5 W W<|fun hc=>A5<|M7 hc)<|sv W<|gf W (fun _=>W)<|gf W (vb W W W)<|gf W (fun w21=>(jN<|A5 w21))<|U8 _ (.ptr _ _) W (Js W) (fun _=>W) (gv W (Js W) (vl W (gq W) W) (gv W (Js W) (fun _=>W) (gv W (Js W) (vb W W W) (bs hz4 fun v4 hv4 hz4=>gv W (Js W) (fun w26=>(E2 (A5 w26) (A5 w26) (D3 w26 hv4) W)) (gv W (Js W) (fun w27=>(E4 (A5 w27) (D3 w27 hv4) W W)) (gv W (Js W) (fun _=>(B7 W G_hit W W)) (bs hz4 fun v5 hv5 hz4=> ?_)))))))))))))
 refine P3 _ (i64 v5) (Js W) (fun w29=>⟨_,[(.d (.agg (K7 v4))),(.d (.agg (K7 v3)))],_,_,(by simp only [A5 w29];rfl),W,A3,Px _ _ _<|D3 w29 hv5,(.inl W)⟩) ?_
 refine gv W (Js W) (vb W W W) (gf W (fun w31=>(UW (A5 w31) (fun hc=>A5<|aS w31 hc) W))<|sd W (T5 W W<|fun hc=>A5<|M7 hc)<|A2<|cc W hz4 (fun c8 hz4=> ?_)<|fun c8 hz4=> ?_)
 refine B1<|sv W<|A2<|B2 ?_
 cases hz4
 obtain rfl:=ez4 _ rfl
 refine ⟨nofun,H4 ?_⟩
 rw [wE]at h
 cases h
 exact A7 (.inr W) (B6 (B3 W) C1) (.refl _)
 refine A9<|F9<|C6<|sv W<|sv W<|A2<|G5 ?_
 cases hz4
 exact ⟨W,(),(G9 W W)⟩
 refine D5 W ?_
 cases hz4
 obtain rfl:=ez4 _ rfl
 refine ⟨nofun,D4 W<|X2 ?_⟩
 exact ⟨_,(),W,(G9 W W)⟩
 rintro _ ⟨y2,g3,rfl,q2⟩
 rw [wD]at h
 refine B4 q2<|A6<|B1<|sq W<|sl W G_hit W<|C0 (.fn _ _ _) W W (bs h fun _ hv6 h=>B0 W (rD<|E3 (Yq G2<|E3 (An G_hit<|rD<|rD<|rD G2) G2) G2) A3 (Ew _ _ _ hv6) (.inr W) (A2<|cc W h (fun c9 h=> ?_)<|fun c9 h=> ?_))
 refine B1<|sv W<|A2<|B2 ?_
 cases h
 exact A7 (.inr W) (B6 (B3 W) C1) (.refl _)
 refine A9<|B1<|sv W<|A2<|B2 ?_
 cases h
 exact A7 (.inr W) (B6 (B3 W) C1) (.refl _)
def Rb (p1:Agent):Option Bool:=
  some p1.Gone
theorem HU(p1 r)(h:Rb p1=some r):PCall prog 79 [(.agg (E5 p1))] (bo r):=by
 refine C3 (fk func79 ntmps79 m0 (by with_unfolding_all rfl)) (nl W) ?_
 unfold Rb at h
 refine B4 (s0:=⟨T [(0,(.d _))],G []⟩) (G9 W W) ?_
 refine B1<|sm W<|sv W<|A2<|B1<|sq W<|sl W G_hit W<|sv W<|A2<|B2 ?_
 cases h
 exact A7 (.inr W) (B6 (B3 W) C1) (.refl _)
def L7 (p1:(List Agent))(x1:Int):Option (Stp Int (Sum Unit Int)):=
  cond (decide (x1< (p1.length:Int))) ((B8 p1 x1).bind fun v1=>(Rb v1).bind fun v2=>cond v2 (some (.out (.inr x1))) (some (.go (D2 (x1+1))))) (some (.out (.inl ())))
def K0 [Lp](p1:(List Agent)):Option Int:=
  thenS (loop (L7 p1) 0) (fun _=>some (-1)) (fun r=>some r)
theorem Gp(p1 r)(h:K0 p1=some r):PCall prog 170 [(.list (List.map E5 p1)),(.fn (.func 79) [] [])] (i64 r):=by
 refine C3 (fk func170 ntmps170 m0 (by with_unfolding_all rfl)) (nl W) ?_
 unfold K0 at h
 refine B4 (s0:=⟨T [(0,(.d _)),(1,(.d _))],G []⟩) (G9 W W) ?_
 refine B1<|sv W<|A2<|A6<|B1<|sv W<|sd W (E8 W)<|sv W<|A2<|js h fun z1 hz1 h=>E7 (fun s=> ∃(y1:Unit) (g1:Unit),z1= .inl y1∧Sb ⟨T [],G []⟩ s) ?_ ?_
 refine A8<|G6 (L7 p1) (fun (x1:Int) (g2:Unit)=>⟨T [(0,(dl E5 p1)),(1,(.d (.fn (.func 79) [] []))),(7,(di (p1.length:Int))),(8,(di x1))],G []⟩) 0 () _ hz1 (G9 W W) ?_
 intro x1 g2 z2 hz2 ez2
 unfold L7 at hz2
 refine B1<|sv W<|A2<|A6<|cc W hz2 (fun c1 hz2=> ?_)<|fun c1 hz2=> ?_
 refine A9<|A6<|A8<|B1<|sv W<|sv W<|A2<|B1<|sv W<|sv W<|sv W<|bs hz2 fun _ hv1 hz2=>sd W (E2 W W hv1 W)<|sd W (E4 W hv1 W W)<|bs hz2 fun _ hv2 hz2=>B0 W W A3 (HU _ _ hv2) (.inl W) (A2<|cc W hz2 (fun c2 hz2=> ?_)<|fun c2 hz2=> ?_)
 refine B1<|sv W<|sv W<|A2<|B2 ?_
 cases hz2
 obtain rfl:=ez2 _ rfl
 refine ⟨nofun,H4 ?_⟩
 rw [wE]at h
 cases h
 exact A7 (.inr W) (B6 (B3 W) C1) (.refl _)
 refine A9<|F9<|C6<|sv W<|sv W<|A2<|G5 ?_
 cases hz2
 exact ⟨W,(),(G9 W W)⟩
 refine D5 W ?_
 cases hz2
 obtain rfl:=ez2 _ rfl
 refine ⟨nofun,D4 W<|X2 ?_⟩
 exact ⟨_,(),W,(G9 W W)⟩
 rintro _ ⟨y1,g1,rfl,q1⟩
 rw [wD]at h
 refine B4 q1<|B1<|sv W<|A2<|B2 ?_
 cases h
 exact A7 (.inr W) (B6 (B3 W) C1) (.refl _)
def H6 [Lp](p1:(List Agent)):Option Bool:=
  (K0 p1).bind fun v1=>some (decide (v1≥0))
theorem Fk(p1 r)(h:H6 p1=some r):PCall prog 78 [(.list (List.map E5 p1)),(.fn (.func 79) [] [])] (bo r):=by
 refine C3 (fk func78 ntmps78 m0 (by with_unfolding_all rfl)) (nl W) ?_
 unfold H6 at h
 refine B4 (s0:=⟨T [(0,(.d _)),(1,(.d _))],G []⟩) (G9 W W) ?_
 refine B1<|sv W<|A2<|B1<|sv W<|sv W<|bs h fun _ hv1 h=>B0 W W A3 (Gp _ _ hv1) (.inl W) (sv W<|sv W<|A2<|B2 ?_)
 cases h
 exact A7 (.inr W) (B6 (B3 W) C1) (.refl _)
def Gu (p1:State)(p2:Int):Option Bool:=
  ((cond ((decide (p2≥0))&& (decide (p2< (p1.Agents.length:Int)))) (B8 p1.Agents p2) (some default))).bind fun v1=>((cond (((decide (p2≥0))&& (decide (p2< (p1.Agents.length:Int))))&& (!v1.Gone)) (B8 p1.Agents p2) (some default))).bind fun v2=>some ((((decide (p2≥0))&& (decide (p2< (p1.Agents.length:Int))))&& (!v1.Gone))&& (decide (v2.Begin≤p1.Tick)))
theorem Ma(p1 p2 r)(h:Gu p1 p2=some r):PCall prog 36 [(.agg (Ku p1)),(i64 p2)] (bo r):=by
 refine C3 (fk func36 ntmps36 m0 (by with_unfolding_all rfl)) (nl W) ?_
 unfold Gu at h
 refine B4 (s0:=⟨T [(0,(.d _)),(1,(.d _))],G []⟩) (G9 W W) ?_
 refine B1<|sm W<|sv W<|A2<|A6<|J0 W<|sv W<|sv W<|sv W<|gt W (fun _=>W)<|gp W (O5 W) (fun _=>W) (gt W (vl W G_hit W)<|gt W (fun w4=>(E8<|A5 w4))<|gt W (fun w5=>(S9 (A5 w5) (A5 w5) W))<|sa W W W<|sv W<|gp W (O5 W) (fun _=>W) (gt W (vl W G_hit W)<|gt W (fun _=>W)<|bs h fun v1 hv1 h=>gt W (fun w9=>(E2 (A5 w9) (A5 w9) (D3 w9 hv1) W)) ?_))
 refine gt W (fun w10=>(by simp only [A5 w10];rfl)) ?_
 refine gt W (fun w11=>(H5 (A5 w11) (D3 w11 hv1) W)) ?_
 refine U8 _ (.d (bo (!v1.Gone))) W (O5 W) (fun w12=>(by simp only [A5 w12];rfl)) ?_
 refine sa W W W<|sv W<|gp W (O5 W) (fun _=>W) (gt W (vl W G_hit W)<|gt W (fun _=>W)<|bs h fun _ hv2 h=>gt W (fun w16=>(E2 (A5 w16) (A5 w16) (D3 w16 hv2) W)) ?_)
 refine gt W (fun w17=>(by simp only [A5 w17];rfl)) ?_
 refine gt W (fun w18=>(H5 (A5 w18) (D3 w18 hv2) W))<|gp W (O5 W) (fun _=>W) (gt W (vl W G_hit W)<|gt W (fun w21=>(S9 (A5 w21) (A5 w21) W))<|sa W W W<|sv W<|A2<|B2 ?_)
 cases h
 exact A7 (.inr W) (B6 (B3 W) C1) (.refl _)
def Kv (p1:Agent):Option Bool:=
  some ((((decide (p1.S≥0))&& (decide (p1.S≤1099511627776)))&& (decide (p1.Len≥0)))&& (decide (p1.Len≤1099511627776)))
theorem Ru(p1 r)(h:Kv p1=some r):PCall prog 138 [(.agg (E5 p1))] (bo r):=by
 refine C3 (fk func138 ntmps138 m0 (by with_unfolding_all rfl)) (nl W) ?_
 unfold Kv at h
 refine B4 (s0:=⟨T [(0,(.d _))],G []⟩) (G9 W W) ?_
 refine B1<|sm W<|sv W<|A2<|B1<|sq W<|sl W G_hit W<|sv W<|sv W<|gp W (O5 W) (fun _=>W) (gt W (vl W G_hit W)<|gt W (vb W W W)<|sa W W W<|sv W<|gp W (O5 W) (fun _=>W) (gt W (vl W G_hit W)<|gt W (vb W W W)<|sa W W W<|sv W<|gp W (O5 W) (fun _=>W) (gt W (vl W G_hit W)<|gt W (vb W W W)<|sa W W W<|sv W<|A2<|B2 ?_)))
 cases h
 exact A7 (.inr W) (B6 (B3 W) C1) (.refl _)
def V7 (p1:Int):Option Bool:=
  some (p1 !=p1)
theorem He(p1 r)(h:V7 p1=some r):PCall prog 255 [(i64 p1)] (bo r):=by
 refine C3 (fk func255 ntmps255 m0 (by with_unfolding_all rfl)) (nl W) ?_
 unfold V7 at h
 refine B4 (s0:=⟨T [(0,(.d _))],G []⟩) (G9 W W) ?_
 refine B1<|sv W<|A2<|B1<|sv W<|sv W<|sv W<|sv W<|A2<|B2 ?_
 cases h
 exact A7 (.inr W) (B6 (B3 W) C1) (.refl _)
def Z6 (p1:Int)(p2:Int):Option Int:=
  (V7 p1).bind fun v1=>(V7 p2).bind fun v2=>cond v1 (cond v2 (some 0) (some (-1))) (cond v2 (some 1) (cond (decide (p1<p2)) (some (-1)) (cond (decide (p1>p2)) (some 1) (some 0))))
theorem Nz(p1 p2 r)(h:Z6 p1 p2=some r):PCall prog 229 [(i64 p1),(i64 p2)] (i64 r):=by
 refine C3 (fk func229 ntmps229 m0 (by with_unfolding_all rfl)) (nl W) ?_
 unfold Z6 at h
 refine B4 (s0:=⟨T [(0,(.d _)),(1,(.d _))],G []⟩) (G9 W W) ?_
 refine B1<|sv W<|A2<|B1<|sv W<|bs h fun _ hv1 h=>B0 W W A3 (He _ _ hv1) (.inl W) (sv W<|A2<|B1<|sv W<|bs h fun _ hv2 h=>B0 W W A3 (He _ _ hv2) (.inl W) (sv W<|A2<|A6<|B1<|sv W<|A2<|cc W h (fun c1 h=> ?_)<|fun c1 h=> ?_))
 refine A6<|B1<|sv W<|A2<|cc W h (fun c2 h=> ?_)<|fun c2 h=> ?_
 refine B1<|sv W<|A2<|B2 ?_
 cases h
 exact A7 (.inr W) (B6 (B3 W) C1) (.refl _)
 refine A9<|B1<|sv W<|A2<|B2 ?_
 cases h
 exact A7 (.inr W) (B6 (B3 W) C1) (.refl _)
 refine A9<|A6<|B1<|sv W<|A2<|cc W h (fun c3 h=> ?_)<|fun c3 h=> ?_
 refine B1<|sv W<|A2<|B2 ?_
 cases h
 exact A7 (.inr W) (B6 (B3 W) C1) (.refl _)
 refine A9<|A6<|B1<|sv W<|sv W<|sv W<|A2<|cc W h (fun c4 h=> ?_)<|fun c4 h=> ?_
 refine B1<|sv W<|A2<|B2 ?_
 cases h
 exact A7 (.inr W) (B6 (B3 W) C1) (.refl _)
 refine A9<|A6<|B1<|sv W<|sv W<|sv W<|A2<|cc W h (fun c5 h=> ?_)<|fun c5 h=> ?_
 refine B1<|sv W<|A2<|B2 ?_
 cases h
 exact A7 (.inr W) (B6 (B3 W) C1) (.refl _)
 refine A9<|B1<|sv W<|A2<|B2 ?_
 cases h
 exact A7 (.inr W) (B6 (B3 W) C1) (.refl _)
def Bm [Lp](p1:Pass)(p2:Pass):Option Int:=
  (Z6 p1.From p2.From).bind fun v1=>(W7 p1.Zone_ p2.Zone_).bind fun v2=>(At [v1,v2]).bind fun v3=>some v3
theorem CB(p1 p2 r)(h:Bm p1 p2=some r):PCall prog 264 [(.agg (X9 p1)),(.agg (X9 p2))] (i64 r):=by
 refine C3 (fk func264 ntmps264 (fun r=>if r==1 then [1010]else []) (by with_unfolding_all rfl)) (nl W) ?_
 unfold Bm at h
 refine B4 (s0:=⟨T [(0,(.d _)),(1,(.d _))],G []⟩) (G9 W W) ?_
 refine B1<|sm W<|sn W W<|sv W<|A2<|A6<|J0 W<|sq W<|sl W (gq W) W (sq W<|sl W G_hit W<|bs h fun v1 hv1 h=>B0 W W A3 (Nz _ _ _ hv1) (.inl W) (sq W<|sl W (gq W) W (sq W<|sl W G_hit W<|bs h fun v2 hv2 h=>B0 W W A3 (Hd _ _ _ hv2) (.inl W) (C0 (dl A4 [v1,v2]) W W (bs h fun _ hv3 h=>B0 W W A3 (Rt _ _ hv3) (.inl W) (sv W<|A2<|B2 ?_))))))
 cases h
 exact A7 (.inr W) (B6 (B3 W) C1) (.refl _)
def C4 [Lp](p2:Int)(x2:(Int× (List Pass))):Option (Stp (Int× (List Pass)) (List Pass)):=
  ((cond (decide (x2.1>p2)) (B8 x2.2 x2.1) (some default))).bind fun v1=>((cond (decide (x2.1>p2)) (B8 x2.2 (D2 (x2.1 - 1))) (some default))).bind fun v2=>((cond (decide (x2.1>p2)) (Bm v1 v2) (some default))).bind fun v3=>cond ((decide (x2.1>p2))&& (decide (v3<0))) ((B8 x2.2 (D2 (x2.1 - 1))).bind fun v4=>(B8 x2.2 x2.1).bind fun v5=>(B8 x2.2 x2.1).bind fun v6=>(B8 (Kd x2.2 x2.1 v4) (D2 (x2.1 - 1))).bind fun v7=>some (.go ((D2 (x2.1 - 1)),(Kd (Kd x2.2 x2.1 v4) (D2 (x2.1 - 1)) v5)))) (some (.out x2.2))
def D0 [Lp](p2:Int)(p3:Int)(x1:(Int× (List Pass))):Option (Stp (Int× (List Pass)) (List Pass)):=
  cond (decide (x1.1<p3)) ((loop (C4 p2) (x1.1,x1.2)).bind fun y1=>some (.go ((D2 (x1.1+1)),y1))) (some (.out (x1.2)))
def C8 [Lp](p1:(List Pass))(p2:Int)(p3:Int):Option (List Pass):=
  loop (D0 p2 p3) ((D2 (p2+1)),p1)
theorem U3(p1 p2 p3 r)(h:C8 p1 p2 p3=some r):MCall prog 282 [(.sl (900000,0)),(di p2),(di p3),(.d (.fn (.func 264) [] []))] [(.arr 229 4 (List.map X9 p1))] (.d (.tup [])) [some (.arr 229 4 (List.map X9 r))] []:=by
 refine Tp (fk func282 ntmps282 m0 (by with_unfolding_all rfl)) W (nl W) ?_
 unfold C8 at h
 refine B4 (s0:=⟨T [(0,(.sl _)),(1,(.d _)),(2,(.d _)),(3,(.d _))],G [((900000,0),some _)]⟩) (G9 W W) ?_
 refine B1<|sv W<|sv W<|sv W<|A2<|A8<|G6 (D0 p2 p3) (fun (x1:(Int× (List Pass))) (g1:Unit)=>⟨T [(0,(.sl (900000,0))),(1,(di p2)),(2,(di p3)),(3,(.d (.fn (.func 264) [] []))),(8,(di x1.1))],G [((900000,0),some<|.arr 229 4 (List.map X9 x1.2))]⟩) ((D2 (p2+1)),p1) () _ h (G9 W W) ?_
 intro x1 g1 z1 hz1 ez1
 unfold D0 at hz1
 refine A6<|B1<|sv W<|sv W<|sv W<|A2<|cc W hz1 (fun c1 hz1=> ?_)<|fun c1 hz1=> ?_
 refine A9<|A6<|A8<|B1<|sv W<|sv W<|A2<|bs hz1 fun y1 hy1 hz1=>E7 (fun s=> ∃g2:Unit,Sb ⟨T [(0,(.sl (900000,0))),(1,(di p2)),(2,(di p3)),(3,(.d (.fn (.func 264) [] []))),(8,(di x1.1))],G [((900000,0),some<|.arr 229 4 (List.map X9 y1))]⟩ s) ?_ ?_
 refine A8<|G6 (C4 p2) (fun (x2:(Int× (List Pass))) (g3:Unit)=>⟨T [(0,(.sl (900000,0))),(1,(di p2)),(2,(di p3)),(3,(.d (.fn (.func 264) [] []))),(8,(di x1.1)),(9,(di x2.1))],G [((900000,0),some<|.arr 229 4 (List.map X9 x2.2))]⟩) (x1.1,x1.2) () _ hy1 (G9 W W) ?_
 intro x2 g3 z2 hz2 ez2
 unfold C4 at hz2
 refine A6<|A6<|J0 W<|sv W<|sv W<|sv W<|sv W<|gt W (fun _=>W)<|U8 _ (.sl _) W (O5 W) (fun _=>W) (gt W (fun _=>W)<|bs hz2 fun v1 hv1 hz2=>U8 _ (.aptr _ _ _ _) W (O5 W) (fun w4=>(Jy (A5 w4) (A5 w4) G_hit (D3 w4 hv1))) (gt W (fun w5=>(Si (A5 w5) G_hit (D3 w5 hv1) W W))<|U8 _ (.sl _) W (O5 W) (fun _=>W) (gt W (fun _=>W)<|gt W (vb W W W)<|bs hz2 fun v2 hv2 hz2=>U8 _ (.aptr _ _ _ _) W (O5 W) (fun w9=>(Jy (A5 w9) (A5 w9) G_hit (D3 w9 hv2))) (gt W (fun w10=>(Si (A5 w10) G_hit (D3 w10 hv2) W W))<|bs hz2 fun v3 hv3 hz2=> ?_))))
 refine P3 _ (i64 v3) (O5 W) (fun w11=>⟨_,[(.d (.agg (X9 v1))),(.d (.agg (X9 v2)))],_,_,(by simp only [A5 w11];rfl),W,A3,CB _ _ _<|D3 w11 hv3,(.inl W)⟩) ?_
 refine gt W (vb W W W)<|sa W W W<|A2<|cc W hz2 (fun c2 hz2=> ?_)<|fun c2 hz2=> ?_
 refine A9<|A6<|A8<|J0 W<|ss W<|sv W<|ss W<|sv W<|sv W<|ss W<|sv W<|sv W<|bs hz2 fun v4 hv4 hz2=>C0 (.aptr _ _ _ _) W (Jy W W G_hit hv4) (sd W (Si W G_hit hv4 W W)<|ss W<|sv W<|bs hz2 fun v5 hv5 hz2=>C0 (.aptr _ _ _ _) W (Jy W W G_hit hv5) (sd W (Si W G_hit hv5 W W)<|bs hz2 fun _ hv6 hz2=>C0 (.aptr _ _ _ _) W (Jy W W G_hit hv6) (Sh X9 _ _ _ (x2.1) _ v4 (X9 v4) W W W G_hit hv6 (nl W) W (bs hz2 fun _ hv7 hz2=>C0 (.aptr _ _ _ _) W (Jy W W G_hit hv7) (Sh X9 _ _ _ ((D2 (x2.1 - 1))) _ v5 (X9 v5) W W W G_hit hv7 (nl W) W (A2<|F9<|C6<|sv W<|sv W<|sv W<|A2<|G5 ?_))))))
 cases hz2
 exact ⟨W,(),(G9 W W)⟩
 refine D5 W ?_
 cases hz2
 obtain rfl:=ez2 _ rfl
 refine ⟨nofun,D4 W<|X2 ?_⟩
 exact ⟨(),(G9 W W)⟩
 rintro _ ⟨g2,q1⟩
 refine F9<|B4 q1<|C6<|sv W<|sv W<|sv W<|A2<|G5 ?_
 cases hz1
 exact ⟨W,(),(G9 W W)⟩
 refine D5 W ?_
 cases hz1
 obtain rfl:=ez1 _ rfl
 refine ⟨nofun,D4 W<|G5 ?_⟩
 exact Zv (.inl W) [] Zw (.refl _) ⟨⟨G_hit,Ff⟩,trivial⟩
def Q9 (p2:Int)(x3:(Int×Int)):Option (Stp (Int×Int) Int):=
  cond (decide (x3.2≤p2)) (none) (some (.out x3.1))
def G1 [Lp](p2:Int)(v2:(List Pass))(x2:Int):Option (Stp Int (List Pass)):=
  cond (decide (x2<p2)) ((loop (Q9 p2) (0,(D2 (2*x2)))).bind fun y2=>cond (decide ((D2 (y2+x2))<p2)) (none) (some (.go (D2 (x2*2))))) (some (.out (v2)))
def D1 [Lp](p2:Int)(x1:(Int×Int× (List Pass))):Option (Stp (Int×Int× (List Pass)) (Int× (List Pass))):=
  cond (decide (x1.2.1≤p2)) ((C8 x1.2.2 x1.1 x1.2.1).bind fun v1=>some (.go (x1.2.1,(D2 (x1.2.1+20)),v1))) (some (.out (x1.1,x1.2.2)))
def J6 [Lp](p1:(List Pass))(p2:Int):Option (List Pass):=
  (loop (D1 p2) (0,20,p1)).bind fun y1=>(C8 y1.2 y1.1 p2).bind fun v2=>loop (G1 p2 v2) 20
theorem Fw(p1 p2 r)(h:J6 p1 p2=some r):MCall prog 270 [(.sl (900000,0)),(di p2),(.d (.fn (.func 264) [] []))] [(.arr 229 4 (List.map X9 p1))] (.d (.tup [])) [some (.arr 229 4 (List.map X9 r))] []:=by
 refine Tp (fk func270 ntmps270 (fun r=>if r==3 then [1003004]else if r==6 then [1006004]else []) (by with_unfolding_all rfl)) W (nl W) ?_
 unfold J6 at h
 refine B4 (s0:=⟨T [(0,(.sl _)),(1,(.d _)),(2,(.d _))],G [((900000,0),some _)]⟩) (G9 W W) ?_
 refine B1<|sv W<|A2<|B1<|sv W<|sv W<|sv W<|A2<|A6<|bs h fun y1 hy1 h=>E7 (fun s=> ∃g1:Unit,Sb ⟨T [(0,(.sl (900000,0))),(1,(di p2)),(2,(.d (.fn (.func 264) [] []))),(6,(di 20)),(7,(di y1.1))],G [((900000,0),some<|.arr 229 4 (List.map X9 y1.2))]⟩ s) ?_ ?_
 refine A8<|G6 (D1 p2) (fun (x1:(Int×Int× (List Pass))) (g2:Unit)=>⟨T [(0,(.sl (900000,0))),(1,(di p2)),(2,(.d (.fn (.func 264) [] []))),(6,(di 20)),(7,(di x1.1)),(8,(di x1.2.1))],G [((900000,0),some<|.arr 229 4 (List.map X9 x1.2.2))]⟩) (0,20,p1) () _ hy1 (G9 W W) ?_
 intro x1 g2 z1 hz1 ez1
 unfold D1 at hz1
 refine A6<|B1<|sv W<|sv W<|sv W<|A2<|cc W hz1 (fun c1 hz1=> ?_)<|fun c1 hz1=> ?_
 refine A9<|A8<|B1<|ss W<|sv W<|sv W<|sv W<|bs hz1 fun v1 hv1 hz1=>FD (v:= .d (.tup [])) (us:= [(900000,0)]) (JY (U3 _ _ _ _ hv1) [(900000,0)] [(900000,0)] _ (((900000,0),some<|.arr 229 4 (List.map X9 v1))::_) W Ls (Y9 EM<|Y9 BT<|Y9 BT<|Y9 BT Tn) (Jg G_hit Iq) ⟨⟨_,G_hit, .of W⟩,trivial⟩ (fun _ h=>h) nd1 W W W) (A2<|B1<|sv W<|sv W<|A2<|C6<|sv W<|sv W<|sv W<|sv W<|A2<|F9<|G5 ?_)
 cases hz1
 exact ⟨W,(),(G9 W W)⟩
 refine D5 W ?_
 cases hz1
 obtain rfl:=ez1 _ rfl
 refine ⟨nofun,D4 W<|X2 ?_⟩
 exact ⟨(),(G9 W W)⟩
 rintro _ ⟨g1,q1⟩
 refine B4 q1<|B1<|ss W<|sv W<|sv W<|sv W<|bs h fun v2 hv2 h=>FD (v:= .d (.tup [])) (us:= [(900000,0)]) (JY (U3 _ _ _ _ hv2) [(900000,0)] [(900000,0)] _ (((900000,0),some<|.arr 229 4 (List.map X9 v2))::_) W Ls (Y9 EM<|Y9 BT<|Y9 BT<|Y9 BT Tn) (Jg G_hit Iq) ⟨⟨_,G_hit, .of W⟩,trivial⟩ (fun _ h=>h) nd1 W W W) (A2<|A8<|G6 (G1 p2 v2) (fun (x2:Int) (g3:Unit)=>⟨T [(0,(.sl (900000,0))),(1,(di p2)),(2,(.d (.fn (.func 264) [] []))),(6,(di x2))],G [((900000,0),some<|.arr 229 4 (List.map X9 v2))]⟩) 20 () _ h (G9 W W) ?_)
 intro x2 g3 z2 hz2 ez2
 unfold G1 at hz2
 refine A6<|B1<|sv W<|sv W<|sv W<|A2<|cc W hz2 (fun c2 hz2=> ?_)<|fun c2 hz2=> ?_
 refine A9<|A8<|B1<|sv W<|sv W<|sv W<|sv W<|A2<|A6<|bs hz2 fun y2 hy2 hz2=>E7 (fun s=> ∃g4:Unit,Sb ⟨T [(0,(.sl (900000,0))),(1,(di p2)),(2,(.d (.fn (.func 264) [] []))),(6,(di x2)),(7,(di y2))],G [((900000,0),some<|.arr 229 4 (List.map X9 v2))]⟩ s) ?_ ?_
 refine A8<|G6 (Q9 p2) (fun (x3:(Int×Int)) (g5:Unit)=>⟨T [(0,(.sl (900000,0))),(1,(di p2)),(2,(.d (.fn (.func 264) [] []))),(6,(di x2)),(7,(di x3.1)),(8,(di x3.2))],G [((900000,0),some<|.arr 229 4 (List.map X9 v2))]⟩) (0,(D2 (2*x2))) () _ hy2 (G9 W W) ?_
 intro x3 g5 z3 hz3 ez3
 unfold Q9 at hz3
 refine A6<|B1<|sv W<|sv W<|sv W<|A2<|cc W hz3 (fun c3 hz3=> ?_)<|fun c3 hz3=> ?_
 refine A9<|A8<|B1<|ss W<|sv W<|sv W<|sv W<|sv W<|sv W<|sv W ?_
 cases hz3
 refine D5 W ?_
 cases hz3
 obtain rfl:=ez3 _ rfl
 refine ⟨nofun,D4 W<|X2 ?_⟩
 exact ⟨(),(G9 W W)⟩
 rintro _ ⟨g4,q2⟩
 refine B4 q2<|A6<|B1<|sv W<|sv W<|sv W<|sv W<|A2<|B1<|sv W<|sv W<|sv W<|A2<|cc W hz2 (fun c4 hz2=> ?_)<|fun c4 hz2=> ?_
 refine C6<|ss W<|sv W<|sv W<|sv W<|sv W ?_
 cases hz2
 refine A9<|C6<|sv W<|sv W<|sv W<|A2<|F9<|G5 ?_
 cases hz2
 exact ⟨W,(),(G9 W W)⟩
 refine D5 W ?_
 cases hz2
 obtain rfl:=ez2 _ rfl
 refine ⟨nofun,D4 W<|G5 ?_⟩
 exact Zv (.inl W) [] Zw (.refl _) ⟨⟨G_hit,Ff⟩,trivial⟩
def F0 [Lp](p1:(List Pass)):Option (List Pass):=
  (J6 p1 (p1.length:Int)).bind fun v1=>some v1
theorem Cz(p1 r)(h:F0 p1=some r):MCall prog 263 [(.sl (900000,0)),(.d (.fn (.func 264) [] []))] [(.arr 229 4 (List.map X9 p1))] (.d (.tup [])) [some (.arr 229 4 (List.map X9 r))] []:=by
 refine Tp (fk func263 ntmps263 (fun r=>if r==0 then [1000004]else []) (by with_unfolding_all rfl)) W (nl W) ?_
 unfold F0 at h
 refine B4 (s0:=⟨T [(0,(.sl _)),(1,(.d _))],G [((900000,0),some _)]⟩) (G9 W W) ?_
 refine C6<|ss W<|ss W<|sd W (SZ (f:=X9) W G_hit)<|sv W<|bs h fun v1 hv1 h=>FD (v:= .d (.tup [])) (us:= [(900000,0)]) (JY (Fw _ _ _ hv1) [(900000,0)] [(900000,0)] _ (((900000,0),some<|.arr 229 4 (List.map X9 v1))::_) W Ls (Y9 EM<|Y9 BT<|Y9 BT Tn) (Jg G_hit Iq) ⟨⟨_,G_hit, .of W⟩,trivial⟩ (fun _ h=>h) nd1 W W W) (A2<|G5 ?_)
 obtain rfl:=(lD h)
 exact Zv (.inl W) [] Zw (.refl _) ⟨⟨G_hit,Ff⟩,trivial⟩
def O3 (p1:Int)(x2:Int):Option (Stp Int Unit):=
  ((cond (decide (x2>p1)) ((none:Option Unit)) (some default))).bind fun v1=>cond ((decide (x2>p1))&&false) (none) (some (.out ()))
def I5 [Lp](p1:Int)(p2:Int)(x1:Int):Option (Stp Int Unit):=
  cond (decide (x1<p2)) ((loop (O3 p1) x1).bind fun _=>some (.go (D2 (x1+1)))) (some (.out (())))
def D6 [Lp](p1:Int)(p2:Int):Option Unit:=
  loop (I5 p1 p2) (D2 (p1+1))
theorem U4(p1 p2 r)(h:D6 p1 p2=some r):PCall prog 282 [.nilS,(i64 p1),(i64 p2),(.fn (.func 264) [] [])] (.tup []):=by
 refine C3 (fk func282 ntmps282 m0 (by with_unfolding_all rfl)) (nl W) ?_
 unfold D6 at h
 refine B4 (s0:=⟨T [(0,(.d _)),(1,(.d _)),(2,(.d _)),(3,(.d _))],G []⟩) (G9 W W) ?_
 refine B1<|sv W<|sv W<|sv W<|A2<|A8<|G6 (I5 p1 p2) (fun (x1:Int) (g1:Unit)=>⟨T [(0,(.d .nilS)),(1,(di p1)),(2,(di p2)),(3,(.d (.fn (.func 264) [] []))),(8,(di x1))],G []⟩) (D2 (p1+1)) () _ h (G9 W W) ?_
 intro x1 g1 z1 hz1 ez1
 unfold I5 at hz1
 refine A6<|B1<|sv W<|sv W<|sv W<|A2<|cc W hz1 (fun c1 hz1=> ?_)<|fun c1 hz1=> ?_
 refine A9<|A6<|A8<|B1<|sv W<|sv W<|A2<|bs hz1 fun _ hy1 hz1=>E7 (fun s=> ∃g2:Unit,Sb ⟨T [(0,(.d .nilS)),(1,(di p1)),(2,(di p2)),(3,(.d (.fn (.func 264) [] []))),(8,(di x1))],G []⟩ s) ?_ ?_
 refine A8<|G6 (O3 p1) (fun (x2:Int) (g3:Unit)=>⟨T [(0,(.d .nilS)),(1,(di p1)),(2,(di p2)),(3,(.d (.fn (.func 264) [] []))),(8,(di x1)),(9,(di x2))],G []⟩) x1 () _ hy1 (G9 W W) ?_
 intro x2 g3 z2 hz2 ez2
 unfold O3 at hz2
 refine A6<|A6<|J0 W<|sv W<|sv W<|sv W<|sv W<|gt W (fun _=>W)<|gt W (fun _=>W)<|gt W (fun _=>W)<|bs hz2 fun _ hv1 hz2=>U8 _ (.d (.tup [])) W (O5 W) (fun w4=>nomatch D3 w4 hv1) (U8 _ (.d (.tup [])) W (O5 W) (fun w5=>nomatch D3 w5 hv1) (U8 _ (.d (.tup [])) W (O5 W) (fun w6=>nomatch D3 w6 hv1) (U8 _ (di 0) W (O5 W) (fun w7=>nomatch D3 w7 hv1) (U8 _ (di 0) W (O5 W) (fun w8=>nomatch D3 w8 hv1) (U8 _ (.d (.tup [])) W (O5 W) (fun w9=>nomatch D3 w9 hv1) (U8 _ (.d (.tup [])) W (O5 W) (fun w10=>nomatch D3 w10 hv1) (P3 _ (i64 0) (O5 W) (fun w11=>nomatch D3 w11 hv1) (U8 _ (.d (bo false)) W (O5 W) (fun w12=>nomatch D3 w12 hv1) (sa W W W<|A2<|cc W hz2 (fun c2 hz2=> ?_)<|fun c2 hz2=> ?_)))))))))
 refine A9<|A6<|A8<|J0 W<|sv W<|sv W<|sv W<|sv W<|sv W<|sv W<|sv W<|sv W ?_
 cases hz2
 refine D5 W ?_
 cases hz2
 obtain rfl:=ez2 _ rfl
 refine ⟨nofun,D4 W<|X2 ?_⟩
 exact ⟨(),(G9 W W)⟩
 rintro _ ⟨g2,q1⟩
 refine F9<|B4 q1<|C6<|sv W<|sv W<|sv W<|A2<|G5 ?_
 cases hz1
 exact ⟨W,(),(G9 W W)⟩
 refine D5 W ?_
 cases hz1
 obtain rfl:=ez1 _ rfl
 refine ⟨nofun,D4 W<|G5 ?_⟩
 exact A7 (.inl W) W (.refl _)
def R0 (p1:Int)(x3:(Int×Int)):Option (Stp (Int×Int) Int):=
  cond (decide (x3.2≤p1)) (none) (some (.out x3.1))
def I6 [Lp](p1:Int)(x2:Int):Option (Stp Int Unit):=
  cond (decide (x2<p1)) ((loop (R0 p1) (0,(D2 (2*x2)))).bind fun y2=>cond (decide ((D2 (y2+x2))<p1)) (none) (some (.go (D2 (x2*2))))) (some (.out (())))
def I7 [Lp](p1:Int)(x1:(Int×Int)):Option (Stp (Int×Int) Int):=
  cond (decide (x1.2≤p1)) ((D6 x1.1 x1.2).bind fun v1=>some (.go (x1.2,(D2 (x1.2+20))))) (some (.out x1.1))
def J7 [Lp](p1:Int):Option Unit:=
  (loop (I7 p1) (0,20)).bind fun y1=>(D6 y1 p1).bind fun v2=>loop (I6 p1) 20
theorem Fx(p1 r)(h:J7 p1=some r):PCall prog 270 [.nilS,(i64 p1),(.fn (.func 264) [] [])] (.tup []):=by
 refine C3 (fk func270 ntmps270 m0 (by with_unfolding_all rfl)) (nl W) ?_
 unfold J7 at h
 refine B4 (s0:=⟨T [(0,(.d _)),(1,(.d _)),(2,(.d _))],G []⟩) (G9 W W) ?_
 refine B1<|sv W<|A2<|B1<|sv W<|sv W<|sv W<|A2<|A6<|bs h fun y1 hy1 h=>E7 (fun s=> ∃g1:Unit,Sb ⟨T [(0,(.d .nilS)),(1,(di p1)),(2,(.d (.fn (.func 264) [] []))),(6,(di 20)),(7,(di y1))],G []⟩ s) ?_ ?_
 refine A8<|G6 (I7 p1) (fun (x1:(Int×Int)) (g2:Unit)=>⟨T [(0,(.d .nilS)),(1,(di p1)),(2,(.d (.fn (.func 264) [] []))),(6,(di 20)),(7,(di x1.1)),(8,(di x1.2))],G []⟩) (0,20) () _ hy1 (G9 W W) ?_
 intro x1 g2 z1 hz1 ez1
 unfold I7 at hz1
 refine A6<|B1<|sv W<|sv W<|sv W<|A2<|cc W hz1 (fun c1 hz1=> ?_)<|fun c1 hz1=> ?_
 refine A9<|A8<|B1<|sv W<|sv W<|sv W<|sv W<|bs hz1 fun _ hv1 hz1=>B0 W W A3 (U4 _ _ _ hv1) (.inl W) (A2<|B1<|sv W<|sv W<|A2<|C6<|sv W<|sv W<|sv W<|sv W<|A2<|F9<|G5 ?_)
 cases hz1
 exact ⟨W,(),(G9 W W)⟩
 refine D5 W ?_
 cases hz1
 obtain rfl:=ez1 _ rfl
 refine ⟨nofun,D4 W<|X2 ?_⟩
 exact ⟨(),(G9 W W)⟩
 rintro _ ⟨g1,q1⟩
 refine B4 q1<|B1<|sv W<|sv W<|sv W<|sv W<|bs h fun _ hv2 h=>B0 W W A3 (U4 _ _ _ hv2) (.inl W) (A2<|A8<|G6 (I6 p1) (fun (x2:Int) (g3:Unit)=>⟨T [(0,(.d .nilS)),(1,(di p1)),(2,(.d (.fn (.func 264) [] []))),(6,(di x2))],G []⟩) 20 () _ h (G9 W W) ?_)
 intro x2 g3 z2 hz2 ez2
 unfold I6 at hz2
 refine A6<|B1<|sv W<|sv W<|sv W<|A2<|cc W hz2 (fun c2 hz2=> ?_)<|fun c2 hz2=> ?_
 refine A9<|A8<|B1<|sv W<|sv W<|sv W<|sv W<|A2<|A6<|bs hz2 fun y2 hy2 hz2=>E7 (fun s=> ∃g4:Unit,Sb ⟨T [(0,(.d .nilS)),(1,(di p1)),(2,(.d (.fn (.func 264) [] []))),(6,(di x2)),(7,(di y2))],G []⟩ s) ?_ ?_
 refine A8<|G6 (R0 p1) (fun (x3:(Int×Int)) (g5:Unit)=>⟨T [(0,(.d .nilS)),(1,(di p1)),(2,(.d (.fn (.func 264) [] []))),(6,(di x2)),(7,(di x3.1)),(8,(di x3.2))],G []⟩) (0,(D2 (2*x2))) () _ hy2 (G9 W W) ?_
 intro x3 g5 z3 hz3 ez3
 unfold R0 at hz3
 refine A6<|B1<|sv W<|sv W<|sv W<|A2<|cc W hz3 (fun c3 hz3=> ?_)<|fun c3 hz3=> ?_
 refine A9<|A8<|B1<|sv W<|sv W<|sv W<|sv W<|sv W<|sv W<|sv W ?_
 cases hz3
 refine D5 W ?_
 cases hz3
 obtain rfl:=ez3 _ rfl
 refine ⟨nofun,D4 W<|X2 ?_⟩
 exact ⟨(),(G9 W W)⟩
 rintro _ ⟨g4,q2⟩
 refine B4 q2<|A6<|B1<|sv W<|sv W<|sv W<|sv W<|A2<|B1<|sv W<|sv W<|sv W<|A2<|cc W hz2 (fun c4 hz2=> ?_)<|fun c4 hz2=> ?_
 refine C6<|sv W<|sv W<|sv W<|sv W<|sv W ?_
 cases hz2
 refine A9<|C6<|sv W<|sv W<|sv W<|A2<|F9<|G5 ?_
 cases hz2
 exact ⟨W,(),(G9 W W)⟩
 refine D5 W ?_
 cases hz2
 obtain rfl:=ez2 _ rfl
 refine ⟨nofun,D4 W<|G5 ?_⟩
 exact A7 (.inl W) W (.refl _)
def F1 [Lp]:Option Unit:=
  (J7 0).bind fun v1=>some ()
theorem Da(r)(h:F1=some r):PCall prog 263 [.nilS,(.fn (.func 264) [] [])] (.tup []):=by
 refine C3 (fk func263 ntmps263 m0 (by with_unfolding_all rfl)) (nl W) ?_
 unfold F1 at h
 refine B4 (s0:=⟨T [(0,(.d _)),(1,(.d _))],G []⟩) (G9 W W) ?_
 refine C6<|sv W<|sv W<|sv W<|sv W<|bs h fun _ hv1 h=>B0 W W A3 (Fx _ _ hv1) (.inl W) (A2<|G5 ?_)
 cases h
 exact A7 (.inl W) W (.refl _)
def Ag (v1:RoadsWay)(x1:((List Pass)×Int))(v2:Int)(x2:((List Pass)×Int))(v3:Zone)(x3:((List Pass)×Int)):Option (Stp ((List Pass)×Int) (List Pass)):=
  cond (decide (x3.2< (v3.Parts.length:Int))) ((B8 v3.Parts x3.2).bind fun v4=>cond (v4.Lane_==v2) ((B8 v1.starts x1.2).bind fun v5=>(B8 v1.starts x1.2).bind fun v6=>(Bj x3.1 [(Pass.mk x2.2 x3.2 (D2 (v5+v4.From)) (D2 (v6+v4.To)))]).bind fun v7=>some (.go (v7,(D2 (x3.2+1))))) (some (.go (x3.1,(D2 (x3.2+1)))))) (some (.out x3.1))
def T1 [Lp](p1:Map)(v1:RoadsWay)(x1:((List Pass)×Int))(v2:Int)(x2:((List Pass)×Int)):Option (Stp ((List Pass)×Int) (List Pass)):=
  cond (decide (x2.2< (p1.Zones.length:Int))) ((B8 p1.Zones x2.2).bind fun v3=>(loop (Ag v1 x1 v2 x2 v3) (x2.1,0)).bind fun y3=>some (.go (y3,(D2 (x2.2+1))))) (some (.out x2.1))
def P7 [Lp](p1:Map)(v1:RoadsWay)(x1:((List Pass)×Int)):Option (Stp ((List Pass)×Int) (List Pass)):=
  cond (decide (x1.2< (v1.lanes.length:Int))) ((B8 v1.lanes x1.2).bind fun v2=>(loop (T1 p1 v1 x1 v2) (x1.1,0)).bind fun y2=>some (.go (y2,(D2 (x1.2+1))))) (some (.out x1.1))
def W8 [Lp](p1:Map)(p2:(List Int)):Option (List Pass):=
  (Z2 p1 p2).bind fun v1=>(loop (P7 p1 v1) ([],0)).bind fun y1=>cond (List.isEmpty y1) ((F1).bind fun v9=>some []) ((F0 y1).bind fun v8=>some v8)
theorem FM(p1 p2 r)(h:W8 p1 p2=some r):PCall prog 246 [(.agg (V1 p1)),(.list (List.map A4 p2))] (.list (List.map X9 r)):=by
 refine C3 (fk func246 ntmps246 (fun r=>if r==13 then [1020]else if r==17 then [1017001]else []) (by with_unfolding_all rfl)) (nl W) ?_
 unfold W8 at h
 refine B4 (s0:=⟨T [(0,(.d _)),(1,(.d _))],G []⟩) (G9 W W) ?_
 refine lr<|fun u1 _=>sm W<|sv W<|A2<|lr<|fun u2 _=>sd W (B7 W G_hit W W)<|sv W<|bs h fun v1 hv1 h=>B0 W W A3 (Kp _ _ _ hv1) (.inl W) (sm W<|V5 W G_hit (Nb v1) W (A2<|B1<|sv W<|A2<|A6<|B1<|sq W<|sl W G_hit W<|sd W (E8 W)<|sv W<|A2<|bs h fun y1 hy1 h=>E7 (fun s=> ∃g1:Nat,Sb ⟨T [(6,(oS y1 (65,g1)))],G [((65,g1),oB 229 4 X9 y1)]⟩ s) ?_ ?_))
 refine A8<|G6 (P7 p1 v1) (fun (x1:((List Pass)×Int)) (g2:Nat)=>⟨T [(2,(.ptr (2,u1) 0)),(5,(.ptr (5,u2) 0)),(6,(oS x1.1 (65,g2))),(17,(dl A4 v1.lanes)),(18,(di (v1.lanes.length:Int))),(19,(di x1.2))],G [((2,u1),some<|.box 33 (N4 p1)),((5,u2),some<|.box 260 (Nb v1)),((65,g2),oB 229 4 X9 x1.1)]⟩) ([],0) 0 _ hy1 (F6 (Dv W)<|sg W<|B5 G_hit (.of W)<|T8 trivial) ?_
 intro x1 g2 z1 hz1 ez1
 unfold P7 at hz1
 refine B1<|sv W<|A2<|A6<|cc W hz1 (fun c1 hz1=> ?_)<|fun c1 hz1=> ?_
 refine A9<|A6<|A8<|B1<|sv W<|bs hz1 fun v2 hv2 hz1=>sd W (E2 W W hv2 W)<|sd W (H5 W hv2 W)<|sv W<|sv W<|A2<|B1<|sq W<|sl W G_hit W<|sd W (E8 W)<|sv W<|A2<|bs hz1 fun y2 hy2 hz1=>E7 (fun s=> ∃g3:Nat,Sb ⟨T [(2,(.ptr (2,u1) 0)),(5,(.ptr (5,u2) 0)),(6,(oS y2 (65,g3))),(17,(dl A4 v1.lanes)),(18,(di (v1.lanes.length:Int))),(19,(di x1.2))],G [((2,u1),some<|.box 33 (N4 p1)),((5,u2),some<|.box 260 (Nb v1)),((65,g3),oB 229 4 X9 y2)]⟩ s) ?_ ?_
 refine A8<|G6 (T1 p1 v1 x1 v2) (fun (x2:((List Pass)×Int)) (g4:Nat)=>⟨T [(2,(.ptr (2,u1) 0)),(5,(.ptr (5,u2) 0)),(6,(oS x2.1 (65,g4))),(7,(di x1.2)),(8,(di v2)),(17,(dl A4 v1.lanes)),(18,(di (v1.lanes.length:Int))),(19,(di x1.2)),(25,(dl Fu p1.Zones)),(26,(di (p1.Zones.length:Int))),(27,(di x2.2))],G [((2,u1),some<|.box 33 (N4 p1)),((5,u2),some<|.box 260 (Nb v1)),((65,g4),oB 229 4 X9 x2.1)]⟩) (x1.1,0) g2 _ hy2 (F6 (Dv W)<|B5 G_hit (.of W)<|sg W<|C2 (gq W) trivial) ?_
 intro x2 g4 z2 hz2 ez2
 unfold T1 at hz2
 refine B1<|sv W<|A2<|A6<|cc W hz2 (fun c2 hz2=> ?_)<|fun c2 hz2=> ?_
 refine A9<|A6<|A8<|B1<|sv W<|bs hz2 fun v3 hv3 hz2=>sd W (E2 W W hv3 W)<|sd W (E4 W hv3 W W)<|sm W<|sv W<|V5 W G_hit [(dl Df v3.Parts),(di v3.Signal_)] W (A2<|B1<|sq W<|sl W G_hit W<|sd W (E8 W)<|sv W<|A2<|bs hz2 fun y3 hy3 hz2=>E7 (fun s=> ∃g5:Nat,Sb ⟨T [(2,(.ptr (2,u1) 0)),(5,(.ptr (5,u2) 0)),(6,(oS y3 (65,g5))),(7,(di x1.2)),(8,(di v2)),(17,(dl A4 v1.lanes)),(18,(di (v1.lanes.length:Int))),(19,(di x1.2)),(25,(dl Fu p1.Zones)),(26,(di (p1.Zones.length:Int))),(27,(di x2.2))],G [((2,u1),some<|.box 33 (N4 p1)),((5,u2),some<|.box 260 (Nb v1)),((65,g5),oB 229 4 X9 y3)]⟩ s) ?_ ?_)
 refine A8<|G6 (Ag v1 x1 v2 x2 v3) (fun (x3:((List Pass)×Int)) (g6:Nat)=>⟨T [(2,(.ptr (2,u1) 0)),(5,(.ptr (5,u2) 0)),(6,(oS x3.1 (65,g6))),(7,(di x1.2)),(8,(di v2)),(9,(di x2.2)),(17,(dl A4 v1.lanes)),(18,(di (v1.lanes.length:Int))),(19,(di x1.2)),(25,(dl Fu p1.Zones)),(26,(di (p1.Zones.length:Int))),(27,(di x2.2)),(33,(dl Df v3.Parts)),(34,(di (v3.Parts.length:Int))),(35,(di x3.2))],G [((2,u1),some<|.box 33 (N4 p1)),((5,u2),some<|.box 260 (Nb v1)),((65,g6),oB 229 4 X9 x3.1)]⟩) (x2.1,0) g4 _ hy3 (F6 (Dv W)<|sg W<|sg W<|C2 (gq W) trivial) ?_
 intro x3 g6 z3 hz3 ez3
 unfold Ag at hz3
 refine B1<|sv W<|A2<|A6<|cc W hz3 (fun c3 hz3=> ?_)<|fun c3 hz3=> ?_
 refine A9<|A6<|A8<|B1<|sv W<|bs hz3 fun v4 hv4 hz3=>sd W (E2 W W hv4 W)<|sd W (E4 W hv4 W W)<|sm W<|sv W<|V5 W G_hit (HR v4) W (A2<|B1<|sq W<|sl W G_hit W<|sv W<|sv W<|A2<|cc W hz3 (fun c4 hz3=> ?_)<|fun c4 hz3=> ?_)
 refine Mz W fun u14 _=>C0 (oS x3.1 (65,g6)) W W (sv W<|sv W<|sq W<|sl W (gq W) W (sv W<|bs hz3 fun v5 hv5 hz3=>sd W (E2 W W hv5 W)<|sd W (H5 W hv5 W)<|sq W<|sl W G_hit W<|sv W<|sq W<|sl W (gq W) W (sv W<|bs hz3 fun v6 hv6 hz3=>sd W (E2 W W hv6 W)<|sd W (H5 W hv6 W)<|sq W<|sl W G_hit W<|sv W<|sv W<|C0 (dl X9 [(Pass.mk x2.2 x3.2 (D2 (v5+v4.From))<|D2 (v6+v4.To))]) W W (bs hz3 fun _ hv7 hz3=>U7 X9 (65,g6) x3.1 (Pass.mk x2.2 x3.2 (D2 (v5+v4.From))<|D2 (v6+v4.To)) [] _ (P0<|fun _=>W) W (gq W) hv7 (ss W<|A2<|F9<|C6<|sv W<|sv W<|A2<|G5 ?_)))))
 cases hz3
 exact ⟨W,u14,(F6 ⟨.of W, .of W,(.of (X1<|Aj hv7).symm), .of W, .of W, .of W, .of W, .of W, .of W, .of W, .of W, .of W, .of W, .of W, .of W,trivial⟩<|sg W<|sg W<|O8 G_hit trivial)⟩
 refine A9<|F9<|C6<|sv W<|sv W<|A2<|G5 ?_
 cases hz3
 exact ⟨W,g6,(F6 (Dv W)<|sg W<|sg W<|C2 (gq W) trivial)⟩
 refine D5 W ?_
 cases hz3
 obtain rfl:=ez3 _ rfl
 refine ⟨nofun,D4 W<|X2 ?_⟩
 exact ⟨g6,(F6 (Dv W)<|B5 G_hit (.of W)<|sg W<|C2 (gq W) trivial)⟩
 rintro _ ⟨g5,q1⟩
 refine F9<|B4 q1<|C6<|sv W<|sv W<|A2<|G5 ?_
 cases hz2
 exact ⟨W,g5,(F6 (Dv W)<|B5 G_hit (.of W)<|sg W<|C2 (gq W) trivial)⟩
 refine D5 W ?_
 cases hz2
 obtain rfl:=ez2 _ rfl
 refine ⟨nofun,D4 W<|X2 ?_⟩
 exact ⟨g4,(F6 (Dv W)<|B5 G_hit (.of W)<|sg W<|C2 (gq W) trivial)⟩
 rintro _ ⟨g3,q2⟩
 refine F9<|B4 q2<|C6<|sv W<|sv W<|A2<|G5 ?_
 cases hz1
 exact ⟨W,g3,(F6 (Dv W)<|B5 G_hit (.of W)<|sg W<|C2 (gq W) trivial)⟩
 refine D5 W ?_
 cases hz1
 obtain rfl:=ez1 _ rfl
 refine ⟨nofun,D4 W<|X2 ?_⟩
 exact ⟨g2,(F6 ⟨.of W,trivial⟩<|C2 (gq W) trivial)⟩
 rintro _ ⟨g1,q3⟩
 refine B4 q3<|A6 ?_
 rcases LF h with ⟨e1,h⟩|⟨e1,h⟩
 refine B4 (s0:=⟨T [(6,(.d .nilS))],G []⟩) (F6 ⟨.of (cG e1),trivial⟩ trivial) ?_
 refine C6<|sv W<|bs h fun _ hv9 h=>FD (v:= .d (.tup [])) (us:= []) (jW [] _ W W A3 (Da _ hv9) W W) (A2<|B1<|sv W<|sv W<|A2<|B2 ?_)
 cases h
 exact A7 (.inr W) (B6 (B3 W) C1) DLe.nil
 refine B4 (s0:=⟨T [(6,(.sl (65,g1)))],G [((65,g1),some<|.arr 229 4 (List.map X9 y1))]⟩) (F6 ⟨.of (X1 e1),trivial⟩<|B5 (Xv G_hit e1) (.of W) trivial) ?_
 refine C6<|ss W<|bs h fun v8 hv8 h=>FD (v:= .d (.tup [])) (us:= [(65,g1)]) (JY (Cz _ _ hv8) [(65,g1)] [(65,g1)] _ (((65,g1),some<|.arr 229 4 (List.map X9 v8))::_) W Ls (Y9 EM<|Y9 BT Tn) (Jg G_hit Iq) ⟨⟨_,G_hit, .of W⟩,trivial⟩ (fun _ h=>h) nd1 W W W) (A2<|B1<|ss W<|ss W<|A2<|B2 ?_)
 cases h
 exact A7 (.inr W) (B6 (B3 W)<|PI G_hit) (.refl _)
def Ga (p1:Pass)(p2:Int)(p3:WorldSpan):Option Bool:=
  some (((p1.Zone_==p2)&& (decide (p1.From≤p3.to)))&& (decide (p3.from_≤p1.To)))
theorem Tv(p1 p2 p3 r)(h:Ga p1 p2 p3=some r):PCall prog 247 [(.agg (X9 p1)),(.bp [(i64 p2)] 0),(.bp [(i64 p3.from_),(i64 p3.to)] 0)] (bo r):=by
 refine C3 (fk func247 ntmps247 m0 (by with_unfolding_all rfl)) (nl W) ?_
 unfold Ga at h
 refine B4 (s0:=⟨T [(0,(.d _)),(1,(.d _)),(2,(.d _))],G []⟩) (G9 W W) ?_
 refine B1<|sm W<|sv W<|A2<|B1<|sq W<|sl W G_hit W<|sv W<|sv W<|sv W<|gp W (O5 W) (fun _=>W) (gt W (vl W G_hit W)<|gt W (fun _=>W) ?_)
 refine gt W (fun w4=>(by simp only [A5 w4];rfl)) ?_
 refine gt W (fun w5=>(S9 (A5 w5) (A5 w5) W))<|sa W W W<|sv W<|gt W (fun _=>W) ?_
 refine gt W (fun w7=>(by simp only [A5 w7];rfl)) ?_
 refine gp W (O5 W) (fun _=>W) (gt W (vl W G_hit W)<|gt W (fun w10=>(S9 (A5 w10) (A5 w10) W))<|sa W W W<|sv W<|A2<|B2 ?_)
 cases h
 exact A7 (.inr W) (B6 (B3 W) C1) (.refl _)
def K8 (p1:(List Pass))(p2:Int)(p3:WorldSpan)(x1:Int):Option (Stp Int (Sum Unit Int)):=
  cond (decide (x1< (p1.length:Int))) ((B8 p1 x1).bind fun v1=>(Ga v1 p2 p3).bind fun v2=>cond v2 (some (.out (.inr x1))) (some (.go (D2 (x1+1))))) (some (.out (.inl ())))
def J1 [Lp](p1:(List Pass))(p2:Int)(p3:WorldSpan):Option Int:=
  thenS (loop (K8 p1 p2 p3) 0) (fun _=>some (-1)) (fun r=>some r)
theorem Ey(p1 p2 p3 r)(h:J1 p1 p2 p3=some r):PCall prog 262 [(.list (List.map X9 p1)),(.fn (.func 247) [] [(.bp [(i64 p2)] 0),(.bp [(i64 p3.from_),(i64 p3.to)] 0)])] (i64 r):=by
 refine C3 (fk func262 ntmps262 m0 (by with_unfolding_all rfl)) (nl W) ?_
 unfold J1 at h
 refine B4 (s0:=⟨T [(0,(.d _)),(1,(.d _))],G []⟩) (G9 W W) ?_
 refine B1<|sv W<|A2<|A6<|B1<|sv W<|sd W (E8 W)<|sv W<|A2<|js h fun z1 hz1 h=>E7 (fun s=> ∃(y1:Unit) (g1:Unit),z1= .inl y1∧Sb ⟨T [],G []⟩ s) ?_ ?_
 refine A8<|G6 (K8 p1 p2 p3) (fun (x1:Int) (g2:Unit)=>⟨T [(0,(dl X9 p1)),(1,(.d (.fn (.func 247) [] [(.bp [(i64 p2)] 0),(.bp [(i64 p3.from_),(i64 p3.to)] 0)]))),(7,(di (p1.length:Int))),(8,(di x1))],G []⟩) 0 () _ hz1 (G9 W W) ?_
 intro x1 g2 z2 hz2 ez2
 unfold K8 at hz2
 refine B1<|sv W<|A2<|A6<|cc W hz2 (fun c1 hz2=> ?_)<|fun c1 hz2=> ?_
 refine A9<|A6<|A8<|B1<|sv W<|sv W<|A2<|B1<|sv W<|sv W<|sv W<|bs hz2 fun _ hv1 hz2=>sd W (E2 W W hv1 W)<|sd W (E4 W hv1 W W)<|bs hz2 fun _ hv2 hz2=>B0 W W A3 (Tv _ _ _ _ hv2) (.inl W) (A2<|cc W hz2 (fun c2 hz2=> ?_)<|fun c2 hz2=> ?_)
 refine B1<|sv W<|sv W<|A2<|B2 ?_
 cases hz2
 obtain rfl:=ez2 _ rfl
 refine ⟨nofun,H4 ?_⟩
 rw [wE]at h
 cases h
 exact A7 (.inr W) (B6 (B3 W) C1) (.refl _)
 refine A9<|F9<|C6<|sv W<|sv W<|A2<|G5 ?_
 cases hz2
 exact ⟨W,(),(G9 W W)⟩
 refine D5 W ?_
 cases hz2
 obtain rfl:=ez2 _ rfl
 refine ⟨nofun,D4 W<|X2 ?_⟩
 exact ⟨_,(),W,(G9 W W)⟩
 rintro _ ⟨y1,g1,rfl,q1⟩
 rw [wD]at h
 refine B4 q1<|B1<|sv W<|A2<|B2 ?_
 cases h
 exact A7 (.inr W) (B6 (B3 W) C1) (.refl _)
def F2 [Lp](p1:(List Pass))(p2:Int)(p3:WorldSpan):Option Bool:=
  (J1 p1 p2 p3).bind fun v1=>some (decide (v1≥0))
theorem Dm(p1 p2 p3 r)(h:F2 p1 p2 p3=some r):PCall prog 245 [(.list (List.map X9 p1)),(.fn (.func 247) [] [(.bp [(i64 p2)] 0),(.bp [(i64 p3.from_),(i64 p3.to)] 0)])] (bo r):=by
 refine C3 (fk func245 ntmps245 m0 (by with_unfolding_all rfl)) (nl W) ?_
 unfold F2 at h
 refine B4 (s0:=⟨T [(0,(.d _)),(1,(.d _))],G []⟩) (G9 W W) ?_
 refine B1<|sv W<|A2<|B1<|sv W<|sv W<|bs h fun _ hv1 h=>B0 W W A3 (Ey _ _ _ _ hv1) (.inl W) (sv W<|sv W<|A2<|B2 ?_)
 cases h
 exact A7 (.inr W) (B6 (B3 W) C1) (.refl _)
def Cu [Lp](p1:Map)(p2:Agent)(p3:Agent)(p4:Int):Option Bool:=
  (Kv p2).bind fun v1=>((cond (!(!v1)) (Kv p3) (some default))).bind fun v2=>cond ((!v1)||(!v2)) (some false) ((Z3 p2).bind fun v3=>(W8 p1 p2.Route).bind fun v4=>(F2 v4 p4 (WorldSpan.mk v3.from_ p3.S)).bind fun v5=>some v5)
theorem DN(p1 p2 p3 p4 r)(h:Cu p1 p2 p3 p4=some r):PCall prog 218 [(.agg (V1 p1)),(.agg (E5 p2)),(.agg (E5 p3)),(i64 p4)] (bo r):=by
 refine C3 (fk func218 ntmps218 m0 (by with_unfolding_all rfl)) (nl W) ?_
 unfold Cu at h
 refine B4 (s0:=⟨T [(0,(.d _)),(1,(.d _)),(2,(.d _)),(3,(.d _))],G []⟩) (G9 W W) ?_
 refine B1<|sm W<|sn W W<|sm W<|sn W W<|sv W<|A2<|A6<|B1<|sd W (B7 W (gq W) W W)<|bs h fun v1 hv1 h=>B0 W W A3 (Ru _ _ hv1) (.inl W) (C0 (.d (bo (!v1))) W W (sv W<|gf W (fun _=>(B7 W (gq W) W W))<|bs h fun v2 hv2 h=> ?_))
 refine P3 _ (bo v2) (N5 W) (fun w2=>⟨_,[(.d (.agg (E5 p3)))],_,_,(by simp only [A5 w2];rfl),W,A3,Ru _ _<|D3 w2 hv2,(.inl W)⟩) ?_
 refine U8 _ (.d (bo (!v2))) W (N5 W) (fun w3=>(by simp only [A5 w3];rfl)) ?_
 refine sd W (T5 W W<|fun hc=>A5<|M7 hc)<|A2<|cc W h (fun c1 h=> ?_)<|fun c1 h=> ?_
 refine B1<|sv W<|A2<|B2 ?_
 cases h
 exact A7 (.inr W) (B6 (B3 W) C1) (.refl _)
 refine A9<|A6<|J0 W<|sd W (B7 W (gq W) W W)<|bs h fun v3 hv3 h=>B0 W W A3 (If _ _ hv3) (.inl W) (sv W<|sq W<|sl W (gq W) W (sv W<|sm W<|V5 W G_hit [(di v3.from_),(di p3.S)] W (A2<|B1<|sd W (B7 W (gq W) W W)<|sq W<|sl W (gq W) W (bs h fun _ hv4 h=>B0 W W A3 (FM _ _ _ hv4) (.inl W) (C0 (.fn _ _ _) W W (bs h fun _ hv5 h=>B0 W (rD<|E3 (Yq G2<|E3 (An (gq W)<|rD G2)<|E3 (An G_hit<|rD<|rD G2) G2) G2) A3 (Dm _ _ _ _ hv5) (.inr W) (sv W<|A2<|B2 ?_)))))))
 cases h
 exact A7 (.inr W) (B6 (B3 W) C1) (.refl _)
def N0 [Lp](p1:WorldScene)(p2:Int)(p3:Int):Option Bool:=
  (Gu p1.before p2).bind fun v1=>((cond v1 (B8 p1.before.Agents p2) (some default))).bind fun v2=>((cond v1 (B8 p1.after.Agents p2) (some default))).bind fun v3=>((cond v1 (Cu p1.m v2 v3 p3) (some default))).bind fun v4=>some (v1&&v4)
theorem Ba(p1 p2 p3 r)(h:N0 p1 p2 p3=some r):PCall prog 171 [(.bp (Nv p1) 0),(i64 p2),(i64 p3)] (bo r):=by
 refine C3 (fk func171 ntmps171 m0 (by with_unfolding_all rfl)) (nl W) ?_
 unfold N0 at h
 refine B4 (s0:=⟨T [(0,(.d _)),(1,(.d _)),(2,(.d _))],G []⟩) (G9 W W) ?_
 refine B1<|sv W<|A2<|A6<|J0 W<|sv W<|sv W<|sv W<|sv W<|sv W<|bs h fun v1 hv1 h=>B0 W W A3 (Ma _ _ _ hv1) (.inl W) (sv W<|gt W (fun _=>W) ?_)
 refine gt W (fun w2=>(by simp only [A5 w2];rfl)) ?_
 refine gt W (fun w3=>(by simp only [A5 w3];rfl)) ?_
 refine gt W (fun w4=>(by simp only [A5 w4];rfl)) ?_
 refine gt W (fun _=>W) ?_
 refine gt W (fun w6=>(by simp only [A5 w6];rfl)) ?_
 refine gt W (fun w7=>(by simp only [A5 w7];rfl)) ?_
 refine gt W (fun w8=>(by simp only [A5 w8];rfl)) ?_
 refine gt W (fun w9=>(by simp only [A5 w9];rfl)) ?_
 refine gt W (fun _=>W)<|bs h fun v2 hv2 h=>gt W (fun w11=>(E2 (A5 w11) (A5 w11) (D3 w11 hv2) W))<|gt W (fun w12=>(E4 (A5 w12) (D3 w12 hv2) W W))<|gt W (fun _=>W) ?_
 refine gt W (fun w14=>(by simp only [A5 w14];rfl)) ?_
 refine gt W (fun w15=>(by simp only [A5 w15];rfl)) ?_
 refine gt W (fun w16=>(by simp only [A5 w16];rfl)) ?_
 refine gt W (fun w17=>(by simp only [A5 w17];rfl)) ?_
 refine gt W (fun _=>W)<|bs h fun v3 hv3 h=>gt W (fun w19=>(E2 (A5 w19) (A5 w19) (D3 w19 hv3) W))<|gt W (fun w20=>(E4 (A5 w20) (D3 w20 hv3) W W))<|gt W (fun _=>W)<|bs h fun v4 hv4 h=> ?_
 refine P3 v1 (bo v4) (O5 W) (fun w22=>⟨_,[(.d (.agg (V1 p1.m))),(.d (.agg (E5 v2))),(.d (.agg (E5 v3))),(di p3)],_,_,(by simp only [A5 w22];rfl),W,A3,DN _ _ _ _ _<|D3 w22 hv4,(.inl W)⟩) ?_
 refine sa W W W<|sv W<|A2<|B2 ?_
 cases h
 exact A7 (.inr W) (B6 (B3 W) C1) (.refl _)
def C9 [Lp](p1:(List Stay))(p2:Stay)(x1:(Int×Int)):Option (Stp (Int×Int) Int):=
  cond (decide (x1.1<x1.2)) ((B8 p1 (D2 ((IntKind.wrap .u64 (D2 (x1.1+x1.2))).fdiv (2^ (min (1:Int).toNat (IntKind.bits .u64)))))).bind fun v1=>(Cs v1 p2).bind fun v2=>cond (decide (v2<0)) (some (.go ((D2 ((D2 ((IntKind.wrap .u64 (D2 (x1.1+x1.2))).fdiv (2^ (min (1:Int).toNat (IntKind.bits .u64)))))+1)),x1.2))) (some (.go (x1.1,(D2 ((IntKind.wrap .u64 (D2 (x1.1+x1.2))).fdiv (2^ (min (1:Int).toNat (IntKind.bits .u64))))))))) (some (.out x1.1))
def C7 [Lp](p1:(List Stay))(p2:Stay):Option (Int×Bool):=
  (loop (C9 p1 p2) (0,(p1.length:Int))).bind fun y1=>((cond (decide (y1< (p1.length:Int))) (B8 p1 y1) (some default))).bind fun v3=>((cond (decide (y1< (p1.length:Int))) (Cs v3 p2) (some default))).bind fun v4=>some (y1,((decide (y1< (p1.length:Int)))&& (v4==0)))
theorem O1(p1 p2 r)(h:C7 p1 p2=some r):PCall prog 172 [(.list (List.map K7 p1)),(.agg (K7 p2)),(.fn (.func 73) [] [])] (.tup [(i64 r.1),(bo r.2)]):=by
 refine C3 (fk func172 ntmps172 m0 (by with_unfolding_all rfl)) (nl W) ?_
 unfold C7 at h
 refine B4 (s0:=⟨T [(0,(.d _)),(1,(.d _)),(2,(.d _))],G []⟩) (G9 W W) ?_
 refine lr<|fun u1 _=>sm W<|sv W<|sv W<|A2<|B1<|sv W<|sd W (E8 W)<|sv W<|A2<|B1<|sv W<|sv W<|sv W<|A2<|A6<|bs h fun y1 hy1 h=>E7 (fun s=> ∃g1:Unit,Sb ⟨T [(0,(dl K7 p1)),(2,(.d (.fn (.func 73) [] []))),(4,(.ptr (4,u1) 0)),(8,(di (p1.length:Int))),(9,(di y1))],G [((4,u1),some<|.box 127 (Ys p2))]⟩ s) ?_ ?_
 refine A8<|G6 (C9 p1 p2) (fun (x1:(Int×Int)) (g2:Unit)=>⟨T [(0,(dl K7 p1)),(2,(.d (.fn (.func 73) [] []))),(4,(.ptr (4,u1) 0)),(8,(di (p1.length:Int))),(9,(di x1.1)),(10,(di x1.2))],G [((4,u1),some<|.box 127 (Ys p2))]⟩) (0,(p1.length:Int)) () _ hy1 (G9 W W) ?_
 intro x1 g2 z1 hz1 ez1
 unfold C9 at hz1
 refine A6<|B1<|sv W<|sv W<|sv W<|A2<|cc W hz1 (fun c1 hz1=> ?_)<|fun c1 hz1=> ?_
 refine A9<|A8<|B1<|sv W<|sv W<|sv W<|sv W<|sv W<|sv W<|sv W<|A2<|A6<|J0 W<|sv W<|sv W<|sv W<|bs hz1 fun _ hv1 hz1=>sd W (E2 W W hv1 W)<|sd W (E4 W hv1 W W)<|sd W (B7 W G_hit W W)<|bs hz1 fun _ hv2 hz1=>B0 W W A3 (Px _ _ _ hv2) (.inl W) (sv W<|A2<|cc W hz1 (fun c2 hz1=> ?_)<|fun c2 hz1=> ?_)
 refine C6<|sv W<|sv W<|sv W<|A2<|F9<|G5 ?_
 cases hz1
 exact ⟨W,(),(G9 W W)⟩
 refine C6<|sv W<|sv W<|A2<|F9<|G5 ?_
 cases hz1
 exact ⟨W,(),(G9 W W)⟩
 refine D5 W ?_
 cases hz1
 obtain rfl:=ez1 _ rfl
 refine ⟨nofun,D4 W<|X2 ?_⟩
 exact ⟨(),(G9 W W)⟩
 rintro _ ⟨g1,q1⟩
 refine B4 q1<|A6<|J0 W<|sv W<|sv W<|sv W<|sv W<|sv W<|gt W (fun _=>W)<|gt W (fun _=>W)<|gt W (fun _=>W)<|bs h fun v3 hv3 h=>gt W (fun w4=>(E2 (A5 w4) (A5 w4) (D3 w4 hv3) W))<|gt W (fun w5=>(E4 (A5 w5) (D3 w5 hv3) W W))<|gt W (fun _=>(B7 W G_hit W W))<|bs h fun v4 hv4 h=> ?_
 refine P3 _ (i64 v4) (O5 W) (fun w7=>⟨_,[(.d (.agg (K7 v3))),(.d (.agg (K7 p2)))],_,_,(by simp only [A5 w7];rfl),W,A3,Px _ _ _<|D3 w7 hv4,(.inl W)⟩) ?_
 refine gt W (vb W W W)<|sa W W W<|sv W<|sv W<|A2<|B2 ?_
 cases h
 exact A7 (.inr W) (Sg (B3 W) (B3 W) C1 C1) (.refl _)
def Mb (p1:Part)(p2:Int):Option Bool:=
  some (p1.Lane_==p2)
theorem CC(p1 p2 r)(h:Mb p1 p2=some r):PCall prog 265 [(.agg (Df p1)),(.bp [(i64 p2)] 0)] (bo r):=by
 refine C3 (fk func265 ntmps265 m0 (by with_unfolding_all rfl)) (nl W) ?_
 unfold Mb at h
 refine B4 (s0:=⟨T [(0,(.d _)),(1,(.d _))],G []⟩) (G9 W W) ?_
 refine B1<|sm W<|sv W<|A2<|B1<|sq W<|sl W G_hit W<|sv W<|sv W<|sv W<|A2<|B2 ?_
 cases h
 exact A7 (.inr W) (B6 (B3 W) C1) (.refl _)
def L8 (p1:(List Part))(p2:Int)(x1:Int):Option (Stp Int (Sum Unit Int)):=
  cond (decide (x1< (p1.length:Int))) ((B8 p1 x1).bind fun v1=>(Mb v1 p2).bind fun v2=>cond v2 (some (.out (.inr x1))) (some (.go (D2 (x1+1))))) (some (.out (.inl ())))
def K1 [Lp](p1:(List Part))(p2:Int):Option Int:=
  thenS (loop (L8 p1 p2) 0) (fun _=>some (-1)) (fun r=>some r)
theorem Gq(p1 p2 r)(h:K1 p1 p2=some r):PCall prog 220 [(.list (List.map Df p1)),(.fn (.func 265) [] [(.bp [(i64 p2)] 0)])] (i64 r):=by
 refine C3 (fk func220 ntmps220 m0 (by with_unfolding_all rfl)) (nl W) ?_
 unfold K1 at h
 refine B4 (s0:=⟨T [(0,(.d _)),(1,(.d _))],G []⟩) (G9 W W) ?_
 refine B1<|sv W<|A2<|A6<|B1<|sv W<|sd W (E8 W)<|sv W<|A2<|js h fun z1 hz1 h=>E7 (fun s=> ∃(y1:Unit) (g1:Unit),z1= .inl y1∧Sb ⟨T [],G []⟩ s) ?_ ?_
 refine A8<|G6 (L8 p1 p2) (fun (x1:Int) (g2:Unit)=>⟨T [(0,(dl Df p1)),(1,(.d (.fn (.func 265) [] [(.bp [(i64 p2)] 0)]))),(7,(di (p1.length:Int))),(8,(di x1))],G []⟩) 0 () _ hz1 (G9 W W) ?_
 intro x1 g2 z2 hz2 ez2
 unfold L8 at hz2
 refine B1<|sv W<|A2<|A6<|cc W hz2 (fun c1 hz2=> ?_)<|fun c1 hz2=> ?_
 refine A9<|A6<|A8<|B1<|sv W<|sv W<|A2<|B1<|sv W<|sv W<|sv W<|bs hz2 fun _ hv1 hz2=>sd W (E2 W W hv1 W)<|sd W (E4 W hv1 W W)<|bs hz2 fun _ hv2 hz2=>B0 W W A3 (CC _ _ _ hv2) (.inl W) (A2<|cc W hz2 (fun c2 hz2=> ?_)<|fun c2 hz2=> ?_)
 refine B1<|sv W<|sv W<|A2<|B2 ?_
 cases hz2
 obtain rfl:=ez2 _ rfl
 refine ⟨nofun,H4 ?_⟩
 rw [wE]at h
 cases h
 exact A7 (.inr W) (B6 (B3 W) C1) (.refl _)
 refine A9<|F9<|C6<|sv W<|sv W<|A2<|G5 ?_
 cases hz2
 exact ⟨W,(),(G9 W W)⟩
 refine D5 W ?_
 cases hz2
 obtain rfl:=ez2 _ rfl
 refine ⟨nofun,D4 W<|X2 ?_⟩
 exact ⟨_,(),W,(G9 W W)⟩
 rintro _ ⟨y1,g1,rfl,q1⟩
 rw [wD]at h
 refine B4 q1<|B1<|sv W<|A2<|B2 ?_
 cases h
 exact A7 (.inr W) (B6 (B3 W) C1) (.refl _)
def Ix [Lp](p1:Zone)(p2:Int):Option (Part×Bool):=
  (K1 p1.Parts p2).bind fun v1=>cond (decide (v1<0)) (some ((Part.mk 0 0 0 0),false)) ((B8 p1.Parts v1).bind fun v2=>some (v2,true))
theorem KA(p1 p2 r)(h:Ix p1 p2=some r):PCall prog 251 [(.agg [(.list (List.map Df p1.Parts)),(i64 p1.Signal_)]),(i64 p2)] (.tup [(.agg (Df r.1)),(bo r.2)]):=by
 refine C3 (fk func251 ntmps251 m0 (by with_unfolding_all rfl)) (nl W) ?_
 unfold Ix at h
 refine B4 (s0:=⟨T [(0,(.d _)),(1,(.d _))],G []⟩) (G9 W W) ?_
 refine B1<|sm W<|sn W W<|sm W<|sv W<|A2<|B1<|sq W<|sl W (gq W) W (C0 (.fn _ _ _) W W (bs h fun _ hv1 h=>B0 W (rD<|E3 (Yq G2<|E3 (An (gq W)<|rD G2) G2) G2) A3 (Gq _ _ _ hv1) (.inr W) (sv W<|A2<|A6<|B1<|sv W<|sv W<|A2<|cc W h (fun c1 h=> ?_)<|fun c1 h=> ?_)))
 refine B1<|sv W<|V5 W G_hit (zs 4) W (sv W<|A2<|B2 ?_)
 cases h
 exact A7 (.inr W) (Sg (M1 W G_hit (nl W) W) (B3 W) C1 C1) (.refl _)
 refine A9<|B1<|sq W<|sl W (gq W) W (sv W<|bs h fun v2 hv2 h=>sd W (E2 W W hv2 W)<|sd W (E4 W hv2 W W)<|V5 W G_hit (HR v2) W (sv W<|A2<|B2 ?_))
 cases h
 exact A7 (.inr W) (Sg (M1 W G_hit (nl W) W) (B3 W) C1 C1) (.refl _)
def Z7 [Lp](p1:Int)(p2:Map)(p3:Int):Option Bool:=
  (B8 p2.Zones p3).bind fun v1=>(Ix v1 p1).bind fun v2=>some v2.2
theorem Wr(p1 p2 p3 r)(h:Z7 p1 p2 p3=some r):PCall prog 250 [(i64 p1),(.bp (V1 p2) 0),(.bp [(i64 p3)] 0)] (bo r):=by
 refine C3 (fk func250 ntmps250 m0 (by with_unfolding_all rfl)) (nl W) ?_
 unfold Z7 at h
 refine B4 (s0:=⟨T [(0,(.d _)),(1,(.d _)),(2,(.d _))],G []⟩) (G9 W W) ?_
 refine B1<|sv W<|A2<|B1<|sv W<|sv W<|sv W<|bs h fun _ hv1 h=>sd W (E2 W W hv1 W)<|sd W (E4 W hv1 W W)<|sv W<|bs h fun v2 hv2 h=>B0 W W A3 (KA _ _ _ hv2) (.inl W) (sv W<|sv W<|sv W<|sm W<|V5 W G_hit (HR v2.1) W (sv W<|A2<|B1<|sv W<|sv W<|A2<|B2 ?_))
 cases h
 exact A7 (.inr W) (B6 (B3 W) C1) (.refl _)
def H7 [Lp](p1:(List Int))(p2:Map)(p3:Int)(x1:Int):Option (Stp Int (Sum Unit Int)):=
  cond (decide (x1< (p1.length:Int))) ((B8 p1 x1).bind fun v1=>(Z7 v1 p2 p3).bind fun v2=>cond v2 (some (.out (.inr x1))) (some (.go (D2 (x1+1))))) (some (.out (.inl ())))
def I8 [Lp](p1:(List Int))(p2:Map)(p3:Int):Option Int:=
  thenS (loop (H7 p1 p2 p3) 0) (fun _=>some (-1)) (fun r=>some r)
theorem Gr(p1 p2 p3 r)(h:I8 p1 p2 p3=some r):PCall prog 249 [(.list (List.map A4 p1)),(.fn (.func 250) [] [(.bp (V1 p2) 0),(.bp [(i64 p3)] 0)])] (i64 r):=by
 refine C3 (fk func249 ntmps249 m0 (by with_unfolding_all rfl)) (nl W) ?_
 unfold I8 at h
 refine B4 (s0:=⟨T [(0,(.d _)),(1,(.d _))],G []⟩) (G9 W W) ?_
 refine B1<|sv W<|A2<|A6<|B1<|sv W<|sd W (E8 W)<|sv W<|A2<|js h fun z1 hz1 h=>E7 (fun s=> ∃(y1:Unit) (g1:Unit),z1= .inl y1∧Sb ⟨T [],G []⟩ s) ?_ ?_
 refine A8<|G6 (H7 p1 p2 p3) (fun (x1:Int) (g2:Unit)=>⟨T [(0,(dl A4 p1)),(1,(.d (.fn (.func 250) [] [(.bp (V1 p2) 0),(.bp [(i64 p3)] 0)]))),(7,(di (p1.length:Int))),(8,(di x1))],G []⟩) 0 () _ hz1 (G9 W W) ?_
 intro x1 g2 z2 hz2 ez2
 unfold H7 at hz2
 refine B1<|sv W<|A2<|A6<|cc W hz2 (fun c1 hz2=> ?_)<|fun c1 hz2=> ?_
 refine A9<|A6<|A8<|B1<|sv W<|sv W<|A2<|B1<|sv W<|sv W<|sv W<|bs hz2 fun _ hv1 hz2=>sd W (E2 W W hv1 W)<|sd W (H5 W hv1 W)<|bs hz2 fun _ hv2 hz2=>B0 W W A3 (Wr _ _ _ _ hv2) (.inl W) (A2<|cc W hz2 (fun c2 hz2=> ?_)<|fun c2 hz2=> ?_)
 refine B1<|sv W<|sv W<|A2<|B2 ?_
 cases hz2
 obtain rfl:=ez2 _ rfl
 refine ⟨nofun,H4 ?_⟩
 rw [wE]at h
 cases h
 exact A7 (.inr W) (B6 (B3 W) C1) (.refl _)
 refine A9<|F9<|C6<|sv W<|sv W<|A2<|G5 ?_
 cases hz2
 exact ⟨W,(),(G9 W W)⟩
 refine D5 W ?_
 cases hz2
 obtain rfl:=ez2 _ rfl
 refine ⟨nofun,D4 W<|X2 ?_⟩
 exact ⟨_,(),W,(G9 W W)⟩
 rintro _ ⟨y1,g1,rfl,q1⟩
 rw [wD]at h
 refine B4 q1<|B1<|sv W<|A2<|B2 ?_
 cases h
 exact A7 (.inr W) (B6 (B3 W) C1) (.refl _)
def Gv [Lp](p1:Map)(p2:(List Int))(p3:Int):Option Int:=
  (Z2 p1 p2).bind fun v1=>cond ((decide (p3<0))||(decide (p3≥(p1.Zones.length:Int)))) (some (-1)) ((I8 v1.lanes p1 p3).bind fun v2=>some v2)
theorem HV(p1 p2 p3 r)(h:Gv p1 p2 p3=some r):PCall prog 222 [(.agg (V1 p1)),(.list (List.map A4 p2)),(i64 p3)] (i64 r):=by
 refine C3 (fk func222 ntmps222 m0 (by with_unfolding_all rfl)) (nl W) ?_
 unfold Gv at h
 refine B4 (s0:=⟨T [(0,(.d _)),(1,(.d _)),(2,(.d _))],G []⟩) (G9 W W) ?_
 refine B1<|sm W<|sn W W<|sv W<|A2<|B1<|sd W (B7 W (gq W) W W)<|sv W<|bs h fun v1 hv1 h=>B0 W W A3 (Kp _ _ _ hv1) (.inl W) (sm W<|V5 W G_hit (Nb v1) W (A2<|A6<|B1<|sl W (gq W) W (sv W<|sv W<|gf W (fun _=>(U5 W (gq W) W))<|gp W (N5 W) (fun _=>W) (gf W (vl W (gq W) W)<|gf W (fun w4=>(E8<|A5 w4))<|gf W (fun w5=>(S9 (A5 w5) (A5 w5) W))<|sd W (T5 W W<|fun hc=>A5<|M7 hc)<|A2<|cc W h (fun c1 h=> ?_)<|fun c1 h=> ?_))))
 refine B1<|sv W<|A2<|B2 ?_
 cases h
 exact A7 (.inr W) (B6 (B3 W) C1) (.refl _)
 refine A9<|B1<|sq W<|sl W G_hit W<|C0 (.fn _ _ _) W W (bs h fun _ hv2 h=>B0 W (rD<|E3 (Yq G2<|E3 (An (gq W)<|rD<|rD<|rD<|rD<|rD G2)<|E3 (An (gq W)<|rD G2) G2) G2) A3 (Gr _ _ _ _ hv2) (.inr W) (sv W<|A2<|B2 ?_))
 cases h
 exact A7 (.inr W) (B6 (B3 W) C1) (.refl _)
def Cv [Lp](p1:Map)(p2:(List Int))(p3:Int):Option Int:=
  (Gv p1 p2 p3).bind fun v1=>cond (decide (v1≥0)) ((B8 p2 v1).bind fun v2=>some v2) (some (-1))
theorem Pz(p1 p2 p3 r)(h:Cv p1 p2 p3=some r):PCall prog 175 [(.agg (V1 p1)),(.list (List.map A4 p2)),(i64 p3)] (i64 r):=by
 refine C3 (fk func175 ntmps175 m0 (by with_unfolding_all rfl)) (nl W) ?_
 unfold Cv at h
 refine B4 (s0:=⟨T [(0,(.d _)),(1,(.d _)),(2,(.d _))],G []⟩) (G9 W W) ?_
 refine B1<|sm W<|sv W<|A2<|A6<|B1<|sd W (B7 W G_hit W W)<|sv W<|sv W<|bs h fun _ hv1 h=>B0 W W A3 (HV _ _ _ _ hv1) (.inl W) (sv W<|A2<|B1<|sv W<|sv W<|A2<|cc W h (fun c1 h=> ?_)<|fun c1 h=> ?_)
 refine B1<|sv W<|sv W<|bs h fun _ hv2 h=>sd W (E2 W W hv2 W)<|sd W (H5 W hv2 W)<|sv W<|A2<|B2 ?_
 cases h
 exact A7 (.inr W) (B6 (B3 W) C1) (.refl _)
 refine A9<|B1<|sv W<|A2<|B2 ?_
 cases h
 exact A7 (.inr W) (B6 (B3 W) C1) (.refl _)
def Ki [Lp](p1:Map)(p2:Int):Option Bool:=
  ((cond ((decide (p2≥0))&& (decide (p2< (p1.Lanes.length:Int)))) (Bl p1) (some default))).bind fun v1=>some (((decide (p2≥0))&& (decide (p2< (p1.Lanes.length:Int))))&& (v1==0))
theorem Ws(p1 p2 r)(h:Ki p1 p2=some r):PCall prog 206 [(.agg (V1 p1)),(i64 p2)] (bo r):=by
 refine C3 (fk func206 ntmps206 m0 (by with_unfolding_all rfl)) (nl W) ?_
 unfold Ki at h
 refine B4 (s0:=⟨T [(0,(.d _)),(1,(.d _))],G []⟩) (G9 W W) ?_
 refine B1<|sm W<|sv W<|A2<|B1<|sv W<|sv W<|sv W<|gt W (fun _=>W)<|gp W (O5 W) (fun _=>W) (gt W (vl W G_hit W)<|gt W (fun w4=>(E8<|A5 w4))<|gt W (fun w5=>(S9 (A5 w5) (A5 w5) W))<|sa W W W<|sv W<|gt W (fun _=>(B7 W G_hit W W))<|bs h fun v1 hv1 h=> ?_)
 refine P3 _ (i64 v1) (O5 W) (fun w7=>⟨_,[(.d (.agg (V1 p1)))],_,_,(by simp only [A5 w7];rfl),W,A3,Pw _ _<|D3 w7 hv1,(.inl W)⟩) ?_
 refine gt W (vb W W W)<|sa W W W<|sv W<|A2<|B2 ?_
 cases h
 exact A7 (.inr W) (B6 (B3 W) C1) (.refl _)
def T3 [Lp](p1:Signal)(p2:Int)(x2:(Int×Int)):Option (Stp (Int×Int) (Sum Unit Bool)):=
  cond (decide (x2.2< (p1.Phases.length:Int))) ((B8 p1.Phases x2.2).bind fun v5=>cond (decide (x2.1≥v5.Ticks)) (some (.go ((D2 (x2.1 - v5.Ticks)),(D2 (x2.2+1))))) ((M8 v5.Green p2).bind fun v6=>some (.out (.inr v6)))) (some (.out (.inl ())))
def Bn (p1:Signal)(x1:(Int×Int)):Option (Stp (Int×Int) Int):=
  cond (decide (x1.2< (p1.Phases.length:Int))) ((B8 p1.Phases x1.2).bind fun v1=>some (.go ((D2 (x1.1+v1.Ticks)),(D2 (x1.2+1))))) (some (.out x1.1))
def Ez [Lp](p1:Signal)(p2:Int)(p3:Int):Option Bool:=
  (loop (Bn p1) (0,0)).bind fun y1=>(Tl p1.Offset y1).bind fun v2=>(Tl p3 y1).bind fun v3=>(Tl (D2 (v2+v3)) y1).bind fun v4=>thenS (loop (T3 p1 p2) (v4,0)) (fun _=>some false) (fun r=>some r)
theorem Wt(p1 p2 p3 r)(h:Ez p1 p2 p3=some r):PCall prog 248 [(.agg [(i64 p1.Offset),(.list (List.map Eb p1.Phases))]),(i64 p2),(i64 p3)] (bo r):=by
 refine C3 (fk func248 ntmps248 m0 (by with_unfolding_all rfl)) (nl W) ?_
 unfold Ez at h
 refine B4 (s0:=⟨T [(0,(.d _)),(1,(.d _)),(2,(.d _))],G []⟩) (G9 W W) ?_
 refine lr<|fun u1 _=>sm W<|sv W<|A2<|fI<|B1<|sv W<|A2<|A6<|B1<|sq W<|sl W G_hit W<|sd W (E8 W)<|sv W<|A2<|bs h fun y1 hy1 h=>E7 (fun s=> ∃g1:Unit,Sb ⟨T [(1,(di p2)),(2,(di p3)),(3,(.ptr (3,u1) 0)),(7,(di y1))],G [((3,u1),some<|.box 120 [(di p1.Offset),(dl Eb p1.Phases)])]⟩ s) ?_ ?_
 refine A8<|G6 (Bn p1) (fun (x1:(Int×Int)) (g2:Unit)=>⟨T [(1,(di p2)),(2,(di p3)),(3,(.ptr (3,u1) 0)),(7,(di x1.1)),(14,(dl Eb p1.Phases)),(15,(di (p1.Phases.length:Int))),(16,(di x1.2))],G [((3,u1),some<|.box 120 [(di p1.Offset),(dl Eb p1.Phases)])]⟩) (0,0) () _ hy1 (G9 W W) ?_
 intro x1 g2 z1 hz1 ez1
 unfold Bn at hz1
 refine B1<|sv W<|A2<|A6<|cc W hz1 (fun c1 hz1=> ?_)<|fun c1 hz1=> ?_
 refine A9<|A6<|A8<|B1<|bs hz1 fun v1 hv1 hz1=>sd W (E2 W W hv1 W)<|sd W (E4 W hv1 W W)<|sm W<|V5 W G_hit [(di v1.Ticks),(dl A4 v1.Green)] W (A2<|C6<|sv W<|sq W<|sl W G_hit W<|sv W<|sv W<|A2<|F9<|C6<|sv W<|sv W<|A2<|G5 ?_)
 cases hz1
 exact ⟨W,(),(G9 W W)⟩
 refine D5 W ?_
 cases hz1
 obtain rfl:=ez1 _ rfl
 refine ⟨nofun,D4 W<|X2 ?_⟩
 exact ⟨(),(G9 W W)⟩
 rintro _ ⟨g1,q1⟩
 refine B4 q1<|A6<|J0 W<|sq W<|sl W G_hit W<|sv W<|bs h fun _ hv2 h=>sd W (HL W W hv2)<|sv W<|sv W<|bs h fun _ hv3 h=>sd W (HL W W hv3)<|sv W<|sv W<|bs h fun v4 hv4 h=>sd W (HL W W hv4)<|sv W<|A2<|A6<|A9<|A6<|B1<|sq W<|sl W G_hit W<|sd W (E8 W)<|sv W<|A2<|js h fun z2 hz2 h=>E7 (fun s=> ∃(y2:Unit) (g3:Unit),z2= .inl y2∧Sb ⟨T [],G []⟩ s) ?_ ?_
 refine A8<|G6 (T3 p1 p2) (fun (x2:(Int×Int)) (g4:Unit)=>⟨T [(1,(di p2)),(10,(di x2.1)),(36,(dl Eb p1.Phases)),(37,(di (p1.Phases.length:Int))),(38,(di x2.2))],G []⟩) (v4,0) () _ hz2 (G9 W W) ?_
 intro x2 g4 z3 hz3 ez3
 unfold T3 at hz3
 refine B1<|sv W<|A2<|A6<|cc W hz3 (fun c2 hz3=> ?_)<|fun c2 hz3=> ?_
 refine A9<|A6<|A8<|B1<|bs hz3 fun v5 hv5 hz3=>sd W (E2 W W hv5 W)<|sd W (E4 W hv5 W W)<|sm W<|V5 W G_hit [(di v5.Ticks),(dl A4 v5.Green)] W (A2<|A6<|B1<|sv W<|sq W<|sl W G_hit W<|sv W<|A2<|cc W hz3 (fun c3 hz3=> ?_)<|fun c3 hz3=> ?_)
 refine B1<|sv W<|sq W<|sl W G_hit W<|sv W<|sv W<|A2<|Zu W<|C6<|sv W<|sv W<|A2<|G5 ?_
 cases hz3
 exact ⟨W,(),(G9 W W)⟩
 refine A9<|B1<|sq W<|sl W G_hit W<|sv W<|bs hz3 fun _ hv6 hz3=>B0 W W A3 (Dl _ _ _ hv6) (.inl W) (sv W<|A2<|B2 ?_)
 cases hz3
 obtain rfl:=ez3 _ rfl
 refine ⟨nofun,H4 ?_⟩
 rw [wE]at h
 cases h
 exact A7 (.inr W) (B6 (B3 W) C1) (.refl _)
 refine D5 W ?_
 cases hz3
 obtain rfl:=ez3 _ rfl
 refine ⟨nofun,D4 W<|X2 ?_⟩
 exact ⟨_,(),W,(G9 W W)⟩
 rintro _ ⟨y2,g3,rfl,q2⟩
 rw [wD]at h
 refine B4 q2<|B1<|sv W<|A2<|B2 ?_
 cases h
 exact A7 (.inr W) (B6 (B3 W) C1) (.refl _)
end
end Go.Abs.World
