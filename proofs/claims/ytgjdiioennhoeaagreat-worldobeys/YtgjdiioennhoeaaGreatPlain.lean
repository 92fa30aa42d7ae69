/-
  Plain facts on the functions: what they compute, and that the law holds of it.
-/
import Derived.Test.YtgjdiioennhoeaaGreatFns4
set_option maxRecDepth 100000
set_option synthInstance.maxHeartbeats 0
set_option synthInstance.maxSize 100000
set_option linter.unusedVariables false
namespace Go.Abs.World
open Go Go.Abs
noncomputable def Pw (p1:State)(x1:(Int×State)):Option (Stp (Int×State) State):=
  cond (decide (x1.1< (p1.Agents.length:Int))) ((C1 p1.Agents x1.1).bind fun v2=>(X6 ([]:List Int) v2.Route).bind fun v3=>(X6 x1.2.Agents [(Agent.mk v3 v2.S v2.V v2.Len v2.Begin v2.Obey v2.Gone)]).bind fun v4=>some (.go ((D3 (x1.1+1)),(State.mk x1.2.Tick v4 x1.2.In)))) (some (.out x1.2))
noncomputable def KS [Lp](p1:State):Option State:=
  (X6 ([]:List Stay) p1.In).bind fun v1=>(loop (Pw p1) (0,(State.mk p1.Tick [] v1))).bind fun y1=>some y1
noncomputable def Dq (p2:Int)(x1:(Int×Int)):Option (Stp (Int×Int) Int):=
  cond (decide (x1.1>(Mp false p2 1000000))) (some (.go ((D3 (x1.1 - (Mp false p2 1000000))),(D3 (x1.2+ (D3 (x1.1 - (Mp false p2 1000000)))))))) (some (.out x1.2))
noncomputable def We [Lp](p1:Int)(p2:Int):Option Int:=
  cond ((decide ((Mp false p1 1000000)<1))||(decide ((Mp false p2 1000000)<1))) (some 0) ((loop (Dq p2) ((Mp false p1 1000000),0)).bind fun y1=>some y1)
noncomputable def Sv [Lp](p1:(List Int))(p2:Int)(p3:Int)(p4:Int)(p5:Int)(x1:Int):Option (Stp Int (Sum Unit Bool)):=
  cond (decide (x1< (p1.length:Int))) ((C1 p1 x1).bind fun v1=>((cond (decide (v1>p2)) (We p3 p5) (some default))).bind fun v2=>((cond (decide (v1>p2)) (C1 p1 x1) (some default))).bind fun v3=>((cond ((decide (v1>p2))&& (decide ((D3 (p2+v2))<v3))) (We p4 p5) (some default))).bind fun v4=>((cond ((decide (v1>p2))&& (decide ((D3 (p2+v2))<v3))) (C1 p1 x1) (some default))).bind fun v5=>cond (((decide (v1>p2))&& (decide ((D3 (p2+v2))<v3)))&& (decide ((D3 ((D3 (p2+p4))+v4))≥v5))) (some (.out (.inr false))) (some (.go (D3 (x1+1))))) (some (.out (.inl ())))
noncomputable def Zf [Lp](p1:(List Int))(p2:Int)(p3:Int)(p4:Int)(p5:Int):Option Bool:=
  thenS (loop (Sv p1 p2 p3 p4 p5) 0) (fun _=>some true) (fun r=>some r)
noncomputable def Jv [Lp](p2:Agent)(v1:(Int×Int))(v3:(Int×Int×Int))(v5:(List Int))(x1:(Int×Int)):Option (Stp (Int×Int) Int):=
  ((cond (decide (x1.1>(D3 (0 - v3.2.2)))) (Zf v5 v1.2 p2.V x1.2 v3.2.2) (some default))).bind fun v6=>cond ((decide (x1.1>(D3 (0 - v3.2.2))))&& (!v6)) (some (.go ((D3 (x1.1 - 1)),(Mp true 0 (Mp false (D3 (p2.V+ (D3 (x1.1 - 1)))) v3.1))))) (some (.out x1.2))
noncomputable def Wf [Lp](p1:Map)(p2:Agent)(p3:Int)(p4:Int):Option Agent:=
  (Pi p1 p2).bind fun v1=>(C1 p1.Lanes v1.1).bind fun v2=>(Cc v2.Kind).bind fun v3=>((cond p2.Obey (Lh p1 v1.1) (some default))).bind fun v4=>(cond (p2.Obey&& (decide (v1.2≤v4))) ((Nj p1 v1.1 p3).bind fun v5=>(loop (Jv p2 v1 v3 v5) ((Mp true (D3 (0 - v3.2.2)) (Mp false p4 v3.2.1)),(Mp true 0 (Mp false (D3 (p2.V+ (Mp true (D3 (0 - v3.2.2)) (Mp false p4 v3.2.1)))) v3.1)))).bind fun y2=>some y2) (some (Mp true 0 (Mp false (D3 (p2.V+ (Mp true (D3 (0 - v3.2.2)) (Mp false p4 v3.2.1)))) v3.1)))).bind fun y1=>(Ms p1 (Agent.mk p2.Route (D3 (p2.S+y1)) y1 p2.Len p2.Begin p2.Obey p2.Gone)).bind fun v7=>some (Agent.mk p2.Route (D3 (p2.S+y1)) y1 p2.Len p2.Begin p2.Obey v7)
noncomputable def KT [Lp](p1:Map)(p2:State)(p3:Int)(p4:Int):Option Agent:=
  cond ((decide (p3<0))||(decide (p3≥(p2.Agents.length:Int)))) (some (Agent.mk [] 0 0 0 0 false false)) ((C1 p2.Agents p3).bind fun v1=>(X6 ([]:List Int) v1.Route).bind fun v2=>(Nh p1 p2).bind fun v3=>((cond (!(v3 !=0)) (Fs p2 p3) (some default))).bind fun v4=>cond ((v3 !=0)||(!v4)) (some (Agent.mk v2 v1.S v1.V v1.Len v1.Begin v1.Obey v1.Gone)) ((Wf p1 (Agent.mk v2 v1.S v1.V v1.Len v1.Begin v1.Obey v1.Gone) p2.Tick p4).bind fun v5=>some v5))
instance (a)(b)(c)(d):Le (@U6 W2 a b c d) (U6 a b c d):=by unfold U6;infer_instance
instance:Le (@Rt W2) (Rt):=by unfold Rt;infer_instance
instance (a):Le (@Ij W2 a) (Ij a):=by unfold Ij;infer_instance
instance (a):Le (@Ki W2 a) (Ki a):=by unfold Ki;infer_instance
instance curve_root_le (a):Le (@Fz W2 a) (Fz a):=by unfold Fz;infer_instance
instance (a)(b):Le (@Y3 W2 a b) (Y3 a b):=by unfold Y3;infer_instance
instance (a):Le (@Fe W2 a) (Fe a):=by unfold Fe;infer_instance
instance (a)(b)(c):Le (@Bs W2 a b c) (Bs a b c):=by unfold Bs;infer_instance
instance (a)(b):Le (@Q9 W2 a b) (Q9 a b):=by unfold Q9;infer_instance
instance (a):Le (@V5 W2 a) (V5 a):=by unfold V5;infer_instance
instance (a)(b):Le (@P9 W2 a b) (P9 a b):=by unfold P9;infer_instance
instance (a):Le (@U1 W2 a) (U1 a):=by unfold U1;infer_instance
instance (a):Le (@H4 W2 a) (H4 a):=by unfold H4;infer_instance
instance (a):Le (@F3 W2 a) (F3 a):=by unfold F3;infer_instance
instance (a)(b):Le (@T1 W2 a b) (T1 a b):=by unfold T1;infer_instance
instance (a)(b)(c):Le (@E9 W2 a b c) (E9 a b c):=by unfold E9;infer_instance
instance (a)(b):Le (@G7 W2 a b) (G7 a b):=by unfold G7;infer_instance
instance (a)(b):Le (@F0 W2 a b) (F0 a b):=by unfold F0;infer_instance
instance (a)(b):Le (@P3 W2 a b) (P3 a b):=by unfold P3;infer_instance
instance (a):Le (@S6 W2 a) (S6 a):=by unfold S6;infer_instance
instance piecesGo_le (pts:List Spot): ∀(n i:Nat) (s:Int),Le (@Jd W2 pts n i s) (Jd pts n i s)
  |0,i,s=>Le.refl _
  |n+1,i,s=>by
   unfold Jd
   have:=fun i s=>piecesGo_le pts n i s
   infer_instance -- curve_root_le
instance (a):Le (@Ts W2 a) (Ts a):=by unfold Ts;infer_instance
instance (a):Le (@Ff W2 a) (Ff a):=by unfold Ff;infer_instance
instance curve_Length_le (a):Le (@Dh W2 a) (Dh a):=by unfold Dh;infer_instance
instance (a)(b):Le (@Cx W2 a b) (Cx a b):=by unfold Cx;infer_instance
instance (a)(b)(c):Le (@R0 W2 a b c) (R0 a b c):=by unfold R0;infer_instance
instance (a)(b):Le (@R3 W2 a b) (R3 a b):=by unfold R3;infer_instance
instance (a):Le (@V6 W2 a) (V6 a):=by unfold V6;infer_instance
instance (a)(b):Le (@R4 W2 a b) (R4 a b):=by unfold R4;infer_instance
instance (a):Le (@V7 W2 a) (V7 a):=by unfold V7;infer_instance
instance (a)(b):Le (@T3 W2 a b) (T3 a b):=by unfold T3;infer_instance
instance (a)(b):Le (@P0 W2 a b) (P0 a b):=by unfold P0;infer_instance
instance roads_Check_le (a):Le (@Cf W2 a) (Cf a):=by unfold Cf;infer_instance
instance (a)(b):Le (@R5 W2 a b) (R5 a b):=by unfold R5;infer_instance
instance (a)(b):Le (@N4 W2 a b) (N4 a b):=by unfold N4;infer_instance
instance (a)(b)(c):Le (@Av W2 a b c) (Av a b c):=by unfold Av;infer_instance
instance (a)(b):Le (@Fh W2 a b) (Fh a b):=by unfold Fh;infer_instance
instance (a)(b)(c):Le (@Q4 W2 a b c) (Q4 a b c):=by unfold Q4;infer_instance
instance (a)(b):Le (@X2 W2 a b) (X2 a b):=by unfold X2;infer_instance
instance (a)(b)(c):Le (@W8 W2 a b c) (W8 a b c):=by unfold W8;infer_instance
instance (a)(b):Le (@Af W2 a b) (Af a b):=by unfold Af;infer_instance
instance (a)(b):Le (@V8 W2 a b) (V8 a b):=by unfold V8;infer_instance
instance (a)(b):Le (@Bu W2 a b) (Bu a b):=by unfold Bu;infer_instance
instance (a)(b):Le (@Ik W2 a b) (Ik a b):=by unfold Ik;infer_instance
instance (a)(b):Le (@Ga W2 a b) (Ga a b):=by unfold Ga;infer_instance
instance (a)(b)(c):Le (@Z2 W2 a b c) (Z2 a b c):=by unfold Z2;infer_instance
instance (a):Le (@Bk W2 a) (Bk a):=by unfold Bk;infer_instance
instance (a)(b):Le (@Dl W2 a b) (Dl a b):=by unfold Dl;infer_instance
instance (a)(b):Le (@K1 W2 a b) (K1 a b):=by unfold K1;infer_instance
instance (a)(b):Le (@F8 W2 a b) (F8 a b):=by unfold F8;infer_instance
instance (a)(b)(c):Le (@Ah W2 a b c) (Ah a b c):=by unfold Ah;infer_instance
instance (a)(b)(c):Le (@Ai W2 a b c) (Ai a b c):=by unfold Ai;infer_instance
instance (a)(b):Le (@Dm W2 a b) (Dm a b):=by unfold Dm;infer_instance
instance (a):Le (@L7 W2 a) (L7 a):=by unfold L7;infer_instance
instance (a):Le (@K8 W2 a) (K8 a):=by unfold K8;infer_instance
instance (a)(b):Le (@Cg W2 a b) (Cg a b):=by unfold Cg;infer_instance
instance (a)(b):Le (@D1 W2 a b) (D1 a b):=by unfold D1;infer_instance
instance (a)(b)(c):Le (@D8 W2 a b c) (D8 a b c):=by unfold D8;infer_instance
instance (a)(b)(c):Le (@D5 W2 a b c) (D5 a b c):=by unfold D5;infer_instance
instance (a)(b)(c):Le (@G9 W2 a b c) (G9 a b c):=by unfold G9;infer_instance
instance (a)(b):Le (@E1 W2 a b) (E1 a b):=by unfold E1;infer_instance
instance (a)(b):Le (@J8 W2 a b) (J8 a b):=by unfold J8;infer_instance
instance (a):Le (@F9 W2 a) (F9 a):=by unfold F9;infer_instance
instance (a)(b)(c):Le (@I4 W2 a b c) (I4 a b c):=by unfold I4;infer_instance
instance (a)(b):Le (@E8 W2 a b) (E8 a b):=by unfold E8;infer_instance
instance (a)(b):Le (@I5 W2 a b) (I5 a b):=by unfold I5;infer_instance
instance (a)(b):Le (@I6 W2 a b) (I6 a b):=by unfold I6;infer_instance
instance (a):Le (@J9 W2 a) (J9 a):=by unfold J9;infer_instance
instance:Le (@G0 W2) (G0):=by unfold G0;infer_instance
instance (a)(b)(c)(d)(e):Le (@U7 W2 a b c d e) (U7 a b c d e):=by unfold U7;infer_instance
instance (a)(b)(c):Le (@O6 W2 a b c) (O6 a b c):=by unfold O6;infer_instance
instance (a)(b):Le (@W1 W2 a b) (W1 a b):=by unfold W1;infer_instance
instance (a)(b)(c):Le (@J0 W2 a b c) (J0 a b c):=by unfold J0;infer_instance
instance (a)(b)(c):Le (@G2 W2 a b c) (G2 a b c):=by unfold G2;infer_instance
instance (a)(b)(c)(d):Le (@Dn W2 a b c d) (Dn a b c d):=by unfold Dn;infer_instance
instance (a)(b)(c):Le (@N7 W2 a b c) (N7 a b c):=by unfold N7;infer_instance
instance (a)(b)(c):Le (@D6 W2 a b c) (D6 a b c):=by unfold D6;infer_instance
instance (a)(b):Le (@D2 W2 a b) (D2 a b):=by unfold D2;infer_instance
instance (a)(b):Le (@K4 W2 a b) (K4 a b):=by unfold K4;infer_instance
instance (a)(b):Le (@Kj W2 a b) (Kj a b):=by unfold Kj;infer_instance
instance (a)(b)(c):Le (@Ak W2 a b c) (Ak a b c):=by unfold Ak;infer_instance
instance (a)(b)(c)(d):Le (@H8 W2 a b c d) (H8 a b c d):=by unfold H8;infer_instance
instance (a)(b)(c):Le (@I8 W2 a b c) (I8 a b c):=by unfold I8;infer_instance
instance (a)(b)(c):Le (@Ib W2 a b c) (Ib a b c):=by unfold Ib;infer_instance
instance (a)(b)(c):Le (@Do W2 a b c) (Do a b c):=by unfold Do;infer_instance
instance (a)(b):Le (@Ma W2 a b) (Ma a b):=by unfold Ma;infer_instance
instance (a)(b)(c):Le (@U8 W2 a b c) (U8 a b c):=by unfold U8;infer_instance
instance (a)(b)(c):Le (@Fk W2 a b c) (Fk a b c):=by unfold Fk;infer_instance
instance (a)(b)(c)(d):Le (@Ic W2 a b c d) (Ic a b c d):=by unfold Ic;infer_instance
instance (a)(b):Le (@I9 W2 a b) (I9 a b):=by unfold I9;infer_instance
instance (a)(b)(c)(d):Le (@Gc W2 a b c d) (Gc a b c d):=by unfold Gc;infer_instance
instance (a)(b)(c)(d):Le (@X3 W2 a b c d) (X3 a b c d):=by unfold X3;infer_instance
instance (a)(b):Le (@X4 W2 a b) (X4 a b):=by unfold X4;infer_instance
instance (a):Le (@At W2 a) (At a):=by unfold At;infer_instance
instance (a)(b):Le (@Bw W2 a b) (Bw a b):=by unfold Bw;infer_instance
instance (a)(b)(c)(d):Le (@Bx W2 a b c d) (Bx a b c d):=by unfold Bx;infer_instance
instance (a)(b):Le (@Ip W2 a b) (Ip a b):=by unfold Ip;infer_instance
instance (a)(b):Le (@I0 W2 a b) (I0 a b):=by unfold I0;infer_instance
instance (a)(b):Le (@F6 W2 a b) (F6 a b):=by unfold F6;infer_instance
instance (a)(b):Le (@Z0 W2 a b) (Z0 a b):=by unfold Z0;infer_instance
instance (a)(b)(c):Le (@G3 W2 a b c) (G3 a b c):=by unfold G3;infer_instance
instance (a)(b):Le (@J1 W2 a b) (J1 a b):=by unfold J1;infer_instance
instance (a)(b):Le (@G4 W2 a b) (G4 a b):=by unfold G4;infer_instance
instance (a)(b)(c):Le (@Cj W2 a b c) (Cj a b c):=by unfold Cj;infer_instance
instance (a)(b)(c)(d):Le (@S7 W2 a b c d) (S7 a b c d):=by unfold S7;infer_instance
instance (a)(b)(c)(d):Le (@Lb W2 a b c d) (Lb a b c d):=by unfold Lb;infer_instance
instance (a)(b)(c)(d)(e):Le (@Lc W2 a b c d e) (Lc a b c d e):=by unfold Lc;infer_instance
instance (a)(b):Le (@Ru W2 a b) (Ru a b):=by unfold Ru;infer_instance
instance (a)(b)(c):Le (@G6 W2 a b c) (G6 a b c):=by unfold G6;infer_instance
instance (a)(b)(c):Le (@J3 W2 a b c) (J3 a b c):=by unfold J3;infer_instance
instance (a)(b):Le (@N0 W2 a b) (N0 a b):=by unfold N0;infer_instance
instance (a)(b)(c)(d):Le (@O3 W2 a b c d) (O3 a b c d):=by unfold O3;infer_instance
instance (a):Le (@O7 W2 a) (O7 a):=by unfold O7;infer_instance
instance (a)(b)(c):Le (@M2 W2 a b c) (M2 a b c):=by unfold M2;infer_instance
instance (a)(b):Le (@L9 W2 a b) (L9 a b):=by unfold L9;infer_instance
instance (a):Le (@N1 W2 a) (N1 a):=by unfold N1;infer_instance
instance (a)(b)(c):Le (@O4 W2 a b c) (O4 a b c):=by unfold O4;infer_instance
instance:Le (@O8 W2) (O8):=by unfold O8;infer_instance
instance (a)(b)(c)(d)(e):Le (@Al W2 a b c d e) (Al a b c d e):=by unfold Al;infer_instance
instance (a)(b)(c)(d):Le (@Am W2 a b c d) (Am a b c d):=by unfold Am;infer_instance
instance (a)(b)(c):Le (@Nd W2 a b c) (Nd a b c):=by unfold Nd;infer_instance
instance (a)(b)(c):Le (@Ew W2 a b c) (Ew a b c):=by unfold Ew;infer_instance
instance (a)(b)(c)(d)(e):Le (@I3 W2 a b c d e) (I3 a b c d e):=by unfold I3;infer_instance
instance (a)(b)(c)(d)(e):Le (@H6 W2 a b c d e) (H6 a b c d e):=by unfold H6;infer_instance
instance (a)(b)(c)(d)(e):Le (@Ie W2 a b c d e) (Ie a b c d e):=by unfold Ie;infer_instance
instance (a)(b)(c)(d)(e):Le (@X0 W2 a b c d e) (X0 a b c d e):=by unfold X0;infer_instance
instance (a)(b)(c)(d):Le (@Gd W2 a b c d) (Gd a b c d):=by unfold Gd;infer_instance
instance (a)(b)(c)(d):Le (@Kn W2 a b c d) (Kn a b c d):=by unfold Kn;infer_instance
instance (a):Le (@Gf W2 a) (Gf a):=by unfold Gf;infer_instance
instance (a)(b)(c):Le (@S8 W2 a b c) (S8 a b c):=by unfold S8;infer_instance
instance (a)(b)(c):Le (@U2 W2 a b c) (U2 a b c):=by unfold U2;infer_instance
instance (a)(b)(c)(d)(e)(f)(g)(h):Le (@An W2 a b c d e f g h) (An a b c d e f g h):=by unfold An;infer_instance
instance (a)(b)(c)(d)(e)(f)(g)(h):Le (@Ee W2 a b c d e f g h) (Ee a b c d e f g h):=by unfold Ee;infer_instance
instance (a)(b)(c)(d)(e)(f)(g)(h)(i):Le (@Ao W2 a b c d e f g h i) (Ao a b c d e f g h i):=by unfold Ao;infer_instance
instance (a)(b)(c)(d)(e)(f)(g)(h):Le (@Gg W2 a b c d e f g h) (Gg a b c d e f g h):=by unfold Gg;infer_instance
instance (a)(b)(c)(d)(e)(f)(g)(h):Le (@By W2 a b c d e f g h) (By a b c d e f g h):=by unfold By;infer_instance
instance (a)(b)(c)(d)(e)(f):Le (@Gh W2 a b c d e f) (Gh a b c d e f):=by unfold Gh;infer_instance
instance (a)(b)(c)(d)(e)(f)(g)(h):Le (@Bz W2 a b c d e f g h) (Bz a b c d e f g h):=by unfold Bz;infer_instance
instance (a)(b)(c)(d)(e)(f):Le (@Ca W2 a b c d e f) (Ca a b c d e f):=by unfold Ca;infer_instance
instance (a)(b)(c)(d)(e):Le (@Gi W2 a b c d e) (Gi a b c d e):=by unfold Gi;infer_instance
instance (a)(b)(c)(d):Le (@Cb W2 a b c d) (Cb a b c d):=by unfold Cb;infer_instance
instance (a)(b)(c)(d):Le (@Gj W2 a b c d) (Gj a b c d):=by unfold Gj;infer_instance
instance (a)(b)(c):Le (@Ir W2 a b c) (Ir a b c):=by unfold Ir;infer_instance
instance law04_awake_le:Le (@If W2) (If):=by unfold If;infer_instance
theorem Jk (n:Int): ∃y,Fz n=some (y,y*y==n)∧0≤y∧y≤67108864∧(∀m,0≤m→m<y→m*m<n)∧(y=67108864∨n≤y*y):=by
  have key:=RZ (f:=Lz n) (fun x=>0≤x.1∧x.1≤x.2∧x.2≤67108864∧(∀m,0≤m→m<x.1→m*m<n)∧(x.2=67108864∨n≤x.2*x.2)) (fun x=>(x.2 - x.1).toNat)
    (fun y=>0≤y∧y≤67108864∧(∀m,0≤m→m<y→m*m<n)∧(y=67108864∨n≤y*y)) (by
      rintro ⟨lo,hi⟩ ⟨h1,h2,h3,h4,h5⟩
      dsimp only at h1 h2 h3 h4 h5
      unfold Lz
      dsimp only
      by_cases hlt:lo<hi
      ·have e1:D3 (lo+hi)=lo+hi:=F1 (by omega)
       have e2:D3 ((lo+hi).tdiv 2)=(lo+hi) / 2:=by rw [wP (by omega)];exact F1 (by omega)
       have hm:lo≤(lo+hi) / 2∧(lo+hi) / 2<hi:=by omega
       generalize hmid:(lo+hi) / 2=mid at*
       have hmm:mid*mid≤67108864*67108864:=XU (by omega) (by omega)
       have hmm0:=Rs mid
       have e3:D3 (mid*mid)=mid*mid:=F1 (by omega)
       have e4:D3 (mid+1)=mid+1:=F1 (by omega)
       simp only [e1,e2,e3,e4,hlt,decide_true,bO]
       by_cases hc:mid*mid<n
       ·simp only [hc,decide_true,bO]
        refine ⟨_,rfl,⟨by omega,by omega,h3,fun m hm0 hm1=> ?_,h5⟩,by dsimp only;omega⟩
        rcases Int.lt_or_le m mid with q|q
        ·have:=Int.mul_le_mul (show m≤mid by omega) (show m≤mid by omega) hm0 (by omega);omega
        ·have:m=mid:=by dsimp only at hm1;omega
         subst this;exact hc
       ·simp only [hc,decide_false,bP]
        exact ⟨_,rfl,⟨h1,by dsimp only;omega,by dsimp only;omega,h4, .inr (by dsimp only;omega)⟩,by dsimp only;omega⟩
      ·simp only [hlt,decide_false,bP]
       obtain rfl:lo=hi:=by omega
       exact ⟨_,rfl,h1,h3,h4,h5⟩) (0,67108864) ⟨by decide,by decide,by decide,fun m h1 h2=>by dsimp only at h2;omega, .inl rfl⟩
  obtain ⟨y,hy,h1,h2,h3,h4⟩:=key
  refine ⟨y,?_,h1,h2,h3,h4⟩
  have hmm:y*y≤67108864*67108864:=XU (by omega) (by omega)
  have hmm0:=Rs y
  unfold Fz
  rw [hy,lB,F1 (by omega)]
/-- The least number whose square is not less. -/
noncomputable def rt (n:Int):Int:=(Jk n).choose
theorem BJ (n:Int):Fz n=some (rt n,rt n*rt n==n):=(Jk n).choose_spec.1
theorem GD (n:Int):0≤rt n:=(Jk n).choose_spec.2.1
theorem oT (n m:Int)(h1:0≤m)(h2:m<rt n):m*m<n:=(Jk n).choose_spec.2.2.2.1 m h1 h2
theorem oU (n:Int):rt n=67108864∨n≤rt n*rt n:=(Jk n).choose_spec.2.2.2.2
theorem fZ {l:Int}(h0:0≤l)(h1:l≤67108864):rt (l*l)=l:=by
  rcases Int.lt_trichotomy (rt (l*l)) l with q|q|q
  ·rcases oU (l*l)with h|h
   ·omega
   ·have h2:=GD (l*l)
    have:=Int.mul_lt_mul' (show rt (l*l)≤l by omega) q h2 (by omega);omega
  ·exact q
  ·have:=oT (l*l) l h0 q;omega
theorem IF (n:Int)(h0:0≤n)(h1:n<18014398509481984): ∃r,Kp n=some r∧0≤r∧r<134217728∧r*r≤n∧n< (r+1)* (r+1):=by
  have key:=RZ (f:=Mc n) (fun x=>0≤x.1∧x.1*x.1≤n∧((∃k:Nat,k≤26∧x.2=2^k∧x.1+2*2^k≤134217728∧n< (x.1+2*2^k)* (x.1+2*2^k))∨(x.2=0∧x.1<134217728∧n< (x.1+1)* (x.1+1)))) (fun x=>x.2.toNat)
    (fun r=>0≤r∧r<134217728∧r*r≤n∧n< (r+1)* (r+1)) (by
      rintro ⟨r,bit⟩ ⟨q1,q2,q3⟩
      dsimp only at q1 q2 q3
      unfold Mc
      dsimp only
      rcases q3 with ⟨k,hk,rfl,q4,q5⟩|⟨rfl,q4,q5⟩
      ·have hp:(0:Int)<2^k:=Int.pow_pos (by decide)
       generalize hb:(2:Int)^k=b at*
       have e1:D3 (r+b)=r+b:=F1 (by omega)
       have hmm:(r+b)* (r+b)≤134217728*134217728:=XU (by omega) (by omega)
       have hmm0:=Rs (r+b)
       have e2:D3 ((r+b)* (r+b))=(r+b)* (r+b):=F1 (by omega)
       have e3:D3 (b.tdiv 2)=b / 2:=by rw [wP (by omega)];exact F1 (by omega)
       have hb0:b>0:=by omega
       simp only [e1,e2,e3,hb0,decide_true,bO]
       have hnext: ∀r',0≤r'→r'*r'≤n→r'+b≤134217728→n< (r'+b)* (r'+b)→(∃j:Nat,j≤26∧b / 2=2^j∧r'+2*2^j≤134217728∧n< (r'+2*2^j)* (r'+2*2^j))∨(b / 2=0∧r'<134217728∧n< (r'+1)* (r'+1)):=by
         intro r' a1 a2 a3 a4
         cases k with
         |zero=>
          have:b=1:=by rw [← hb];rfl
          subst this
          exact .inr ⟨by decide,by omega,a4⟩
         |succ j=>
          have hj:b=2*2^j:=by rw [← hb,Int.pow_succ];omega
          refine .inl ⟨j,by omega,by omega,by omega,by rw [← hj];exact a4⟩
       by_cases hc:(r+b)* (r+b)≤n
       ·simp only [hc,decide_true,bO]
        refine ⟨_,rfl,⟨by dsimp only;omega,hc,hnext (r+b) (by omega) hc (by omega) (by rw [show r+b+b=r+2*b by omega];exact q5)⟩,by dsimp only;omega⟩
       ·simp only [hc,decide_false,bP]
        exact ⟨_,rfl,⟨q1,q2,hnext r q1 q2 (by omega) (by omega)⟩,by dsimp only;omega⟩
      ·simp only [show ¬(0:Int)>0 by decide,decide_false,bP]
       exact ⟨_,rfl,q1,q4,q2,q5⟩) (0,67108864) ⟨by decide,by dsimp only;omega, .inl ⟨26,by decide,by decide,by decide,by dsimp only;omega⟩⟩
  obtain ⟨r,hr,a⟩:=key
  exact ⟨r,by unfold Kp;rw [hr];rfl,a⟩
theorem MQ {n:Int}(h0:0≤n)(h1:n≤4503599627370496): ∃r,Kp n=some r∧0≤r∧r<134217728∧(r*r=n↔rt n*rt n=n)∧(r*r=n→r=rt n):=by
  obtain ⟨r,hr,a1,a2,a3,a4⟩:=IF n h0 (by omega)
  have hr26:r≤67108864:=by
    rcases Int.lt_or_le r 67108865 with q|q
    ·omega
    ·have:=Int.mul_le_mul q q (by decide) (by omega);omega
  refine ⟨r,hr,a1,a2,⟨fun h=> ?_,fun h=> ?_⟩,fun h=> ?_⟩
  ·rw [← h,fZ a1 hr26]
  ·rcases Int.lt_trichotomy r (rt n)with q|q|q
   ·have:=Int.mul_le_mul (show r+1≤rt n by omega) (show r+1≤rt n by omega) (by omega) (GD n);omega
   ·rw [q];exact h
   ·have h2:=GD n
    have:=Int.mul_lt_mul' (show rt n≤r by omega) q h2 (by omega);omega
  ·rw [← h,fZ a1 hr26]
def Wg (p:Spot):Bool:=decide (-16777216≤p.X)&&decide (p.X≤16777216)&&decide (-16777216≤p.Y)&&decide (p.Y≤16777216)
theorem okS_iff {p:Spot}:Wg p=true↔ -16777216≤p.X∧p.X≤16777216∧ -16777216≤p.Y∧p.Y≤16777216:=by simp [Wg,and_assoc]
theorem aB (p:Spot):((decide ((Mp false p.X p.Y)< (-16777216)))||(decide ((Mp true p.X p.Y)>16777216)))= !Wg p:=by
  rw [Df,Mi]
  cases h:Wg p with
  |true=>have:=okS_iff.1 h;simp;omega
  |false=>
   have: ¬(-16777216≤p.X∧p.X≤16777216∧ -16777216≤p.Y∧p.Y≤16777216):=fun q=>by rw [okS_iff.2 q]at h;cases h
   simp;omega
theorem MR (l:List Spot)(hl:l.length≤1000000): ∀(r:List Spot) (i:Nat),l.drop i=r→loop (Fy l) (i:Int)=some (if r.all Wg then .inl ()else .inr false):=by
  intro r
  induction r with
  |nil=>
   intro i hi
   have:=O0 hi
   refine C7 ?_
   unfold Fy
   simp only [show ¬(i:Int)<l.length by omega,decide_false,bP,List.all_nil,if_true]
  |cons p r ih=>
   intro i hi
   have hlt:=M9 hi
   have hstep:Fy l (i:Int)=if Wg p then some (.go ((i+1:Nat):Int))else some (.out (.inr false)):=by
     unfold Fy
     simp only [show (i:Int)<l.length by omega,decide_true,bO,Cn hi,lB,aB]
     cases h:Wg p with
     |true=>simp only [bW,bP,if_true];rw [F1 (by omega)];rfl
     |false=>simp
   cases h:Wg p with
   |true=>
    rw [h,bQ rfl]at hstep
    rw [J2 hstep,ih (i+1) (K5 hi)]
    simp [h]
   |false=>
    rw [h]at hstep
    rw [C7 hstep]
    simp [h]
theorem MS (l:List Spot)(hl:l.length≤1000000):Ki l=some (l.all Wg):=by
  unfold Ki
  have:=MR l hl l 0 (by simp)
  rw [show ((0:Nat):Int)=0 from rfl]at this
  rw [this]
  cases l.all Wg<;>rfl
theorem KU (p:Spot):Qj p=some (Wg p):=by
  unfold Qj Wg;rfl
def R6 (p q:Spot):CurveVector:=⟨q.X - p.X,q.Y - p.Y⟩
def N3 (v w:CurveVector):Int:=v.x*w.x+v.y*w.y
/-- A vector between valid spots. -/
def cN (v:CurveVector):Prop:= -33554432≤v.x∧v.x≤33554432∧ -33554432≤v.y∧v.y≤33554432
theorem EQ {p q:Spot}(hp:Wg p=true)(hq:Wg q=true):cN (R6 p q):=by
  have:=okS_iff.1 hp;have:=okS_iff.1 hq
  unfold cN R6;dsimp only;omega
theorem BK {p q:Spot}(hp:Wg p=true)(hq:Wg q=true):Pd p q=some (R6 p q):=by
  have:=okS_iff.1 hp;have:=okS_iff.1 hq
  unfold Pd R6
  rw [F1 (by omega),F1 (by omega)]
theorem VZ {v w:CurveVector}(hv:cN v)(hw:cN w): -2251799813685248≤N3 v w∧N3 v w≤2251799813685248∧(-1125899906842624≤v.x*w.x∧v.x*w.x≤1125899906842624)∧ -1125899906842624≤v.y*w.y∧v.y*w.y≤1125899906842624:=by
  obtain ⟨a1,a2,a3,a4⟩:=hv
  obtain ⟨b1,b2,b3,b4⟩:=hw
  have h1:=fJ ⟨a1,a2⟩ ⟨b1,b2⟩
  have h2:=fJ ⟨a3,a4⟩ ⟨b3,b4⟩
  unfold N3
  omega
theorem Wh {v w:CurveVector}(hv:cN v)(hw:cN w):Bj v w=some (N3 v w):=by
  have h:=VZ hv hw
  unfold Bj
  rw [F1 (n:=v.x*w.x) (by omega),F1 (n:=v.y*w.y) (by omega),F1 (by unfold N3 at h;omega)]
  rfl
theorem WA (v:CurveVector):0≤N3 v v:=by have:=Rs v.x;have:=Rs v.y;unfold N3;omega
def vs (v:CurveVector):Spot:=⟨v.x,v.y⟩
theorem Sw {p q:Spot}(hp:Wg p=true)(hq:Wg q=true):Ko q p=some (vs (R6 p q)):=by
  have:=okS_iff.1 hp;have:=okS_iff.1 hq
  unfold Ko R6 vs
  rw [F1 (by omega),F1 (by omega)]
theorem Wi {v w:CurveVector}(hv:cN v)(hw:cN w):Nf (vs v) (vs w)=some (N3 v w):=by
  have h:=VZ hv hw
  unfold Nf vs
  dsimp only
  rw [F1 (n:=v.x*w.x) (by omega),F1 (n:=v.y*w.y) (by omega),F1 (by unfold N3 at h;omega)]
  rfl
/-- The error of a chain of points, from a piece on; the piece ahead of it. -/
noncomputable def SS:Option CurveVector→List Spot→Int
  |last,p::q::r=>
   if rt (N3 (R6 p q) (R6 p q))*rt (N3 (R6 p q) (R6 p q))≠N3 (R6 p q) (R6 p q)then 3
   else if rt (N3 (R6 p q) (R6 p q))<1000∨rt (N3 (R6 p q) (R6 p q))>1048576 then 2
   else match last with
     |some u=>if N3 u (R6 p q)≤0 then 12 else SS (some (R6 p q)) (q::r)
     |none=>SS (some (R6 p q)) (q::r)
  |_,_=>0
theorem ER (last:Option CurveVector)(p q:Spot)(r:List Spot):SS last (p::q::r)=
    if rt (N3 (R6 p q) (R6 p q))*rt (N3 (R6 p q) (R6 p q))≠N3 (R6 p q) (R6 p q)then 3
    else if rt (N3 (R6 p q) (R6 p q))<1000∨rt (N3 (R6 p q) (R6 p q))>1048576 then 2
    else match last with
      |some u=>if N3 u (R6 p q)≤0 then 12 else SS (some (R6 p q)) (q::r)
      |none=>SS (some (R6 p q)) (q::r):=by
  conv=>lhs;unfold SS
noncomputable def Da (l:List Spot):Int:=if l.length<2 then 6 else if l.length>16 then 5 else if l.all Wg then SS none l else 2
theorem KV (c:Curve)(hl:c.Pts.length≤1000000)(hok:c.Pts.all Wg=true): ∀(r:List Spot) (p:Spot) (i:Nat) (last:CurveVector),c.Pts.drop i=p::r→cN last→
    loop (Y3 c) ((i:Int),last)=some (if SS (if i=0 then none else some last) (p::r)=0 then .inl ()else .inr (SS (if i=0 then none else some last) (p::r))):=by
  intro r
  induction r with
  |nil=>
   intro p i last hi hlast
   have hlt:=M9 hi
   have:=O0 (K5 hi)
   refine C7 ?_
   unfold Y3
   dsimp only
   rw [F1 (n:=(c.Pts.length:Int) - 1) (by omega)]
   simp only [show ¬(i:Int)< (c.Pts.length:Int) - 1 by omega,decide_false,bP,SS,if_true]
  |cons q r ih=>
   intro p i last hi hlast
   have hlt:=M9 hi
   have hi1:=K5 hi
   have hlt1:=M9 hi1
   have hp:Wg p=true:=lY.1 hok p (List.mem_of_mem_drop (i:=i) (by rw [hi];simp))
   have hq:Wg q=true:=lY.1 hok q (List.mem_of_mem_drop (i:=i) (by rw [hi];simp))
   have hv:=EQ hp hq
   have hg1:C1 c.Pts ((i:Int)+1)=some q:=by have:=Cn hi1;simpa using this
   have hstep:Y3 c ((i:Int),last)=
    if rt (N3 (R6 p q) (R6 p q))*rt (N3 (R6 p q) (R6 p q))≠N3 (R6 p q) (R6 p q)then some (.out (.inr 3))
    else if rt (N3 (R6 p q) (R6 p q))<1000∨rt (N3 (R6 p q) (R6 p q))>1048576 then some (.out (.inr 2))
    else if i≠0∧N3 last (R6 p q)≤0 then some (.out (.inr 12))else some (.go (((i+1:Nat):Int),R6 p q)):=by
     unfold Y3
     dsimp only
     rw [F1 (n:=(c.Pts.length:Int) - 1) (by omega),F1 (n:=(i:Int)+1) (by omega)]
     simp only [show (i:Int)< (c.Pts.length:Int) - 1 by omega,decide_true,bO,Cn hi,hg1,lB,BK hp hq,Wh hv hv,BJ]
     by_cases h1:rt (N3 (R6 p q) (R6 p q))*rt (N3 (R6 p q) (R6 p q))=N3 (R6 p q) (R6 p q)
     ·simp only [h1,beq_self_eq_true,bW,bP,ne_eq,not_true_eq_false,if_false]
      by_cases h2:rt (N3 (R6 p q) (R6 p q))<1000∨rt (N3 (R6 p q) (R6 p q))>1048576
      ·rw [bQ h2]
       have:(decide (rt (N3 (R6 p q) (R6 p q))<1000)||decide (rt (N3 (R6 p q) (R6 p q))>1048576))=true:=by simpa using h2
       rw [this];rfl
      ·rw [bR h2]
       have:(decide (rt (N3 (R6 p q) (R6 p q))<1000)||decide (rt (N3 (R6 p q) (R6 p q))>1048576))=false:=by simpa using h2
       rw [this]
       simp only [bP]
       by_cases h3:i=0
       ·subst h3
        simp only [Int.natCast_zero,gt_iff_lt,Int.lt_irrefl,decide_false,bP,bT,lB,not_true_eq_false,false_and,if_false]
        rfl
       ·have h4:(i:Int)>0:=by omega
        simp only [h4,decide_true,bO,Wh hlast hv,lB,bS,h3,not_false_eq_true,true_and]
        by_cases h5:N3 last (R6 p q)≤0<;>simp [h5]
     ·have:(rt (N3 (R6 p q) (R6 p q))*rt (N3 (R6 p q) (R6 p q))==N3 (R6 p q) (R6 p q))=false:=by simpa using h1
      simp only [this,bX,bO,ne_eq,h1,not_false_eq_true,if_true]
   rw [ER]
   by_cases h1:rt (N3 (R6 p q) (R6 p q))*rt (N3 (R6 p q) (R6 p q))≠N3 (R6 p q) (R6 p q)
   ·rw [bQ h1]at hstep
    rw [C7 hstep,bQ h1];rfl
   ·rw [bR h1]at hstep ⊢
    by_cases h2:rt (N3 (R6 p q) (R6 p q))<1000∨rt (N3 (R6 p q) (R6 p q))>1048576
    ·rw [bQ h2]at hstep
     rw [C7 hstep,bQ h2];rfl
    ·rw [bR h2]at hstep ⊢
     by_cases h3:i=0
     ·subst h3
      rw [bR (by simp)]at hstep
      rw [J2 hstep,ih q (0+1) (R6 p q) hi1 hv]
      simp
     ·by_cases h5:N3 last (R6 p q)≤0
      ·rw [bQ ⟨h3,h5⟩]at hstep
       rw [C7 hstep]
       simp [h3,h5]
      ·rw [bR (fun h=>h5 h.2)]at hstep
       rw [J2 hstep,ih q (i+1) (R6 p q) hi1 hv]
       simp [h3,h5]
theorem Zg (c:Curve)(hl:c.Pts.length≤1000000):Fe c=some (Da c.Pts):=by
  unfold Fe Da
  by_cases h1:c.Pts.length<2
  ·rw [bQ h1,show decide ((c.Pts.length:Int)<2)=true by simp;omega];rfl
  ·rw [bR h1,show decide ((c.Pts.length:Int)<2)=false by simp;omega]
   simp only [bP]
   by_cases h2:c.Pts.length>16
   ·rw [bQ h2,show decide ((c.Pts.length:Int)>16)=true by simp;omega];rfl
   ·rw [bR h2,show decide ((c.Pts.length:Int)>16)=false by simp;omega]
    simp only [bP,MS c.Pts hl,lB]
    cases h3:c.Pts.all Wg with
    |false=>rfl
    |true=>
     simp only [bW,bP,if_true]
     cases hp:c.Pts with
     |nil=>rw [hp]at h1;simp at h1
     |cons p r=>
      have:=KV c hl h3 r p 0 ⟨0,0⟩ (by rw [hp];rfl) ⟨by decide,by decide,by decide,by decide⟩
      rw [bQ rfl,show ((0:Nat):Int)=0 from rfl]at this
      rw [this]
      by_cases h4:SS none (p::r)=0
      ·rw [bQ h4,h4];rfl
      ·rw [bR h4];rfl
theorem aC (v w:CurveVector):N3 v w=N3 w v:=by unfold N3;rw [Int.mul_comm v.x,Int.mul_comm v.y]
theorem IG (c:Curve)(hl:c.Pts.length≤1000000): ∀(r:List Spot) (i:Nat),c.Pts.drop i=r→loop (Eg c) (i:Int)=some (if r.all Wg then .inl ()else .inr 2):=by
  intro r
  induction r with
  |nil=>
   intro i hi
   have:=O0 hi
   refine C7 ?_
   unfold Eg
   simp only [show ¬(i:Int)<c.Pts.length by omega,decide_false,bP,List.all_nil,if_true]
  |cons p r ih=>
   intro i hi
   have hlt:=M9 hi
   have hstep:Eg c (i:Int)=if Wg p then some (.go ((i+1:Nat):Int))else some (.out (.inr 2)):=by
     unfold Eg
     simp only [show (i:Int)<c.Pts.length by omega,decide_true,bO,Cn hi,lB,KU]
     cases h:Wg p with
     |true=>simp only [bW,bP,if_true];rw [F1 (by omega)];rfl
     |false=>simp
   cases h:Wg p with
   |true=>
    rw [h,bQ rfl]at hstep
    rw [J2 hstep,ih (i+1) (K5 hi)]
    simp [h]
   |false=>
    rw [h]at hstep
    rw [C7 hstep]
    simp [h]
theorem gA {v:CurveVector}(hv:cN v): ∃l,Kp (N3 v v)=some l∧(D3 (l*l) !=N3 v v)= !(rt (N3 v v)*rt (N3 v v)==N3 v v)∧(rt (N3 v v)*rt (N3 v v)=N3 v v→l=rt (N3 v v)):=by
  have hb:=VZ hv hv
  obtain ⟨l,h1,h2,h3,h4,h5⟩:=MQ (WA v) (by omega)
  have hmm:l*l≤134217728*134217728:=XU (by omega) (by omega)
  have hmm0:=Rs l
  refine ⟨l,h1,?_,fun h=>h5 (h4.2 h)⟩
  rw [F1 (by omega)]
  by_cases h:l*l=N3 v v
  ·simp [h,h4.1 h]
  ·have h': ¬rt (N3 v v)*rt (N3 v v)=N3 v v:=fun q=>h (h4.2 q)
   have e1:(l*l !=N3 v v)=true:=bne_iff_ne.2 h
   have e2:(rt (N3 v v)*rt (N3 v v)==N3 v v)=false:=beq_eq_false_iff_ne.2 h'
   rw [e1,e2];rfl
theorem IH (c:Curve)(hl:c.Pts.length≤1000000)(hok:c.Pts.all Wg=true): ∀(r:List Spot) (p:Spot) (i:Nat) (last:Option CurveVector),c.Pts.drop i=p::r→
    (i=0∧last=none∨∃j a,i=j+1∧c.Pts.drop j=a::p::r∧last=some (R6 a p))→
    loop (Ef c) (i:Int)=some (if SS last (p::r)=0 then .inl ()else .inr (SS last (p::r))):=by
  intro r
  induction r with
  |nil=>
   intro p i last hi hlast
   have hlt:=M9 hi
   have:=O0 (K5 hi)
   refine C7 ?_
   unfold Ef
   rw [F1 (n:=(i:Int)+1) (by omega)]
   simp only [show ¬(i:Int)+1< (c.Pts.length:Int) by omega,decide_false,bP,SS,if_true]
  |cons q r ih=>
   intro p i last hi hlast
   have hlt:=M9 hi
   have hi1:=K5 hi
   have hlt1:=M9 hi1
   have hp:Wg p=true:=lY.1 hok p (List.mem_of_mem_drop (i:=i) (by rw [hi];simp))
   have hq:Wg q=true:=lY.1 hok q (List.mem_of_mem_drop (i:=i) (by rw [hi];simp))
   have hv:=EQ hp hq
   have hg1:C1 c.Pts ((i:Int)+1)=some q:=by have:=Cn hi1;simpa using this
   obtain ⟨l,hl1,hl2,hl3⟩:=gA hv
   have hstep:Ef c (i:Int)=
    if rt (N3 (R6 p q) (R6 p q))*rt (N3 (R6 p q) (R6 p q))≠N3 (R6 p q) (R6 p q)then some (.out (.inr 3))
    else if rt (N3 (R6 p q) (R6 p q))<1000∨rt (N3 (R6 p q) (R6 p q))>1048576 then some (.out (.inr 2))
    else match last with
      |some u=>if N3 u (R6 p q)≤0 then some (.out (.inr 12))else some (.go ((i+1:Nat):Int))
      |none=>some (.go ((i+1:Nat):Int)):=by
     unfold Ef
     rw [F1 (n:=(i:Int)+1) (by omega)]
     simp only [show (i:Int)+1< (c.Pts.length:Int) by omega,decide_true,bO,Cn hi,hg1,lB,Sw hp hq,Wi hv hv,hl1,hl2]
     by_cases h1:rt (N3 (R6 p q) (R6 p q))*rt (N3 (R6 p q) (R6 p q))=N3 (R6 p q) (R6 p q)
     ·simp only [h1,beq_self_eq_true,bW,bP,ne_eq,not_true_eq_false,if_false,hl3 h1]
      by_cases h2:rt (N3 (R6 p q) (R6 p q))<1000∨rt (N3 (R6 p q) (R6 p q))>1048576
      ·rw [bQ h2]
       have:(decide (rt (N3 (R6 p q) (R6 p q))<1000)||decide (rt (N3 (R6 p q) (R6 p q))>1048576))=true:=by simpa using h2
       rw [this];rfl
      ·rw [bR h2]
       have:(decide (rt (N3 (R6 p q) (R6 p q))<1000)||decide (rt (N3 (R6 p q) (R6 p q))>1048576))=false:=by simpa using h2
       rw [this]
       simp only [bP]
       rcases hlast with ⟨rfl,rfl⟩|⟨j,a,rfl,hj,rfl⟩
       ·simp only [Int.natCast_zero,gt_iff_lt,Int.lt_irrefl,decide_false,bP,bT,lB]
        rfl
       ·have h4:(((j+1:Nat):Int))>0:=by omega
        have ha:Wg a=true:=lY.1 hok a (List.mem_of_mem_drop (i:=j) (by rw [hj];simp))
        have hva:=EQ ha hp
        have hgj:C1 c.Pts (D3 (((j+1:Nat):Int) - 1))=some a:=by
          rw [F1 (by omega),show (((j+1:Nat):Int) - 1)=(j:Int) by omega]
          exact Cn hj
        simp only [h4,decide_true,bO,hgj,lB,Sw ha hp,Wi hv hva,bS]
        rw [aC (R6 p q) (R6 a p)]
        by_cases h5:N3 (R6 a p) (R6 p q)≤0
        ·simp [h5]
        ·simp [h5]
     ·have:(rt (N3 (R6 p q) (R6 p q))*rt (N3 (R6 p q) (R6 p q))==N3 (R6 p q) (R6 p q))=false:=by simpa using h1
      simp only [this,bX,bO,ne_eq,h1,not_false_eq_true,if_true]
   rw [ER]
   have hrec:=ih q (i+1) (some (R6 p q)) hi1 (.inr ⟨i,p,rfl,hi,rfl⟩)
   by_cases h1:rt (N3 (R6 p q) (R6 p q))*rt (N3 (R6 p q) (R6 p q))≠N3 (R6 p q) (R6 p q)
   ·rw [bQ h1]at hstep
    rw [C7 hstep,bQ h1];rfl
   ·rw [bR h1]at hstep ⊢
    by_cases h2:rt (N3 (R6 p q) (R6 p q))<1000∨rt (N3 (R6 p q) (R6 p q))>1048576
    ·rw [bQ h2]at hstep
     rw [C7 hstep,bQ h2];rfl
    ·rw [bR h2]at hstep ⊢
     cases last with
     |none=>rw [J2 hstep,hrec]
     |some u=>
      dsimp only at hstep ⊢
      by_cases h5:N3 u (R6 p q)≤0
      ·rw [bQ h5]at hstep
       rw [C7 hstep];simp [h5]
      ·rw [bR h5]at hstep
       rw [J2 hstep,hrec];simp [h5]
theorem Zh (c:Curve)(hl:c.Pts.length≤1000000):Ng c=some (Da c.Pts):=by
  unfold Ng Da
  by_cases h1:c.Pts.length<2
  ·rw [bQ h1,show decide ((c.Pts.length:Int)<2)=true by simp;omega];rfl
  ·rw [bR h1,show decide ((c.Pts.length:Int)<2)=false by simp;omega]
   simp only [bP]
   by_cases h2:c.Pts.length>16
   ·rw [bQ h2,show decide ((c.Pts.length:Int)>16)=true by simp;omega];rfl
   ·rw [bR h2,show decide ((c.Pts.length:Int)>16)=false by simp;omega]
    have hg:=IG c hl c.Pts 0 (by simp)
    rw [show ((0:Nat):Int)=0 from rfl]at hg
    simp only [bP,hg]
    cases h3:c.Pts.all Wg with
    |false=>rfl
    |true=>
     simp only [if_true,thenS]
     cases hp:c.Pts with
     |nil=>rw [hp]at h1;simp at h1
     |cons p r=>
      have:=IH c hl h3 r p 0 none (by rw [hp];rfl) (.inl ⟨rfl,rfl⟩)
      rw [show ((0:Nat):Int)=0 from rfl]at this
      rw [this]
      by_cases h4:SS none (p::r)=0
      ·rw [bQ h4,h4]
      ·rw [bR h4]
/-- What a valid chain is. -/
inductive Good:Option CurveVector→List Spot→Prop
  |one (last:Option CurveVector) (p:Spot):Good last [p]
  |cons (last:Option CurveVector) (p q:Spot) (r:List Spot) (h1:rt (N3 (R6 p q) (R6 p q))*rt (N3 (R6 p q) (R6 p q))=N3 (R6 p q) (R6 p q)) (h2:1000≤rt (N3 (R6 p q) (R6 p q))) (h3:rt (N3 (R6 p q) (R6 p q))≤1048576)
     (h4: ∀u,last=some u→0<N3 u (R6 p q)) (h:Good (some (R6 p q)) (q::r)):Good last (p::q::r)
theorem ST: ∀(r:List Spot) (p:Spot) (last:Option CurveVector),SS last (p::r)=0→Good last (p::r):=by
  intro r
  induction r with
  |nil=>intro p last _;exact .one _ _
  |cons q r ih=>
   intro p last h
   rw [ER]at h
   split at h
   ·cases h
   ·rename_i h1
    split at h
    ·cases h
    ·rename_i h2
     have h1:rt (N3 (R6 p q) (R6 p q))*rt (N3 (R6 p q) (R6 p q))=N3 (R6 p q) (R6 p q):=by simpa using h1
     cases last with
     |none=>exact .cons _ _ _ _ h1 (by omega) (by omega) (fun u hu=>by cases hu) (ih q _ h)
     |some u=>
      dsimp only at h
      split at h
      ·cases h
      ·exact .cons _ _ _ _ h1 (by omega) (by omega) (fun u' hu=>by cases hu;omega) (ih q _ h)
theorem SU {last:Option CurveVector}{l:List Spot}(h:Good last l):SS last l=0:=by
  induction h with
  |one=>rfl
  |cons last p q r h1 h2 h3 h4 h ih=>
   rw [ER,bR (by simpa using h1),bR (by omega)]
   cases last with
   |none=>exact ih
   |some u=>dsimp only;rw [bR (by have:=h4 u rfl;omega)];exact ih
structure Valid (l:List Spot):Prop where
  two:2≤l.length
  most:l.length≤16
  ok:l.all Wg=true
  good:Good none l
theorem checkM_zero {l:List Spot}:Da l=0↔Valid l:=by
  unfold Da
  constructor
  ·intro h
   split at h
   ·cases h
   ·rename_i h1
    split at h
    ·cases h
    ·rename_i h2
     split at h
     ·rename_i h3
      cases l with
      |nil=>simp at h1
      |cons p r=>exact ⟨by omega,by omega,h3,ST r p none h⟩
     ·cases h
  ·rintro ⟨h1,h2,h3,h4⟩
   rw [bR (by omega),bR (by omega),bQ h3]
   exact SU h4
/-- The pieces of a chain: the number, the piece. -/
noncomputable def Wj:Nat→Int→List Spot→List (Int×CurvePiece)
  |i,s,p::q::r=>((i:Int),⟨p,R6 p q,rt (N3 (R6 p q) (R6 p q)),s⟩)::Wj (i+1) (D3 (s+rt (N3 (R6 p q) (R6 p q)))) (q::r)
  |_,_,_=> []
theorem ES (i:Nat)(s:Int)(p q:Spot)(r:List Spot):Wj i s (p::q::r)=((i:Int),⟨p,R6 p q,rt (N3 (R6 p q) (R6 p q)),s⟩)::Wj (i+1) (D3 (s+rt (N3 (R6 p q) (R6 p q)))) (q::r):=by conv=>lhs;unfold Wj
theorem SV (pts:List Spot)(hok:pts.all Wg=true): ∀(r:List Spot) (p:Spot) (i:Nat) (s:Int),pts.drop i=p::r→Jd pts r.length i s=some (Wj i s (p::r)):=by
  intro r
  induction r with
  |nil=>intro p i s _;rfl
  |cons q r ih=>
   intro p i s hi
   have hi1:=K5 hi
   have hp:Wg p=true:=lY.1 hok p (List.mem_of_mem_drop (i:=i) (by rw [hi];simp))
   have hq:Wg q=true:=lY.1 hok q (List.mem_of_mem_drop (i:=i) (by rw [hi];simp))
   have hv:=EQ hp hq
   have h0:pts[i]? =some p:=by have:=congrArg (fun z=>z[0]?) hi;simpa using this
   have h1:pts[i+1]? =some q:=by have:=congrArg (fun z=>z[0]?) hi1;simpa using this
   rw [lL,Jd,h0,h1]
   simp only [lB,BK hp hq,Wh hv hv,BJ]
   rw [ih q (i+1) _ hi1,ES]
   rfl
theorem WB {pts:List Spot}(h:Valid pts):Ts pts=some (Wj 0 0 pts):=by
  unfold Ts
  have:=h.most
  rw [bQ (by omega)]
  cases hp:pts with
  |nil=>have:=h.two;rw [hp]at this;simp at this
  |cons p r=>exact SV (p::r) (by rw [← hp];exact h.ok) r p 0 0 rfl
/-- The lengths. -/
noncomputable def AO:List Spot→List Int
  |p::q::r=>rt (N3 (R6 p q) (R6 p q))::AO (q::r)
  |_=> []
theorem Uy (p q:Spot)(r:List Spot):AO (p::q::r)=rt (N3 (R6 p q) (R6 p q))::AO (q::r):=by conv=>lhs;unfold AO
theorem Tv: ∀(r:List Spot) (p:Spot),(AO (p::r)).length=r.length
  | [],_=>rfl
  |q::r,p=>by rw [Uy,lL,Tv r q,lL]
theorem ET: ∀(r:List Spot) (p:Spot) (i:Nat) (s:Int),(Wj i s (p::r)).map (·.2.l)=AO (p::r)
  | [],_,_,_=>rfl
  |q::r,p,i,s=>by rw [ES,Uy,lR,ET r q]
theorem SW: ∀(L:List (Int×CurvePiece)) (out:List Int),out.length+L.length≤1000000000→loopL Ev (fun x=>x) L out=some (out++L.map (·.2.l)):=by
  intro L
  induction L with
  |nil=>intro out _;simp [loopL]
  |cons a L ih=>
   intro out h
   simp only [lL]at h
   have:Ev out a=some (.go (out++ [a.2.l])):=by
     unfold Ev
     rw [Fc (by simp;omega)];rfl
   rw [loopL,this]
   dsimp only
   rw [ih _ (by simp;omega)]
   simp
theorem II (c:Curve)(hl:c.Pts.length≤1000000):Ff c=some (if Da c.Pts=0 then AO c.Pts else []):=by
  unfold Ff
  rw [Zg c hl,lB]
  by_cases h:Da c.Pts=0
  ·rw [bQ h,h]
   have hv:=checkM_zero.1 h
   have:=hv.most
   simp only [bne_self_eq_false,bP,WB hv,lB]
   cases hp:c.Pts with
   |nil=>have:=hv.two;rw [hp]at this;simp at this
   |cons p r=>
    have e:=ET r p 0 0
    rw [SW _ _ (by
     have:=congrArg List.length e
     rw [lS,Tv]at this
     rw [this];rw [hp]at hl;simp at hl ⊢;omega)]
    rw [e];rfl
  ·rw [bR h,show (Da c.Pts !=0)=true from bne_iff_ne.2 h];rfl
theorem EU (c:Curve)(hl:c.Pts.length≤1000000)(hok:c.Pts.all Wg=true): ∀(r:List Spot) (p:Spot) (i:Nat) (out:List Int) (last:Option CurveVector),c.Pts.drop i=p::r→Good last (p::r)→out.length+r.length≤1000000→
    loop (Cy c) (out,(i:Int))=some (out++AO (p::r)):=by
  intro r
  induction r with
  |nil=>
   intro p i out last hi _ _
   have hlt:=M9 hi
   have:=O0 (K5 hi)
   refine C7 ?_
   unfold Cy
   dsimp only
   rw [F1 (n:=(i:Int)+1) (by omega)]
   simp only [show ¬(i:Int)+1< (c.Pts.length:Int) by omega,decide_false,bP,AO,lP]
  |cons q r ih=>
   intro p i out last hi hg ho
   have hlt:=M9 hi
   have hi1:=K5 hi
   have hlt1:=M9 hi1
   have hp:Wg p=true:=lY.1 hok p (List.mem_of_mem_drop (i:=i) (by rw [hi];simp))
   have hq:Wg q=true:=lY.1 hok q (List.mem_of_mem_drop (i:=i) (by rw [hi];simp))
   have hv:=EQ hp hq
   have hg1:C1 c.Pts ((i:Int)+1)=some q:=by have:=Cn hi1;simpa using this
   obtain ⟨l,hl1,hl2,hl3⟩:=gA hv
   cases hg with
   |cons _ _ _ _ h1 h2 h3 h4 hg=>
    have hll:=hl3 h1
    subst hll
    simp only [lL]at ho
    have hstep:Cy c (out,(i:Int))=some (.go (out++ [rt (N3 (R6 p q) (R6 p q))],((i+1:Nat):Int))):=by
      unfold Cy
      dsimp only
      rw [F1 (n:=(i:Int)+1) (by omega)]
      simp only [show (i:Int)+1< (c.Pts.length:Int) by omega,decide_true,bO,Cn hi,hg1,lB,Sw hp hq,Wi hv hv,hl1]
      rw [Fc (by simp;omega)]
      rfl
    rw [J2 hstep,ih q (i+1) _ _ hi1 hg (by simp;omega),Uy]
    simp
theorem IJ (c:Curve)(hl:c.Pts.length≤1000000):Oe c=some (if Da c.Pts=0 then AO c.Pts else []):=by
  unfold Oe
  rw [Zh c hl,lB]
  by_cases h:Da c.Pts=0
  ·rw [bQ h,h]
   have hv:=checkM_zero.1 h
   simp only [bne_self_eq_false,bP]
   cases hp:c.Pts with
   |nil=>have:=hv.two;rw [hp]at this;simp at this
   |cons p r=>
    have:=EU c hl hv.ok r p 0 [] none (by rw [hp];rfl) (by rw [← hp];exact hv.good) (by rw [hp]at hl;simp at hl ⊢;omega)
    rw [show ((0:Nat):Int)=0 from rfl]at this
    rw [this];rfl
  ·rw [bR h,show (Da c.Pts !=0)=true from bne_iff_ne.2 h];rfl
/-- A sum, as the programs take it. -/
def CS:Int→List Int→Int
  |s,[]=>s
  |s,a::l=>CS (D3 (s+a)) l
theorem EV (l:List Int)(hl:l.length≤1000000): ∀(r:List Int) (i:Nat) (s:Int),l.drop i=r→loop (Au l) (s,(i:Int))=some (CS s r):=by
  intro r
  induction r with
  |nil=>
   intro i s hi
   have:=O0 hi
   refine C7 ?_
   unfold Au
   simp only [show ¬(i:Int)<l.length by omega,decide_false,bP,CS]
  |cons a r ih=>
   intro i s hi
   have hlt:=M9 hi
   have hstep:Au l (s,(i:Int))=some (.go (D3 (s+a),((i+1:Nat):Int))):=by
     unfold Au
     simp only [show (i:Int)<l.length by omega,decide_true,bO,Cn hi,lB]
     rw [F1 (n:=(i:Int)+1) (by omega)];rfl
   rw [J2 hstep,ih (i+1) _ (K5 hi),CS]
theorem EW (l:List Int)(hl:l.length≤1000000): ∀(r:List Int) (i:Nat) (s:Int),l.drop i=r→loop (Ax l) (s,(i:Int))=some (CS s r):=by
  intro r
  induction r with
  |nil=>
   intro i s hi
   have:=O0 hi
   refine C7 ?_
   unfold Ax
   simp only [show ¬(i:Int)<l.length by omega,decide_false,bP,CS]
  |cons a r ih=>
   intro i s hi
   have hlt:=M9 hi
   have hstep:Ax l (s,(i:Int))=some (.go (D3 (s+a),((i+1:Nat):Int))):=by
     unfold Ax
     simp only [show (i:Int)<l.length by omega,decide_true,bO,Cn hi,lB]
     rw [F1 (n:=(i:Int)+1) (by omega)];rfl
   rw [J2 hstep,ih (i+1) _ (K5 hi),CS]
noncomputable def Mn (c:Curve):List Int:=if Da c.Pts=0 then AO c.Pts else []
theorem kM: ∀l:List Spot,(AO l).length≤l.length
  | []=>by simp [AO]
  |p::r=>by rw [Tv];simp
theorem KW (c:Curve):(Mn c).length≤c.Pts.length:=by
  unfold Mn
  split
  ·exact kM _
  ·simp
theorem Xc (c:Curve)(hl:c.Pts.length≤1000000):Dh c=some (CS 0 (Mn c)):=by
  unfold Dh
  rw [II c hl,lB]
  have:=KW c
  have h:=EV (Mn c) (by omega) (Mn c) 0 0 (by simp)
  rw [show ((0:Nat):Int)=0 from rfl]at h
  show (loop (Au (Mn c)) (0,0)).bind _=_
  rw [h];rfl
theorem IK (c:Curve)(hl:c.Pts.length≤1000000):Fp c=some (CS 0 (Mn c)):=by
  unfold Fp
  rw [IJ c hl,lB]
  have:=KW c
  have h:=EW (Mn c) (by omega) (Mn c) 0 0 (by simp)
  rw [show ((0:Nat):Int)=0 from rfl]at h
  show (loop (Ax (Mn c)) (0,0)).bind _=_
  rw [h];rfl
/-- A quarter turn, so many times. -/
def aD:Nat→CurveVector→CurveVector
  |0,v=>v
  |n+1,v=>aD n ⟨-v.y,v.x⟩
theorem QE: ∀(n:Nat) (v w:CurveVector),N3 (aD n v) (aD n w)=N3 v w
  |0,_,_=>rfl
  |n+1,v,w=>by rw [aD,aD,QE n];unfold N3;grind
/-- A piece's vector, made of numbers: in one quadrant. -/
def oV (n:Nat)(v:CurveVector):Prop:= ∃x y L:Int,v=aD n ⟨x,y⟩∧0<x∧0≤y∧x*x+y*y=L*L∧1000≤L∧L≤3029∧x≤L∧y≤L
inductive Ch (Q:CurveVector→Prop):List Spot→Prop
  |one (p:Spot):Ch Q [p]
  |cons (p q:Spot) (r:List Spot) (h:Q (R6 p q)) (hr:Ch Q (q::r)):Ch Q (p::q::r)
theorem KX {n:Nat}: ∀(r:List Spot) (p:Spot) (last:Option CurveVector),Ch (oV n) (p::r)→(∀u,last=some u→oV n u)→Good last (p::r)
  | [],p,last,_,_=> .one _ _
  |q::r,p,last,hc,hl=>by
   cases hc with
   |cons _ _ _ h1 h2=>
    have hq:=h1
    obtain ⟨x,y,L,hv,hx,hy,hsq,hL1,hL2,hxL,hyL⟩:=h1
    have hd:N3 (R6 p q) (R6 p q)=L*L:=by rw [hv,QE];unfold N3;exact hsq
    have hrt:rt (N3 (R6 p q) (R6 p q))=L:=by rw [hd];exact fZ (by omega) (by omega)
    refine .cons _ _ _ _ (by rw [hrt,hd]) (by rw [hrt];exact hL1) (by rw [hrt];omega) (fun u hu=> ?_) (KX r q _ h2 (fun u hu=>by cases hu;exact hq))
    obtain ⟨x',y',L',hv',hx',hy',_⟩:=hl u hu
    rw [hv,hv',QE]
    unfold N3
    have:=Int.mul_pos hx' hx
    have:=wO hy' hy
    dsimp only
    omega
/-- What the curves made of numbers are like. -/
structure Made (l:List Spot):Prop where
  two:2≤l.length
  six:l.length≤6
  ch: ∃n,Ch (oV n) l
  bd: ∀p∈l, -50000≤p.X∧p.X≤50000∧ -50000≤p.Y∧p.Y≤50000
theorem Made.valid {l:List Spot}(h:Made l):Valid l:=by
  obtain ⟨n,hc⟩:=h.ch
  have:=h.two;have:=h.six
  refine ⟨h.two,by omega,lY.2 fun p hp=>okS_iff.2 (by have:=h.bd p hp;omega),?_⟩
  match l,h,hc with
  |p::r,_,hc=>exact KX r p none hc (fun u hu=>by cases hu)
  | [],h,_=>exact absurd h.two (by simp)
/-! ### Loops that look for the first error -/
def I7 {α β:Type}(g:Nat→α→Option β):Nat→List α→Option β
  |_,[]=>none
  |i,a::r=>match g i a with
   |some e=>some e
   |none=>I7 g (i+1) r
def GF {β:Type}:Option β→Sum Unit β
  |some e=> .inr e
  |none=> .inl ()
theorem Z6 {α β:Type}(l:List α)(F:Int→Option (Stp Int (Sum Unit β)))(g:Nat→α→Option β)(hF: ∀(i:Nat) a,l[i]? =some a→F (i:Int)=some (match g i a with|some e=> .out (.inr e)|none=> .go ((i+1:Nat):Int)))(h0:F (l.length:Int)=some (.out (.inl ()))):
    loop F 0=some (GF (I7 g 0 l)):=by
  have key: ∀(r:List α) (i:Nat),l.drop i=r→i≤l.length→loop F (i:Int)=some (GF (I7 g i r)):=by
    intro r
    induction r with
    |nil=>
     intro i hi hil
     have:i=l.length:=by have:=List.drop_eq_nil_iff.1 hi;omega
     subst this
     exact C7 h0
    |cons a r ih=>
     intro i hi hil
     have hlt:i<l.length:=by
       rcases Nat.lt_or_ge i l.length with q|q
       ·exact q
       ·rw [List.drop_eq_nil_of_le q]at hi;cases hi
     have ha:l[i]? =some a:=by have:=congrArg (fun z=>z[0]?) hi;simpa using this
     have hr:l.drop (i+1)=r:=by have:=congrArg (fun z=>z.drop 1) hi;simpa using this
     have hs:=hF i a ha
     unfold I7
     cases hg:g i a with
     |some e=>rw [hg]at hs;exact C7 hs
     |none=>rw [hg]at hs;rw [J2 hs];exact ih (i+1) hr (by omega)
  have:=key l 0 rfl (by omega)
  exact this
theorem firstE_none {α β:Type}{g:Nat→α→Option β}: ∀{l:List α} {i:Nat},I7 g i l=none↔∀(j:Nat) a,l[j]? =some a→g (i+j) a=none
  | [],i=>by simp [I7]
  |a::r,i=>by
   unfold I7
   cases h:g i a with
   |some e=>
    constructor
    ·intro h';cases h'
    ·intro h';have:=h' 0 a rfl;rw [Nat.add_zero,h]at this;cases this
   |none=>
    dsimp only
    rw [firstE_none (l:=r)]
    constructor
    ·intro h' j b hj
     cases j with
     |zero=>cases hj;exact h
     |succ j=>have:=h' j b hj;rwa [show i+1+j=i+ (j+1) by omega]at this
    ·intro h' j b hj
     have:=h' (j+1) b hj
     rwa [show i+ (j+1)=i+1+j by omega]at this
/-! ### Numbers -/
def Vl (n a b:Int):Bool:=decide (a≤n)&&decide (n≤b)
theorem Rx (n a b:Int):Dg n a b=some (Vl n a b):=rfl
theorem Sx (n a b:Int):Dk n a b=some (Vl n a b):=rfl
def U3 (kind:Int):Int×Int×Int:=if kind=1 then (2000,30,90)else if kind=2 then (1000,20,60)else if kind=3 then (300,100,300)else (0,0,0)
theorem Uz (k:Int):Fd k=some (U3 k):=by
  unfold Fd U3
  by_cases h:k<0∨k≥4
  ·rw [show ((decide (k<0))||(decide (k≥4)))=true by simpa using h,bO,bR (by omega),bR (by omega),bR (by omega)]
  ·rw [show ((decide (k<0))||(decide (k≥4)))=false by rw [bZ];simpa using h,bP]
   obtain ⟨h1,h2⟩:=not_or.1 h
   rcases (show k=0∨k=1∨k=2∨k=3 by omega)with rfl|rfl|rfl|rfl<;>rfl
theorem Mv (k:Int):Cc k=some (U3 k):=by
  unfold Cc U3
  by_cases h1:k=1
  ·subst h1;rfl
  ·by_cases h2:k=2
   ·subst h2;rfl
   ·by_cases h3:k=3
    ·subst h3;rfl
    ·rw [bR h1,bR h2,bR h3]
     rw [show (k==1)=false by simpa using h1,show (k==2)=false by simpa using h2,show (k==3)=false by simpa using h3];rfl
theorem QR {n:Int}(h: -9223372036854775808≤n∧n≤9223372036854775807):D3 n=n:=Go.IntWalk.i64_in n h
theorem C3 {α:Type}{l:List α}{i:Nat}{a:α}(h:l[i]? =some a):C1 l (i:Int)=some a:=by
  unfold C1;rw [bQ (by omega),wF];exact h
theorem H5 {α:Type}{l:List α}{i:Nat}{a:α}(h:l[i]? =some a):i<l.length:=(lI.1 h).1
theorem IQ {α:Type}(c:Bool)(a b:α):cond c (some a) (some b)=some (cond c a b):=by cases c<;>rfl
def Cs (high:Int):Int→List Int→Bool
  |_,[]=>true
  |low,n::r=>decide (low≤n)&&decide (n<high)&&Cs high (n+1) r
theorem GG (l:List Int)(low high:Int)(hl:l.length≤1000000)(hh:high≤1000000000)(h0:0≤low):Bs l low high=some (Cs high low l):=by
  have key: ∀(r:List Int) (i:Nat) (lo:Int),0≤lo→l.drop i=r→i≤l.length→loop (Cv l high) (lo,(i:Int))=some (if Cs high lo r then .inl ()else .inr false):=by
    intro r
    induction r with
    |nil=>
     intro i lo _ hi hil
     have:=O0 hi
     refine C7 ?_
     unfold Cv
     dsimp only
     rw [show decide ((i:Int)< (l.length:Int))=false from bK (by omega)];rfl
    |cons n r ih=>
     intro i lo hlo hi hil
     have hlt:=M9 hi
     have hs:Cv l high (lo,(i:Int))=some (if decide (lo≤n)&&decide (n<high)then .go (n+1,((i+1:Nat):Int))else .out (.inr false)):=by
       unfold Cv
       dsimp only
       rw [show decide ((i:Int)< (l.length:Int))=true from bJ (by omega),Cn hi,bO,lB,QR (n:=(i:Int)+1) (by omega)]
       by_cases q:lo≤n∧n<high
       ·rw [show ((decide (n<lo))||(decide (n≥high)))=false by rw [bZ];simp;omega,bP,QR (n:=n+1) (by omega),bQ (by simpa using q)];rfl
       ·rw [show ((decide (n<lo))||(decide (n≥high)))=true by simp;omega,bO,bR (by simpa using q)]
     unfold Cs
     cases q:(decide (lo≤n)&&decide (n<high))
     ·rw [q]at hs;rw [C7 hs];rfl
     ·rw [q]at hs
      simp only [bU,bM]at q
      rw [J2 hs,ih (i+1) (n+1) (by omega) (K5 hi) (by omega)];rfl
  unfold Bs
  have:=key l 0 low h0 rfl (by omega)
  rw [show ((0:Nat):Int)=0 from rfl]at this
  rw [this]
  cases Cs high low l<;>rfl
theorem CT (l:List Int)(low high:Int)(hl:l.length≤1000000):Gk l low high=some (Cs high low l):=by
  have key: ∀(r:List Int) (i:Nat) (lo:Int),low≤lo→(i=0→lo=low)→(0<i→l[i - 1]? =some (lo - 1))→l.drop i=r→i≤l.length→loop (Bl l low high) (i:Int)=some (if Cs high lo r then .inl ()else .inr false):=by
    intro r
    induction r with
    |nil=>
     intro i lo _ _ _ hi hil
     have:=O0 hi
     refine C7 ?_
     unfold Bl
     rw [show decide ((i:Int)< (l.length:Int))=false from bK (by omega)];rfl
    |cons n r ih=>
     intro i lo hlo h0 h1 hi hil
     have hlt:=M9 hi
     have hn:l[i]? =some n:=by have:=congrArg (fun z=>z[0]?) hi;simpa using this
     have hs:Bl l low high (i:Int)=some (if decide (lo≤n)&&decide (n<high)then .go ((i+1:Nat):Int)else .out (.inr false)):=by
       unfold Bl
       rw [show decide ((i:Int)< (l.length:Int))=true from bJ (by omega),Cn hi,bO,lB,IQ,lB,IQ,lB,QR (n:=(i:Int)+1) (by omega)]
       by_cases q1:n<low
       ·rw [bJ q1,bR (by simp;omega)];rfl
       ·rw [bK q1]
        simp only [bX,bO,bY]
        by_cases q2:n≥high
        ·rw [bJ q2,bR (by simp;omega)];rfl
        ·rw [bK q2]
         simp only [bX,bS,bY]
         by_cases q3:(i:Int)>0
         ·have e:C1 l (D3 ((i:Int) - 1))=some (lo - 1):=by
            rw [QR (n:=(i:Int) - 1) (by omega),show (i:Int) - 1=((i - 1:Nat):Int) by omega]
            exact C3 (h1 (by omega))
          rw [bJ q3,bO,bO,e,lB,bS]
          by_cases q4:n≤lo - 1
          ·rw [bJ q4,bR (by simp;omega)];rfl
          ·rw [bK q4,bQ (by simp;omega)];rfl
         ·have:lo=low:=h0 (by omega)
          rw [bK q3,bP,lB,bT,bQ (by simp;omega)];rfl
     unfold Cs
     cases q:(decide (lo≤n)&&decide (n<high))
     ·rw [q]at hs;rw [C7 hs];rfl
     ·rw [q]at hs
      simp only [bU,bM]at q
      rw [J2 hs,ih (i+1) (n+1) (by omega) (fun z=>by omega) (fun _=>by rw [Nat.add_sub_cancel,hn];congr 1;omega) (K5 hi) (by omega)];rfl
  unfold Gk
  have:=key l 0 low (Int.le_refl _) (fun _=>rfl) (fun z=>by omega) rfl (by omega)
  rw [show ((0:Nat):Int)=0 from rfl]at this
  rw [this]
  cases Cs high low l<;>rfl
noncomputable def Ro (c:Curve):Int:=CS 0 (Mn c)
theorem kN {m:Map}{i:Nat}{l:Lane}(h:m.Lanes[i]? =some l)(hl:l.Curve_.Pts.length≤1000000):Cx m (i:Int)=some (Ro l.Curve_):=by
  unfold Cx
  rw [C3 h,lB,Xc _ hl];rfl
/-- The lists of a map are of bearable lengths. -/
structure Bear (m:Map):Prop where
  lanes:m.Lanes.length≤1000000
  pts: ∀l∈m.Lanes,l.Curve_.Pts.length≤1000000∧l.Next.length≤1000000
noncomputable def laneE (n:Nat)(i:Nat)(l:Lane):Option Int:=
  if (U3 l.Kind).1=0 then some 4
  else if Da l.Curve_.Pts≠0 then some (Da l.Curve_.Pts)
  else if (Vl l.Half 200 4000&&Vl l.Limit 1 (U3 l.Kind).1)=false then some 2
  else if 3<l.Next.length then some 8
  else if Cs n (i+1) l.Next=false then some 11 else none
theorem gB {m:Map}(B:Bear m):V5 ⟨m⟩=some ((I7 (laneE m.Lanes.length) 0 m.Lanes).getD 0):=by
  have h:=Z6 m.Lanes (Q9 ⟨m⟩) (laneE m.Lanes.length) (fun i l hl=>by
    have hi:=H5 hl
    have hb:=B.lanes
    obtain ⟨p1,p2⟩:=B.pts l (lG hl)
    unfold Q9 laneE
    dsimp only
    rw [show decide ((i:Int)< (m.Lanes.length:Int))=true from bJ (by omega),C3 hl,bO,lB,Uz,lB,Zg _ p1,lB,Rx,Rx,lB,IQ,lB,QR (n:=(i:Int)+1) (by omega),GG _ _ _ p2 (by omega) (by omega),lB]
    by_cases h1:(U3 l.Kind).1=0
    ·rw [bQ h1,show ((U3 l.Kind).1==0)=true by simpa using h1];rfl
    ·rw [bR h1,show ((U3 l.Kind).1==0)=false by simpa using h1,bP]
     by_cases h2:Da l.Curve_.Pts≠0
     ·rw [bQ h2,show (Da l.Curve_.Pts !=0)=true by simpa using h2];rfl
     ·rw [bR h2,show (Da l.Curve_.Pts !=0)=false by simpa using h2,bP]
      cases Vl l.Half 200 4000
      ·rfl
      ·cases Vl l.Limit 1 (U3 l.Kind).1
       ·rfl
       ·simp only [bW,bX,bO,bP,bY,Bool.and_self]
        rw [bR (by decide)]
        by_cases h3:3<l.Next.length
        ·rw [bQ h3,show decide ((l.Next.length:Int)>3)=true from bJ (by omega)];rfl
        ·rw [bR h3,show decide ((l.Next.length:Int)>3)=false from bK (by omega),bP]
         cases Cs (m.Lanes.length:Int) ((i:Int)+1) l.Next<;>rfl) (by
    unfold Q9
    dsimp only
    rw [show decide ((m.Lanes.length:Int)< (m.Lanes.length:Int))=false from bK (by omega)];rfl)
  unfold V5
  rw [h]
  cases I7 (laneE m.Lanes.length) 0 m.Lanes<;>rfl
theorem gC (k:Int):((decide (k<1))||(decide (k>3)))=decide ((U3 k).1=0):=by
  unfold U3
  by_cases h1:k=1
  ·subst h1;rfl
  ·by_cases h2:k=2
   ·subst h2;rfl
   ·by_cases h3:k=3
    ·subst h3;rfl
    ·rw [bR h1,bR h2,bR h3]
     simp only [decide_true,bV,bM]
     omega
theorem gD {m:Map}(B:Bear m){i:Nat}{l:Lane}(hl:m.Lanes[i]? =some l):Jf m (i:Int)=some ((laneE m.Lanes.length i l).getD 0):=by
  have hi:=H5 hl
  have hb:=B.lanes
  obtain ⟨p1,p2⟩:=B.pts l (lG hl)
  unfold Jf laneE
  rw [C3 hl,lB,gC,Zh _ p1,lB,Mv,lB,Sx,Sx,lB,IQ,lB,QR (n:=(i:Int)+1) (by omega),CT _ _ _ p2,lB]
  by_cases h1:(U3 l.Kind).1=0
  ·rw [bQ h1,bJ h1];rfl
  ·rw [bR h1,bK h1,bP]
   by_cases h2:Da l.Curve_.Pts≠0
   ·rw [bQ h2,show (Da l.Curve_.Pts !=0)=true by simpa using h2];rfl
   ·rw [bR h2,show (Da l.Curve_.Pts !=0)=false by simpa using h2,bP]
    cases Vl l.Half 200 4000
    ·rfl
    ·cases Vl l.Limit 1 (U3 l.Kind).1
     ·rfl
     ·simp only [bW,bX,bO,bP,bY,Bool.and_self]
      rw [bR (by decide)]
      by_cases h3:3<l.Next.length
      ·rw [bQ h3,show decide ((l.Next.length:Int)>3)=true from bJ (by omega)];rfl
      ·rw [bR h3,show decide ((l.Next.length:Int)>3)=false from bK (by omega),bP]
       cases Cs (m.Lanes.length:Int) ((i:Int)+1) l.Next<;>rfl
theorem KY {n i:Nat}{l:Lane}{e:Int}(h:laneE n i l=some e):e≠0:=by
  unfold laneE at h
  split at h
  ·cases h;decide
  ·split at h
   ·rename_i h2;cases h;exact h2
   ·split at h
    ·cases h;decide
    ·split at h
     ·cases h;decide
     ·split at h
      ·cases h;decide
      ·cases h
theorem SX {m:Map}(B:Bear m):loop (Eh m) 0=some (GF (I7 (laneE m.Lanes.length) 0 m.Lanes)):=
  Z6 m.Lanes (Eh m) (laneE m.Lanes.length) (fun i l hl=>by
   have hi:=H5 hl
   have hb:=B.lanes
   unfold Eh
   rw [show decide ((i:Int)< (m.Lanes.length:Int))=true from bJ (by omega),gD B hl,bO,lB,QR (n:=(i:Int)+1) (by omega)]
   cases h:laneE m.Lanes.length i l with
   |none=>rfl
   |some e=>
    rw [Option.getD_some,show (e !=0)=true by simpa using KY h];rfl) (by
   unfold Eh
   rw [show decide ((m.Lanes.length:Int)< (m.Lanes.length:Int))=false from bK (by omega)];rfl)
theorem Ll {high:Int}: ∀{l:List Int} {low:Int},Cs high low l=true→∀k∈l,low≤k∧k<high
  | [],_,_,k,hk=>by cases hk
  |n::r,low,h,k,hk=>by
   unfold Cs at h
   simp only [bU,bM]at h
   rcases lU.1 hk with rfl|hk
   ·exact h.1
   ·have:=Ll h.2 k hk
    omega
/-- What a lane is that has no error of its own. -/
structure LaneOK (n i:Nat)(l:Lane):Prop where
  kind:(U3 l.Kind).1≠0
  curve:Da l.Curve_.Pts=0
  half:Vl l.Half 200 4000=true
  limit:Vl l.Limit 1 (U3 l.Kind).1=true
  few:l.Next.length≤3
  next:Cs n (i+1) l.Next=true
theorem WC {n i:Nat}{l:Lane}(h:laneE n i l=none):LaneOK n i l:=by
  unfold laneE at h
  split at h
  ·cases h
  ·rename_i h1
   split at h
   ·cases h
   ·rename_i h2
    split at h
    ·cases h
    ·rename_i h3
     split at h
     ·cases h
     ·rename_i h4
      split at h
      ·cases h
      ·rename_i h5
       simp only [Bool.not_eq_false,bU]at h3
       exact ⟨h1,Decidable.not_not.1 h2,h3.1,h3.2,by omega,by simpa using h5⟩
theorem Zi {m:Map}(h:I7 (laneE m.Lanes.length) 0 m.Lanes=none){i:Nat}{l:Lane}(hl:m.Lanes[i]? =some l):LaneOK m.Lanes.length i l:=by
  have:=firstE_none.1 h i l hl
  rw [wK]at this
  exact WC this
theorem GH {l:List Spot}(h:Da l=0):2≤l.length:=by
  unfold Da at h
  split at h
  ·cases h
  ·omega
def BL (l:List Spot):Spot:=l.headD ⟨0,0⟩
def Xd (l:List Spot):Spot:=l.getLastD ⟨0,0⟩
theorem NR {l:List Spot}(h:2≤l.length):C1 l 0=some (BL l):=by
  cases l with
  |nil=>simp at h
  |cons a r=>rfl
theorem NS {l:List Spot}(h:2≤l.length)(hl:l.length≤1000000):C1 l (D3 ((l.length:Int) - 1))=some (Xd l):=by
  rw [QR (by omega),show (l.length:Int) - 1=((l.length - 1:Nat):Int) by omega]
  refine C3 ?_
  unfold Xd
  rw [List.getLastD_eq_getLast?,List.getLast?_eq_getElem?]
  rw [lH (by omega)];rfl
def SY (a b:Spot):Bool:=a.X==b.X&& (a.Y==b.Y&&true)
def Zj (m:Map)(l:Lane)(_:Nat)(k:Int):Option Int:=
  match m.Lanes[k.toNat]? with
  |some n=>if n.Kind≠l.Kind then some 4 else if SY (BL n.Curve_.Pts) (Xd l.Curve_.Pts)=false then some 3 else none
  |none=>none
def nextE (m:Map)(_:Nat)(l:Lane):Option Int:=I7 (Zj m l) 0 l.Next
theorem KZ {m:Map}(B:Bear m)(H:I7 (laneE m.Lanes.length) 0 m.Lanes=none){i:Nat}{l:Lane}(hl:m.Lanes[i]? =some l){j:Nat}{k:Int}(hk:l.Next[j]? =some k):
    ∃n,C1 m.Lanes k=some n∧m.Lanes[k.toNat]? =some n∧2≤n.Curve_.Pts.length∧n.Curve_.Pts.length≤1000000:=by
  have L:=Zi H hl
  have hb:=Ll L.next k (lG hk)
  have hlt:k.toNat<m.Lanes.length:=by omega
  refine ⟨m.Lanes[k.toNat],?_,lH hlt,GH (Zi H (lH hlt)).curve,(B.pts _ (List.getElem_mem hlt)).1⟩
  unfold C1
  rw [bQ (by omega),lH hlt]
theorem aE {m:Map}{l:Lane}{j:Nat}{k e:Int}(h:Zj m l j k=some e):e≠0:=by
  unfold Zj at h
  split at h
  ·split at h
   ·cases h;decide
   ·split at h
    ·cases h;decide
    ·cases h
  ·cases h
theorem NT {m:Map}(B:Bear m)(H:I7 (laneE m.Lanes.length) 0 m.Lanes=none){i:Nat}{l:Lane}(hl:m.Lanes[i]? =some l):
    loop (Y1 ⟨m⟩ l (Xd l.Curve_.Pts)) 0=some (GF (nextE m i l))∧loop (Bm m l) 0=some (GF (nextE m i l)):=by
  have L:=Zi H hl
  obtain ⟨p1,p2⟩:=B.pts l (lG hl)
  constructor
  ·refine Z6 l.Next _ (Zj m l) (fun j k hk=> ?_) ?_
   ·have hj:=H5 hk
    obtain ⟨n,g1,g2,g3,g4⟩:=KZ B H hl hk
    unfold Y1 Zj
    dsimp only
    rw [show decide ((j:Int)< (l.Next.length:Int))=true from bJ (by omega),C3 hk,bO,lB,g1,lB,lB,NR g3,lB,QR (n:=(j:Int)+1) (by omega),g2]
    dsimp only
    rw [show ((BL n.Curve_.Pts).X==(Xd l.Curve_.Pts).X&& ((BL n.Curve_.Pts).Y==(Xd l.Curve_.Pts).Y&&true))=SY (BL n.Curve_.Pts) (Xd l.Curve_.Pts) from rfl]
    by_cases h1:n.Kind≠l.Kind
    ·rw [bQ h1,show (n.Kind !=l.Kind)=true by simpa using h1];rfl
    ·rw [bR h1,show (n.Kind !=l.Kind)=false by simpa using h1]
     cases SY (BL n.Curve_.Pts) (Xd l.Curve_.Pts)<;>rfl
   ·unfold Y1
    rw [show decide ((l.Next.length:Int)< (l.Next.length:Int))=false from bK (by omega)];rfl
  ·refine Z6 l.Next _ (Zj m l) (fun j k hk=> ?_) ?_
   ·have hj:=H5 hk
    obtain ⟨n,g1,g2,g3,g4⟩:=KZ B H hl hk
    unfold Bm Zj
    rw [show decide ((j:Int)< (l.Next.length:Int))=true from bJ (by omega),C3 hk,bO,lB,g1,lB,NR g3,lB,NS (GH L.curve) p1,lB,QR (n:=(j:Int)+1) (by omega),g2]
    dsimp only
    rw [show ((BL n.Curve_.Pts).X==(Xd l.Curve_.Pts).X&& ((BL n.Curve_.Pts).Y==(Xd l.Curve_.Pts).Y&&true))=SY (BL n.Curve_.Pts) (Xd l.Curve_.Pts) from rfl]
    by_cases h1:n.Kind≠l.Kind
    ·rw [bQ h1,show (n.Kind !=l.Kind)=true by simpa using h1];rfl
    ·rw [bR h1,show (n.Kind !=l.Kind)=false by simpa using h1]
     cases SY (BL n.Curve_.Pts) (Xd l.Curve_.Pts)<;>rfl
   ·unfold Bm
    rw [show decide ((l.Next.length:Int)< (l.Next.length:Int))=false from bK (by omega)];rfl
theorem NU {m:Map}(B:Bear m)(H:I7 (laneE m.Lanes.length) 0 m.Lanes=none):
    U1 ⟨m⟩=some ((I7 (nextE m) 0 m.Lanes).getD 0)∧Jg m=some ((I7 (nextE m) 0 m.Lanes).getD 0):=by
  have hb:=B.lanes
  constructor
  ·have h:=Z6 m.Lanes (P9 ⟨m⟩) (nextE m) (fun i l hl=>by
     have hi:=H5 hl
     have L:=Zi H hl
     obtain ⟨p1,p2⟩:=B.pts l (lG hl)
     unfold P9
     dsimp only
     rw [show decide ((i:Int)< (m.Lanes.length:Int))=true from bJ (by omega),C3 hl,bO,lB,NS (GH L.curve) p1,lB,(NT B H hl).1,QR (n:=(i:Int)+1) (by omega)]
     cases nextE m i l<;>rfl) (by
     unfold P9
     dsimp only
     rw [show decide ((m.Lanes.length:Int)< (m.Lanes.length:Int))=false from bK (by omega)];rfl)
   unfold U1
   rw [h]
   cases I7 (nextE m) 0 m.Lanes<;>rfl
  ·have h:=Z6 m.Lanes (Bn m) (nextE m) (fun i l hl=>by
     have hi:=H5 hl
     unfold Bn
     rw [show decide ((i:Int)< (m.Lanes.length:Int))=true from bJ (by omega),C3 hl,bO,lB,(NT B H hl).2,QR (n:=(i:Int)+1) (by omega)]
     cases nextE m i l<;>rfl) (by
     unfold Bn
     rw [show decide ((m.Lanes.length:Int)< (m.Lanes.length:Int))=false from bK (by omega)];rfl)
   unfold Jg
   rw [h]
   cases I7 (nextE m) 0 m.Lanes<;>rfl
/-- The place of the first element with a property. -/
theorem LA {α:Type}{f:Int→Option (Stp Int (Sum Unit Int))}(l:List α)(P:α→Bool)(hl:l.length≤1000000000)(hf: ∀(i:Nat) a,l[i]? =some a→f (i:Int)=some (if P a then .out (.inr (i:Int))else .go (D3 ((i:Int)+1))))(he:f (l.length:Int)=some (.out (.inl ()))):
    loop f 0=some (match l.findIdx? P with|some i=> .inr (i:Int)|none=> .inl ()):=by
  have key: ∀(r:List α) (i:Nat),l.drop i=r→i≤l.length→loop f (i:Int)=some (match r.findIdx? P with|some j=> .inr ((i+j:Nat):Int)|none=> .inl ()):=by
    intro r
    induction r with
    |nil=>
     intro i hi hil
     have:=O0 hi
     obtain rfl:i=l.length:=by omega
     rw [C7 he];rfl
    |cons a r ih=>
     intro i hi _
     have hlt:=M9 hi
     have h0:l[i]? =some a:=by have:=congrArg (fun z=>z[0]?) hi;simpa using this
     have hs:=hf i a h0
     rw [List.findIdx?_cons]
     by_cases hp:P a=true
     ·rw [bQ hp]at hs
      rw [C7 hs,bQ hp];simp
     ·rw [bR hp]at hs
      rw [F1 (by omega)]at hs
      rw [J2 hs,show ((i:Int)+1)=((i+1:Nat):Int) by omega,ih (i+1) (K5 hi) (by omega),bR hp]
      cases r.findIdx? P with
      |none=>rfl
      |some j=>simp only [lF];congr 3;omega
  have:=key l 0 rfl (by omega)
  rw [show ((0:Nat):Int)=0 from rfl]at this
  rw [this]
  cases l.findIdx? P<;>simp
/-- -1, or the place. -/
def EX {α:Type}(P:α→Bool)(l:List α):Int:=match l.findIdx? P with|some i=>(i:Int)|none=> -1
theorem Va {α:Type}(P:α→Bool)(l:List α):decide (EX P l≥0)=l.any P:=by
  unfold EX
  cases h:l.findIdx? P with
  |none=>
   have:=List.findIdx?_eq_none_iff.1 h
   rw [show l.any P=false by rw [List.any_eq_false];intro x hx;simpa using this x hx]
   decide
  |some i=>
   have:=List.findIdx?_isSome (xs:=l) (p:=P)
   rw [h]at this
   rw [← this]
   simp
/-- What both twins compute of a list. -/
theorem Qn {α:Type}{f:Int→Option (Stp Int (Sum Unit Int))}(l:List α)(P:α→Bool)(hl:l.length≤1000000000)(hf: ∀(i:Nat) a,l[i]? =some a→f (i:Int)=some (if P a then .out (.inr (i:Int))else .go (D3 ((i:Int)+1))))(he:f (l.length:Int)=some (.out (.inl ()))):
    thenS (loop f 0) (fun _=>some (-1)) (fun r=>some r)=some (EX P l):=by
  rw [LA l P hl hf he]
  unfold EX
  cases l.findIdx? P<;>rfl
theorem aF (l:List Phase)(hl:l.length≤1000000):F3 l=some (l.any fun p=> !Vl p.Ticks 1 10000):=by
  unfold F3 H4
  rw [Qn l (fun p=> !Vl p.Ticks 1 10000) (by omega) (fun i a h=>by
   have:=H5 h
   unfold K3 El
   rw [show decide ((i:Int)< (l.length:Int))=true from bJ (by omega),C3 h,bO,lB,Rx,lB,lB]
   cases Vl a.Ticks 1 10000<;>rfl) (by
   unfold K3
   simp)]
  rw [lB,Va]
theorem WD (m:Map)(l:List Phase)(hl:l.length≤1000000)(hm:m.Lanes.length≤1000000)(hg: ∀p∈l,p.Green.length≤1000000):F0 l ⟨m⟩=some (l.any fun p=> !Cs m.Lanes.length 0 p.Green):=by
  unfold F0 G7
  rw [Qn l (fun p=> !Cs m.Lanes.length 0 p.Green) (by omega) (fun i a h=>by
   have:=H5 h
   unfold E9 T1
   dsimp only
   rw [show decide ((i:Int)< (l.length:Int))=true from bJ (by omega),C3 h,bO,lB,GG _ _ _ (hg a (lG h)) (by omega) (by omega),lB,lB]
   cases Cs (m.Lanes.length:Int) 0 a.Green<;>rfl) (by
   unfold E9
   simp)]
  rw [lB,Va]
structure BearS (m:Map):Prop where
  many:m.Signals.length≤1000000
  phases: ∀s∈m.Signals,s.Phases.length≤1000000∧∀p∈s.Phases,p.Green.length≤1000000
def signalE (m:Map)(_:Nat)(s:Signal):Option Int:=
  if s.Phases.length=0 then some 6
  else if 6<s.Phases.length then some 8
  else if Vl s.Offset 0 1099511627776=false then some 2
  else if (s.Phases.any fun p=> !Vl p.Ticks 1 10000)=true then some 2
  else if (s.Phases.any fun p=> !Cs m.Lanes.length 0 p.Green)=true then some 11 else none
theorem WE {m:Map}(B:Bear m)(S:BearS m):S6 ⟨m⟩=some ((I7 (signalE m) 0 m.Signals).getD 0):=by
  have h:=Z6 m.Signals (P3 ⟨m⟩) (signalE m) (fun i s hs=>by
    have hi:=H5 hs
    have hb:=S.many
    obtain ⟨p1,p2⟩:=S.phases s (lG hs)
    unfold P3 signalE
    dsimp only
    rw [show decide ((i:Int)< (m.Signals.length:Int))=true from bJ (by omega),C3 hs,bO,lB,Rx,lB,aF _ p1,lB,WD m _ p1 B.lanes p2,lB,QR (n:=(i:Int)+1) (by omega)]
    by_cases h1:s.Phases.length=0
    ·rw [bQ h1,h1];rfl
    ·rw [bR h1,show ((s.Phases.length:Int)==0)=false by simp only [beq_eq_false_iff_ne];omega,bP]
     by_cases h2:6<s.Phases.length
     ·rw [bQ h2,show decide ((s.Phases.length:Int)>6)=true from bJ (by omega)];rfl
     ·rw [bR h2,show decide ((s.Phases.length:Int)>6)=false from bK (by omega),bP]
      cases Vl s.Offset 0 1099511627776
      ·rfl
      ·cases (s.Phases.any fun p=> !Vl p.Ticks 1 10000)
       ·cases (s.Phases.any fun p=> !Cs m.Lanes.length 0 p.Green)<;>rfl
       ·rfl) (by
    unfold P3
    dsimp only
    rw [show decide ((m.Signals.length:Int)< (m.Signals.length:Int))=false from bK (by omega)];rfl)
  unfold S6
  rw [h]
  cases I7 (signalE m) 0 m.Signals<;>rfl
theorem SZ (s:Signal)(hl:s.Phases.length≤1000000): ∀(r:List Phase) (i:Nat) (b:Bool),s.Phases.drop i=r→i≤s.Phases.length→loop (W7 s) (b,(i:Int))=some (b&& !(r.any fun p=> !Vl p.Ticks 1 10000)):=by
  intro r
  induction r with
  |nil=>
   intro i b hi hil
   have:=O0 hi
   refine C7 ?_
   unfold W7
   dsimp only
   rw [show decide ((i:Int)< (s.Phases.length:Int))=false from bK (by omega)]
   simp
  |cons p r ih=>
   intro i b hi hil
   have hlt:=M9 hi
   have hs:W7 s (b,(i:Int))=some (.go (b&&Vl p.Ticks 1 10000,((i+1:Nat):Int))):=by
     unfold W7
     dsimp only
     rw [show decide ((i:Int)< (s.Phases.length:Int))=true from bJ (by omega),Cn hi,QR (n:=(i:Int)+1) (by omega)]
     cases b<;>rfl
   rw [J2 hs,ih (i+1) _ (K5 hi) (by omega),bH]
   cases b<;>cases Vl p.Ticks 1 10000<;>simp
theorem QF (m:Map)(s:Signal)(hl:s.Phases.length≤1000000)(hg: ∀p∈s.Phases,p.Green.length≤1000000):loop (W6 m s) 0=some (if (s.Phases.any fun p=> !Cs m.Lanes.length 0 p.Green)=true then .inr 11 else .inl ()):=by
  have h:=Z6 s.Phases (W6 m s) (fun _ p=>if Cs m.Lanes.length 0 p.Green then none else some 11) (fun i p hp=>by
    have:=H5 hp
    unfold W6
    rw [show decide ((i:Int)< (s.Phases.length:Int))=true from bJ (by omega),C3 hp,bO,lB,CT _ _ _ (hg p (lG hp)),lB,QR (n:=(i:Int)+1) (by omega)]
    cases Cs (m.Lanes.length:Int) 0 p.Green<;>rfl) (by
    unfold W6
    rw [show decide ((s.Phases.length:Int)< (s.Phases.length:Int))=false from bK (by omega)];rfl)
  rw [h]
  have key: ∀(l:List Phase) (i:Nat),GF (I7 (fun (_:Nat) (p:Phase)=>if Cs (m.Lanes.length:Int) 0 p.Green=true then none else some (11:Int)) i l)=if (l.any fun p=> !Cs m.Lanes.length 0 p.Green)=true then .inr 11 else .inl ():=by
    intro l
    induction l with
    |nil=>intro i;rfl
    |cons p r ih=>
     intro i
     unfold I7
     rw [bH]
     cases hq:Cs (m.Lanes.length:Int) 0 p.Green
     ·rfl
     ·exact ih (i+1)
  rw [key]
end Go.Abs.World
/-! Loops over lists, as functions on lists. -/
namespace Go.Abs
open Go
section
variable {α β σ S τ:Type}
/-- What a loop over a list makes, with a state, and with a way out. -/
def LB (step:Nat→σ→α→Sum σ τ)(fin:σ→τ):Nat→σ→List α→τ
  |_,s,[]=>fin s
  |i,s,a::r=>match step i s a with
   | .inl s'=>LB step fin (i+1) s' r
   | .inr t=>t
theorem V0 {l:List α}{i:Nat}{a:α}{r:List α}(h:l.drop i=a::r):l[i]? =some a:=by
  have:=congrArg (fun z=>z[0]?) h
  simpa using this
theorem nG {F:S→Option (Stp S τ)}(pk:Nat→σ→S)(l:List α)(inv:Nat→σ→Prop)(step:Nat→σ→α→Sum σ τ)(fin:σ→τ){s0:σ}{S0:S}(hS:pk 0 s0=S0)(hi:inv 0 s0)
    (hF: ∀i a s,l[i]? =some a→inv i s→F (pk i s)=some (match step i s a with| .inl s'=> .go (pk (i+1) s')| .inr t=> .out t))
    (hI: ∀i a s s',l[i]? =some a→inv i s→step i s a= .inl s'→inv (i+1) s')
    (h0: ∀s,inv l.length s→F (pk l.length s)=some (.out (fin s))):loop F S0=some (LB step fin 0 s0 l):=by
  have key: ∀(r:List α) (i:Nat) (s:σ),l.drop i=r→i≤l.length→inv i s→loop F (pk i s)=some (LB step fin i s r):=by
    intro r
    induction r with
    |nil=>
     intro i s hi hil hv
     have:=O0 hi
     obtain rfl:i=l.length:=by omega
     exact C7 (h0 s hv)
    |cons a r ih=>
     intro i s hi hil hv
     have hlt:=M9 hi
     have ha:=V0 hi
     have hs:=hF i a s ha hv
     unfold LB
     cases h:step i s a with
     |inl s'=>rw [h]at hs;rw [J2 hs];exact ih (i+1) s' (K5 hi) (by omega) (hI i a s s' ha hv h)
     |inr t=>rw [h]at hs;exact C7 hs
  rw [← hS]
  exact key l 0 s0 rfl (by omega) hi
/-- The same without a way out. -/
def EY (step:Nat→σ→α→σ):Nat→σ→List α→σ
  |_,s,[]=>s
  |i,s,a::r=>EY step (i+1) (step i s a) r
theorem HI (step:Nat→σ→α→σ)(fin:σ→τ): ∀(l:List α) (i:Nat) (s:σ),LB (fun i s a=> .inl (step i s a)) fin i s l=fin (EY step i s l)
  | [],_,_=>rfl
  |_::r,i,_=>HI step fin r (i+1) _
theorem YG {F:S→Option (Stp S τ)}(pk:Nat→σ→S)(l:List α)(inv:Nat→σ→Prop)(step:Nat→σ→α→σ)(fin:σ→τ){s0:σ}{S0:S}(hS:pk 0 s0=S0)(hi:inv 0 s0)
    (hF: ∀i a s,l[i]? =some a→inv i s→F (pk i s)=some (.go (pk (i+1) (step i s a))))
    (hI: ∀i a s,l[i]? =some a→inv i s→inv (i+1) (step i s a))
    (h0: ∀s,inv l.length s→F (pk l.length s)=some (.out (fin s))):loop F S0=some (fin (EY step 0 s0 l)):=by
  rw [← HI step fin]
  exact nG pk l inv _ fin hS hi hF (fun i a s s' h1 h2 h3=>by cases h3;exact hI i a s h1 h2) h0
/-- The elements that a loop gathers. -/
def Gu (g:Nat→α→Option β):Nat→List α→List β
  |_,[]=> []
  |i,a::r=>match g i a with
   |some b=>b::Gu g (i+1) r
   |none=>Gu g (i+1) r
theorem Vb (g:Nat→α→Option β): ∀(l:List α) (i:Nat),(Gu g i l).length≤l.length
  | [],_=>wH _
  |a::r,i=>by
   have:=Vb g r (i+1)
   unfold Gu
   cases g i a<;>simp only [lL]<;>omega
theorem CU (g:Nat→α→Option β): ∀(l:List α) (i:Nat) (s:List β),EY (fun i s a=>match g i a with|some b=>s++ [b]|none=>s) i s l=s++Gu g i l
  | [],_,s=>by simp [EY,Gu]
  |a::r,i,s=>by
   unfold EY Gu
   rw [CU g r (i+1)]
   cases g i a<;>simp
theorem nH {F:S→Option (Stp S τ)}(pk:Nat→List β→S)(l:List α)(g:Nat→α→Option β)(fin:List β→τ){S0:S}(hS:pk 0 []=S0)
    (hF: ∀i a (s:List β),l[i]? =some a→s.length≤i→F (pk i s)=some (.go (pk (i+1) (match g i a with|some b=>s++ [b]|none=>s))))
    (h0: ∀s,F (pk l.length s)=some (.out (fin s))):loop F S0=some (fin (Gu g 0 l)):=by
  have:=YG pk l (fun i s=>s.length≤i) (fun i s a=>match g i a with|some b=>s++ [b]|none=>s) fin hS (by simp) hF (fun i a s _ hs=>by
    cases g i a<;>simp<;>omega) (fun s _=>h0 s)
  rw [this,CU,lQ]
theorem GI {F:List β×Int→Option (Stp (List β×Int) τ)}(l:List α)(g:Nat→α→Option β)(fin:List β→τ)
    (hF: ∀(i:Nat) a (s:List β),l[i]? =some a→s.length≤i→F (s,(i:Int))=some (.go ((match g i a with|some b=>s++ [b]|none=>s),((i+1:Nat):Int))))
    (h0: ∀s,F (s,(l.length:Int))=some (.out (fin s))):loop F ([],0)=some (fin (Gu g 0 l)):=nH (fun i s=>(s,(i:Int))) l g fin rfl hF h0
/-- Is there one? -/
theorem HJ {F:Int→Option (Stp Int (Sum Unit β))}(l:List α)(p:α→Bool)(v:β)(hF: ∀(i:Nat) a,l[i]? =some a→F (i:Int)=some (if p a then .out (.inr v)else .go ((i+1:Nat):Int)))(h0:F (l.length:Int)=some (.out (.inl ()))):
    loop F 0=some (if l.any p then .inr v else .inl ()):=by
  have key: ∀(l:List α) (i:Nat),LB (fun _ _ a=>if p a then Sum.inr (Sum.inr v)else Sum.inl ()) (fun _=>(Sum.inl ():Sum Unit β)) i () l=if l.any p then .inr v else .inl ():=by
    intro l
    induction l with
    |nil=>intro i;rfl
    |cons a r ih=>
     intro i
     unfold LB
     rw [bH]
     cases h:p a
     ·exact ih (i+1)
     ·rfl
  rw [← key l 0]
  exact nG (F:=F) (σ:=Unit) (fun i _=>(i:Int)) l (fun _ _=>True) _ _ (s0:=()) rfl trivial (fun i a _ h _=>by rw [hF i a h];cases p a<;>rfl) (fun _ _ _ _ _ _ _=>trivial) (fun _ _=>h0)
end
theorem K0 {i:Nat}{n:Nat}(h:i<n):decide ((i:Int)< (n:Int))=true:=bJ (by omega)
theorem H9 (n:Nat):decide ((n:Int)< (n:Int))=false:=bK (by omega)
theorem G8 {i:Nat}{n:Nat}(h:i<n)(hn:n≤1000000000000):D3 ((i:Int)+1)=((i+1:Nat):Int):=by rw [F1 (by omega)];omega
end Go.Abs
namespace Go.Abs.World
open Go Go.Abs
structure BearZ (m:Map):Prop where
  many:m.Zones.length≤1000000
  parts: ∀z∈m.Zones,z.Parts.length≤1000000
noncomputable def Q0 (m:Map)(k:Int):Int:=((m.Lanes[k.toNat]?).map fun l=>Ro l.Curve_).getD 0
noncomputable def Tw (m:Map)(p:Part):Bool:=decide (p.From<0)||decide (p.From≥p.To)||decide (p.To>Q0 m p.Lane_)||decide (p.Rank<0)||decide (p.Rank>100)
noncomputable def zoneE (m:Map)(_:Nat)(z:Zone):Option Int:=
  if z.Parts.length<2 then some 6
  else if 6<z.Parts.length then some 8
  else if z.Signal_<0∨(m.Signals.length:Int)<z.Signal_ then some 2
  else if Cs m.Lanes.length 0 (z.Parts.map (·.Lane_))=false then some 11
  else if z.Parts.any (Tw m)=true then some 2 else none
theorem Tx {m:Map}{k:Int}(h0:0≤k)(h1:k<m.Lanes.length): ∃l,m.Lanes[k.toNat]? =some l∧C1 m.Lanes k=some l:=by
  have hlt:k.toNat<m.Lanes.length:=by omega
  refine ⟨m.Lanes[k.toNat],lH hlt,?_⟩
  unfold C1
  rw [bQ h0,lH hlt]
theorem IR {m:Map}(B:Bear m){k:Int}(h0:0≤k)(h1:k<m.Lanes.length):Cx m k=some (Q0 m k):=by
  obtain ⟨l,e1,e2⟩:=Tx h0 h1
  have:=kN (m:=m) e1 (B.pts l (lG e1)).1
  rw [show ((k.toNat:Nat):Int)=k by omega]at this
  rw [this,Q0,e1];rfl
theorem LC {m:Map}(B:Bear m){k:Int}(h0:0≤k)(h1:k<m.Lanes.length): ∃l,C1 m.Lanes k=some l∧Fp l.Curve_=some (Q0 m k):=by
  obtain ⟨l,e1,e2⟩:=Tx h0 h1
  refine ⟨l,e2,?_⟩
  rw [IK _ (B.pts l (lG e1)).1,Q0,e1];rfl
theorem TA {α β:Type}(f:α→β): ∀(l:List α) (i:Nat),Gu (fun _ a=>some (f a)) i l=l.map f
  | [],_=>rfl
  |a::r,i=>by rw [Gu,TA f r];rfl
theorem gE {z:Zone}{F:List Int×Int→Option (Stp (List Int×Int) (List Int))}(hl:z.Parts.length≤1000000)
    (hF: ∀x,F x=cond (decide (x.2< (z.Parts.length:Int))) ((C1 z.Parts x.2).bind fun v=>(X6 x.1 [v.Lane_]).bind fun w=>some (.go (w,D3 (x.2+1)))) (some (.out x.1))):
    loop F ([],0)=some (z.Parts.map (·.Lane_)):=by
  rw [← TA (fun p:Part=>p.Lane_) z.Parts 0]
  refine nH (fun i s=>(s,(i:Int))) z.Parts (fun _ p=>some p.Lane_) id rfl (fun i a s ha hs=> ?_) (fun s=> ?_)
  ·have hi:=H5 ha
   rw [hF,K0 hi,C3 ha,bO,lB,Fc (by simp;omega),lB,G8 hi (by omega)]
  ·rw [hF,H9];rfl
theorem gF {m:Map}(B:Bear m)(Z:BearZ m):V6 ⟨m⟩=some ((I7 (zoneE m) 0 m.Zones).getD 0):=by
  have hb:=B.lanes
  have h:=Z6 m.Zones (R3 ⟨m⟩) (zoneE m) (fun i z hz=>by
    have hi:=H5 hz
    have hm:=Z.many
    have p1:=Z.parts z (lG hz)
    unfold R3 zoneE
    dsimp only
    rw [K0 hi,C3 hz,bO,lB,gE p1 (F:=Fg z) (fun x=>rfl),lB,GG _ _ _ (by simpa using p1) (by omega) (by omega),lB,G8 hi (by omega)]
    by_cases h1:z.Parts.length<2
    ·rw [bQ h1,show decide ((z.Parts.length:Int)<2)=true from bJ (by omega)];rfl
    ·rw [bR h1,show decide ((z.Parts.length:Int)<2)=false from bK (by omega),bP]
     by_cases h2:6<z.Parts.length
     ·rw [bQ h2,show decide ((z.Parts.length:Int)>6)=true from bJ (by omega)];rfl
     ·rw [bR h2,show decide ((z.Parts.length:Int)>6)=false from bK (by omega),bP]
      by_cases h3:z.Signal_<0∨(m.Signals.length:Int)<z.Signal_
      ·rw [bQ h3,show ((decide (z.Signal_<0))||(decide (z.Signal_>(m.Signals.length:Int))))=true by simpa using h3];rfl
      ·rw [bR h3,show ((decide (z.Signal_<0))||(decide (z.Signal_>(m.Signals.length:Int))))=false by rw [bZ];simpa using h3,bP]
       cases h4:Cs (m.Lanes.length:Int) 0 (z.Parts.map (·.Lane_))
       ·rfl
       ·rw [bR (by decide)]
        have:=HJ (F:=R0 ⟨m⟩ z) z.Parts (Tw m) (2:Int) (fun j p hp=>by
          have hj:=H5 hp
          have hk:=Ll h4 p.Lane_ (List.mem_map.2 ⟨p,lG hp,rfl⟩)
          unfold R0 Tw
          dsimp only
          rw [K0 hj,C3 hp,bO,lB,IR B hk.1 hk.2,G8 hj (by omega)]
          cases h5:(decide (p.From<0)||decide (p.From≥p.To))
          ·simp only [bX,bO,lB]
           cases (false||decide (p.To>Q0 m p.Lane_)||decide (p.Rank<0)||decide (p.Rank>100))<;>rfl
          ·rfl) (by unfold R0;rw [H9];rfl)
        rw [this]
        cases z.Parts.any (Tw m)<;>rfl) (by
    unfold R3
    dsimp only
    rw [H9];rfl)
  unfold V6
  rw [h]
  cases I7 (zoneE m) 0 m.Zones<;>rfl
theorem gG {m:Map}(B:Bear m)(Z:BearZ m){i:Nat}{z:Zone}(hz:m.Zones[i]? =some z):Jh m z=some ((zoneE m i z).getD 0):=by
  have hb:=B.lanes
  have p1:=Z.parts z (lG hz)
  unfold Jh zoneE
  rw [gE p1 (F:=Is z) (fun x=>rfl),lB,CT _ _ _ (by simpa using p1),lB]
  by_cases h1:z.Parts.length<2
  ·rw [bQ h1,show decide ((z.Parts.length:Int)<2)=true from bJ (by omega)];rfl
  ·rw [bR h1,show decide ((z.Parts.length:Int)<2)=false from bK (by omega),bP]
   by_cases h2:6<z.Parts.length
   ·rw [bQ h2,show decide ((z.Parts.length:Int)>6)=true from bJ (by omega)];rfl
   ·rw [bR h2,show decide ((z.Parts.length:Int)>6)=false from bK (by omega),bP]
    by_cases h3:z.Signal_<0∨(m.Signals.length:Int)<z.Signal_
    ·rw [bQ h3,show ((decide (z.Signal_<0))||(decide (z.Signal_>(m.Signals.length:Int))))=true by simpa using h3];rfl
    ·rw [bR h3,show ((decide (z.Signal_<0))||(decide (z.Signal_>(m.Signals.length:Int))))=false by rw [bZ];simpa using h3,bP]
     cases h4:Cs (m.Lanes.length:Int) 0 (z.Parts.map (·.Lane_))
     ·rfl
     ·rw [bR (by decide)]
      have:=HJ (F:=Bo m z) z.Parts (Tw m) (2:Int) (fun j p hp=>by
        have hj:=H5 hp
        have hk:=Ll h4 p.Lane_ (List.mem_map.2 ⟨p,lG hp,rfl⟩)
        obtain ⟨l,e1,e2⟩:=LC B hk.1 hk.2
        unfold Bo Tw
        rw [K0 hj,C3 hp,bO,lB,e1,G8 hj (by omega)]
        cases h5:(decide (p.From<0)||decide (p.From≥p.To))
        ·simp only [bX,bO,lB,e2]
         cases (false||decide (p.To>Q0 m p.Lane_)||decide (p.Rank<0)||decide (p.Rank>100))<;>rfl
        ·rfl) (by unfold Bo;rw [H9];rfl)
      rw [this]
      cases z.Parts.any (Tw m)<;>rfl
structure BearW (m:Map):Prop where
  many:m.Works.length≤1000000
noncomputable def workE (m:Map)(_:Nat)(w:Work):Option Int:=
  if w.Lane_<0∨(m.Lanes.length:Int)≤w.Lane_ then some 7
  else if (decide (w.From<0)||decide (w.From>w.To)||decide (w.To>Q0 m w.Lane_)||decide (w.Begin<0)||decide (w.Begin≥w.End)||decide (w.End>1099511627776)|| !Vl w.Limit 0 ((m.Lanes[w.Lane_.toNat]?).map fun l=>(U3 l.Kind).1).get!)=true then some 2 else none
theorem gH {m:Map}(B:Bear m)(W:BearW m):V7 ⟨m⟩=some ((I7 (workE m) 0 m.Works).getD 0):=by
  have hb:=B.lanes
  have h:=Z6 m.Works (R4 ⟨m⟩) (workE m) (fun i w hw=>by
    have hi:=H5 hw
    have hm:=W.many
    unfold R4 workE
    dsimp only
    rw [K0 hi,C3 hw,bO,lB,G8 hi (by omega)]
    by_cases h1:w.Lane_<0∨(m.Lanes.length:Int)≤w.Lane_
    ·rw [bQ h1,show ((decide (w.Lane_<0))||(decide (w.Lane_≥(m.Lanes.length:Int))))=true by simpa using h1];rfl
    ·rw [bR h1,show ((decide (w.Lane_<0))||(decide (w.Lane_≥(m.Lanes.length:Int))))=false by rw [bZ];simpa using h1,bP]
     obtain ⟨l,e1,e2⟩:=Tx (m:=m) (k:=w.Lane_) (by omega) (by omega)
     rw [e2,lB,Uz,lB,IR B (by omega) (by omega),Rx,e1]
     simp only [lF,Option.get!_some]
     cases (decide (w.From<0)||decide (w.From>w.To))
     ·simp only [bX,bO,lB]
      cases (false||decide (w.To>Q0 m w.Lane_)||decide (w.Begin<0)||decide (w.Begin≥w.End)||decide (w.End>1099511627776))
      ·simp only [bX,bO,lB]
       by_cases hq:Vl w.Limit 0 (U3 l.Kind).1=true<;>simp [hq]
      ·rfl
     ·rfl) (by
    unfold R4
    dsimp only
    rw [H9];rfl)
  unfold V7
  rw [h]
  cases I7 (workE m) 0 m.Works<;>rfl
theorem gI {m:Map}(B:Bear m){i:Nat}(w:Work):Ji m w=some ((workE m i w).getD 0):=by
  have hb:=B.lanes
  unfold Ji workE
  by_cases h1:w.Lane_<0∨(m.Lanes.length:Int)≤w.Lane_
  ·rw [bQ h1,show ((decide (w.Lane_<0))||(decide (w.Lane_≥(m.Lanes.length:Int))))=true by simpa using h1];rfl
  ·rw [bR h1,show ((decide (w.Lane_<0))||(decide (w.Lane_≥(m.Lanes.length:Int))))=false by rw [bZ];simpa using h1,bP]
   obtain ⟨l,e1,e2⟩:=Tx (m:=m) (k:=w.Lane_) (by omega) (by omega)
   obtain ⟨l',e3,e4⟩:=LC B (k:=w.Lane_) (by omega) (by omega)
   rw [e2]at e3
   cases e3
   rw [e2,lB,Mv,lB,e4,Sx,e1]
   simp only [lF,Option.get!_some]
   cases (decide (w.From<0)||decide (w.From>w.To))
   ·simp only [bX,bO,lB]
    cases (false||decide (w.To>Q0 m w.Lane_)||decide (w.Begin<0)||decide (w.Begin≥w.End)||decide (w.End>1099511627776))
    ·simp only [bX,bO,lB]
     by_cases hq:Vl w.Limit 0 (U3 l.Kind).1=true<;>simp [hq]
    ·rfl
   ·rfl
theorem WF {m:Map}(S:BearS m)(i:Nat){s:Signal}(hs:s∈m.Signals):Fo m s=some ((signalE m i s).getD 0):=by
  obtain ⟨p1,p2⟩:=S.phases s hs
  unfold Fo signalE
  rw [Sx,lB,show (0:Int)=((0:Nat):Int) from rfl,SZ s p1 s.Phases 0 _ rfl (by omega),lB]
  rw [show ((0:Nat):Int)=0 from rfl,QF m s p1 p2]
  by_cases h1:s.Phases.length=0
  ·rw [bQ h1,h1];rfl
  ·rw [bR h1,show ((s.Phases.length:Int)==0)=false by simp only [beq_eq_false_iff_ne];omega,bP]
   by_cases h2:6<s.Phases.length
   ·rw [bQ h2,show decide ((s.Phases.length:Int)>6)=true from bJ (by omega)];rfl
   ·rw [bR h2,show decide ((s.Phases.length:Int)>6)=false from bK (by omega),bP]
    cases Vl s.Offset 0 1099511627776
    ·rfl
    ·cases (s.Phases.any fun p=> !Vl p.Ticks 1 10000)
     ·cases (s.Phases.any fun p=> !Cs m.Lanes.length 0 p.Green)<;>rfl
     ·rfl
/-- All lists of a map are of bearable lengths. -/
structure BearM (m:Map):Prop where
  toBear:Bear m
  toBearS:BearS m
  toBearZ:BearZ m
  toBearW:BearW m
theorem BearM.lanes {m:Map}(B:BearM m):m.Lanes.length≤1000000:=B.toBear.lanes
noncomputable def Vc (m:Map):Int:=
  if Vl m.Version 0 1099511627776=false then 2
  else if m.Lanes.length=0 then 6
  else if 12<m.Lanes.length∨12<m.Zones.length∨4<m.Signals.length∨8<m.Works.length then 8
  else ((I7 (laneE m.Lanes.length) 0 m.Lanes).or ((I7 (nextE m) 0 m.Lanes).or ((I7 (signalE m) 0 m.Signals).or ((I7 (zoneE m) 0 m.Zones).or (I7 (workE m) 0 m.Works))))).getD 0
theorem Bp {α:Type}{g:Nat→α→Option Int}(h: ∀i a e,g i a=some e→e≠0): ∀{l:List α} {i:Nat} {e:Int},I7 g i l=some e→e≠0
  | [],_,_,q=>by cases q
  |a::r,i,e,q=>by
   unfold I7 at q
   cases hg:g i a with
   |some e'=>rw [hg]at q;cases q;exact h i a e hg
   |none=>rw [hg]at q;exact Bp h q
theorem EZ {m:Map}{i:Nat}{z:Zone}{e:Int}(h:zoneE m i z=some e):e≠0:=by
  unfold zoneE at h
  repeat' split at h
  all_goals first|(cases h;decide)|cases h
theorem Wk {m:Map}{i:Nat}{z:Signal}{e:Int}(h:signalE m i z=some e):e≠0:=by
  unfold signalE at h
  repeat' split at h
  all_goals first|(cases h;decide)|cases h
theorem LD {m:Map}{i:Nat}{z:Work}{e:Int}(h:workE m i z=some e):e≠0:=by
  unfold workE at h
  repeat' split at h
  all_goals first|(cases h;decide)|cases h
theorem LF {m:Map}{i:Nat}{z:Lane}{e:Int}(h:nextE m i z=some e):e≠0:=Bp (fun _ _ _=>aE) h
/-- A loop that goes on as long as there is no error. -/
theorem gJ {α:Type}{F:Int×Int→Option (Stp (Int×Int) Int)}(l:List α)(g:Nat→α→Option Int)(hg: ∀i a e,g i a=some e→e≠0)(hl:l.length≤1000000)
    (hF: ∀(i:Nat) a,l[i]? =some a→F (0,(i:Int))=some (.go ((g i a).getD 0,((i+1:Nat):Int)))) (h0: ∀(i:Nat) (e:Int),e≠0→F (e,(i:Int))=some (.out e)) (h1:F (0,(l.length:Int))=some (.out 0)) (e0:Option Int) (he: ∀e,e0=some e→e≠0):
    loop F (e0.getD 0,0)=some ((e0.or (I7 g 0 l)).getD 0):=by
  have key: ∀(r:List α) (i:Nat),l.drop i=r→i≤l.length→loop F (0,(i:Int))=some ((I7 g i r).getD 0):=by
    intro r
    induction r with
    |nil=>
     intro i hi hil
     have:=O0 hi
     obtain rfl:i=l.length:=by omega
     exact C7 h1
    |cons a r ih=>
     intro i hi hil
     have hlt:=M9 hi
     have hs:=hF i a (V0 hi)
     rw [J2 hs]
     unfold I7
     cases h:g i a with
     |some e=>exact C7 (h0 (i+1) e (hg i a e h))
     |none=>exact ih (i+1) (K5 hi) (by omega)
  cases e0 with
  |some e=>exact C7 (h0 0 e (he e rfl))
  |none=>exact key l 0 rfl (by omega)
theorem Sy {m:Map}(B:BearM m):Kq m=some (Vc m):=by
  have hb:=B.lanes
  unfold Kq Vc
  rw [Sx,lB]
  cases Vl m.Version 0 1099511627776
  ·rfl
  ·simp only [bW,bP,Bool.true_eq_false,if_false]
   by_cases h1:m.Lanes.length=0
   ·rw [bQ h1,h1];rfl
   ·rw [bR h1,show ((m.Lanes.length:Int)==0)=false by simp only [beq_eq_false_iff_ne];omega,bP]
    by_cases h2:12<m.Lanes.length∨12<m.Zones.length∨4<m.Signals.length∨8<m.Works.length
    ·rw [bQ h2,show ((((decide ((m.Lanes.length:Int)>12))||(decide ((m.Zones.length:Int)>12)))||(decide ((m.Signals.length:Int)>4)))||(decide ((m.Works.length:Int)>8)))=true by simp;omega];rfl
    ·rw [bR h2,show ((((decide ((m.Lanes.length:Int)>12))||(decide ((m.Zones.length:Int)>12)))||(decide ((m.Signals.length:Int)>4)))||(decide ((m.Works.length:Int)>8)))=false by simp;omega,bP]
     rw [SX B.toBear]
     cases H:I7 (laneE m.Lanes.length) 0 m.Lanes with
     |some e=>rfl
     |none=>
      have n1: ∀e,I7 (nextE m) 0 m.Lanes=some e→e≠0:=fun e h=>Bp (fun _ _ _=>LF) h
      have n2: ∀e,(I7 (nextE m) 0 m.Lanes).or (I7 (signalE m) 0 m.Signals)=some e→e≠0:=fun e h=>by
        rcases Option.or_eq_some_iff.1 h with h|⟨_,h⟩
        ·exact n1 e h
        ·exact Bp (fun _ _ _=>Wk) h
      have n3: ∀e,((I7 (nextE m) 0 m.Lanes).or (I7 (signalE m) 0 m.Signals)).or (I7 (zoneE m) 0 m.Zones)=some e→e≠0:=fun e h=>by
        rcases Option.or_eq_some_iff.1 h with h|⟨_,h⟩
        ·exact n2 e h
        ·exact Bp (fun _ _ _=>EZ) h
      simp only [GF,thenS,Option.none_or]
      rw [(NU B.toBear H).2,lB]
      rw [gJ m.Signals (signalE m) (fun _ _ _=>Wk) B.toBearS.many (fun i a ha=>by
       have hi:=H5 ha
       have hm:=B.toBearS.many
       unfold Hh
       dsimp only
       rw [K0 hi,C3 ha,bS,show ((0:Int)==0)=true from rfl,bO,lB,WF B.toBearS i (lG ha),G8 hi (by omega)];rfl) (fun i e he=>by
       unfold Hh
       dsimp only
       rw [show (e==0)=false by simpa using he,Bool.and_false];rfl) (by unfold Hh;dsimp only;rw [H9];rfl) _ n1,lB]
      rw [gJ m.Zones (zoneE m) (fun _ _ _=>EZ) B.toBearZ.many (fun i a ha=>by
       have hi:=H5 ha
       have hm:=B.toBearZ.many
       unfold Hg
       dsimp only
       rw [K0 hi,C3 ha,bS,show ((0:Int)==0)=true from rfl,bO,lB,gG B.toBear B.toBearZ ha,G8 hi (by omega)];rfl) (fun i e he=>by
       unfold Hg
       dsimp only
       rw [show (e==0)=false by simpa using he,Bool.and_false];rfl) (by unfold Hg;dsimp only;rw [H9];rfl) _ n2,lB]
      rw [gJ m.Works (workE m) (fun _ _ _=>LD) B.toBearW.many (fun i a ha=>by
       have hi:=H5 ha
       have hm:=B.toBearW.many
       unfold Hf
       dsimp only
       rw [K0 hi,C3 ha,bS,show ((0:Int)==0)=true from rfl,bO,lB,gI B.toBear (i:=i) a,G8 hi (by omega)];rfl) (fun i e he=>by
       unfold Hf
       dsimp only
       rw [show (e==0)=false by simpa using he,Bool.and_false];rfl) (by unfold Hf;dsimp only;rw [H9];rfl) _ n3,lB]
      rw [Option.or_assoc,Option.or_assoc]
theorem Oi {m:Map}(B:BearM m):Cf m=some (Vc m):=by
  have hb:=B.lanes
  have s0:P0 m 0=(As ⟨m⟩).bind fun v2=>cond (v2 !=0) (some (.out (.inr v2))) (some (.go 1)):=rfl
  have s1:P0 m 1=(V5 ⟨m⟩).bind fun v2=>cond (v2 !=0) (some (.out (.inr v2))) (some (.go 2)):=rfl
  have s2:P0 m 2=(U1 ⟨m⟩).bind fun v2=>cond (v2 !=0) (some (.out (.inr v2))) (some (.go 3)):=rfl
  have s3:P0 m 3=(S6 ⟨m⟩).bind fun v2=>cond (v2 !=0) (some (.out (.inr v2))) (some (.go 4)):=rfl
  have s4:P0 m 4=(V6 ⟨m⟩).bind fun v2=>cond (v2 !=0) (some (.out (.inr v2))) (some (.go 5)):=rfl
  have s5:P0 m 5=(V7 ⟨m⟩).bind fun v2=>cond (v2 !=0) (some (.out (.inr v2))) (some (.go 6)):=rfl
  have s6:P0 m 6=some (.out (.inl ())):=rfl
  have stp: ∀(i j:Int) (e:Option Int) (X:Option Int),(∀e',e=some e'→e'≠0)→X=some (e.getD 0)→P0 m i=X.bind (fun v2=>cond (v2 !=0) (some (.out (.inr v2))) (some (.go j)))→loop (P0 m) i=match e with|some e'=>some (.inr e')|none=>loop (P0 m) j:=by
    intro i j e X he hX hs
    subst hX
    rw [lB]at hs
    cases e with
    |none=>exact J2 hs
    |some e'=>
     rw [Option.getD_some,show (e' !=0)=true by simpa using he e' rfl]at hs
     exact C7 hs
  unfold Cf Vc
  have hnum:As ⟨m⟩=some ((if Vl m.Version 0 1099511627776=false then some 2 else if m.Lanes.length=0 then some 6 else if 12<m.Lanes.length∨12<m.Zones.length∨4<m.Signals.length∨8<m.Works.length then some 8 else none:Option Int).getD 0):=by
    unfold As
    dsimp only
    rw [Rx,lB]
    cases Vl m.Version 0 1099511627776
    ·rfl
    ·simp only [bW,bP,Bool.true_eq_false,if_false]
     by_cases h1:m.Lanes.length=0
     ·rw [bQ h1,h1];rfl
     ·rw [bR h1,show ((m.Lanes.length:Int)==0)=false by simp only [beq_eq_false_iff_ne];omega,bP]
      by_cases h2:12<m.Lanes.length∨12<m.Zones.length∨4<m.Signals.length∨8<m.Works.length
      ·rw [bQ h2,show ((((decide ((m.Lanes.length:Int)>12))||(decide ((m.Zones.length:Int)>12)))||(decide ((m.Signals.length:Int)>4)))||(decide ((m.Works.length:Int)>8)))=true by simp;omega];rfl
      ·rw [bR h2,show ((((decide ((m.Lanes.length:Int)>12))||(decide ((m.Zones.length:Int)>12)))||(decide ((m.Signals.length:Int)>4)))||(decide ((m.Works.length:Int)>8)))=false by simp;omega];rfl
  rw [stp 0 1 _ _ (by repeat' split
                      all_goals (intro e' h;first|(cases h;decide)|cases h)) hnum s0]
  by_cases q1:Vl m.Version 0 1099511627776=false
  ·rw [bQ q1,bQ q1];rfl
  ·rw [bR q1,bR q1]
   by_cases q2:m.Lanes.length=0
   ·rw [bQ q2,bQ q2];rfl
   ·rw [bR q2,bR q2]
    by_cases q3:12<m.Lanes.length∨12<m.Zones.length∨4<m.Signals.length∨8<m.Works.length
    ·rw [bQ q3,bQ q3];rfl
    ·rw [bR q3,bR q3]
     dsimp only
     rw [stp 1 2 _ _ (fun e' h=>Bp (fun _ _ _=>KY) h) (gB B.toBear) s1]
     cases H:I7 (laneE m.Lanes.length) 0 m.Lanes with
     |some e=>rfl
     |none=>
      dsimp only
      rw [stp 2 3 _ _ (fun e' h=>Bp (fun _ _ _=>LF) h) (NU B.toBear H).1 s2]
      cases I7 (nextE m) 0 m.Lanes with
      |some e=>rfl
      |none=>
       dsimp only
       rw [stp 3 4 _ _ (fun e' h=>Bp (fun _ _ _=>Wk) h) (WE B.toBear B.toBearS) s3]
       cases I7 (signalE m) 0 m.Signals with
       |some e=>rfl
       |none=>
        dsimp only
        rw [stp 4 5 _ _ (fun e' h=>Bp (fun _ _ _=>EZ) h) (gF B.toBear B.toBearZ) s4]
        cases I7 (zoneE m) 0 m.Zones with
        |some e=>rfl
        |none=>
         dsimp only
         rw [stp 5 6 _ _ (fun e' h=>Bp (fun _ _ _=>LD) h) (gH B.toBear B.toBearW) s5]
         cases I7 (workE m) 0 m.Works with
         |some e=>rfl
         |none=>dsimp only;rw [C7 s6];rfl
/-- What a valid map is. -/
structure ValR (m:Map):Prop where
  ver:0≤m.Version∧m.Version≤1099511627776
  pos:0<m.Lanes.length
  lanes:m.Lanes.length≤12
  zones:m.Zones.length≤12
  signals:m.Signals.length≤4
  works:m.Works.length≤8
  laneE:I7 (laneE m.Lanes.length) 0 m.Lanes=none
  nextE:I7 (nextE m) 0 m.Lanes=none
  signalE:I7 (signalE m) 0 m.Signals=none
  zoneE:I7 (zoneE m) 0 m.Zones=none
  workE:I7 (workE m) 0 m.Works=none
theorem aG {α:Type}{g:Nat→α→Option Int}{l:List α}(h: ∀i a e,g i a=some e→e≠0)(h0:(I7 g 0 l).getD 0=0):I7 g 0 l=none:=by
  cases q:I7 g 0 l with
  |none=>rfl
  |some e=>rw [q]at h0;exact absurd h0 (Bp h q)
theorem chkR_zero {m:Map}:Vc m=0↔ValR m:=by
  unfold Vc
  constructor
  ·intro h
   split at h
   ·cases h
   ·rename_i h1
    split at h
    ·cases h
    ·rename_i h2
     split at h
     ·cases h
     ·rename_i h3
      simp only [Vl,Bool.not_eq_false,bU,bM]at h1
      have key: ∀{o r:Option Int},(∀e,o=some e→e≠0)→(o.or r).getD 0=0→o=none∧r.getD 0=0:=by
        intro o r ho hr
        cases o with
        |none=>exact ⟨rfl,hr⟩
        |some e=>exact absurd hr (ho e rfl)
      obtain ⟨a1,h⟩:=key (fun e h=>Bp (fun _ _ _=>KY) h) h
      obtain ⟨a2,h⟩:=key (fun e h=>Bp (fun _ _ _=>LF) h) h
      obtain ⟨a3,h⟩:=key (fun e h=>Bp (fun _ _ _=>Wk) h) h
      obtain ⟨a4,h⟩:=key (fun e h=>Bp (fun _ _ _=>EZ) h) h
      exact ⟨h1,by omega,by omega,by omega,by omega,by omega,a1,a2,a3,a4,aG (fun _ _ _=>LD) h⟩
  ·rintro ⟨h1,h2,h3,h4,h5,h6,a1,a2,a3,a4,a5⟩
   rw [bR (by simp only [Vl,Bool.not_eq_false,bU,bM];exact h1),bR (by omega),bR (by omega),a1,a2,a3,a4,a5];rfl
section
variable {m:Map}
theorem ValR.laneOK (V:ValR m){i:Nat}{l:Lane}(h:m.Lanes[i]? =some l):LaneOK m.Lanes.length i l:=Zi V.laneE h
theorem ValR.next (V:ValR m){i:Nat}{l:Lane}(h:m.Lanes[i]? =some l){k:Int}(hk:k∈l.Next):(i:Int)<k∧k<m.Lanes.length:=by
  have:=Ll (V.laneOK h).next k hk
  omega
end
/-- The lanes in which a lane goes on. -/
def nextOf (m:Map)(a:Nat):List Int:=((m.Lanes[a]?).map (·.Next)).getD []
theorem ValR.nextOf {m:Map}(V:ValR m){a:Nat}{k:Int}(hk:k∈World.nextOf m a):(a:Int)<k∧k<m.Lanes.length:=by
  unfold World.nextOf at hk
  cases h:m.Lanes[a]? with
  |none=>rw [h]at hk;cases hk
  |some l=>rw [h]at hk;exact V.next h hk
def Sz (m:Map)(b:Int):Nat→Nat→Bool
  |0,_=>false
  |n+1,a=>(nextOf m a).any fun k=>k==b||Sz m b n k.toNat
theorem TB {m:Map}(V:ValR m)(b:Int): ∀(n n' a:Nat),m.Lanes.length≤a+n→m.Lanes.length≤a+n'→Sz m b n a=Sz m b n' a:=by
  intro n
  induction n with
  |zero=>
   intro n' a h h'
   have:nextOf m a= []:=by
     unfold nextOf
     rw [lJ (by omega)];rfl
   cases n' with
   |zero=>rfl
   |succ n'=>rw [Sz,Sz,this];rfl
  |succ n ih=>
   intro n' a h h'
   cases n' with
   |zero=>
    have:nextOf m a= []:=by
      unfold nextOf
      rw [lJ (by omega)];rfl
    rw [Sz,Sz,this];rfl
   |succ n'=>
    rw [Sz,Sz]
    rw [Bool.eq_iff_iff,lZ,lZ]
    refine exists_congr fun k=>and_congr_right fun hk=> ?_
    have:=V.nextOf hk
    rw [ih n' k.toNat (by omega) (by omega)]
/-- Does a lane lead to another one? -/
def Ta (m:Map)(a:Nat)(b:Int):Bool:=Sz m b m.Lanes.length a
theorem AA {m:Map}(V:ValR m)(a:Nat)(b:Int):Ta m a b=(nextOf m a).any fun k=>k==b||Ta m k.toNat b:=by
  unfold Ta
  rw [TB V b _ (m.Lanes.length+1) a (by omega) (by omega),Sz]
/-- What is known of the sets of the lanes from a number on. -/
structure Reach (m:Map)(i:Nat)(l:List Nat):Prop where
  len:l.length=12
  small: ∀(a x:Nat),l[a]? =some x→x<2^32
  zero: ∀(a:Nat),a<i→l[a]? =some 0
  bits: ∀(a x:Nat),i≤a→a<m.Lanes.length→l[a]? =some x→∀b:Nat,x.testBit b=Ta m a (b:Int)
theorem Reach.get {m:Map}{i:Nat}{l:List Nat}(R:Reach m i l){a:Nat}(h:a<12): ∃x,l[a]? =some x∧x<2^32:=by
  have:=R.len
  exact ⟨l[a],lH (by omega),R.small a _ (lH (by omega))⟩
theorem NV {m:Map}(V:ValR m){b:Int}: ∀(n a:Nat),m.Lanes.length≤a+n→Ta m a b=true→(a:Int)<b∧b<m.Lanes.length
  |0,a,hn,h=>by
   rw [AA V]at h
   have:nextOf m a= []:=by
     unfold nextOf
     rw [lJ (by omega)];rfl
   rw [this]at h
   cases h
  |n+1,a,hn,h=>by
   rw [AA V,lZ]at h
   obtain ⟨k,hk,h⟩:=h
   have:=V.nextOf hk
   rcases bV _ _▸h with h|h
   ·have:=eq_of_beq h;omega
   ·have:=NV V n k.toNat (by omega) h;omega
theorem gK {m:Map}(V:ValR m){a:Nat}{b:Int}(h:Ta m a b=true):(a:Int)<b∧b<m.Lanes.length:=NV V m.Lanes.length a (by omega) h
theorem HK {m:Map}(V:ValR m){b:Nat}{c:Int}(h2:Ta m b c=true): ∀(n a:Nat),m.Lanes.length≤a+n→Ta m a (b:Int)=true→Ta m a c=true
  |0,a,hn,h=>by have:=gK V h;omega
  |n+1,a,hn,h=>by
   rw [AA V,lZ]at h ⊢
   obtain ⟨k,hk,h⟩:=h
   have:=V.nextOf hk
   refine ⟨k,hk,?_⟩
   rcases bV _ _▸h with h|h
   ·have e:=eq_of_beq h
    subst e
    rw [wF,h2,Bool.or_true]
   ·rw [HK V h2 n k.toNat (by omega) h,Bool.or_true]
/-! ### Is a lane there? -/
noncomputable def QG (m:Map)(k:Int):Bool:=(decide (k≥0)&&decide (k<m.Lanes.length))&& (Vc m==0)
theorem isM_true {m:Map}{k:Int}:QG m k=true↔0≤k∧k<m.Lanes.length∧ValR m:=by
  unfold QG
  rw [bU,bU,wB,chkR_zero]
  simp only [bM,and_assoc,ge_iff_le]
theorem Zk {m:Map}(B:BearM m)(k:Int):Ma m k=some (QG m k):=by
  unfold Ma QG
  rw [Oi B]
  cases (decide (k≥0)&&decide (k< (m.Lanes.length:Int)))<;>rfl
theorem Ul {m:Map}(B:BearM m)(k:Int):Mu m k=some (QG m k):=by
  unfold Mu QG
  rw [Sy B]
  cases (decide (k≥0)&&decide (k< (m.Lanes.length:Int)))<;>rfl
theorem Xe {m:Map}(B:BearM m){k:Int}(h0:0≤k)(h1:k<m.Lanes.length):Lf m k=some (Q0 m k):=by
  obtain ⟨l,e1,e2⟩:=LC B.toBear h0 h1
  unfold Lf
  rw [e1,lB,e2];rfl
noncomputable def Aq (m:Map)(k:Int):Int:=if QG m k then Q0 m k else 0
theorem Jl {m:Map}(B:BearM m)(k:Int):Bw m k=some (Aq m k):=by
  unfold Bw Aq
  rw [Zk B,lB]
  cases h:QG m k
  ·rfl
  ·have:=isM_true.1 h
   rw [bQ rfl,bW,bP,IR B.toBear this.1 this.2.1];rfl
theorem Qz {m:Map}(B:BearM m)(k:Int):Lh m k=some (Aq m k):=by
  unfold Lh Aq
  rw [Ul B,lB]
  cases h:QG m k
  ·rfl
  ·have:=isM_true.1 h
   rw [bQ rfl,bW,bP,Xe B this.1 this.2.1];rfl
theorem Zl (l:List Int)(hl:l.length≤1000000)(k:Int):N4 l k=some (l.contains k):=by
  unfold N4 R5
  rw [Qn l (fun x=>k==x) (by omega) (fun i a h=>by
   have hi:=H5 h
   unfold T4
   rw [K0 hi,C3 h,bO,lB]
   cases k==a<;>rfl) (by unfold T4;rw [H9];rfl)]
  rw [lB,Va,List.contains_eq_any_beq]
theorem WG (l:List Int)(hl:l.length≤1000000)(k:Int):Ph l k=some (l.contains k):=by
  unfold Ph
  rw [HJ l (fun x=>x==k) true (fun i a h=>by
   have hi:=H5 h
   unfold Of
   rw [K0 hi,C3 h,bO,lB,G8 hi (by omega)]
   cases a==k<;>rfl) (by unfold Of;rw [H9];rfl)]
  rw [List.contains_eq_any_beq,show (fun x=>x==k)=(fun x=>k==x) from funext fun x=>by rw [Bool.beq_comm]]
  cases l.any fun x=>k==x<;>rfl
/-- What comes before a lane. -/
def Ct (m:Map)(k:Int):List Int:=Gu (fun i (l:Lane)=>if l.Next.contains k then some (i:Int)else none) 0 m.Lanes
theorem aH {m:Map}(B:BearM m)(k:Int):Fh m k=some (Ct m k):=by
  unfold Fh Ct
  have hb:=B.lanes
  rw [GI m.Lanes (fun i (l:Lane)=>if l.Next.contains k then some (i:Int)else none) id (fun i l s h hs=>by
   have hi:=H5 h
   unfold Av
   dsimp only
   rw [K0 hi,C3 h,bO,lB,Zl _ (B.toBear.pts l (lG h)).2,lB,Fc (by simp;omega),G8 hi (by omega)]
   cases l.Next.contains k<;>rfl) (fun s=>by unfold Av;rw [H9];rfl)]
  rfl
theorem LG {m:Map}(B:BearM m)(k:Int):Ld m k=some (Ct m k):=by
  unfold Ld Ct
  have hb:=B.lanes
  rw [GI m.Lanes (fun i (l:Lane)=>if l.Next.contains k then some (i:Int)else none) id (fun i l s h hs=>by
   have hi:=H5 h
   unfold Jj
   dsimp only
   rw [K0 hi,C3 h,bO,lB,WG _ (B.toBear.pts l (lG h)).2,lB,Fc (by simp;omega),G8 hi (by omega)]
   cases l.Next.contains k<;>rfl) (fun s=>by unfold Jj;rw [H9];rfl)]
  rfl
def T5 (m:Map):List Int:=Gu (fun i (_:Lane)=>if (Ct m (i:Int)).length=0 then some (i:Int)else none) 0 m.Lanes
theorem TC {m:Map}(B:BearM m):Md m=some (T5 m):=by
  unfold Md T5
  have hb:=B.lanes
  rw [GI m.Lanes (fun i (_:Lane)=>if (Ct m (i:Int)).length=0 then some (i:Int)else none) id (fun i l s h hs=>by
   have hi:=H5 h
   unfold Hq
   dsimp only
   rw [K0 hi,bO,LG B,lB,Fc (by simp;omega),G8 hi (by omega)]
   by_cases q:(Ct m (i:Int)).length=0
   ·rw [bQ q,q];rfl
   ·rw [bR q,show (((Ct m (i:Int)).length:Int)==0)=false by simp only [beq_eq_false_iff_ne];omega];rfl) (fun s=>by unfold Hq;rw [H9];rfl)]
  rfl
def Kc (z:Zone)(k:Int):Part×Bool:=match z.Parts.find? (fun p=>p.Lane_==k)with|some p=>(p,true)|none=>(⟨0,0,0,0⟩,false)
theorem kO {z:Zone}(hl:z.Parts.length≤1000000)(k:Int):Kj z k=some (Kc z k):=by
  unfold Kj K4 Kc
  rw [Qn z.Parts (fun p=>p.Lane_==k) (by omega) (fun i a h=>by
   have hi:=H5 h
   unfold M4 Ny
   rw [K0 hi,C3 h,bO,lB,lB]
   cases a.Lane_==k<;>rfl) (by unfold M4;rw [H9];rfl),lB]
  unfold EX
  cases h:z.Parts.findIdx? (fun p=>p.Lane_==k)with
  |none=>
   have:z.Parts.find? (fun p=>p.Lane_==k)=none:=by
     rw [List.find?_eq_none]
     have:=List.findIdx?_eq_none_iff.1 h
     intro x hx;simpa using this x hx
   rw [this];rfl
  |some i=>
   obtain ⟨hi,h1,h2⟩:=List.findIdx?_eq_some_iff_getElem.1 h
   have:z.Parts.find? (fun p=>p.Lane_==k)=some z.Parts[i]:=by
     rw [List.find?_eq_some_iff_getElem]
     exact ⟨h1,i,hi,rfl,fun j hj=>by simpa using h2 j hj⟩
   rw [this]
   dsimp only
   rw [show decide ((i:Int)<0)=false from bK (by omega),bP,fI hi];rfl
structure ZoneOK (m:Map)(z:Zone):Prop where
  two:2≤z.Parts.length
  six:z.Parts.length≤6
  sig:0≤z.Signal_∧z.Signal_≤m.Signals.length
  rise:Cs m.Lanes.length 0 (z.Parts.map (·.Lane_))=true
  part: ∀p∈z.Parts,0≤p.From∧p.From<p.To∧p.To≤Q0 m p.Lane_∧0≤p.Rank∧p.Rank≤100
theorem WH {m:Map}{i:Nat}{z:Zone}(h:zoneE m i z=none):ZoneOK m z:=by
  unfold zoneE at h
  split at h
  ·cases h
  ·rename_i h1
   split at h
   ·cases h
   ·rename_i h2
    split at h
    ·cases h
    ·rename_i h3
     split at h
     ·cases h
     ·rename_i h4
      split at h
      ·cases h
      ·rename_i h5
       refine ⟨by omega,by omega,by omega,by simpa using h4,fun p hp=> ?_⟩
       have:=List.any_eq_false.1 (bZ.2 h5) p hp
       simp only [Tw,bV,bM,not_or,Int.not_lt,Int.not_le,ge_iff_le,gt_iff_lt]at this
       omega
theorem ValR.zoneOK {m:Map}(V:ValR m){z:Zone}(hz:z∈m.Zones):ZoneOK m z:=by
  obtain ⟨i,hi,rfl⟩:=List.mem_iff_getElem.1 hz
  have:=firstE_none.1 V.zoneE i _ (lH hi)
  exact WH this
theorem ZoneOK.lane {m:Map}{z:Zone}(O:ZoneOK m z){p:Part}(hp:p∈z.Parts):0≤p.Lane_∧p.Lane_<m.Lanes.length:=Ll O.rise p.Lane_ (List.mem_map.2 ⟨p,hp,rfl⟩)
theorem YH {m:Map}{k:Int}(h0:0≤k)(h1:k<m.Zones.length): ∃z,m.Zones[k.toNat]? =some z∧C1 m.Zones k=some z:=by
  have hlt:k.toNat<m.Zones.length:=by omega
  refine ⟨m.Zones[k.toNat],lH hlt,?_⟩
  unfold C1
  rw [bQ h0,lH hlt]
theorem gL:If=some true:=law04_awake_le _ (by decide+kernel)
theorem Ix (n:Int){m:Int}(hm:0<m):0≤n % m∧n % m<m:=⟨wR n (by omega),wS n hm⟩
theorem NW {n m:Int}(hm:0<m):n % m=if n.tmod m<0 then n.tmod m+m else n.tmod m:=by
  have a:=wR n (show m≠0 by omega)
  have b:=wS n hm
  rw [Int.tmod_eq_emod]
  by_cases q:0≤n∨m ∣ n
  ·rw [bQ q,bR (by omega)];omega
  ·rw [bR q]
   have:n % m≠0:=fun e=>q (.inr (Int.dvd_of_emod_eq_zero e))
   rw [bQ (by omega)];omega
theorem Po {n m:Int}(hm:0<m)(hm2:m≤9223372036854775807):Pu n m=some (n % m):=by
  have h1:=NW (n:=n) hm
  have a:=Ix n hm
  unfold Pu Vq
  rw [bR (by omega),lB]
  by_cases q:n.tmod m<0
  ·rw [bQ q]at h1
   rw [bJ q,bO,F1 (by omega),← h1]
  ·rw [bR q]at h1
   rw [bK q,bP,← h1]
theorem Wl {n m:Int}(hm:0<m)(hm2:m≤9223372036854775807):Pn n m=some (n % m):=by
  have h1:=NW (n:=n) hm
  have a:=Ix n hm
  unfold Pn Vq
  rw [bR (by omega),lB]
  by_cases q:n.tmod m<0
  ·rw [bQ q]at h1
   rw [bJ q,bO,F1 (by omega),← h1]
  ·rw [bR q]at h1
   rw [bK q,bP,← h1]
def QH (kind lim:Int)(next:List Int)(a b c d:Int):Lane:=⟨kind,⟨[⟨a,b⟩,⟨c,d⟩]⟩,if kind=3 then 500 else 1500,lim,next⟩
theorem kP (kind lim:Int)(next:List Int)(a b c d:Int):U6 kind lim next [a,b,c,d]=some (QH kind lim next a b c d):=by
  unfold U6 QH
  rw [J2 (s':=(2,[⟨a,b⟩])) rfl,J2 (s':=(4,[⟨a,b⟩,⟨c,d⟩])) rfl,C7 (t:= [⟨a,b⟩,⟨c,d⟩]) rfl,lB]
  by_cases h:kind=3
  ·rw [bQ h,h];rfl
  ·rw [bR h,show (kind==3)=false by simpa using h];rfl
def pK (off a b:Int):Signal:=⟨off,[⟨12,[a]⟩,⟨5,[]⟩,⟨9,[b]⟩,⟨4,[]⟩]⟩
/-- The numbers of which a map of the kit is made. -/
structure Par where
  lim:Int
  r:Int
  o:Int
  o':Int
  ver:Int
  wk:List Work
structure ParOK (p:Par):Prop where
  lim:p.lim=1500∨p.lim=600∨p.lim=1000∨p.lim=300
  r:p.r=0∨p.r=1
  o:0≤p.o∧p.o<31
  o':0≤p.o'∧p.o'<31
  ver:0≤p.ver∧p.ver<5
  wk:p.wk= []∨∃b l,0≤b∧b<40∧0≤l∧l≤400∧p.wk= [⟨0,10000,15000,b,b+20,l⟩]
def Mw (k:Nat)(lim:Int):List Lane:=match k with
  |0=> [QH 1 lim [] 0 0 60000 0]
  |1|2=> [QH 1 lim [] 0 0 50000 0,QH 1 1500 [] 30000 (-20000) 30000 20000]
  |3=> [QH 1 lim [1,2] 0 0 30000 0,QH 1 1500 [] 30000 0 60000 0,QH 1 800 [] 30000 0 54000 10000]
  |4=> [QH 1 lim [2] 0 0 30000 0,QH 1 1500 [2] 6000 (-10000) 30000 0,QH 1 1500 [] 30000 0 60000 0]
  |5=> [QH 1 lim [1] 0 0 20000 0,QH 1 lim [] 20000 0 50000 0,QH 3 200 [] 35000 (-8000) 35000 8000]
  |_=> [QH 1 lim [1,2] 0 0 20000 0,QH 1 1500 [] 20000 0 50000 0,QH 1 1000 [] 20000 0 44000 10000,QH 2 700 [] 36000 (-12000) 36000 18000]
def CV (k:Nat)(r:Int):List Zone:=match k with
  |1=> [⟨[⟨0,28000,32000,r⟩,⟨1,18000,22000,2 - 2*r⟩],0⟩]
  |2=> [⟨[⟨0,28000,32000,r⟩,⟨1,18000,22000,2 - 2*r⟩],1⟩]
  |4=> [⟨[⟨0,25000,30000,1⟩,⟨1,20000,26000,0⟩,⟨2,0,5000,0⟩],0⟩]
  |5=> [⟨[⟨1,14000,16000,0⟩,⟨2,6000,10000,3⟩],0⟩]
  |6=> [⟨[⟨1,14000,18000,1⟩,⟨3,10000,14000,0⟩],0⟩,⟨[⟨2,14000,21000,1⟩,⟨3,14500,23000,0⟩],0⟩]
  |7=> [⟨[⟨1,14000,18000,1⟩,⟨3,10000,14000,0⟩],1⟩,⟨[⟨2,14000,21000,1⟩,⟨3,14500,23000,0⟩],2⟩]
  |_=> []
def Vd (k:Nat)(o o':Int):List Signal:=match k with
  |2=> [pK o 0 1]
  |7=> [pK o 1 3,pK o' 2 3]
  |_=> []
def FA (k:Nat)(p:Par):Map:=⟨p.ver,Mw k p.lim,CV k p.r,Vd k p.o p.o',p.wk⟩
theorem WI (n:Int): ∃k p,k<8∧ParOK p∧Zz n=some (FA k p):=by
  obtain ⟨h0,h1⟩:=Ix n (show (0:Int)<16777216 by decide)
  unfold Zz
  rw [Po (by decide) (by decide),lB]
  generalize n % 16777216=v at h0 h1
  have t: ∀m:Int,0<m→v.tdiv m=v / m:=fun m hm=>by rw [wP h0]
  have u: ∀x m:Int,0≤x→x.tmod m=x % m:=fun x m hx=>by rw [wQ hx]
  have d: ∀m:Int,0<m→0≤v / m∧v / m<16777216:=fun m hm=>⟨Int.ediv_nonneg h0 (by omega),Int.lt_of_le_of_lt (Int.ediv_le_self m h0) h1⟩
  have W: ∀m:Int,0<m→D3 (v / m)=v / m:=fun m hm=>F1 (by have:=d m hm;omega)
  rw [t 7 (by decide),t 28 (by decide),t 56 (by decide),t 1736 (by decide),t 5208 (by decide),t 208320 (by decide)]
  rw [W 7 (by decide),W 28 (by decide),W 56 (by decide),W 1736 (by decide),W 5208 (by decide),W 208320 (by decide)]
  rw [u (v / 7) _ (d 7 (by decide)).1,u (v / 28) 2 (d 28 (by decide)).1,u (v / 28) 31 (d 28 (by decide)).1,u (v / 56) 31 (d 56 (by decide)).1,u (v / 56) 17 (d 56 (by decide)).1,u (v / 1736) _ (d 1736 (by decide)).1,u (v / 5208) _ (d 5208 (by decide)).1,u (v / 208320) _ (d 208320 (by decide)).1,u v _ h0,u (v / 28) 5 (d 28 (by decide)).1]
  have b1:=Ix (v / 7) (show (0:Int)<4 by decide)
  have b2:=Ix (v / 28) (show (0:Int)<2 by decide)
  have b3:=Ix (v / 28) (show (0:Int)<31 by decide)
  have b4:=Ix (v / 56) (show (0:Int)<31 by decide)
  have b5:=Ix (v / 56) (show (0:Int)<17 by decide)
  have b6:=Ix (v / 5208) (show (0:Int)<40 by decide)
  have b7:=Ix (v / 208320) (show (0:Int)<3 by decide)
  have b8:=Ix v (show (0:Int)<7 by decide)
  have b9:=Ix (v / 28) (show (0:Int)<5 by decide)
  generalize v / 7 % 4=q1 at b1
  generalize v / 28 % 2=q2 at b2
  generalize v / 28 % 31=q3 at b3
  generalize v / 56 % 31=q4 at b4
  generalize v / 56 % 17=q5 at b5
  generalize v / 5208 % 40=q6 at b6
  generalize v / 208320 % 3=q7 at b7
  generalize v % 7=q8 at b8
  generalize v / 28 % 5=q9 at b9
  have e1: ∃lim:Int,C1 ([1500,600,1000,300]:List Int) q1=some lim∧(lim=1500∨lim=600∨lim=1000∨lim=300):=by
    rcases (show q1=0∨q1=1∨q1=2∨q1=3 by omega)with rfl|rfl|rfl|rfl
    ·exact ⟨1500,rfl,by decide⟩
    ·exact ⟨600,rfl,by decide⟩
    ·exact ⟨1000,rfl,by decide⟩
    ·exact ⟨300,rfl,by decide⟩
  obtain ⟨lim,e1,hlim⟩:=e1
  rw [e1,lB]
  have ew: ∀(L:List Lane) (Z:List Zone) (S:List Signal),∃wk,(wk= []∨∃b l,0≤b∧b<40∧0≤l∧l≤400∧wk= [⟨0,10000,15000,b,b+20,l⟩])∧
   (cond (v / 1736 % 3==1) (some (Map.mk q9 L Z S [(Work.mk 0 10000 15000 q6 (D3 (q6+20)) (D3 (q7*200)))])) (some (Map.mk q9 L Z S [])))=some ⟨q9,L,Z,S,wk⟩:=by
    intro L Z S
    cases v / 1736 % 3==1
    ·exact ⟨[], .inl rfl,rfl⟩
    ·exact ⟨[⟨0,10000,15000,q6,q6+20,q7*200⟩], .inr ⟨q6,q7*200,by omega,by omega,by omega,by omega,rfl⟩,by rw [F1 (by omega),F1 (by omega)];rfl⟩
  have er:D3 (2 - D3 (2*q2))=2 - 2*q2:=by rw [F1 (n:=2*q2) (by omega),F1 (by omega)]
  rw [er]
  simp only [kP,lB]
  have fin: ∀(k:Nat) (o o':Int) (L:List Lane) (Z:List Zone) (S:List Signal),k<8→0≤o∧o<31→0≤o'∧o'<31→L=Mw k lim→Z=CV k q2→S=Vd k o o'→∃k p,k<8∧ParOK p∧(cond (v / 1736 % 3==1) (some (Map.mk q9 L Z S [(Work.mk 0 10000 15000 q6 (D3 (q6+20)) (D3 (q7*200)))])) (some (Map.mk q9 L Z S [])))=some (FA k p):=by
    intro k o o' L Z S hk h1 h2 e1 e2 e3
    obtain ⟨wk,w1,w2⟩:=ew L Z S
    subst e1 e2 e3
    exact ⟨k,⟨lim,q2,o,o',q9,wk⟩,hk,⟨hlim,by dsimp only;omega,h1,h2,b9,w1⟩,w2⟩
  rcases (show q8=0∨q8=1∨q8=2∨q8=3∨q8=4∨q8=5∨q8=6 by omega)with rfl|rfl|rfl|rfl|rfl|rfl|rfl
  ·exact fin 0 0 0 _ _ _ (by decide) (by decide) (by decide) rfl rfl rfl
  ·exact fin 1 0 0 _ _ _ (by decide) (by decide) (by decide) rfl rfl rfl
  ·exact fin 2 q3 0 _ _ _ (by decide) b3 (by decide) rfl rfl rfl
  ·exact fin 3 0 0 _ _ _ (by decide) (by decide) (by decide) rfl rfl rfl
  ·exact fin 4 0 0 _ _ _ (by decide) (by decide) (by decide) rfl rfl rfl
  ·exact fin 5 0 0 _ _ _ (by decide) (by decide) (by decide) rfl rfl rfl
  ·rcases (show q2=0∨q2=1 by omega)with rfl|rfl
   ·exact fin 6 0 0 _ _ _ (by decide) (by decide) (by decide) rfl rfl rfl
   ·exact fin 7 q4 q5 _ _ _ (by decide) b4 (by omega) rfl rfl rfl
theorem aI:((List.range 8).all fun k=>([1500,600,1000,300]:List Int).all fun lim=>([0,1]:List Int).all fun r=>(@Cf W2) (FA k ⟨lim,r,0,0,0,[]⟩)==some 0)=true:=by decide+kernel
theorem TD (k:Nat)(lim:Int):(Mw k lim).length≤4∧∀l∈Mw k lim,l.Curve_.Pts.length=2∧l.Next.length≤2:=by
  unfold Mw
  split<;>simp [QH]
theorem HL (k:Nat)(r:Int):(CV k r).length≤2∧∀z∈CV k r,z.Parts.length≤3:=by
  unfold CV
  split<;>simp
theorem WJ (k:Nat)(o o':Int):(Vd k o o').length≤2∧∀s∈Vd k o o',s.Phases.length=4∧∀p∈s.Phases,p.Green.length≤1:=by
  unfold Vd
  split<;>simp [pK]
theorem YI {m:Map}{k:Nat}{lim r o o':Int}(h1:m.Lanes=Mw k lim)(h2:m.Zones=CV k r)(h3:m.Signals=Vd k o o')(h4:m.Works.length≤1):BearM m:=by
  obtain ⟨a1,a2⟩:=TD k lim
  obtain ⟨b1,b2⟩:=HL k r
  obtain ⟨c1,c2⟩:=WJ k o o'
  refine ⟨⟨by rw [h1];omega,fun l hl=> ?_⟩,⟨by rw [h3];omega,fun s hs=>⟨?_,fun p hp=> ?_⟩⟩,⟨by rw [h2];omega,fun z hz=> ?_⟩,⟨by omega⟩⟩
  ·rw [h1]at hl;have:=a2 l hl;omega
  ·rw [h3]at hs;have:=(c2 s hs).1;omega
  ·rw [h3]at hs;have:=(c2 s hs).2 p hp;omega
  ·rw [h2]at hz;have:=b2 z hz;omega
theorem ParOK.wk1 {p:Par}(h:ParOK p):p.wk.length≤1:=by
  rcases h.wk with e|⟨b,l,_,_,_,_,e⟩<;>rw [e]<;>simp
theorem gM {k:Nat}{p:Par}(h:ParOK p):BearM (FA k p):=YI rfl rfl rfl h.wk1
theorem qE {k:Nat}{p:Par}(hk:k<8)(h:ParOK p):ValR (FA k ⟨p.lim,p.r,0,0,0,[]⟩):=by
  have h1:=lY.1 aI k (List.mem_range.2 hk)
  have h2:=lY.1 h1 p.lim (by have:=h.lim;simp;omega)
  have h3:=lY.1 h2 p.r (by have:=h.r;simp;omega)
  have h4:=roads_Check_le _ _ (eq_of_beq h3)
  have h5:=Oi (m:=FA k ⟨p.lim,p.r,0,0,0,[]⟩) (YI rfl rfl rfl (wI 1))
  rw [h4]at h5
  exact chkR_zero.1 (lD h5).symm
/-- Another version, other offsets, other works. -/
theorem ValR.change {L:List Lane}{Z:List Zone}{S S':List Signal}{W W':List Work}{v v':Int}(V:ValR ⟨v,L,Z,S,W⟩)(hv:0≤v'∧v'≤1099511627776)(hl:S'.length=S.length)(hs: ∀s∈S',World.signalE ⟨v,L,Z,S,W⟩ 0 s=none)(hw:W'.length≤8)(hw': ∀w∈W',World.workE ⟨v,L,Z,S,W⟩ 0 w=none):ValR ⟨v',L,Z,S',W'⟩:=by
  refine ⟨hv,V.pos,V.lanes,V.zones,by show S'.length≤4;rw [hl];exact V.signals,hw,V.laneE,V.nextE,?_,?_,?_⟩
  ·rw [firstE_none]
   intro j a ha
   exact hs a (lG ha)
  ·have:=V.zoneE
   rw [firstE_none]at this ⊢
   intro j a ha
   have:=this j a ha
   unfold World.zoneE at this ⊢
   dsimp only at this ⊢
   rw [hl]
   exact this
  ·rw [firstE_none]
   intro j a ha
   exact hw' a (lG ha)
theorem aJ (k:Nat)(o o' a a':Int):(Vd k o o').length=(Vd k a a').length:=by unfold Vd;split<;>rfl
theorem gN {k:Nat}{o o':Int}(h:0≤o∧o<31)(h':0≤o'∧o'<31){m:Map}(hm:m.Lanes.length=(Mw k 0).length): ∀s∈Vd k o o',signalE m 0 s=none:=by
  have key: ∀(off a b:Int),0≤off∧off<31→0≤a∧a<m.Lanes.length→0≤b∧b<m.Lanes.length→signalE m 0 (pK off a b)=none:=by
    intro off a b h1 h2 h3
    unfold signalE pK
    simp only [lL,lN]
    rw [bR (by decide),bR (by decide),bR (by simp [Vl];omega),bR (by simp [Vl]),bR]
    simp only [bH,List.any_nil,Cs,Bool.and_true,Bool.or_false,bW,bY,bV,Bool.not_eq_true',not_or,Bool.not_eq_false,bU,bM]
    omega
  intro s hs
  unfold Vd at hs
  split at hs
  ·rw [show (Mw 2 0).length=2 from rfl]at hm
   simp only [bI]at hs
   subst hs
   exact key _ _ _ h (by omega) (by omega)
  ·rw [show (Mw 7 0).length=4 from rfl]at hm
   simp only [lU,List.not_mem_nil,or_false]at hs
   rcases hs with rfl|rfl
   ·exact key _ _ _ h (by omega) (by omega)
   ·exact key _ _ _ h' (by omega) (by omega)
  ·cases hs
theorem WK (k:Nat)(lim:Int):(Mw k lim).length=(Mw k 0).length:=by unfold Mw;split<;>rfl
theorem AB (c:Int)(h:(@Dh W2) ⟨[⟨0,0⟩,⟨c,0⟩]⟩=some c):Ro ⟨[⟨0,0⟩,⟨c,0⟩]⟩=c:=by
  have h1:=curve_Length_le _ _ h
  rw [Xc _ (by simp)]at h1
  exact lD h1
/-- The first lane of a map of the kit: a road, long enough. -/
theorem HM (k:Nat)(lim:Int): ∃l,(Mw k lim)[0]? =some l∧l.Kind=1∧l.Limit=lim∧20000≤Ro l.Curve_∧Ro l.Curve_≤60000:=by
  have e6:=AB 60000 (by decide+kernel)
  have e5:=AB 50000 (by decide+kernel)
  have e3:=AB 30000 (by decide+kernel)
  have e2:=AB 20000 (by decide+kernel)
  unfold Mw
  split
  ·exact ⟨_,rfl,rfl,rfl,by show 20000≤Ro ⟨[⟨0,0⟩,⟨60000,0⟩]⟩∧Ro ⟨[⟨0,0⟩,⟨60000,0⟩]⟩≤60000;rw [e6];decide⟩
  ·exact ⟨_,rfl,rfl,rfl,by show 20000≤Ro ⟨[⟨0,0⟩,⟨50000,0⟩]⟩∧Ro ⟨[⟨0,0⟩,⟨50000,0⟩]⟩≤60000;rw [e5];decide⟩
  ·exact ⟨_,rfl,rfl,rfl,by show 20000≤Ro ⟨[⟨0,0⟩,⟨50000,0⟩]⟩∧Ro ⟨[⟨0,0⟩,⟨50000,0⟩]⟩≤60000;rw [e5];decide⟩
  ·exact ⟨_,rfl,rfl,rfl,by show 20000≤Ro ⟨[⟨0,0⟩,⟨30000,0⟩]⟩∧Ro ⟨[⟨0,0⟩,⟨30000,0⟩]⟩≤60000;rw [e3];decide⟩
  ·exact ⟨_,rfl,rfl,rfl,by show 20000≤Ro ⟨[⟨0,0⟩,⟨30000,0⟩]⟩∧Ro ⟨[⟨0,0⟩,⟨30000,0⟩]⟩≤60000;rw [e3];decide⟩
  ·exact ⟨_,rfl,rfl,rfl,by show 20000≤Ro ⟨[⟨0,0⟩,⟨20000,0⟩]⟩∧Ro ⟨[⟨0,0⟩,⟨20000,0⟩]⟩≤60000;rw [e2];decide⟩
  ·exact ⟨_,rfl,rfl,rfl,by show 20000≤Ro ⟨[⟨0,0⟩,⟨20000,0⟩]⟩∧Ro ⟨[⟨0,0⟩,⟨20000,0⟩]⟩≤60000;rw [e2];decide⟩
theorem qF {m:Map}{l:Lane}(hl:m.Lanes[0]? =some l)(hk:l.Kind=1){w:Work}(h:w.Lane_=0∧0≤w.From∧w.From≤w.To∧w.To≤Ro l.Curve_∧0≤w.Begin∧w.Begin<w.End∧w.End≤1099511627776∧0≤w.Limit∧w.Limit≤2000):workE m 0 w=none:=by
  obtain ⟨h1,h2,h3,h4,h5,h6,h7,h8,h9⟩:=h
  have hlen:=H5 hl
  unfold workE Q0
  rw [h1,show ((0:Int).toNat)=0 from rfl,hl,bR (by omega),bR]
  simp only [lF,Option.getD_some,Option.get!_some,hk,Vl,U3,if_true,bV,bM,Bool.not_eq_true',not_or,Bool.not_eq_false,bU]
  omega
/-- A map of the kit is valid, with such works. -/
theorem gO {k:Nat}{p:Par}(hk:k<8)(h:ParOK p){W:List Work}(hw:W.length≤8)(hW: ∀w∈W,w.Lane_=0∧0≤w.From∧w.From≤w.To∧w.To≤Q0 (FA k p) 0∧0≤w.Begin∧w.Begin<w.End∧w.End≤1099511627776∧0≤w.Limit∧w.Limit≤2000):ValR ⟨p.ver,Mw k p.lim,CV k p.r,Vd k p.o p.o',W⟩:=by
  have V:=qE hk h
  obtain ⟨l,l1,l2,l3,l4,l5⟩:=HM k p.lim
  have hv:=h.ver
  refine ValR.change (v:=0) (S:=Vd k 0 0) (W:= []) V (by omega) (aJ k _ _ _ _) (fun s hs=>gN h.o h.o' (by exact WK k p.lim) s hs) hw (fun w hwm=> ?_)
  obtain ⟨a1,a2,a3,a4,a5,a6,a7,a8,a9⟩:=hW w hwm
  refine qF (l:=l) l1 l2 ⟨a1,a2,a3,?_,a5,a6,a7,a8,a9⟩
  have:Q0 (FA k p) 0=Ro l.Curve_:=by
    unfold Q0 FA
    dsimp only
    rw [show ((0:Int).toNat)=0 from rfl,l1];rfl
  omega
theorem aK (k:Nat)(p:Par):20000≤Q0 (FA k p) 0∧Q0 (FA k p) 0≤60000:=by
  obtain ⟨l,l1,l2,l3,l4,l5⟩:=HM k p.lim
  unfold Q0 FA
  dsimp only
  rw [show ((0:Int).toNat)=0 from rfl,l1]
  exact ⟨l4,l5⟩
theorem kQ {k:Nat}{p:Par}(hk:k<8)(h:ParOK p):ValR (FA k p):=by
  have hl:=aK k p
  refine gO hk h (wL h.wk1 (by decide)) (fun w hw=> ?_)
  rcases h.wk with e|⟨b,l,h1,h2,h3,h4,e⟩
  ·rw [e]at hw;cases hw
  ·rw [e]at hw
   simp only [bI]at hw
   subst hw
   dsimp only
   omega
/-! ### Limits -/
end Go.Abs.World
namespace Go.Abs
theorem Dx {α β:Type}{g:Nat→α→Option β}{x:β}: ∀{l:List α} {i:Nat},x∈Gu g i l↔∃j a,l[j]? =some a∧g (i+j) a=some x
  | [],i=>by simp [Gu]
  |a::r,i=>by
   unfold Gu
   have ih:=Dx (g:=g) (x:=x) (l:=r) (i:=i+1)
   have sh:(∃j b,(a::r)[j]? =some b∧g (i+j) b=some x)↔g i a=some x∨∃j b,r[j]? =some b∧g (i+1+j) b=some x:=by
     constructor
     ·rintro ⟨j,b,h1,h2⟩
      cases j with
      |zero=>simp at h1;subst h1;exact .inl h2
      |succ j=>exact .inr ⟨j,b,by simpa using h1,by rwa [show i+1+j=i+ (j+1) by omega]⟩
     ·rintro (h|⟨j,b,h1,h2⟩)
      ·exact ⟨0,a,rfl,h⟩
      ·exact ⟨j+1,b,by simpa using h1,by rwa [show i+ (j+1)=i+1+j by omega]⟩
   rw [sh,← ih]
   cases h:g i a with
   |none=>simp
   |some b=>simp [eq_comm]
end Go.Abs
namespace Go.Abs.World
open Go Go.Abs
theorem mem_before {m:Map}{k x:Int}:x∈Ct m k↔∃(i:Nat) (l:Lane),m.Lanes[i]? =some l∧k∈l.Next∧x=(i:Int):=by
  unfold Ct
  rw [Dx]
  refine exists_congr fun i=>exists_congr fun l=>and_congr_right fun _=> ?_
  rw [wK]
  by_cases h:l.Next.contains k=true
  ·rw [bQ h]
   simp only [Option.some.injEq]
   exact ⟨fun e=>⟨by simpa using h,e.symm⟩,fun e=>e.2.symm⟩
  ·rw [bR h]
   simp only [reduceCtorEq,false_iff,not_and]
   intro hk
   exact absurd (by simpa using hk) h
theorem mem_origins {m:Map}{x:Int}:x∈T5 m↔0≤x∧x<m.Lanes.length∧Ct m x= []:=by
  unfold T5
  rw [Dx]
  constructor
  ·rintro ⟨i,l,h1,h2⟩
   have:=H5 h1
   split at h2
   ·rename_i h
    cases h2
    rw [wK]at h ⊢
    exact ⟨by omega,by omega,l8 h⟩
   ·cases h2
  ·rintro ⟨h0,h1,h2⟩
   have hlt:x.toNat<m.Lanes.length:=by omega
   refine ⟨x.toNat,m.Lanes[x.toNat],lH hlt,?_⟩
   rw [wK,show ((x.toNat:Nat):Int)=x by omega,h2];rfl
theorem QI {m:Map}(V:ValR m){p k:Int}(h:p∈Ct m k):0≤p∧p<k∧k<m.Lanes.length∧Ta m p.toNat k=true:=by
  obtain ⟨i,l,h1,h2,rfl⟩:=mem_before.1 h
  have hk:=V.next h1 h2
  refine ⟨by omega,hk.1,hk.2,?_⟩
  rw [AA V,lZ,wF]
  refine ⟨k,by unfold nextOf;rw [h1];exact h2,by simp⟩
/-- Each lane is a source, or a source leads to it. -/
theorem NX {m:Map}(V:ValR m): ∀(n:Nat) (a:Int),0≤a→a<m.Lanes.length→a<n→∃s∈T5 m,s=a∨Ta m s.toNat a=true
  |0,a,h0,h1,h2=>by omega
  |n+1,a,h0,h1,h2=>by
   cases hb:Ct m a with
   |nil=>exact ⟨a,mem_origins.2 ⟨h0,h1,hb⟩, .inl rfl⟩
   |cons p r=>
    obtain ⟨p0,p1,p2,p3⟩:=QI V (show p∈Ct m a by rw [hb];simp)
    obtain ⟨s,s1,s2⟩:=NX V n p p0 (by omega) (by omega)
    refine ⟨s,s1, .inr ?_⟩
    rcases s2 with rfl|s2
    ·exact p3
    ·have e:((p.toNat:Nat):Int)=p:=by omega
     exact HK V (b:=p.toNat) p3 m.Lanes.length s.toNat (by omega) (by rw [e];exact s2)
/-! ### How long lanes are -/
theorem gP: ∀(l:List Int) (s:Int),(∀x∈l,0≤x∧x≤1048576)→0≤s→s+1048576*l.length≤9000000000000000000→s≤CS s l∧CS s l≤s+1048576*l.length
  | [],s,_,_,_=>by simp [CS]
  |a::r,s,h,h0,h1=>by
   have ha:=h a (by simp)
   simp only [lL]at h1 ⊢
   rw [CS,F1 (by omega)]
   have:=gP r (s+a) (fun x hx=>h x (by simp [hx])) (by omega) (by omega)
   omega
theorem gQ: ∀{l:List Spot} {last:Option CurveVector},Good last l→∀x∈AO l,1000≤x∧x≤1048576:=by
  intro l last h
  induction h with
  |one last p=>intro x hx;simp [AO]at hx
  |cons last p q r h1 h2 h3 h4 h ih=>
   intro x hx
   rw [Uy,lU]at hx
   rcases hx with rfl|hx
   ·exact ⟨h2,h3⟩
   ·exact ih x hx
theorem kR {c:Curve}(h:Da c.Pts=0):1000≤Ro c∧Ro c≤16777216:=by
  have V:=checkM_zero.1 h
  unfold Ro Mn
  rw [bQ h]
  have h16:=V.most
  have h2:=V.two
  have hm:=gQ V.good
  cases hp:c.Pts with
  |nil=>rw [hp]at h2;simp at h2
  |cons p r=>
   rw [hp]at hm h16 h2
   cases r with
   |nil=>simp at h2
   |cons q r=>
    simp only [lL]at h16
    rw [Uy]at hm ⊢
    have ha:=hm _ (List.mem_cons_self)
    have hl:=Tv r q
    rw [CS,F1 (by omega),Int.zero_add]
    have:=gP (AO (q::r)) (rt (N3 (R6 p q) (R6 p q))) (fun x hx=>by have:=hm x (List.mem_cons_of_mem _ hx);omega) (by omega) (by rw [hl];omega)
    rw [hl]at this
    omega
theorem ValR.long {m:Map}(V:ValR m){k:Int}(h0:0≤k)(h1:k<m.Lanes.length):1000≤Q0 m k∧Q0 m k≤16777216:=by
  obtain ⟨l,e1,e2⟩:=Tx h0 h1
  unfold Q0
  rw [e1]
  exact kR (V.laneOK e1).curve
/-! ### Routes -/
def Lv (m:Map):Int→List Int→Bool
  |_,[]=>true
  |a,b::r=>(nextOf m a.toNat).contains b&&Lv m b r
noncomputable def P6 (m:Map)(r:List Int):Int:=
  if Vc m≠0 then Vc m
  else match r with
    | []=>13
    |a::t=>if 7<t.length∨a<0∨(m.Lanes.length:Int)≤a∨Ct m a≠ []∨Lv m a t=false then 13 else 0
/-- What a route is. -/
structure RouteOK (m:Map)(a:Int)(t:List Int):Prop where
  val:ValR m
  most:t.length≤7
  first:0≤a∧a<m.Lanes.length
  source:Ct m a= []
  chain:Lv m a t=true
theorem chkRoute_zero {m:Map}{r:List Int}:P6 m r=0↔∃a t,r=a::t∧RouteOK m a t:=by
  unfold P6
  constructor
  ·intro h
   split at h
   ·exact absurd h (by assumption)
   ·rename_i h1
    have V:=chkR_zero.1 (Decidable.not_not.1 h1)
    split at h
    ·cases h
    ·rename_i a t
     split at h
     ·cases h
     ·rename_i h2
      exact ⟨a,t,rfl,V,by omega,by omega,Decidable.not_not.1 fun q=>h2 (.inr (.inr (.inr (.inl q)))),by
        cases q:Lv m a t with
        |true=>rfl
        |false=>exact absurd (.inr (.inr (.inr (.inr q)))) h2⟩
  ·rintro ⟨a,t,rfl,V,h1,h2,h3,h4⟩
   rw [bR (by rw [chkR_zero.2 V];simp)]
   dsimp only
   rw [bR]
   rintro (q|q|q|q|q)
   ·omega
   ·omega
   ·omega
   ·exact q h3
   ·rw [h4]at q;cases q
theorem NY {m:Map}(V:ValR m): ∀{t:List Int} {a:Int},Lv m a t=true→0≤a→∀x∈t,a<x∧x<m.Lanes.length
  | [],_,_,_,x,hx=>by cases hx
  |b::r,a,h,h0,x,hx=>by
   rw [Lv,bU,List.contains_iff_mem]at h
   have hb:=V.nextOf h.1
   rcases lU.1 hx with rfl|hx
   ·omega
   ·have:=NY V h.2 (by omega) x hx;omega
theorem RouteOK.mem {m:Map}{a:Int}{t:List Int}(R:RouteOK m a t){x:Int}(hx:x∈a::t):0≤x∧x<m.Lanes.length:=by
  have:=R.first
  rcases lU.1 hx with rfl|hx
  ·exact this
  ·have:=NY R.val R.chain (by omega) x hx;omega
theorem WL {m:Map}(B:BearM m)(V:ValR m)(l:List Int)(hl:l.length≤1000000): ∀(r:List Int) (i:Nat) (a:Int),l.drop i=r→i≤l.length→0≤a→a<m.Lanes.length→loop (Q4 m l) (a,(i:Int))=some (if Lv m a r=true then .inl ()else .inr 13):=by
  intro r
  induction r with
  |nil=>
   intro i a hi hil h0 h1
   have:=O0 hi
   obtain rfl:i=l.length:=by omega
   refine C7 ?_
   unfold Q4
   rw [H9];rfl
  |cons b r ih=>
   intro i a hi hil h0 h1
   have hlt:=M9 hi
   have hb:=V0 hi
   obtain ⟨ln,e1,e2⟩:=Tx h0 h1
   have hs:Q4 m l (a,(i:Int))=some (if ln.Next.contains b=true then .go (b,((i+1:Nat):Int))else .out (.inr 13)):=by
     unfold Q4
     dsimp only
     rw [K0 hlt,C3 hb,bO,lB,e2,lB,Zl _ (B.toBear.pts _ (lG e1)).2,lB,G8 hlt (by omega)]
     cases ln.Next.contains b<;>rfl
   have hn:nextOf m a.toNat=ln.Next:=by unfold nextOf;rw [e1];rfl
   rw [Lv,hn]
   cases q:ln.Next.contains b
   ·rw [q]at hs;rw [C7 hs];rfl
   ·rw [q]at hs
    have hbm:=V.next e1 (List.contains_iff_mem.1 q)
    rw [J2 hs,ih (i+1) b (K5 hi) (by omega) (by omega) (by omega),bS]
theorem BM {m:Map}(B:BearM m)(r:List Int)(hr:r.length≤1000000):X2 m r=some (P6 m r):=by
  unfold X2 P6
  rw [Oi B,lB]
  by_cases q:Vc m=0
  ·have V:=chkR_zero.1 q
   rw [bR (by simpa using q),show (Vc m !=0)=false by simpa using q,bP]
   cases r with
   |nil=>rfl
   |cons a t=>
    dsimp only
    simp only [lL]at hr ⊢
    by_cases h8:7<t.length
    ·rw [bQ (.inl h8),show ((((t.length+1:Nat):Int)==0)||(decide (((t.length+1:Nat):Int)>8)))=true by simp;omega];rfl
    ·rw [show ((((t.length+1:Nat):Int)==0)||(decide (((t.length+1:Nat):Int)>8)))=false by simp;omega]
     rw [show C1 (a::t) 0=some a from rfl]
     simp only [bX,bO,lB,bY]
     by_cases h0:a<0
     ·rw [bQ (.inr (.inl h0)),bJ h0];rfl
     ·rw [bK h0]
      simp only [bX,bO,lB,bY]
      by_cases h1:(m.Lanes.length:Int)≤a
      ·rw [bQ (.inr (.inr (.inl h1))),show decide (a≥(m.Lanes.length:Int))=true from bJ h1];rfl
      ·rw [show decide (a≥(m.Lanes.length:Int))=false from bK (by omega)]
       simp only [bX,bO,bY]
       rw [lB,aH B,lB]
       by_cases hb:Ct m a= []
       ·rw [hb]
        have e1:AJ (a::t) 1 ((t.length+1:Nat):Int)=some t:=by
          unfold AJ
          rw [bQ (by simp;omega)]
          simp
        rw [e1,show decide ((([]:List Int).length:Int)>0)=false from rfl,bP,lB]
        have:=WL B V t (by omega) t 0 a rfl (by omega) (by omega) (by omega)
        rw [show ((0:Nat):Int)=0 from rfl]at this
        rw [this]
        by_cases hc:Lv m a t=true
        ·rw [bQ hc,bR (by rw [hc];simp;omega)];rfl
        ·rw [bR hc,bQ (.inr (.inr (.inr (.inr (by simpa using hc)))))];rfl
       ·rw [bQ (.inr (.inr (.inr (.inl hb)))),show decide (((Ct m a).length:Int)>0)=true from bJ (by have:=List.length_pos_iff.2 hb;omega)];rfl
  ·rw [bQ q,show (Vc m !=0)=true by simpa using q];rfl
/-- Where the lanes of a route begin. -/
noncomputable def O1 (m:Map):Int→List Int→List Int
  |_,[]=> []
  |s,a::r=>s::O1 m (s+Q0 m a) r
noncomputable def Ei (m:Map):Int→List Int→Int
  |s,[]=>s
  |s,a::r=>Ei m (s+Q0 m a) r
theorem Ku (m:Map): ∀(r:List Int) (s:Int),(O1 m s r).length=r.length
  | [],_=>rfl
  |_::r,_=>by rw [O1,lL,Ku m r,lL]
noncomputable def Be (m:Map)(r:List Int):RoadsWay:=if P6 m r=0 then ⟨m,r,O1 m 0 r,Ei m 0 r⟩else ⟨⟨0,[],[],[],[]⟩,[],[],0⟩
theorem Ry {m:Map}(B:BearM m)(r:List Int)(hr:r.length≤1000000):Af m r=some (Be m r):=by
  unfold Af Be
  rw [BM B r hr,lB]
  by_cases q:P6 m r=0
  ·rw [bQ q,q]
   obtain ⟨a,t,rfl,R⟩:=chkRoute_zero.1 q
   have key: ∀(l:List Int) (i:Nat) (s:Int) (st:List Int),(a::t).drop i=l→i≤(a::t).length→0≤s→s≤16777216*i→st.length=i→loop (W8 m (a::t)) ((i:Int),(st,s))=some (st++O1 m s l,Ei m s l):=by
     intro l
     induction l with
     |nil=>
      intro i s st hi hil _ _ _
      have:=O0 hi
      obtain rfl:i=(a::t).length:=by omega
      refine C7 ?_
      unfold W8
      rw [H9,O1,Ei,lP];rfl
     |cons x l ih=>
      intro i s st hi hil h0 h1 h2
      have hlt:=M9 hi
      have hx:=V0 hi
      have hm:=R.mem (lG hx)
      have hl:=R.val.long hm.1 hm.2
      have hm7:=R.most
      simp only [lL]at hlt
      rw [J2 (s':=(((i+1:Nat):Int),(st++ [s],s+Q0 m x)))]
      ·rw [ih (i+1) _ _ (K5 hi) (by simp;omega) (by omega) (by omega) (by simp [h2]),O1,Ei,lO];rfl
      ·unfold W8
       dsimp only
       rw [K0 (by simpa using hlt),C3 hx,bO,lB,Fc (by simp;omega),lB,IR B.toBear hm.1 hm.2,lB,G8 hlt (by omega),QR (by omega)]
   have:=key (a::t) 0 0 [] rfl (by omega) (by decide) (by decide) rfl
   rw [show ((0:Nat):Int)=0 from rfl]at this
   show (loop (W8 m (a::t)) (0,([],0))).bind _=_
   rw [this];rfl
  ·rw [bR q,show (P6 m r !=0)=true by simpa using q];rfl
/-- The place in a route at which it enters a zone. -/
noncomputable def Et (m:Map)(r:List Int)(k:Int):Int:=match m.Zones[k.toNat]? with
  |some z=>if 0≤k∧P6 m r=0 then EX (fun l=>(Kc z l).2) r else -1
  |none=> -1
theorem gR {m:Map}(B:BearM m)(r:List Int)(hr:r.length≤1000000)(k:Int):Ib m r k=some (Et m r k):=by
  unfold Ib Et
  rw [Ry B r hr,lB]
  by_cases h:k<0∨(m.Zones.length:Int)≤k
  ·rw [show ((decide (k<0))||(decide (k≥(m.Zones.length:Int))))=true by simpa using h,bO]
   cases hz:m.Zones[k.toNat]? with
   |none=>rfl
   |some z=>
    have:=H5 hz
    dsimp only
    rw [bR (fun x=>by have:=x.1;omega)]
  ·obtain ⟨z,z1,z2⟩:=YH (m:=m) (k:=k) (by omega) (by omega)
   rw [show ((decide (k<0))||(decide (k≥(m.Zones.length:Int))))=false by rw [bZ];simpa using h,bP,z1]
   dsimp only
   have hp:=B.toBearZ.parts z (lG z1)
   have key: ∀l:List Int,l.length≤1000000→I8 l m k=some (EX (fun l=>(Kc z l).2) l):=by
     intro l hl
     unfold I8
     rw [Qn l (fun l=>(Kc z l).2) (by omega) (fun i a h=>by
      have hi:=H5 h
      unfold H8 Ak
      rw [K0 hi,C3 h,bO,lB,z2,lB,kO hp,lB,lB]
      cases (Kc z a).2<;>rfl) (by unfold H8;rw [H9];rfl)]
   unfold Be
   by_cases q:P6 m r=0
   ·rw [bQ q,bQ ⟨by omega,q⟩,key r hr];rfl
   ·rw [bR q,bR (fun x=>q x.2),key [] (by simp)];rfl
/-- A walk that goes on until it can't. -/
def HN (m:Map):Nat→Int→List Int→Bool
  |c,a,[]=>(nextOf m a.toNat).isEmpty||c==0
  |c,a,b::r=>(nextOf m a.toNat).contains b&&decide (0<c)&&HN m (c - 1) b r
theorem LH {m:Map}: ∀{r:List Int} {c:Nat} {a:Int},HN m c a r=true→Lv m a r=true∧r.length≤c
  | [],c,a,_=>⟨rfl,wI _⟩
  |b::r,c,a,h=>by
   rw [HN,bU,bU,bM]at h
   have:=LH h.2
   rw [Lv,h.1.1,this.1]
   refine ⟨rfl,?_⟩
   simp only [lL];omega
theorem TE {m:Map}(V:ValR m): ∀(f:Nat) (x a:Int) (c:Nat) (out:List Int),0≤x→x<16777216→0≤a→a<m.Lanes.length→m.Lanes.length≤a.toNat+f→out.length+c=8→
    ∃r,loop (Lj m) (x,a,out)=some (out++r)∧HN m c a r=true
  |0,x,a,c,out,h0,h1,a0,a1,hf,hc=>by omega
  |f+1,x,a,c,out,h0,h1,a0,a1,hf,hc=>by
   obtain ⟨ln,e1,e2⟩:=Tx a0 a1
   have hn:nextOf m a.toNat=ln.Next:=by unfold nextOf;rw [e1];rfl
   have hfew:=(V.laneOK e1).few
   by_cases q:ln.Next.length=0∨c=0
   ·refine ⟨[],?_,?_⟩
    ·rw [lP]
     refine C7 ?_
     unfold Lj
     dsimp only
     rw [e2,lB]
     rw [show ((decide ((ln.Next.length:Int)>0))&& (decide ((out.length:Int)<8)))=false by simp;omega];rfl
    ·rw [HN,hn]
     rcases q with q|q
     ·rw [l8 q];rfl
     ·rw [q,beq_self_eq_true,Bool.or_true]
   ·have hm:=Ix x (show (0:Int)< (ln.Next.length:Int) by omega)
    have hlt:(x % (ln.Next.length:Int)).toNat<ln.Next.length:=by omega
    have hbm:=V.next e1 (List.getElem_mem hlt)
    have hx:0≤x / (ln.Next.length:Int)∧x / (ln.Next.length:Int)<16777216:=⟨Int.ediv_nonneg h0 (by omega),Int.lt_of_le_of_lt (Int.ediv_le_self _ h0) h1⟩
    obtain ⟨r,r1,r2⟩:=TE V f (x / (ln.Next.length:Int)) ln.Next[(x % (ln.Next.length:Int)).toNat] (c - 1) (out++ [ln.Next[(x % (ln.Next.length:Int)).toNat]]) hx.1 hx.2 (by omega) (by omega) (by omega) (by simp;omega)
    refine ⟨ln.Next[(x % (ln.Next.length:Int)).toNat]::r,?_,?_⟩
    ·rw [lO]at r1
     rw [J2 (s':=(x / (ln.Next.length:Int),ln.Next[(x % (ln.Next.length:Int)).toNat],out++ [ln.Next[(x % (ln.Next.length:Int)).toNat]]))]
     ·exact r1
     ·unfold Lj
      dsimp only
      rw [e2,lB]
      rw [show ((decide ((ln.Next.length:Int)>0))&& (decide ((out.length:Int)<8)))=true by simp;omega,bO,lB,lB]
      unfold Vq PP
      rw [bR (by omega),lB,wQ h0,wP h0]
      have e3:C1 ln.Next (x % (ln.Next.length:Int))=some ln.Next[(x % (ln.Next.length:Int)).toNat]:=by
        unfold C1
        rw [bQ hm.1,lH hlt]
      rw [e3,lB,bR (by omega),lB,Fc (by simp;omega),lB]
      have:IntKind.wrap .i64 (x / (ln.Next.length:Int))=x / (ln.Next.length:Int):=QR (by omega)
      rw [this]
    ·rw [HN,hn,r2,Bool.and_true,bU]
     exact ⟨List.contains_iff_mem.2 (List.getElem_mem hlt),by simp;omega⟩
/-- A route of the kit: it begins at a source, and goes on until it can't. -/
theorem QJ {m:Map}(B:BearM m)(V:ValR m)(n:Int): ∃a t,Ju m n=some (a::t)∧a∈T5 m∧HN m 7 a t=true:=by
  unfold Ju
  obtain ⟨s,s1,_⟩:=NX V 1 0 (by decide) (by have:=V.pos;omega) (by decide)
  have h12:=V.lanes
  have ol:(T5 m).length≤12:=wL (Vb _ _ _) h12
  have op:0< (T5 m).length:=List.length_pos_iff.2 (fun e=>by rw [e]at s1;cases s1)
  rw [TC B,lB,show (((T5 m).length:Int)==0)=false by simp only [beq_eq_false_iff_ne];omega,bP,Po (by decide) (by decide),lB]
  have c:=Ix n (show (0:Int)<1048576 by decide)
  generalize n % 1048576=x at c
  unfold Vq PP
  rw [bR (by omega),lB,wQ c.1,wP c.1]
  have hm:=Ix x (show (0:Int)< ((T5 m).length:Int) by omega)
  have hlt:(x % ((T5 m).length:Int)).toNat< (T5 m).length:=by omega
  have e3:C1 (T5 m) (x % ((T5 m).length:Int))=some (T5 m)[(x % ((T5 m).length:Int)).toNat]:=by
    unfold C1
    rw [bQ hm.1,lH hlt]
  have hx:0≤x / ((T5 m).length:Int)∧x / ((T5 m).length:Int)<16777216:=⟨Int.ediv_nonneg c.1 (by omega),by have:=Int.ediv_le_self ((T5 m).length:Int) c.1;omega⟩
  rw [e3,lB,bR (by omega),lB]
  have:IntKind.wrap .i64 (x / ((T5 m).length:Int))=x / ((T5 m).length:Int):=QR (by omega)
  rw [this]
  have hmem:=List.getElem_mem hlt
  have ho:=mem_origins.1 hmem
  obtain ⟨r,r1,r2⟩:=TE V m.Lanes.length (x / ((T5 m).length:Int)) (T5 m)[(x % ((T5 m).length:Int)).toNat] 7 [(T5 m)[(x % ((T5 m).length:Int)).toNat]] hx.1 hx.2 ho.1 ho.2.1 (by omega) rfl
  exact ⟨_,r,by rw [r1];rfl,hmem,r2⟩
theorem gS {m:Map}(V:ValR m){a:Int}{t:List Int}(ha:a∈T5 m)(h:HN m 7 a t=true):RouteOK m a t:=by
  have ho:=mem_origins.1 ha
  have hf:=LH h
  exact ⟨V,hf.2,⟨ho.1,ho.2.1⟩,ho.2.2,hf.1⟩
end Go.Abs.World
/-! Lists that are sorted, and how an insertion sort makes them. -/
namespace Go.Abs
open Go
/-- What a comparison must satisfy. -/
structure LtOK {α:Type}(lt:α→α→Bool):Prop where
  asym: ∀a b,lt a b=true→lt b a=false
  trans: ∀a b c,lt b a=false→lt c b=false→lt c a=false
def Srt {α:Type}(lt:α→α→Bool)(l:List α):Prop:=l.Pairwise fun a b=>lt b a=false
section
variable {α:Type}
theorem Ve (U V:List α)(x y:α)(n:Int)(h:n=(U.length:Int)):Lx (U++x::V) n y=U++y::V:=by
  subst h
  simp [Lx]
theorem Me (U V:List α)(x:α)(n:Int)(h:n=(U.length:Int)):C1 (U++x::V) n=some x:=by
  subst h
  simp [C1]
theorem WM {Q:List α}(h:Q≠ []): ∃Q' q,Q=Q'++ [q]:=⟨Q.dropLast,Q.getLast h,(List.dropLast_concat_getLast h).symm⟩
variable {lt:α→α→Bool}
theorem Srt.ins (L:LtOK lt){Q1 Q2:List α}{x:α}(h:Srt lt (Q1++Q2))(h1: ∀q∈Q1,lt x q=false)(h2: ∀q∈Q2,lt x q=true):Srt lt (Q1++x::Q2):=by
  unfold Srt at h ⊢
  rw [bC]at h ⊢
  refine ⟨h.1,bB.2 ⟨fun b hb=>L.asym _ _ (h2 b hb),h.2.1⟩,fun a ha b hb=> ?_⟩
  rcases lU.1 hb with rfl|hb
  ·exact h1 a ha
  ·exact h.2.2 a ha b hb
theorem LtOK.irr (L:LtOK lt)(a:α):lt a a=false:=by
  cases h:lt a a with
  |false=>rfl
  |true=>rw [L.asym a a h]at h;cases h
theorem Srt.get (L:LtOK lt){l:List α}(h:Srt lt l){i j:Nat}(hij:i≤j)(hj:j<l.length):lt l[j] l[i]=false:=by
  rcases Nat.lt_or_eq_of_le hij with h1|h1
  ·exact bD.1 h i j (by omega) hj h1
  ·subst h1;exact L.irr _
theorem Srt.left {l m:List α}(h:Srt lt (l++m)):Srt lt l:=(bC.1 h).1
theorem Srt.right {l m:List α}(h:Srt lt (l++m)):Srt lt m:=(bC.1 h).2.1
/-- The first place from which a test fails. -/
theorem kS {F:Int×Int→Option (Stp (Int×Int) Int)}(Q:Nat→Bool)(lo hi:Nat)(hle:lo≤hi)
    (hF: ∀x y:Nat,lo≤x→x<y→y≤hi→F ((x:Int),(y:Int))=some (if Q ((x+y) / 2)then .go ((((x+y) / 2+1:Nat):Int),(y:Int))else .go ((x:Int),(((x+y) / 2:Nat):Int))))
    (hstop: ∀x y:Nat,¬x<y→F ((x:Int),(y:Int))=some (.out (x:Int)))
    (mono: ∀c c',lo≤c→c≤c'→c'<hi→Q c'=true→Q c=true):
    ∃s:Nat,loop F ((lo:Int),(hi:Int))=some (s:Int)∧lo≤s∧s≤hi∧(∀c,lo≤c→c<s→Q c=true)∧∀c,s≤c→c<hi→Q c=false:=by
  have key: ∀(k x y:Nat),y - x≤k→lo≤x→x≤y→y≤hi→(∀c,lo≤c→c<x→Q c=true)→(∀c,y≤c→c<hi→Q c=false)→
   ∃s:Nat,loop F ((x:Int),(y:Int))=some (s:Int)∧lo≤s∧s≤hi∧(∀c,lo≤c→c<s→Q c=true)∧∀c,s≤c→c<hi→Q c=false:=by
    intro k
    induction k with
    |zero=>
     intro x y hk h1 h2 h3 h4 h5
     obtain rfl:x=y:=by omega
     exact ⟨x,C7 (hstop x x (by omega)),h1,h3,h4,h5⟩
    |succ k ih=>
     intro x y hk h1 h2 h3 h4 h5
     by_cases hxy:x<y
     ·have hf:=hF x y h1 hxy h3
      cases hq:Q ((x+y) / 2)with
      |true=>
       rw [hq,bQ rfl]at hf
       obtain ⟨s,g1,g2⟩:=ih ((x+y) / 2+1) y (by omega) (by omega) (by omega) h3 (fun c hc1 hc2=>mono c ((x+y) / 2) hc1 (by omega) (by omega) hq) h5
       exact ⟨s,by rw [J2 hf];exact g1,g2⟩
      |false=>
       rw [hq,bR (by simp)]at hf
       obtain ⟨s,g1,g2⟩:=ih x ((x+y) / 2) (by omega) h1 (by omega) (by omega) h4 (fun c hc1 hc2=>by
         cases hc:Q c with
         |false=>rfl
         |true=>rw [mono ((x+y) / 2) c (by omega) hc1 hc2 hc]at hq;cases hq)
       exact ⟨s,by rw [J2 hf];exact g1,g2⟩
     ·obtain rfl:x=y:=by omega
      exact ⟨x,C7 (hstop x x (by omega)),h1,h3,h4,h5⟩
  exact key (hi - lo) lo hi (wH _) (wH _) hle (wH _) (fun c h1 h2=>absurd h2 (by omega)) (fun c h1 h2=>absurd h2 (by omega))
/-- The inner loop: an element goes down to its place. -/
theorem GJ (L:LtOK lt){F:Int×List α→Option (Stp (Int×List α) (List α))}{P T:List α}(N:Nat)
    (hstop: ∀xs,F ((P.length:Int),xs)=some (.out xs))
    (hF: ∀(U V:List α) (q x:α),P.length≤U.length→(U++q::x::V).length=N→F (((U.length:Int)+1),U++q::x::V)=some (if lt x q then .go ((U.length:Int),U++x::q::V)else .out (U++q::x::V))) (x:α):
    ∀(n:Nat) (Q1 Q2:List α),Q1.length=n→Srt lt (Q1++Q2)→(∀q∈Q2,lt x q=true)→(P++Q1++x::Q2++T).length=N→
     ∃Q,loop F (((P.length+Q1.length:Nat):Int),P++Q1++x::Q2++T)=some (P++Q++T)∧Q.Perm (x::(Q1++Q2))∧Srt lt Q:=by
  intro n
  induction n with
  |zero=>
   intro Q1 Q2 hn hs hg hN
   obtain rfl:=List.length_eq_zero_iff.1 hn
   refine ⟨x::Q2,?_,by simp,?_⟩
   ·rw [C7 (by rw [lN,Nat.add_zero];exact hstop _)]
    simp
   ·exact hs.ins L (by simp) hg
  |succ n ih=>
   intro Q1 Q2 hn hs hg hN
   obtain ⟨Q',q,rfl⟩:=WM (Q:=Q1) (by rintro rfl;simp at hn)
   rw [lM,List.length_singleton]at hn
   have e1:P++ (Q'++ [q])++x::Q2++T=(P++Q')++q::x::(Q2++T):=by simp
   have e2:((P.length+ (Q'++ [q]).length:Nat):Int)=((P++Q').length:Int)+1:=by simp;omega
   have hF1:=hF (P++Q') (Q2++T) q x (by simp) (by rw [← e1];exact hN)
   by_cases hl:lt x q=true
   ·rw [bQ hl]at hF1
    obtain ⟨Q,g1,g2,g3⟩:=ih Q' (q::Q2) (by omega) (by simpa using hs) (fun y hy=>by
      rcases lU.1 hy with rfl|hy
      ·exact hl
      ·exact hg y hy) (by rw [← hN];simp)
    refine ⟨Q,?_,g2.trans (by simp),g3⟩
    rw [e1,e2,J2 hF1,← g1]
    congr 1
    simp
   ·rw [bR hl]at hF1
    have hl':lt x q=false:=by simpa using hl
    refine ⟨Q'++ [q]++x::Q2,?_,?_,hs.ins L (fun y hy=> ?_) hg⟩
    ·rw [e1,e2,C7 hF1];simp
    ·have:=List.perm_middle (a:=x) (l₁:=Q'++ [q]) (l₂:=Q2);exact this
    ·rcases lT.1 hy with h|h
     ·have hq:lt q y=false:=by
        unfold Srt at hs
        rw [lO,bC]at hs
        exact hs.2.2 y h q (by simp)
      exact L.trans y q x hq hl'
     ·rw [bI.1 h];exact hl'
/-- The outer loop. -/
theorem NZ {F:Int×List α→Option (Stp (Int×List α) (List α))}{P S:List α}(N:Nat)(b:Nat)
    (hend: ∀xs (i:Nat),b≤i→F ((i:Int),xs)=some (.out xs))
    (hF: ∀(Q R:List α) (x:α),(P++Q++x::R++S).length=N→P.length+Q.length<b→Srt lt Q→∃Q',F (((P.length+Q.length:Nat):Int),P++Q++x::R++S)=some (.go (((P.length+Q.length+1:Nat):Int),P++Q'++R++S))∧Q'.Perm (x::Q)∧Srt lt Q'):
    ∀(R Q:List α),(P++Q++R++S).length=N→P.length+Q.length+R.length=b→Srt lt Q→∃Q',loop F (((P.length+Q.length:Nat):Int),P++Q++R++S)=some (P++Q'++S)∧Q'.Perm (Q++R)∧Srt lt Q':=by
  intro R
  induction R with
  |nil=>
   intro Q hN hb hs
   refine ⟨Q,?_,by simp,hs⟩
   rw [C7 (hend _ _ (by simpa using Nat.le_of_eq hb.symm))]
   simp
  |cons x R ih=>
   intro Q hN hb hs
   rw [lL]at hb
   obtain ⟨Q',g1,g2,g3⟩:=hF Q R x hN (by omega) hs
   have hl:Q'.length=Q.length+1:=by rw [g2.length_eq];simp
   obtain ⟨Q2,k1,k2,k3⟩:=ih Q' (by rw [← hN];simp [hl];omega) (by omega) g3
   refine ⟨Q2,?_,k2.trans ((g2.append_right R).trans ?_),k3⟩
   ·rw [J2 g1,← k1,hl]
    congr 1
   ·exact (List.perm_middle (a:=x) (l₁:=Q) (l₂:=R)).symm
end
end Go.Abs
/-! How the lists are sorted. -/
namespace Go.Abs.World
open Go Go.Abs
def YJ (a b:Int):Bool:=decide (a<b)
theorem oW:LtOK YJ:=⟨fun a b h=>by simp only [YJ,bM,wC]at h ⊢;omega,fun a b c h1 h2=>by simp only [YJ,wC]at h1 h2 ⊢;omega⟩
theorem kT (a b:Int):Kk a b=some (YJ a b):=by
  have h: ∀x:Int,W9 x=some false:=fun x=>by unfold W9;simp
  unfold Kk
  rw [h,lB]
  rfl
theorem aL {α:Type}(U V:List α)(q x:α):U++q::x::V=(U++ [q])++x::V:=by simp
theorem WN (P T:List Int)(x:Int)(Q:List Int)(hs:Srt YJ Q)(hN:(P++Q++x::T).length≤1000000):
    ∃Q',loop (J6 (P.length:Int)) (((P.length+Q.length:Nat):Int),P++Q++x::T)=some (P++Q'++T)∧Q'.Perm (x::Q)∧Srt YJ Q':=by
  have hstop: ∀xs,J6 (P.length:Int) ((P.length:Int),xs)=some (.out xs):=fun xs=>by
    unfold J6
    simp only [show decide ((P.length:Int)>(P.length:Int))=false from bK (by omega),bP,bT,lB]
  have hF: ∀(U V:List Int) (q y:Int),P.length≤U.length→(U++q::y::V).length=(P++Q++x::T).length→J6 (P.length:Int) (((U.length:Int)+1),U++q::y::V)=some (if YJ y q then .go ((U.length:Int),U++y::q::V)else .out (U++q::y::V)):=fun U V q y hP hl=>by
    unfold J6
    have hb:U.length+2≤1000000:=by rw [← hl]at hN;simp at hN;omega
    have e1:D3 ((U.length:Int)+1 - 1)=(U.length:Int):=by rw [F1 (by omega)];omega
    have g1:C1 (U++q::y::V) ((U.length:Int)+1)=some y:=by rw [aL];exact Me _ _ _ _ (by simp)
    have g2:C1 (U++q::y::V) (U.length:Int)=some q:=Me _ _ _ _ rfl
    have s1:Lx (U++q::y::V) ((U.length:Int)+1) q=U++q::q::V:=by rw [aL,Ve _ _ _ _ _ (by simp)];simp
    have g3:C1 (U++q::q::V) (U.length:Int)=some q:=Me _ _ _ _ rfl
    have s2:Lx (U++q::q::V) (U.length:Int) y=U++y::q::V:=Ve _ _ _ _ _ rfl
    simp only [show decide (((U.length:Int)+1)>(P.length:Int))=true from bJ (by omega),bO,bS,e1,g1,g2,s1,g3,s2,lB,kT]
    cases YJ y q<;>rfl
  obtain ⟨Q',h1,h2,h3⟩:=GJ oW (P:=P) (T:=T) (P++Q++x::T).length hstop hF x Q.length Q [] rfl (by simpa using hs) (by simp) (by simp)
  refine ⟨Q',?_,by simpa using h2,h3⟩
  rw [← h1];congr 1;simp
theorem kU (P A S:List Int)(hN:(P++A++S).length≤1000000):
    ∃A',J3 (P++A++S) (P.length:Int) ((P.length+A.length:Nat):Int)=some (P++A'++S)∧A'.Perm A∧Srt YJ A':=by
  unfold J3
  have hend: ∀(xs:List Int) (i:Nat),P.length+A.length≤i→G6 (P.length:Int) ((P.length+A.length:Nat):Int) ((i:Int),xs)=some (.out xs):=fun xs i hi=>by
    unfold G6
    rw [show decide ((i:Int)< ((P.length+A.length:Nat):Int))=false from bK (by omega)];rfl
  simp only [lM]at hN
  have hw:D3 ((P.length:Int)+1)=((P.length+1:Nat):Int):=by rw [F1 (by omega)];omega
  cases A with
  |nil=>
   refine ⟨[],?_,by simp,List.Pairwise.nil⟩
   rw [hw,C7 (hend _ _ (by simp))]
  |cons a A=>
   have hF: ∀(Q R:List Int) (x:Int),(P++Q++x::R++S).length=(P++a::A++S).length→P.length+Q.length<P.length+ (a::A).length→Srt YJ Q→∃Q',G6 (P.length:Int) ((P.length+ (a::A).length:Nat):Int) (((P.length+Q.length:Nat):Int),P++Q++x::R++S)=some (.go (((P.length+Q.length+1:Nat):Int),P++Q'++R++S))∧Q'.Perm (x::Q)∧Srt YJ Q':=fun Q R x hl hb hs=>by
     obtain ⟨Q',k1,k2,k3⟩:=WN P (R++S) x Q hs (by simp only [lM,lL]at hl hN ⊢;omega)
     refine ⟨Q',?_,k2,k3⟩
     unfold G6
     have e1:P++Q++x::R++S=P++Q++x::(R++S):=by simp
     rw [show decide (((P.length+Q.length:Nat):Int)< ((P.length+ (a::A).length:Nat):Int))=true from bJ (by omega),bO]
     simp only [e1,k1,lB]
     rw [F1 (by simp only [lL]at hN hb;omega)]
     simp
   obtain ⟨A',h1,h2,h3⟩:=NZ (lt:=YJ) (P:=P) (S:=S) (P++a::A++S).length (P.length+ (a::A).length) hend hF A [a] (by simp) (by simp;omega) (List.pairwise_singleton _ _)
   refine ⟨A',?_,h2,h3⟩
   rw [hw,← h1];congr 1;simp
theorem YK (n:Nat)(h:n≤12): ∃v,Js (IntKind.wrap .u64 (n:Int))=some v:=by
  have: ∀n:Fin 13,(Js (IntKind.wrap .u64 ((n.val:Nat):Int))).isSome=true:=by decide+kernel
  exact Option.isSome_iff_exists.1 (this ⟨n,by omega⟩)
theorem kV (xs:List Int)(h:xs.length≤12): ∃ys,O7 xs=some ys∧ys.Perm xs∧Srt YJ ys:=by
  obtain ⟨v,hv⟩:=YK _ h
  obtain ⟨ys,h1,h2,h3⟩:=kU [] xs [] (by simp;omega)
  refine ⟨ys,?_,h2,h3⟩
  unfold O7 O3
  rw [hv,lB,C7 (t:=ys)]
  ·rfl
  ·unfold N0
   simp only [lN,wK,lQ,lP]at h1
   have e:D3 ((xs.length:Int) - 0)≤12:=by rw [F1 (by omega)];omega
   rw [show decide (D3 ((xs.length:Int) - 0)≤12)=true from bJ e,bO]
   have h1':J3 xs 0 (xs.length:Int)=some ys:=h1
   rw [h1',lB]
theorem gT:O8=some ():=by
  obtain ⟨v,hv⟩:=YK 0 (by omega)
  unfold O8 O4
  rw [show IntKind.wrap .u64 0=IntKind.wrap .u64 ((0:Nat):Int) from rfl,hv,lB,C7 (t:=())]
  ·rfl
  ·unfold N1 L9
   rw [C7 (t:=())]
   ·rfl
   ·rfl
theorem CW: ∀(l:List Int) (x:Int),x∈Er l↔x∈l
  | [],_=> .rfl
  | [_],_=> .rfl
  |a::b::r,x=>by
   have ih:=CW (b::r) x
   rw [Er]
   by_cases e:a=b
   ·subst e
    rw [show (a==a)=true by simp,bO,ih]
    simp
   ·rw [show (a==b)=false by simp [e],bP,lU,ih,lU (a:=x) (b:=a)]
theorem BN: ∀(l:List Int),l.Pairwise (· ≤ ·)→(Er l).Pairwise (· < ·)
  | [],_=>List.Pairwise.nil
  | [_],_=>List.pairwise_singleton _ _
  |a::b::r,h=>by
   obtain ⟨h1,h2⟩:=bB.1 h
   have ih:=BN (b::r) h2
   rw [Er]
   by_cases e:a=b
   ·rw [show (a==b)=true by simp [e],bO];exact ih
   ·rw [show (a==b)=false by simp [e],bP]
    refine bB.2 ⟨fun x hx=> ?_,ih⟩
    have hx':=(CW _ _).1 hx
    have hb:=h1 b (by simp)
    rcases lU.1 hx' with rfl|hx'
    ·omega
    ·have:=(bB.1 h2).1 x hx';omega
theorem LI: ∀{l m:List Int},l.Pairwise (· < ·)→m.Pairwise (· < ·)→(∀x,x∈l↔x∈m)→l=m
  | [],[],_,_,_=>rfl
  | [],b::m,_,_,h=>absurd ((h b).2 (by simp)) (by simp)
  |a::l,[],_,_,h=>absurd ((h a).1 (by simp)) (by simp)
  |a::l,b::m,h1,h2,h=>by
   obtain ⟨a1,a2⟩:=bB.1 h1
   obtain ⟨b1,b2⟩:=bB.1 h2
   have hab:a=b:=by
     rcases lU.1 ((h a).1 (by simp))with e|e
     ·exact e
     ·rcases lU.1 ((h b).2 (by simp))with e'|e'
      ·exact e'.symm
      ·have:=a1 _ e';have:=b1 _ e;omega
   subst hab
   congr 1
   refine LI a2 b2 fun x=>⟨fun hx=> ?_,fun hx=> ?_⟩
   ·rcases lU.1 ((h x).1 (List.mem_cons_of_mem _ hx))with rfl|e
    ·exact absurd (a1 _ hx) (by omega)
    ·exact e
   ·rcases lU.1 ((h x).2 (List.mem_cons_of_mem _ hx))with rfl|e
    ·exact absurd (b1 _ hx) (by omega)
    ·exact e
structure SigOK (s:Signal):Prop where
  pos:0<s.Phases.length
  many:s.Phases.length≤6
  off:0≤s.Offset∧s.Offset≤1099511627776
  ticks: ∀p∈s.Phases,1≤p.Ticks∧p.Ticks≤10000
  green: ∀p∈s.Phases,p.Green.length≤1000000
theorem ValR.sig {m:Map}(B:BearM m)(V:ValR m){i:Nat}{s:Signal}(h:m.Signals[i]? =some s):SigOK s:=by
  have:=firstE_none.1 V.signalE i s h
  unfold World.signalE at this
  split at this
  ·cases this
  split at this
  ·cases this
  split at this
  ·cases this
  split at this
  ·cases this
  rename_i h1 h2 h3 h4
  refine ⟨by omega,by omega,?_,fun p hp=> ?_,(B.toBearS.phases s (lG h)).2⟩
  ·have:Vl s.Offset 0 1099511627776=true:=by simpa using h3
   simpa [Vl] using this
  ·have:Vl p.Ticks 1 10000=true:=by
     cases q:Vl p.Ticks 1 10000 with
     |true=>rfl
     |false=>exact absurd (lZ.2 ⟨p,hp,by rw [q];rfl⟩) h4
   simpa [Vl] using this
def Oq:List Phase→Int
  | []=>0
  |p::r=>p.Ticks+Oq r
def HO (lane:Int):Int→List Phase→Bool
  |_,[]=>false
  |at_,p::r=>if p.Ticks≤at_ then HO lane (at_ - p.Ticks) r else p.Green.contains lane
def Wm (s:Signal)(lane tick:Int):Bool:=HO lane ((s.Offset+tick) % Oq s.Phases) s.Phases
theorem YL: ∀{l:List Phase},(∀p∈l,1≤p.Ticks∧p.Ticks≤10000)→(l.length:Int)≤Oq l∧Oq l≤10000*l.length
  | [],_=>by simp [Oq]
  |p::r,h=>by
   have:=YL (l:=r) fun q hq=>h q (List.mem_cons_of_mem _ hq)
   have:=h p (by simp)
   simp only [Oq,lL]
   omega
theorem SigOK.sum {s:Signal}(S:SigOK s):1≤Oq s.Phases∧Oq s.Phases≤60000:=by
  have:=YL S.ticks
  have:=S.pos
  have:=S.many
  omega
theorem rF (s:Signal)(S:SigOK s): ∀(r:List Phase) (i:Nat) (a:Int),s.Phases.drop i=r→i≤s.Phases.length→0≤a→a+10000*r.length≤1000000→loop (Ci s) (a,(i:Int))=some (a+Oq r):=by
  intro r
  induction r with
  |nil=>
   intro i a hi hil h0 h1
   have:=O0 hi
   obtain rfl:i=s.Phases.length:=by omega
   refine C7 ?_
   unfold Ci
   rw [H9];simp [Oq]
  |cons p r ih=>
   intro i a hi hil h0 h1
   have hlt:=M9 hi
   have hp:=V0 hi
   have hb:=S.ticks p (lG hp)
   simp only [lL]at h1
   have hs:Ci s (a,(i:Int))=some (.go (a+p.Ticks,((i+1:Nat):Int))):=by
     unfold Ci
     dsimp only
     rw [K0 hlt,C3 hp,bO,lB,F1 (by omega),G8 hlt (by have:=S.many;omega)]
   rw [J2 hs,ih (i+1) _ (K5 hi) (by omega) (by omega) (by omega),Oq]
   congr 1;omega
theorem rG (s:Signal)(S:SigOK s)(lane:Int): ∀(r:List Phase) (i:Nat) (a:Int),s.Phases.drop i=r→i≤s.Phases.length→0≤a→a≤1000000→thenS (loop (U8 s lane) (a,(i:Int))) (fun _=>some false) (fun r=>some r)=some (HO lane a r):=by
  intro r
  induction r with
  |nil=>
   intro i a hi hil h0 h1
   have:=O0 hi
   obtain rfl:i=s.Phases.length:=by omega
   rw [C7 (t:= .inl ())]
   ·rfl
   ·unfold U8
    rw [H9];rfl
  |cons p r ih=>
   intro i a hi hil h0 h1
   have hlt:=M9 hi
   have hp:=V0 hi
   have hb:=S.ticks p (lG hp)
   by_cases hc:p.Ticks≤a
   ·have hs:U8 s lane (a,(i:Int))=some (.go (a - p.Ticks,((i+1:Nat):Int))):=by
      unfold U8
      dsimp only
      rw [K0 hlt,C3 hp,bO,lB,show decide (a≥p.Ticks)=true from bJ hc,bO,F1 (by omega),G8 hlt (by have:=S.many;omega)]
    rw [J2 hs,ih (i+1) _ (K5 hi) (by omega) (by omega) (by omega),HO,bQ hc]
   ·have hs:U8 s lane (a,(i:Int))=some (.out (.inr (p.Green.contains lane))):=by
      unfold U8
      dsimp only
      rw [K0 hlt,C3 hp,bO,lB,show decide (a≥p.Ticks)=false from bK (by omega),bP,Zl _ (S.green p (lG hp)),lB]
    rw [C7 hs,HO,bR hc];rfl
theorem nI {s:Signal}(S:SigOK s){tick:Int}(h:0≤tick):(D3 (s.Offset.tmod (Oq s.Phases)+tick.tmod (Oq s.Phases))).tmod (Oq s.Phases)=(s.Offset+tick) % Oq s.Phases:=by
  obtain ⟨h1,h2⟩:=S.sum
  have ho:=S.off.1
  rw [wQ ho,wQ h]
  have a1:=wR s.Offset (b:=Oq s.Phases) (by omega)
  have a2:=wR tick (b:=Oq s.Phases) (by omega)
  have a3:=wS s.Offset (b:=Oq s.Phases) (by omega)
  have a4:=wS tick (b:=Oq s.Phases) (by omega)
  rw [F1 (by omega),wQ (by omega),← Int.add_emod]
theorem OA {s:Signal}(S:SigOK s)(lane:Int){tick:Int}(h:0≤tick):Fk s lane tick=some (Wm s lane tick):=by
  obtain ⟨h1,h2⟩:=S.sum
  unfold Fk
  have e1:loop (Ci s) (0,0)=some (Oq s.Phases):=by
    have:=rF s S s.Phases 0 0 rfl (by omega) (by omega) (by have:=S.many;omega)
    rw [Int.zero_add]at this;exact this
  have hne:Oq s.Phases≠0:=by omega
  rw [e1,lB]
  unfold Vq
  rw [bR hne,lB,bR hne,lB,bR hne,lB,nI S h]
  refine rG s S lane s.Phases 0 _ rfl (by omega) (wR _ hne) ?_
  have:=wS (s.Offset+tick) (b:=Oq s.Phases) (by omega)
  omega
noncomputable def GK (m:Map)(g lane tick:Int):Bool:=(((decide (tick≥0))&& (decide (g≥0)))&& (decide (g< (m.Signals.length:Int))))&&QG m lane&&Wm (m.Signals.getD g.toNat default) lane tick
theorem gU {m:Map}(B:BearM m)(g lane tick:Int):Ic m g lane tick=some (GK m g lane tick):=by
  unfold Ic GK
  rw [Zk B]
  cases hc:(((decide (tick≥0))&& (decide (g≥0)))&& (decide (g< (m.Signals.length:Int))))
  ·rfl
  ·cases hi:QG m lane
   ·rfl
   ·simp only [bU,bM]at hc
    obtain ⟨⟨c1,c2⟩,c3⟩:=hc
    have hl:g.toNat<m.Signals.length:=by omega
    have hget:m.Signals[g.toNat]? =some (m.Signals.getD g.toNat default):=by rw [List.getD,lH hl];rfl
    have hg:C1 m.Signals g=some (m.Signals.getD g.toNat default):=by unfold C1;rw [bQ c2,hget]
    have S:=((isM_true.1 hi).2.2).sig B hget
    simp only [bO,lB,bS,hg,OA S lane c1]
theorem Mx {high:Int}: ∀{l:List Int} {low:Int},Cs high low l=true→l.Pairwise (· < ·)
  | [],_,_=>List.Pairwise.nil
  |n::r,low,h=>by
   simp only [Cs,bU]at h
   refine bB.2 ⟨fun x hx=> ?_,Mx h.2⟩
   have:=(Ll h.2 x hx).1
   omega
def Xf (m:Map)(z:Zone):Signal:=m.Signals.getD (z.Signal_ - 1).toNat default
def Kv (m:Map)(lane tick:Int)(z:Zone)(p:Part):Option Int:=if p.Lane_==lane&& !Wm (Xf m z) lane tick then some p.From else none
def Cu (m:Map)(lane tick:Int)(z:Zone):List Int:=if z.Signal_==0 then []else z.Parts.filterMap (Kv m lane tick z)
def LJ (m:Map)(lane tick:Int):List Int:=m.Zones.flatMap (Cu m lane tick)
theorem TF (m:Map)(lane tick:Int)(z:Zone): ∀l:List Part,(l.map (·.Lane_)).Pairwise (· < ·)→(l.filterMap (Kv m lane tick z)).length≤1
  | [],_=>by simp
  |p::r,h=>by
   obtain ⟨h1,h2⟩:=bB.1 h
   rw [List.filterMap_cons]
   by_cases e:p.Lane_=lane
   ·have:r.filterMap (Kv m lane tick z)= []:=by
      rw [List.filterMap_eq_nil_iff]
      intro q hq
      have:p.Lane_<q.Lane_:=h1 q.Lane_ (List.mem_map_of_mem hq)
      unfold Kv
      rw [show (q.Lane_==lane)=false by simp;omega];rfl
    rw [this]
    cases Kv m lane tick z p<;>simp
   ·have:Kv m lane tick z p=none:=by unfold Kv;rw [show (p.Lane_==lane)=false by simp [e]];rfl
    rw [this]
    exact TF m lane tick z r h2
theorem BO {m:Map}{z:Zone}(Z:ZoneOK m z)(lane tick:Int):(Cu m lane tick z).length≤1:=by
  unfold Cu
  split
  ·simp
  ·exact TF m lane tick z _ (Mx Z.rise)
theorem TG {m:Map}(lane tick:Int): ∀l:List Zone,(∀z∈l,ZoneOK m z)→(l.flatMap (Cu m lane tick)).length≤l.length
  | [],_=>by simp
  |z::r,h=>by
   rw [bF,lM,lL]
   have:=BO (h z (by simp)) lane tick
   have:=TG lane tick r fun y hy=>h y (List.mem_cons_of_mem _ hy)
   omega
theorem oX {m:Map}(B:BearM m)(V:ValR m)(lane:Int){tick:Int}(ht:0≤tick)(z:Zone)(Z:ZoneOK m z)(hz:z.Signal_≠0): ∀(r:List Part) (i:Nat) (out:List Int),z.Parts.drop i=r→i≤z.Parts.length→out.length+r.length≤1000→
    loop (Al m lane tick z) (out,(i:Int))=some (out++r.filterMap (Kv m lane tick z)):=by
  intro r
  induction r with
  |nil=>
   intro i out hi hil hl
   have:=O0 hi
   obtain rfl:i=z.Parts.length:=by omega
   refine C7 ?_
   unfold Al
   rw [H9];simp
  |cons p r ih=>
   intro i out hi hil hl
   have hlt:=M9 hi
   have hp:=V0 hi
   have hsz:=Z.six
   simp only [lL]at hl
   have hw:D3 (z.Signal_ - 1)=z.Signal_ - 1:=F1 (by have:=Z.sig;have:=V.signals;omega)
   have hk:(z.Signal_ - 1).toNat<m.Signals.length:=by have:=Z.sig;omega
   have hget:m.Signals[(z.Signal_ - 1).toNat]? =some (Xf m z):=by rw [Xf,List.getD,lH hk];rfl
   have hg:C1 m.Signals (z.Signal_ - 1)=some (Xf m z):=by unfold C1;rw [bQ (by have:=Z.sig;omega),hget]
   have hs:Al m lane tick z (out,(i:Int))=some (.go ((match Kv m lane tick z p with|some b=>out++ [b]|none=>out),((i+1:Nat):Int))):=by
     unfold Al Kv
     dsimp only
     rw [K0 hlt,C3 hp,bO,lB,hw,hg,G8 hlt (by omega)]
     cases p.Lane_==lane
     ·rfl
     ·simp only [bO,lB,bS]
      rw [OA (V.sig B hget) lane ht,lB]
      cases Wm (Xf m z) lane tick
      ·simp only [bX,bO,if_true]
       rw [Fc (by simp;omega),lB]
      ·rfl
   rw [J2 hs,List.filterMap_cons]
   cases Kv m lane tick z p with
   |none=>exact ih (i+1) out (K5 hi) (by omega) (by omega)
   |some b=>
    dsimp only
    rw [ih (i+1) (out++ [b]) (K5 hi) (by omega) (by simp;omega)]
    simp
theorem oY {m:Map}(B:BearM m)(V:ValR m)(lane:Int){tick:Int}(ht:0≤tick): ∀(r:List Zone) (i:Nat) (out:List Int),m.Zones.drop i=r→i≤m.Zones.length→out.length+r.length≤100→
    loop (Am m lane tick) (out,(i:Int))=some (out++r.flatMap (Cu m lane tick)):=by
  intro r
  induction r with
  |nil=>
   intro i out hi hil hl
   have:=O0 hi
   obtain rfl:i=m.Zones.length:=by omega
   refine C7 ?_
   unfold Am
   rw [H9];simp
  |cons z r ih=>
   intro i out hi hil hl
   have hlt:=M9 hi
   have hz:=V0 hi
   have Z:=V.zoneOK (lG hz)
   simp only [lL]at hl
   have hn:=V.zones
   have hs:Am m lane tick (out,(i:Int))=some (.go (out++Cu m lane tick z,((i+1:Nat):Int))):=by
     unfold Am Cu
     dsimp only
     rw [K0 hlt,C3 hz,bO,lB,G8 hlt (by omega)]
     by_cases e:z.Signal_=0
     ·rw [show (z.Signal_==0)=true by simp [e],bO,bQ rfl];simp
     ·rw [show (z.Signal_==0)=false by simp [e],bP,bR (by simp)]
      have:=oX B V lane ht z Z e z.Parts 0 out rfl (by omega) (by have:=Z.six;omega)
      have this':loop (Al m lane tick z) (out,0)=_:=this
      rw [this',lB]
   have:=BO Z lane tick
   rw [J2 hs,ih (i+1) _ (K5 hi) (by omega) (by rw [lM];omega),bF,lO]
/-- The red lines: strictly ascending, and those that there are. -/
theorem kW {m:Map}(B:BearM m)(V:ValR m)(lane:Int){tick:Int}(ht:0≤tick): ∃R,Nd m lane tick=some R∧R.Pairwise (· < ·)∧(∀x,x∈R↔x∈LJ m lane tick)∧R.length≤1000:=by
  have hlen:(LJ m lane tick).length≤12:=wL (TG lane tick m.Zones fun z hz=>V.zoneOK hz) V.zones
  have h1:loop (Am m lane tick) ([],0)=some (LJ m lane tick):=by
    have:=oY B V lane ht m.Zones 0 [] rfl (by omega) (by simp;have:=V.zones;omega)
    rw [lQ]at this
    exact this
  unfold Nd
  rw [h1,lB]
  cases q:LJ m lane tick with
  |nil=>exact ⟨[],by rw [gT];rfl,List.Pairwise.nil,fun x=> .rfl,by simp⟩
  |cons a l=>
   rw [q]at hlen
   obtain ⟨ys,g1,g2,g3⟩:=kV (a::l) hlen
   have hys:ys≠ []:=by rintro rfl;exact absurd g2.length_eq (by simp)
   have hc:EF ys=some (Er ys):=by cases ys with|nil=>exact absurd rfl hys|cons=>rfl
   refine ⟨Er ys,by rw [show List.isEmpty (a::l)=false from rfl,bP,g1,lB,hc];rfl,BN _ (g3.imp fun {a b} h=> ?_),fun x=>(CW _ _).trans g2.mem_iff,?_⟩
   ·simp only [YJ,wC]at h;omega
   ·have: ∀l:List Int,(Er l).length≤l.length:=by
      intro l
      induction l with
      |nil=>simp [Er]
      |cons a l ih=>
       cases l with
       |nil=>simp [Er]
       |cons b r=>
        rw [Er]
        cases a==b
        ·simp only [bP,lL]at ih ⊢;omega
        ·simp only [bO,lL]at ih ⊢;omega
    have h2:=this ys
    rw [g2.length_eq]at h2
    omega
theorem oZ {m:Map}(B:BearM m)(lane tick:Int): ∃R,Ew m lane tick=some R∧R.Pairwise (· < ·)∧(∀x,x∈R↔ (0≤tick∧QG m lane=true∧x∈LJ m lane tick))∧R.length≤1000:=by
  unfold Ew
  rw [Zk B]
  by_cases ht:tick<0
  ·exact ⟨[],by rw [show decide (tick<0)=true from bJ ht];rfl,List.Pairwise.nil,fun x=>⟨fun h=>absurd h (by simp),fun h=>by omega⟩,by simp⟩
  ·rw [show decide (tick<0)=false from bK ht]
   cases hi:QG m lane
   ·exact ⟨[],rfl,List.Pairwise.nil,fun x=>⟨fun h=>absurd h (by simp),fun h=>by cases h.2.1⟩,by simp⟩
   ·obtain ⟨R,g1,g2,g3,g4⟩:=kW B (isM_true.1 hi).2.2 lane (tick:=tick) (by omega)
    exact ⟨R,by simp only [bX,bO,lB,bW,Bool.or_false,bP,g1],g2,fun x=>(g3 x).trans ⟨fun h=>⟨by omega,rfl,h⟩,fun h=>h.2.2⟩,g4⟩
end Go.Abs.World
namespace Go.Abs
open Go
section
variable {α β σ τ:Type}
/-- What rounds put one behind the other. -/
def Ty (g:Nat→α→List β):Nat→List α→List β
  |_,[]=> []
  |i,a::r=>g i a++Ty g (i+1) r
theorem OB (g:Nat→α→List β)(C:Nat): ∀(l:List α) (i:Nat),(∀(j:Nat) a,l[j]? =some a→(g (i+j) a).length≤C)→(Ty g i l).length≤l.length*C
  | [],_,_=>by simp [Ty]
  |a::r,i,h=>by
   have h1:=h 0 a rfl
   have h2:=OB g C r (i+1) (fun j b hb=>by have:=h (j+1) b (by simpa using hb);rwa [show i+1+j=i+ (j+1) by omega])
   rw [Ty,lM,lL,Nat.succ_mul]
   rw [Nat.add_zero]at h1
   omega
end
end Go.Abs
namespace Go.Abs.World
open Go Go.Abs
theorem TH {z:Zone}(hl:z.Parts.length≤1000000)(k:Int):Sr z k=some (Kc z k):=by
  have key: ∀(r:List Part) (i:Nat),z.Parts.drop i=r→i≤z.Parts.length→thenS (loop (Gn z k) (i:Int)) (fun _=>some ((⟨0,0,0,0⟩:Part),false)) (fun r=>some r)=some (match r.find? (fun p=>p.Lane_==k)with|some p=>(p,true)|none=>(⟨0,0,0,0⟩,false)):=by
    intro r
    induction r with
    |nil=>
     intro i hi hil
     have:=O0 hi
     obtain rfl:i=z.Parts.length:=by omega
     rw [C7 (t:= .inl ()) (by unfold Gn;rw [H9];rfl)];rfl
    |cons p r ih=>
     intro i hi hil
     have hlt:=M9 hi
     have hp:=V0 hi
     rw [List.find?_cons]
     cases q:p.Lane_==k
     ·rw [J2 (s':=((i+1:Nat):Int)) (by unfold Gn;rw [K0 hlt,C3 hp,bO,lB,q,G8 hlt (by omega)];rfl)]
      exact ih (i+1) (K5 hi) (by omega)
     ·rw [C7 (t:= .inr (p,true)) (by unfold Gn;rw [K0 hlt,C3 hp,bO,lB,q,bO,lB])];rfl
  exact key z.Parts 0 rfl (by omega)
theorem qG (s:Signal)(S:SigOK s): ∀(r:List Phase) (i:Nat) (a:Int),s.Phases.drop i=r→i≤s.Phases.length→0≤a→a+10000*r.length≤1000000→loop (Ck s) (a,(i:Int))=some (a+Oq r):=by
  intro r
  induction r with
  |nil=>
   intro i a hi hil h0 h1
   have:=O0 hi
   obtain rfl:i=s.Phases.length:=by omega
   refine C7 ?_
   unfold Ck
   rw [H9];simp [Oq]
  |cons p r ih=>
   intro i a hi hil h0 h1
   have hlt:=M9 hi
   have hp:=V0 hi
   have hb:=S.ticks p (lG hp)
   simp only [lL]at h1
   have hs:Ck s (a,(i:Int))=some (.go (a+p.Ticks,((i+1:Nat):Int))):=by
     unfold Ck
     dsimp only
     rw [K0 hlt,C3 hp,bO,lB,F1 (by omega),G8 hlt (by have:=S.many;omega)]
   rw [J2 hs,ih (i+1) _ (K5 hi) (by omega) (by omega) (by omega),Oq]
   congr 1;omega
theorem qH (s:Signal)(S:SigOK s)(lane:Int): ∀(r:List Phase) (i:Nat) (a:Int),s.Phases.drop i=r→i≤s.Phases.length→0≤a→a≤1000000→thenS (loop (Ap s lane) (a,(i:Int))) (fun _=>some false) (fun r=>some r)=some (HO lane a r):=by
  intro r
  induction r with
  |nil=>
   intro i a hi hil h0 h1
   have:=O0 hi
   obtain rfl:i=s.Phases.length:=by omega
   rw [C7 (t:= .inl ())]
   ·rfl
   ·unfold Ap
    rw [H9];rfl
  |cons p r ih=>
   intro i a hi hil h0 h1
   have hlt:=M9 hi
   have hp:=V0 hi
   have hb:=S.ticks p (lG hp)
   by_cases hc:p.Ticks≤a
   ·have hs:Ap s lane (a,(i:Int))=some (.go (a - p.Ticks,((i+1:Nat):Int))):=by
      unfold Ap
      dsimp only
      rw [K0 hlt,C3 hp,bO,lB,show decide (a<p.Ticks)=false from bK (by omega),bP,lB,F1 (by omega),G8 hlt (by have:=S.many;omega)]
    rw [J2 hs,ih (i+1) _ (K5 hi) (by omega) (by omega) (by omega),HO,bQ hc]
   ·have hs:Ap s lane (a,(i:Int))=some (.out (.inr (p.Green.contains lane))):=by
      unfold Ap
      dsimp only
      rw [K0 hlt,C3 hp,bO,lB,show decide (a<p.Ticks)=true from bJ (by omega),bO,lB,WG _ (S.green p (lG hp)),lB]
    rw [C7 hs,HO,bR hc];rfl
theorem OD {s:Signal}(S:SigOK s)(lane:Int){tick:Int}(h:0≤tick):Ni s lane tick=some (Wm s lane tick):=by
  obtain ⟨h1,h2⟩:=S.sum
  unfold Ni
  have e1:loop (Ck s) (0,0)=some (Oq s.Phases):=by
    have:=qG s S s.Phases 0 0 rfl (by omega) (by omega) (by have:=S.many;omega)
    rw [Int.zero_add]at this;exact this
  have hne:Oq s.Phases≠0:=by omega
  rw [e1,lB]
  unfold Vq
  rw [bR hne,lB,bR hne,lB,bR hne,lB,nI S h]
  refine qH s S lane s.Phases 0 _ rfl (by omega) (wR _ hne) ?_
  have:=wS (s.Offset+tick) (b:=Oq s.Phases) (by omega)
  omega
theorem aM {m:Map}(B:BearM m)(g lane tick:Int):Qk m g lane tick=some (GK m g lane tick):=by
  unfold Qk GK
  rw [Ul B,lB]
  have e:(((QG m lane&& (decide (g≥0)))&& (decide (g< (m.Signals.length:Int))))&& (decide (tick≥0)))=((((decide (tick≥0))&& (decide (g≥0)))&& (decide (g< (m.Signals.length:Int))))&&QG m lane):=by
    cases QG m lane<;>cases decide (g≥0)<;>cases decide (g< (m.Signals.length:Int))<;>cases decide (tick≥0)<;>rfl
  rw [e]
  cases hc:((((decide (tick≥0))&& (decide (g≥0)))&& (decide (g< (m.Signals.length:Int))))&&QG m lane)
  ·rfl
  ·simp only [bU,bM]at hc
   obtain ⟨⟨⟨c1,c2⟩,c3⟩,c4⟩:=hc
   have hl:g.toNat<m.Signals.length:=by omega
   have hget:m.Signals[g.toNat]? =some (m.Signals.getD g.toNat default):=by rw [List.getD,lH hl];rfl
   have hg:C1 m.Signals g=some (m.Signals.getD g.toNat default):=by unfold C1;rw [bQ c2,hget]
   have S:=((isM_true.1 c4).2.2).sig B hget
   simp only [bO,lB,bS,hg,OD S lane c1]
theorem OE (m:Map)(lane tick:Int)(z:Zone): ∀l:List Part,(l.map (·.Lane_)).Pairwise (· < ·)→l.filterMap (Kv m lane tick z)=match l.find? (fun p=>p.Lane_==lane)with|some p=>if Wm (Xf m z) lane tick=true then []else [p.From]|none=> []
  | [],_=>rfl
  |p::r,h=>by
   obtain ⟨h1,h2⟩:=bB.1 h
   rw [List.filterMap_cons,List.find?_cons]
   by_cases e:p.Lane_=lane
   ·have:r.filterMap (Kv m lane tick z)= []:=by
      rw [List.filterMap_eq_nil_iff]
      intro q hq
      have:p.Lane_<q.Lane_:=h1 q.Lane_ (List.mem_map_of_mem hq)
      unfold Kv
      rw [show (q.Lane_==lane)=false by simp;omega];rfl
    rw [this,show (p.Lane_==lane)=true by simp [e]]
    unfold Kv
    rw [show (p.Lane_==lane)=true by simp [e]]
    cases Wm (Xf m z) lane tick<;>rfl
   ·have:Kv m lane tick z p=none:=by unfold Kv;rw [show (p.Lane_==lane)=false by simp [e]];rfl
    rw [this,show (p.Lane_==lane)=false by simp [e]]
    exact OE m lane tick z r h2
theorem kX (out:List Int)(q:Part×Bool)(i0:Int)(hl:out.length≤1000): ∀(r:List Int) (i:Nat),out.drop i=r→i≤out.length→loop (Cl (out,i0) q) (i:Int)=some ((i+ (r.takeWhile fun y=>decide (y<q.1.From)).length:Nat):Int):=by
  intro r
  induction r with
  |nil=>
   intro i hi hil
   have:=O0 hi
   obtain rfl:i=out.length:=by omega
   refine C7 ?_
   unfold Cl
   dsimp only
   rw [H9];rfl
  |cons y r ih=>
   intro i hi hil
   have hlt:=M9 hi
   have hy:=V0 hi
   rw [List.takeWhile_cons]
   by_cases hc:y<q.1.From
   ·rw [bQ (by simpa using hc),lL,J2 (s':=((i+1:Nat):Int)),ih (i+1) (K5 hi) (by omega)]
    ·congr 2;omega
    ·unfold Cl
     dsimp only
     rw [K0 hlt,C3 hy,bO,lB,show decide (y<q.1.From)=true from bJ hc,Bool.and_true,bO,G8 hlt (by omega)]
   ·rw [bR (by simpa using hc)]
    refine C7 ?_
    unfold Cl
    dsimp only
    rw [K0 hlt,C3 hy,bO,lB,show decide (y<q.1.From)=false from bK hc];rfl
theorem aN {α:Type}(L R:List α):AJ (L++R) 0 (L.length:Int)=some L:=by
  unfold AJ
  rw [bQ ⟨by omega,by omega,by simp;omega⟩]
  simp
theorem WO {α:Type}(L R:List α):AJ (L++R) (L.length:Int) ((L++R).length:Int)=some R:=by
  unfold AJ
  rw [bQ ⟨by omega,by simp;omega,by omega⟩,show (((L++R).length:Int)).toNat=(L++R).length from wF _,List.take_length,show ((L.length:Int)).toNat=L.length from wF _,List.drop_left]
theorem gV {α:Type}{p:α→Bool}: ∀{l:List α} {x:α},x∈l.takeWhile p→p x=true
  | [],_,h=>by simp at h
  |a::r,x,h=>by
   rw [List.takeWhile_cons]at h
   split at h
   ·rename_i ha
    rcases lU.1 h with rfl|h
    ·exact ha
    ·exact gV h
   ·simp at h
/-- A number is put into a list that is strictly ascending. -/
theorem gX (out:List Int)(x:Int)(hs:out.Pairwise (· < ·))(hl:out.length≤500): ∃out':List Int,∀(i':Int),((cond (decide (((out.takeWhile fun y=>decide (y<x)).length:Int)< (out.length:Int))) (C1 out ((out.takeWhile fun y=>decide (y<x)).length:Int)) (some default)).bind fun v6=>cond ((decide (((out.takeWhile fun y=>decide (y<x)).length:Int)< (out.length:Int)))&& (v6==x)) (some (.go (out,i'):Stp (List Int×Int) (List Int))) ((AJ out 0 ((out.takeWhile fun y=>decide (y<x)).length:Int)).bind fun v7=>(X6 ([]:List Int) v7).bind fun v8=>(X6 v8 [x]).bind fun v9=>(AJ out ((out.takeWhile fun y=>decide (y<x)).length:Int) (out.length:Int)).bind fun v10=>(X6 v9 v10).bind fun v11=>some (.go (v11,i'))))=some (.go (out',i'))∧
    out'.Pairwise (· < ·)∧(∀y,y∈out'↔y=x∨y∈out)∧out'.length≤out.length+1:=by
  have e:=List.takeWhile_append_dropWhile (p:=fun y=>decide (y<x)) (l:=out)
  have hL: ∀y∈out.takeWhile (fun y=>decide (y<x)),y<x:=fun y hy=>by
    have:=gV hy
    simpa using this
  have hR0: ∀y R',out.dropWhile (fun y=>decide (y<x))=y::R'→x≤y:=fun y R' h=>by
    have:=List.head?_dropWhile_not (fun y=>decide (y<x)) out
    rw [h]at this
    simp at this;exact this
  generalize out.takeWhile (fun y=>decide (y<x))=L at*
  generalize out.dropWhile (fun y=>decide (y<x))=R at*
  subst e
  have hll:L.length+R.length≤500:=by simpa using hl
  have hgo: ∀i':Int,((AJ (L++R) 0 (L.length:Int)).bind fun v7=>(X6 ([]:List Int) v7).bind fun v8=>(X6 v8 [x]).bind fun v9=>(AJ (L++R) (L.length:Int) ((L++R).length:Int)).bind fun v10=>(X6 v9 v10).bind fun v11=>some (.go (v11,i'):Stp (List Int×Int) (List Int)))=some (.go (L++x::R,i')):=fun i'=>by
    rw [aN,lB,Fc (by simp;omega),lB,lQ,Fc (by simp;omega),lB,WO,lB,Fc (by simp;omega),lB]
    simp
  obtain ⟨p1,p2,p3⟩:=bC.1 hs
  cases R with
  |nil=>
   refine ⟨L++ [x],fun i'=> ?_⟩
   have:=hgo i'
   refine ⟨?_,bC.2 ⟨p1,List.pairwise_singleton _ _,fun y hy z hz=>by rw [bI.1 hz];exact hL y hy⟩,fun y=>by simp [or_comm],by simp⟩
   rw [show decide ((L.length:Int)< ((L++ ([]:List Int)).length:Int))=false from bK (by simp)]
   simp only [bP,lB,bT]
   exact this
  |cons y R=>
   have hy:=hR0 y R rfl
   have hg:C1 (L++y::R) (L.length:Int)=some y:=Me _ _ _ _ rfl
   by_cases hxy:y=x
   ·subst hxy
    refine ⟨L++y::R,fun i'=>⟨?_,hs,fun z=>⟨.inr,fun h=>h.elim (fun h=>by rw [h];simp) id⟩,by simp⟩⟩
    rw [show decide ((L.length:Int)< ((L++y::R).length:Int))=true from bJ (by simp;omega)]
    simp only [bO,hg,lB,bS]
    rw [show (y==y)=true by simp];rfl
   ·refine ⟨L++x::y::R,fun i'=> ?_⟩
    have:=hgo i'
    obtain ⟨q1,q2⟩:=bB.1 p2
    refine ⟨?_,bC.2 ⟨p1,bB.2 ⟨fun z hz=> ?_,p2⟩,fun a ha b hb=> ?_⟩,fun z=>by simp only [lT,lU];constructor<;>(intro h;rcases h with h|h|h|h<;>simp [h]),by simp;omega⟩
    ·rw [show decide ((L.length:Int)< ((L++y::R).length:Int))=true from bJ (by simp;omega)]
     simp only [bO,hg,lB,bS]
     rw [show (y==x)=false by simp [hxy],bP]
     exact this
    ·rcases lU.1 hz with rfl|hz
     ·omega
     ·have:=q1 z hz;omega
    ·rcases lU.1 hb with rfl|hb
     ·exact hL a ha
     ·exact p3 a ha b hb
theorem pA {m:Map}(B:BearM m)(V:ValR m)(lane:Int){tick:Int}(ht:0≤tick): ∀(r:List Zone) (i:Nat) (out:List Int),m.Zones.drop i=r→i≤m.Zones.length→out.Pairwise (· < ·)→out.length+r.length≤100→
    ∃R,loop (Cm m lane tick) (out,(i:Int))=some R∧R.Pairwise (· < ·)∧(∀y,y∈R↔y∈out∨y∈r.flatMap (Cu m lane tick))∧R.length≤100:=by
  intro r
  induction r with
  |nil=>
   intro i out hi hil hs hl
   have:=O0 hi
   obtain rfl:i=m.Zones.length:=by omega
   refine ⟨out,C7 ?_,hs,fun y=>by simp,by simpa using hl⟩
   unfold Cm
   rw [H9];rfl
  |cons z r ih=>
   intro i out hi hil hs hl
   have hlt:=M9 hi
   have hz:=V0 hi
   have hzm:=lG hz
   have Z:=V.zoneOK hzm
   have hsg:=Z.sig
   have hns:=V.signals
   have hnz:=V.zones
   simp only [lL]at hl
   have hpl:z.Parts.length≤1000000:=by have:=Z.six;omega
   suffices h: ∃out',Cm m lane tick (out,(i:Int))=some (.go (out',((i+1:Nat):Int)))∧out'.Pairwise (· < ·)∧(∀y,y∈out'↔y∈out∨y∈Cu m lane tick z)∧out'.length≤out.length+1 by
     obtain ⟨out',g1,g2,g3,g4⟩:=h
     obtain ⟨R,k1,k2,k3,k4⟩:=ih (i+1) out' (K5 hi) (by omega) g2 (by omega)
     refine ⟨R,by rw [J2 g1];exact k1,k2,fun y=> ?_,k4⟩
     rw [k3,g3,bF,lT,or_assoc]
   unfold Cm
   dsimp only
   rw [K0 hlt,C3 hz,bO,lB,TH hpl,lB,G8 hlt (by omega),F1 (n:=z.Signal_ - 1) (by omega)]
   have hzl:Cu m lane tick z=if z.Signal_==0 then []else match z.Parts.find? (fun p=>p.Lane_==lane)with|some p=>if Wm (Xf m z) lane tick=true then []else [p.From]|none=> []:=by
     unfold Cu
     rw [OE m lane tick z z.Parts (Mx Z.rise)]
   have hskip:Cu m lane tick z= []→∃out',some (.go (out,((i+1:Nat):Int)):Stp (List Int×Int) (List Int))=some (.go (out',((i+1:Nat):Int)))∧out'.Pairwise (· < ·)∧(∀y,y∈out'↔y∈out∨y∈Cu m lane tick z)∧out'.length≤out.length+1:=fun h=>⟨out,rfl,hs,fun y=>by rw [h];simp,by omega⟩
   cases hp:z.Parts.find? (fun p=>p.Lane_==lane)with
   |none=>
    have hpm:Kc z lane=(⟨0,0,0,0⟩,false):=by unfold Kc;rw [hp]
    rw [hpm]
    simp only [bX,Bool.true_or,bW,bP,lB,bO]
    refine hskip ?_
    rw [hzl,hp]
    split<;>rfl
   |some p=>
    have hpm:Kc z lane=(p,true):=by unfold Kc;rw [hp]
    rw [hpm]
    by_cases h0:z.Signal_=0
    ·rw [show (z.Signal_==0)=true by simp [h0]]
     simp only [bW,bY,bP,lB,Bool.true_or,bO]
     refine hskip ?_
     rw [hzl,bQ (by simp [h0])]
    ·have hk:(z.Signal_ - 1).toNat<m.Signals.length:=by omega
     have hget:m.Signals[(z.Signal_ - 1).toNat]? =some (Xf m z):=by rw [Xf,List.getD,lH hk];rfl
     have hg:C1 m.Signals (z.Signal_ - 1)=some (Xf m z):=by unfold C1;rw [bQ (by omega),hget]
     rw [show (z.Signal_==0)=false by simp [h0]]
     simp only [bW,bY,bX,bO,lB,hg,OD (V.sig B hget) lane ht]
     rw [bR (by simp [h0]),hp]at hzl
     cases hgr:Wm (Xf m z) lane tick with
     |true=>
      rw [bO]
      refine hskip ?_
      rw [hzl,hgr];rfl
     |false=>
      rw [hgr]at hzl
      have hzl':Cu m lane tick z= [p.From]:=hzl
      have h2:loop (Cl (out,(i:Int)) (p,true)) 0=some (((out.takeWhile fun y=>decide (y<p.From)).length:Nat):Int):=by
        have:=kX out (p,true) (i:Int) (by omega) out 0 rfl (by omega)
        rw [wK]at this
        exact this
      obtain ⟨out',hk1⟩:=gX out p.From hs (by omega)
      obtain ⟨k1,k2,k3,k4⟩:=hk1 ((i+1:Nat):Int)
      rw [bP,h2,lB]
      exact ⟨out',k1,k2,fun y=>by rw [k3,hzl',bI,or_comm],k4⟩
theorem kY {m:Map}(B:BearM m)(lane tick:Int): ∃R,Ew m lane tick=some R∧Nj m lane tick=some R∧R.length≤1000:=by
  obtain ⟨R,r1,r2,r3,r4⟩:=oZ B lane tick
  refine ⟨R,r1,?_,r4⟩
  unfold Nj
  rw [Ul B,lB]
  by_cases ht:tick<0
  ·have:R= []:=List.eq_nil_iff_forall_not_mem.2 fun x hx=>by have:=(r3 x).1 hx;omega
   rw [this,show decide (tick<0)=true from bJ ht,Bool.or_true];rfl
  ·rw [show decide (tick<0)=false from bK ht,Bool.or_false]
   cases hi:QG m lane
   ·have:R= []:=List.eq_nil_iff_forall_not_mem.2 fun x hx=>by have:=(r3 x).1 hx;rw [hi]at this;cases this.2.1
    rw [this];rfl
   ·have V:=(isM_true.1 hi).2.2
    obtain ⟨R',k1,k2,k3,_⟩:=pA B V lane (tick:=tick) (by omega) m.Zones 0 [] rfl (by omega) List.Pairwise.nil (by simp;have:=V.zones;omega)
    have k1':loop (Cm m lane tick) ([],0)=some R':=k1
    have:R=R':=LI r2 k2 fun x=>by
      rw [r3,k3]
      exact ⟨fun h=> .inr h.2.2,fun h=>⟨by omega,hi,h.elim (fun h=>absurd h (by simp)) id⟩⟩
    unfold Tu
    rw [this,k1'];rfl
def FB (x y:Int):Int:=if x<y then -1 else if x>y then 1 else 0
def kZ (a b:Pass):Int:=if FB a.From b.From≠0 then FB a.From b.From else FB a.Zone_ b.Zone_
def Xg (a b:Pass):Bool:=decide (a.From<b.From∨a.From=b.From∧a.Zone_<b.Zone_)
theorem ltP_ok:LtOK Xg:=⟨fun a b h=>by simp only [Xg,bM,wC]at h ⊢;omega,fun a b c h1 h2=>by simp only [Xg,wC]at h1 h2 ⊢;omega⟩
theorem mA (a b:Pass):decide (kZ a b<0)=Xg a b:=by
  unfold kZ Xg FB
  rw [decide_eq_decide]
  split<;>(repeat' split)<;>omega
theorem qI (x y:Int):Bk [x,y]=some (if x≠0 then x else y):=by
  have f0:Aa [x,y] 0=some (if x≠0 then .out (.inr x)else .go 1):=by
    by_cases h:x=0
    ·subst h;rfl
    ·have hb:(x !=0)=true:=by simp [h]
     unfold Aa
     simp [C1,h,hb]
  have f1:Aa [x,y] 1=some (if y≠0 then .out (.inr y)else .go 2):=by
    by_cases h:y=0
    ·subst h;rfl
    ·have hb:(y !=0)=true:=by simp [h]
     unfold Aa
     simp [C1,h,hb]
  have f2:Aa [x,y] 2=some (.out (.inl ())):=rfl
  unfold Bk
  by_cases hx:x=0
  ·by_cases hy:y=0
   ·rw [J2 (by rw [f0,bR (by simp [hx])]),J2 (by rw [f1,bR (by simp [hy])]),C7 f2]
    subst hx hy;rfl
   ·rw [J2 (by rw [f0,bR (by simp [hx])]),C7 (by rw [f1,bQ hy]),bR (by simp [hx])];rfl
  ·rw [C7 (by rw [f0,bQ hx]),bQ hx];rfl
theorem Wn (a b:Int):Aj a b=some (FB a b):=by
  have h: ∀x:Int,W9 x=some false:=fun x=>by unfold W9;simp
  unfold Aj FB
  rw [h,h]
  simp only [lB,bP,XV]
  split<;>(repeat' split)<;>rfl
theorem Tb (a b:Int):Y7 a b=some (FB a b):=by
  have h: ∀x:Int,Jr x=some false:=fun x=>by unfold Jr;simp
  unfold Y7 FB
  rw [h,h]
  simp only [lB,bP,XV]
  split<;>(repeat' split)<;>rfl
theorem mB (a b:Pass):Cg a b=some (kZ a b):=by
  unfold Cg kZ
  rw [Wn,lB,Tb,lB,qI];rfl
theorem WP (P T:List Pass)(x:Pass)(Q:List Pass)(hs:Srt Xg Q)(hN:(P++Q++x::T).length≤1000000):
    ∃Q',loop (D1 (P.length:Int)) (((P.length+Q.length:Nat):Int),P++Q++x::T)=some (P++Q'++T)∧Q'.Perm (x::Q)∧Srt Xg Q':=by
  have hstop: ∀xs,D1 (P.length:Int) ((P.length:Int),xs)=some (.out xs):=fun xs=>by
    unfold D1
    simp only [show decide ((P.length:Int)>(P.length:Int))=false from bK (by omega),bP,bT,lB]
  have hF: ∀(U V:List Pass) (q y:Pass),P.length≤U.length→(U++q::y::V).length=(P++Q++x::T).length→D1 (P.length:Int) (((U.length:Int)+1),U++q::y::V)=some (if Xg y q then .go ((U.length:Int),U++y::q::V)else .out (U++q::y::V)):=fun U V q y hP hl=>by
    unfold D1
    have hb:U.length+2≤1000000:=by rw [← hl]at hN;simp at hN;omega
    have e1:D3 ((U.length:Int)+1 - 1)=(U.length:Int):=by rw [F1 (by omega)];omega
    have g1:C1 (U++q::y::V) ((U.length:Int)+1)=some y:=by rw [aL];exact Me _ _ _ _ (by simp)
    have g2:C1 (U++q::y::V) (U.length:Int)=some q:=Me _ _ _ _ rfl
    have s1:Lx (U++q::y::V) ((U.length:Int)+1) q=U++q::q::V:=by rw [aL,Ve _ _ _ _ _ (by simp)];simp
    have g3:C1 (U++q::q::V) (U.length:Int)=some q:=Me _ _ _ _ rfl
    have s2:Lx (U++q::q::V) (U.length:Int) y=U++y::q::V:=Ve _ _ _ _ _ rfl
    simp only [show decide (((U.length:Int)+1)>(P.length:Int))=true from bJ (by omega),bO,bS,e1,g1,g2,s1,g3,s2,lB,mB,mA]
    cases Xg y q<;>rfl
  obtain ⟨Q',h1,h2,h3⟩:=GJ ltP_ok (P:=P) (T:=T) (P++Q++x::T).length hstop hF x Q.length Q [] rfl (by simpa using hs) (by simp) (by simp)
  refine ⟨Q',?_,by simpa using h2,h3⟩
  rw [← h1];congr 1;simp
theorem QK (P A S:List Pass)(hN:(P++A++S).length≤1000000):
    ∃A',D5 (P++A++S) (P.length:Int) ((P.length+A.length:Nat):Int)=some (P++A'++S)∧A'.Perm A∧Srt Xg A':=by
  unfold D5
  have hend: ∀(xs:List Pass) (i:Nat),P.length+A.length≤i→D8 (P.length:Int) ((P.length+A.length:Nat):Int) ((i:Int),xs)=some (.out xs):=fun xs i hi=>by
    unfold D8
    rw [show decide ((i:Int)< ((P.length+A.length:Nat):Int))=false from bK (by omega)];rfl
  simp only [lM]at hN
  have hw:D3 ((P.length:Int)+1)=((P.length+1:Nat):Int):=by rw [F1 (by omega)];omega
  cases A with
  |nil=>
   refine ⟨[],?_,by simp,List.Pairwise.nil⟩
   rw [hw,C7 (hend _ _ (by simp))]
  |cons a A=>
   have hF: ∀(Q R:List Pass) (x:Pass),(P++Q++x::R++S).length=(P++a::A++S).length→P.length+Q.length<P.length+ (a::A).length→Srt Xg Q→∃Q',D8 (P.length:Int) ((P.length+ (a::A).length:Nat):Int) (((P.length+Q.length:Nat):Int),P++Q++x::R++S)=some (.go (((P.length+Q.length+1:Nat):Int),P++Q'++R++S))∧Q'.Perm (x::Q)∧Srt Xg Q':=fun Q R x hl hb hs=>by
     obtain ⟨Q',k1,k2,k3⟩:=WP P (R++S) x Q hs (by simp only [lM,lL]at hl hN ⊢;omega)
     refine ⟨Q',?_,k2,k3⟩
     unfold D8
     have e1:P++Q++x::R++S=P++Q++x::(R++S):=by simp
     rw [show decide (((P.length+Q.length:Nat):Int)< ((P.length+ (a::A).length:Nat):Int))=true from bJ (by omega),bO]
     simp only [e1,k1,lB]
     rw [F1 (by simp only [lL]at hN hb;omega)]
     simp
   obtain ⟨A',h1,h2,h3⟩:=NZ (lt:=Xg) (P:=P) (S:=S) (P++a::A++S).length (P.length+ (a::A).length) hend hF A [a] (by simp) (by simp;omega) (List.pairwise_singleton _ _)
   refine ⟨A',?_,h2,h3⟩
   rw [hw,← h1];congr 1;simp
theorem mC (x y:Nat)(h:x+y≤4000000):D3 ((IntKind.wrap .u64 (D3 ((x:Int)+ (y:Int)))).fdiv (2^ (min (1:Int).toNat (IntKind.bits .u64))))=(((x+y) / 2:Nat):Int):=by
  rw [F1 (n:=(x:Int)+ (y:Int)) (by omega)]
  have e:IntKind.wrap .u64 ((x:Int)+ (y:Int))=(x:Int)+ (y:Int):=by
    unfold IntKind.wrap
    simp only [IntKind.signed,IntKind.bits,bT,Bool.false_eq_true,if_false]
    omega
  rw [e,show (2:Int)^ (min (1:Int).toNat (IntKind.bits .u64))=2 from rfl,Int.fdiv_eq_ediv_of_nonneg _ (by omega),F1 (by omega)]
  omega
def BlkS (w:Nat)(l:List Pass):Prop:= ∀i,Srt Xg ((l.drop (i*w)).take w)
theorem BlkS.cons {w:Nat}{M R:List Pass}(hM:M.length=w)(h1:Srt Xg M)(h2:BlkS w R):BlkS w (M++R):=by
  intro i
  cases i with
  |zero=>rw [Nat.zero_mul,List.drop_zero,List.take_append_of_le_length (by omega),List.take_of_length_le (by omega)];exact h1
  |succ i=>
   have:=h2 i
   rw [wJ,Nat.one_mul,List.drop_append,List.drop_eq_nil_of_le (by omega),lQ,show i*w+w - M.length=i*w by omega]
   exact this
theorem BlkS.last {w:Nat}{M:List Pass}(hM:M.length≤w)(h1:Srt Xg M):BlkS w M:=by
  intro i
  exact h1.sublist ((List.take_sublist _ _).trans (List.drop_sublist _ _))
theorem BlkS.drop {w:Nat}{R:List Pass}(h:BlkS w R):BlkS w (R.drop w):=by
  intro i
  have:=h (i+1)
  rwa [wJ,Nat.one_mul,Nat.add_comm,← List.drop_drop]at this
theorem BlkS.head {w:Nat}{R:List Pass}(h:BlkS w R):Srt Xg (R.take w):=by
  have:=h 0
  rwa [Nat.zero_mul,List.drop_zero]at this
theorem qJ (n:Nat)(hn:n≤100): ∀(k:Nat) (R D:List Pass),R.length≤k→D.length+R.length=n→
    ∃y R',loop (E1 (n:Int)) ((D.length:Int),((D.length+20:Nat):Int),D++R)=some y∧D5 y.2 y.1 (n:Int)=some (D++R')∧BlkS 20 R'∧R'.Perm R:=by
  intro k
  induction k with
  |zero=>
   intro R D hk hl
   obtain rfl:=List.length_eq_zero_iff.1 (show R.length=0 by omega)
   obtain ⟨A',g1,g2,g3⟩:=QK D [] [] (by simp;omega)
   simp only [lP,lN,Nat.add_zero]at g1 hl ⊢
   refine ⟨_,A',C7 (t:=((D.length:Int),D)) ?_,by rw [← hl];exact g1, .last (by rw [g2.length_eq];simp) g3,g2⟩
   unfold E1
   rw [show decide (((D.length+20:Nat):Int)≤(n:Int))=false from bK (by omega)];rfl
  |succ k ih=>
   intro R D hk hl
   by_cases h20:20≤R.length
   ·have eR:=List.take_append_drop 20 R
    have l1:(R.take 20).length=20:=by rw [lV];omega
    obtain ⟨A',g1,g2,g3⟩:=QK D (R.take 20) (R.drop 20) (by rw [lO,eR];simp;omega)
    have lA:A'.length=20:=by rw [g2.length_eq];exact l1
    rw [l1,lO,eR]at g1
    obtain ⟨y,R',k1,k2,k3,k4⟩:=ih (R.drop 20) (D++A') (by rw [List.length_drop];omega) (by rw [lM,List.length_drop];omega)
    refine ⟨y,A'++R',?_,by rw [k2,lO], .cons lA g3 k3,?_⟩
    ·rw [← k1,show (D++A').length=D.length+20 by rw [lM,lA]]
     refine J2 ?_
     unfold E1
     simp only [show decide (((D.length+20:Nat):Int)≤(n:Int))=true from bJ (by omega),bO,g1,lB]
     rw [F1 (n:=((D.length+20:Nat):Int)+20) (by omega)]
     simp
    ·exact (g2.append k4).trans (by rw [eR])
   ·obtain ⟨A',g1,g2,g3⟩:=QK D R [] (by simp;omega)
    simp only [lP]at g1
    rw [hl]at g1
    refine ⟨_,A',C7 (t:=((D.length:Int),D++R)) ?_,g1, .last (by rw [g2.length_eq];omega) g3,g2⟩
    unfold E1
    rw [show decide (((D.length+20:Nat):Int)≤(n:Int))=false from bK (by omega)];rfl
theorem aO (xs:List Pass)(h:xs.length≤19): ∃ys,F9 xs=some ys∧ys.Perm xs∧Srt Xg ys:=by
  obtain ⟨y,R,k1,k2,k3,k4⟩:=qJ xs.length (by omega) xs.length xs [] (wH _) (by simp)
  refine ⟨R,?_,k4,?_⟩
  ·unfold F9 J8
   have k1':loop (E1 (xs.length:Int)) (0,20,xs)=some y:=k1
   have k2':D5 y.2 y.1 (xs.length:Int)=some R:=k2
   have g1':loop (G9 (xs.length:Int) R) 20=some R:=by
     refine C7 ?_
     unfold G9
     rw [show decide ((20:Int)< (xs.length:Int))=false from bK (by omega)];rfl
   simp only [k1',lB,k2',g1']
  ·have:=k3.head
   rwa [List.take_of_length_le (by rw [k4.length_eq];omega)]at this
theorem CX:G0=some ():=by
  have i0:E8 0 0=some ():=by
    unfold E8
    exact C7 rfl
  have h1:loop (I6 0) (0,20)=some 0:=C7 rfl
  have h2:loop (I5 0) 20=some ():=C7 rfl
  unfold G0 J9
  simp only [h1,lB,i0,h2]
end Go.Abs.World
