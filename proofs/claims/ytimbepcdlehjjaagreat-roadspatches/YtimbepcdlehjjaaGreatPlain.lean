/-
  Plain facts on the functions: what they compute, and that the law holds of it.
-/
import Derived.Test.YtimbepcdlehjjaaGreatFns3
set_option maxRecDepth 100000
set_option synthInstance.maxHeartbeats 0
set_option synthInstance.maxSize 100000
set_option linter.unusedVariables false
namespace Go.Abs.Roadsz
open Go Go.Abs
noncomputable def Dv (p1:Map)(v1:Lane)(x2:Int):Option (Stp Int (Sum Unit Int)):=
  cond (decide (x2< (v1.Next.length:Int))) ((E8 v1.Next x2).bind fun v2=>(E8 p1.Lanes v2).bind fun v3=>cond (v3.Kind !=v1.Kind) (some (.out (.inr 4))) ((E8 v3.Curve_.Pts 0).bind fun v4=>(E8 v1.Curve_.Pts (H6 ((v1.Curve_.Pts.length:Int) - 1))).bind fun v5=>cond (!(v4.X==v5.X&& (v4.Y==v5.Y&&true))) (some (.out (.inr 3))) (some (.go (H6 (x2+1)))))) (some (.out (.inl ())))
noncomputable def Dw [Lp](p1:Map)(x1:Int):Option (Stp Int (Sum Unit Int)):=
  cond (decide (x1< (p1.Lanes.length:Int))) ((E8 p1.Lanes x1).bind fun v1=>thenS (loop (Dv p1 v1) 0) (fun _=>some (.go (H6 (x1+1)))) (fun r=>some (.out (.inr r)))) (some (.out (.inl ())))
noncomputable def Mz [Lp](p1:Map):Option Int:=
  thenS (loop (Dw p1) 0) (fun _=>some 0) (fun r=>some r)
instance (a)(b)(c)(d):Le (@R4 Bs a b c d) (R4 a b c d):=by unfold R4;infer_instance
instance:Le (@Jj Bs) (Jj):=by unfold Jj;infer_instance
instance (a):Le (@Fc Bs a) (Fc a):=by unfold Fc;infer_instance
instance curve_root_le (a):Le (@Cp Bs a) (Cp a):=by unfold Cp;infer_instance
instance (a)(b):Le (@U1 Bs a b) (U1 a b):=by unfold U1;infer_instance
instance (a):Le (@Ca Bs a) (Ca a):=by unfold Ca;infer_instance
instance (a)(b)(c):Le (@Y5 Bs a b c) (Y5 a b c):=by unfold Y5;infer_instance
instance (a)(b):Le (@N5 Bs a b) (N5 a b):=by unfold N5;infer_instance
instance (a):Le (@R7 Bs a) (R7 a):=by unfold R7;infer_instance
instance (a)(b):Le (@M7 Bs a b) (M7 a b):=by unfold M7;infer_instance
instance (a):Le (@Q6 Bs a) (Q6 a):=by unfold Q6;infer_instance
instance (a):Le (@E1 Bs a) (E1 a):=by unfold E1;infer_instance
instance (a):Le (@C5 Bs a) (C5 a):=by unfold C5;infer_instance
instance (a)(b):Le (@P4 Bs a b) (P4 a b):=by unfold P4;infer_instance
instance (a)(b)(c):Le (@C2 Bs a b c) (C2 a b c):=by unfold C2;infer_instance
instance (a)(b):Le (@D9 Bs a b) (D9 a b):=by unfold D9;infer_instance
instance (a)(b):Le (@C3 Bs a b) (C3 a b):=by unfold C3;infer_instance
instance (a)(b):Le (@L5 Bs a b) (L5 a b):=by unfold L5;infer_instance
instance (a):Le (@P2 Bs a) (P2 a):=by unfold P2;infer_instance
instance piecesGo_le (pts:List Spot): ∀(n i:Nat) (s:Int),Le (@Ec Bs pts n i s) (Ec pts n i s)
  |0,i,s=>Le.refl _
  |n+1,i,s=>by
   unfold Ec
   have:=fun i s=>piecesGo_le pts n i s
   infer_instance -- curve_root_le
instance (a):Le (@Kp Bs a) (Kp a):=by unfold Kp;infer_instance
instance (a):Le (@Cb Bs a) (Cb a):=by unfold Cb;infer_instance
instance curve_Length_le (a):Le (@Ak Bs a) (Ak a):=by unfold Ak;infer_instance
instance (a)(b):Le (@V6 Bs a b) (V6 a b):=by unfold V6;infer_instance
instance (a)(b)(c):Le (@N6 Bs a b c) (N6 a b c):=by unfold N6;infer_instance
instance (a)(b):Le (@N7 Bs a b) (N7 a b):=by unfold N7;infer_instance
instance (a):Le (@R8 Bs a) (R8 a):=by unfold R8;infer_instance
instance (a)(b):Le (@N8 Bs a b) (N8 a b):=by unfold N8;infer_instance
instance (a):Le (@R9 Bs a) (R9 a):=by unfold R9;infer_instance
instance (a)(b):Le (@P5 Bs a b) (P5 a b):=by unfold P5;infer_instance
instance (a)(b):Le (@K9 Bs a b) (K9 a b):=by unfold K9;infer_instance
instance roads_Check_le (a):Le (@Q5 Bs a) (Q5 a):=by unfold Q5;infer_instance
instance (a)(b):Le (@S6 Bs a b) (S6 a b):=by unfold S6;infer_instance
instance (a)(b):Le (@I5 Bs a b) (I5 a b):=by unfold I5;infer_instance
instance (a)(b)(c):Le (@W8 Bs a b c) (W8 a b c):=by unfold W8;infer_instance
instance (a)(b):Le (@Y8 Bs a b) (Y8 a b):=by unfold Y8;infer_instance
instance (a)(b)(c):Le (@W5 Bs a b c) (W5 a b c):=by unfold W5;infer_instance
instance (a)(b):Le (@Ay Bs a b) (Ay a b):=by unfold Ay;infer_instance
instance (a)(b)(c):Le (@Bu Bs a b c) (Bu a b c):=by unfold Bu;infer_instance
instance (a)(b):Le (@Ft Bs a b) (Ft a b):=by unfold Ft;infer_instance
instance (a)(b)(c):Le (@Gv Bs a b c) (Gv a b c):=by unfold Gv;infer_instance
instance (a)(b):Le (@G4 Bs a b) (G4 a b):=by unfold G4;infer_instance
instance (a)(b):Le (@Bf Bs a b) (Bf a b):=by unfold Bf;infer_instance
instance (a)(b)(c)(d):Le (@W9 Bs a b c d) (W9 a b c d):=by unfold W9;infer_instance
instance (a)(b)(c):Le (@An Bs a b c) (An a b c):=by unfold An;infer_instance
instance (a)(b):Le (@Z8 Bs a b) (Z8 a b):=by unfold Z8;infer_instance
instance (a):Le (@Dk Bs a) (Dk a):=by unfold Dk;infer_instance
instance (a)(b)(c):Le (@F9 Bs a b c) (F9 a b c):=by unfold F9;infer_instance
instance (a)(b)(c):Le (@F5 Bs a b c) (F5 a b c):=by unfold F5;infer_instance
instance (a)(b)(c):Le (@Au Bs a b c) (Au a b c):=by unfold Au;infer_instance
instance (a)(b)(c):Le (@S7 Bs a b c) (S7 a b c):=by unfold S7;infer_instance
instance (a)(b)(c)(d):Le (@D7 Bs a b c d) (D7 a b c d):=by unfold D7;infer_instance
instance (a)(b)(c):Le (@F8 Bs a b c) (F8 a b c):=by unfold F8;infer_instance
instance (a)(b)(c):Le (@E9 Bs a b c) (E9 a b c):=by unfold E9;infer_instance
instance (a)(b)(c)(d):Le (@S8 Bs a b c d) (S8 a b c d):=by unfold S8;infer_instance
instance (a)(b)(c)(d)(e):Le (@D2 Bs a b c d e) (D2 a b c d e):=by unfold D2;infer_instance
instance (a)(b)(c)(d):Le (@F7 Bs a b c d) (F7 a b c d):=by unfold F7;infer_instance
instance (a)(b)(c)(d):Le (@D3 Bs a b c d) (D3 a b c d):=by unfold D3;infer_instance
instance (a)(b):Le (@X0 Bs a b) (X0 a b):=by unfold X0;infer_instance
instance (a):Le (@Ck Bs a) (Ck a):=by unfold Ck;infer_instance
instance (a)(b)(c)(d):Le (@X1 Bs a b c d) (X1 a b c d):=by unfold X1;infer_instance
instance (a)(b):Le (@X2 Bs a b) (X2 a b):=by unfold X2;infer_instance
instance (a):Le (@Cl Bs a) (Cl a):=by unfold Cl;infer_instance
instance (a)(b)(c):Le (@V0 Bs a b c) (V0 a b c):=by unfold V0;infer_instance
instance (a)(b):Le (@U2 Bs a b) (U2 a b):=by unfold U2;infer_instance
instance (a)(b)(c):Le (@Cr Bs a b c) (Cr a b c):=by unfold Cr;infer_instance
instance (a)(b)(c)(d)(e)(f):Le (@H8 Bs a b c d e f) (H8 a b c d e f):=by unfold H8;infer_instance
instance (a)(b)(c)(d)(e):Le (@K6 Bs a b c d e) (K6 a b c d e):=by unfold K6;infer_instance
instance (a)(b)(c):Le (@K7 Bs a b c) (K7 a b c):=by unfold K7;infer_instance
instance (a)(b):Le (@N1 Bs a b) (N1 a b):=by unfold N1;infer_instance
instance (a):Le (@Dl Bs a) (Dl a):=by unfold Dl;infer_instance
instance (a)(b)(c):Le (@S9 Bs a b c) (S9 a b c):=by unfold S9;infer_instance
instance (a)(b)(c)(d):Le (@C9 Bs a b c d) (C9 a b c d):=by unfold C9;infer_instance
instance (a)(b)(c):Le (@E7 Bs a b c) (E7 a b c):=by unfold E7;infer_instance
instance (a)(b)(c):Le (@D0 Bs a b c) (D0 a b c):=by unfold D0;infer_instance
instance (a)(b)(c)(d):Le (@T4 Bs a b c d) (T4 a b c d):=by unfold T4;infer_instance
instance (a)(b)(c)(d)(e)(f)(g):Le (@G8 Bs a b c d e f g) (G8 a b c d e f g):=by unfold G8;infer_instance
instance (a)(b)(c)(d)(e)(f):Le (@J9 Bs a b c d e f) (J9 a b c d e f):=by unfold J9;infer_instance
instance (a)(b)(c)(d):Le (@K0 Bs a b c d) (K0 a b c d):=by unfold K0;infer_instance
instance (a)(b)(c):Le (@L6 Bs a b c) (L6 a b c):=by unfold L6;infer_instance
instance (a):Le (@Cm Bs a) (Cm a):=by unfold Cm;infer_instance
instance roads_Fit_le (a):Le (@Ei Bs a) (Ei a):=by unfold Ei;infer_instance
instance (a)(b):Le (@Jz Bs a b) (Jz a b):=by unfold Jz;infer_instance
instance (a)(b):Le (@Fu Bs a b) (Fu a b):=by unfold Fu;infer_instance
instance (a)(b)(c)(d):Le (@Gw Bs a b c d) (Gw a b c d):=by unfold Gw;infer_instance
instance law03_awake_le:Le (@Ff Bs) (Ff):=by unfold Ff;infer_instance
theorem Ed (n:Int): ∃y,Cp n=some (y,y*y==n)∧0≤y∧y≤67108864∧(∀m,0≤m→m<y→m*m<n)∧(y=67108864∨n≤y*y):=by
  have key:=MT (f:=Gc n) (fun x=>0≤x.1∧x.1≤x.2∧x.2≤67108864∧(∀m,0≤m→m<x.1→m*m<n)∧(x.2=67108864∨n≤x.2*x.2)) (fun x=>(x.2 - x.1).toNat)
    (fun y=>0≤y∧y≤67108864∧(∀m,0≤m→m<y→m*m<n)∧(y=67108864∨n≤y*y)) (by
      rintro ⟨lo,hi⟩ ⟨h1,h2,h3,h4,h5⟩
      dsimp only at h1 h2 h3 h4 h5
      unfold Gc
      dsimp only
      by_cases hlt:lo<hi
      ·have e1:H6 (lo+hi)=lo+hi:=R5 (by omega)
       have e2:H6 ((lo+hi).tdiv 2)=(lo+hi) / 2:=by rw [Int.tdiv_eq_ediv_of_nonneg (by omega)];exact R5 (by omega)
       have hm:lo≤(lo+hi) / 2∧(lo+hi) / 2<hi:=by omega
       generalize hmid:(lo+hi) / 2=mid at*
       have hmm:mid*mid≤67108864*67108864:=SQ (by omega) (by omega)
       have hmm0:=Zj mid
       have e3:H6 (mid*mid)=mid*mid:=R5 (by omega)
       have e4:H6 (mid+1)=mid+1:=R5 (by omega)
       simp only [e1,e2,e3,e4,hlt,decide_true,bC]
       by_cases hc:mid*mid<n
       ·simp only [hc,decide_true,bC]
        refine ⟨_,rfl,⟨by omega,by omega,h3,fun m hm0 hm1=> ?_,h5⟩,by dsimp only;omega⟩
        rcases Int.lt_or_le m mid with q|q
        ·have:=Int.mul_le_mul (show m≤mid by omega) (show m≤mid by omega) hm0 (by omega);omega
        ·have:m=mid:=by dsimp only at hm1;omega
         subst this;exact hc
       ·simp only [hc,decide_false,bD]
        exact ⟨_,rfl,⟨h1,by dsimp only;omega,by dsimp only;omega,h4, .inr (by dsimp only;omega)⟩,by dsimp only;omega⟩
      ·simp only [hlt,decide_false,bD]
       obtain rfl:lo=hi:=by omega
       exact ⟨_,rfl,h1,h3,h4,h5⟩) (0,67108864) ⟨by decide,by decide,by decide,fun m h1 h2=>by dsimp only at h2;omega, .inl rfl⟩
  obtain ⟨y,hy,h1,h2,h3,h4⟩:=key
  refine ⟨y,?_,h1,h2,h3,h4⟩
  have hmm:y*y≤67108864*67108864:=SQ (by omega) (by omega)
  have hmm0:=Zj y
  unfold Cp
  rw [hy,lA,R5 (by omega)]
/-- The least number whose square is not less. -/
noncomputable def rt (n:Int):Int:=(Ed n).choose
theorem Pv (n:Int):Cp n=some (rt n,rt n*rt n==n):=(Ed n).choose_spec.1
theorem JP (n:Int):0≤rt n:=(Ed n).choose_spec.2.1
theorem UF (n m:Int)(h1:0≤m)(h2:m<rt n):m*m<n:=(Ed n).choose_spec.2.2.2.1 m h1 h2
theorem UG (n:Int):rt n=67108864∨n≤rt n*rt n:=(Ed n).choose_spec.2.2.2.2
theorem VZ {l:Int}(h0:0≤l)(h1:l≤67108864):rt (l*l)=l:=by
  rcases Int.lt_trichotomy (rt (l*l)) l with q|q|q
  ·rcases UG (l*l)with h|h
   ·omega
   ·have h2:=JP (l*l)
    have:=Int.mul_lt_mul' (show rt (l*l)≤l by omega) q h2 (by omega);omega
  ·exact q
  ·have:=UF (l*l) l h0 q;omega
def Xj (p:Spot):Bool:=decide (-16777216≤p.X)&&decide (p.X≤16777216)&&decide (-16777216≤p.Y)&&decide (p.Y≤16777216)
theorem okS_iff {p:Spot}:Xj p=true↔ -16777216≤p.X∧p.X≤16777216∧ -16777216≤p.Y∧p.Y≤16777216:=by simp [Xj,and_assoc]
theorem JQ (p:Spot):((decide ((Fi false p.X p.Y)< (-16777216)))||(decide ((Fi true p.X p.Y)>16777216)))= !Xj p:=by
  rw [HT,QV]
  cases h:Xj p with
  |true=>have:=okS_iff.1 h;simp;omega
  |false=>
   have: ¬(-16777216≤p.X∧p.X≤16777216∧ -16777216≤p.Y∧p.Y≤16777216):=fun q=>by rw [okS_iff.2 q]at h;cases h
   simp;omega
theorem Yl (l:List Spot)(hl:l.length≤1000000): ∀(r:List Spot) (i:Nat),l.drop i=r→loop (Co l) (i:Int)=some (if r.all Xj then .inl ()else .inr false):=by
  intro r
  induction r with
  |nil=>
   intro i hi
   have:=Cy hi
   refine N4 ?_
   unfold Co
   simp only [show ¬(i:Int)<l.length by omega,decide_false,bD,List.all_nil,if_true]
  |cons p r ih=>
   intro i hi
   have hlt:=Eo hi
   have hstep:Co l (i:Int)=if Xj p then some (.go ((i+1:Nat):Int))else some (.out (.inr false)):=by
     unfold Co
     simp only [show (i:Int)<l.length by omega,decide_true,bC,Ll hi,lA,JQ]
     cases h:Xj p with
     |true=>simp only [bI,bD,if_true];rw [R5 (by omega)];rfl
     |false=>simp
   cases h:Xj p with
   |true=>
    rw [h,bE rfl]at hstep
    rw [X5 hstep,ih (i+1) (X8 hi)]
    simp [h]
   |false=>
    rw [h]at hstep
    rw [N4 hstep]
    simp [h]
theorem Ym (l:List Spot)(hl:l.length≤1000000):Fc l=some (l.all Xj):=by
  unfold Fc
  have:=Yl l hl l 0 (by simp)
  rw [show ((0:Nat):Int)=0 from rfl]at this
  rw [this]
  cases l.all Xj<;>rfl
def V1 (p q:Spot):CurveVector:=⟨q.X - p.X,q.Y - p.Y⟩
def T7 (v w:CurveVector):Int:=v.x*w.x+v.y*w.y
/-- A vector between valid spots. -/
def RK (v:CurveVector):Prop:= -33554432≤v.x∧v.x≤33554432∧ -33554432≤v.y∧v.y≤33554432
theorem IA {p q:Spot}(hp:Xj p=true)(hq:Xj q=true):RK (V1 p q):=by
  have:=okS_iff.1 hp;have:=okS_iff.1 hq
  unfold RK V1;dsimp only;omega
theorem Pw {p q:Spot}(hp:Xj p=true)(hq:Xj q=true):Hy p q=some (V1 p q):=by
  have:=okS_iff.1 hp;have:=okS_iff.1 hq
  unfold Hy V1
  rw [R5 (by omega),R5 (by omega)]
theorem UH {v w:CurveVector}(hv:RK v)(hw:RK w): -2251799813685248≤T7 v w∧T7 v w≤2251799813685248∧(-1125899906842624≤v.x*w.x∧v.x*w.x≤1125899906842624)∧ -1125899906842624≤v.y*w.y∧v.y*w.y≤1125899906842624:=by
  obtain ⟨a1,a2,a3,a4⟩:=hv
  obtain ⟨b1,b2,b3,b4⟩:=hw
  have h1:=NA ⟨a1,a2⟩ ⟨b1,b2⟩
  have h2:=NA ⟨a3,a4⟩ ⟨b3,b4⟩
  unfold T7
  omega
theorem Ml {v w:CurveVector}(hv:RK v)(hw:RK w):X9 v w=some (T7 v w):=by
  have h:=UH hv hw
  unfold X9
  rw [R5 (n:=v.x*w.x) (by omega),R5 (n:=v.y*w.y) (by omega),R5 (by unfold T7 at h;omega)]
  rfl
def vs (v:CurveVector):Spot:=⟨v.x,v.y⟩
/-- The error of a chain of points, from a piece on; the piece ahead of it. -/
noncomputable def JR:Option CurveVector→List Spot→Int
  |last,p::q::r=>
   if rt (T7 (V1 p q) (V1 p q))*rt (T7 (V1 p q) (V1 p q))≠T7 (V1 p q) (V1 p q)then 3
   else if rt (T7 (V1 p q) (V1 p q))<1000∨rt (T7 (V1 p q) (V1 p q))>1048576 then 2
   else match last with
     |some u=>if T7 u (V1 p q)≤0 then 12 else JR (some (V1 p q)) (q::r)
     |none=>JR (some (V1 p q)) (q::r)
  |_,_=>0
theorem Xk (last:Option CurveVector)(p q:Spot)(r:List Spot):JR last (p::q::r)=
    if rt (T7 (V1 p q) (V1 p q))*rt (T7 (V1 p q) (V1 p q))≠T7 (V1 p q) (V1 p q)then 3
    else if rt (T7 (V1 p q) (V1 p q))<1000∨rt (T7 (V1 p q) (V1 p q))>1048576 then 2
    else match last with
      |some u=>if T7 u (V1 p q)≤0 then 12 else JR (some (V1 p q)) (q::r)
      |none=>JR (some (V1 p q)) (q::r):=by
  conv=>lhs;unfold JR
noncomputable def Fg (l:List Spot):Int:=if l.length<2 then 6 else if l.length>16 then 5 else if l.all Xj then JR none l else 2
theorem Xl (c:Curve)(hl:c.Pts.length≤1000000)(hok:c.Pts.all Xj=true): ∀(r:List Spot) (p:Spot) (i:Nat) (last:CurveVector),c.Pts.drop i=p::r→RK last→
    loop (U1 c) ((i:Int),last)=some (if JR (if i=0 then none else some last) (p::r)=0 then .inl ()else .inr (JR (if i=0 then none else some last) (p::r))):=by
  intro r
  induction r with
  |nil=>
   intro p i last hi hlast
   have hlt:=Eo hi
   have:=Cy (X8 hi)
   refine N4 ?_
   unfold U1
   dsimp only
   rw [R5 (n:=(c.Pts.length:Int) - 1) (by omega)]
   simp only [show ¬(i:Int)< (c.Pts.length:Int) - 1 by omega,decide_false,bD,JR,if_true]
  |cons q r ih=>
   intro p i last hi hlast
   have hlt:=Eo hi
   have hi1:=X8 hi
   have hlt1:=Eo hi1
   have hp:Xj p=true:=lW.1 hok p (List.mem_of_mem_drop (i:=i) (by rw [hi];simp))
   have hq:Xj q=true:=lW.1 hok q (List.mem_of_mem_drop (i:=i) (by rw [hi];simp))
   have hv:=IA hp hq
   have hg1:E8 c.Pts ((i:Int)+1)=some q:=by have:=Ll hi1;simpa using this
   have hstep:U1 c ((i:Int),last)=
    if rt (T7 (V1 p q) (V1 p q))*rt (T7 (V1 p q) (V1 p q))≠T7 (V1 p q) (V1 p q)then some (.out (.inr 3))
    else if rt (T7 (V1 p q) (V1 p q))<1000∨rt (T7 (V1 p q) (V1 p q))>1048576 then some (.out (.inr 2))
    else if i≠0∧T7 last (V1 p q)≤0 then some (.out (.inr 12))else some (.go (((i+1:Nat):Int),V1 p q)):=by
     unfold U1
     dsimp only
     rw [R5 (n:=(c.Pts.length:Int) - 1) (by omega),R5 (n:=(i:Int)+1) (by omega)]
     simp only [show (i:Int)< (c.Pts.length:Int) - 1 by omega,decide_true,bC,Ll hi,hg1,lA,Pw hp hq,Ml hv hv,Pv]
     by_cases h1:rt (T7 (V1 p q) (V1 p q))*rt (T7 (V1 p q) (V1 p q))=T7 (V1 p q) (V1 p q)
     ·simp only [h1,beq_self_eq_true,bI,bD,ne_eq,not_true_eq_false,if_false]
      by_cases h2:rt (T7 (V1 p q) (V1 p q))<1000∨rt (T7 (V1 p q) (V1 p q))>1048576
      ·rw [bE h2]
       have:(decide (rt (T7 (V1 p q) (V1 p q))<1000)||decide (rt (T7 (V1 p q) (V1 p q))>1048576))=true:=by simpa using h2
       rw [this];rfl
      ·rw [bF h2]
       have:(decide (rt (T7 (V1 p q) (V1 p q))<1000)||decide (rt (T7 (V1 p q) (V1 p q))>1048576))=false:=by simpa using h2
       rw [this]
       simp only [bD]
       by_cases h3:i=0
       ·subst h3
        simp only [Int.natCast_zero,gt_iff_lt,Int.lt_irrefl,decide_false,bD,Bool.false_and,lA,not_true_eq_false,false_and,if_false]
        rfl
       ·have h4:(i:Int)>0:=by omega
        simp only [h4,decide_true,bC,Ml hlast hv,lA,Bool.true_and,h3,not_false_eq_true,true_and]
        by_cases h5:T7 last (V1 p q)≤0<;>simp [h5]
     ·have:(rt (T7 (V1 p q) (V1 p q))*rt (T7 (V1 p q) (V1 p q))==T7 (V1 p q) (V1 p q))=false:=by simpa using h1
      simp only [this,Bool.not_false,bC,ne_eq,h1,not_false_eq_true,if_true]
   rw [Xk]
   by_cases h1:rt (T7 (V1 p q) (V1 p q))*rt (T7 (V1 p q) (V1 p q))≠T7 (V1 p q) (V1 p q)
   ·rw [bE h1]at hstep
    rw [N4 hstep,bE h1];rfl
   ·rw [bF h1]at hstep ⊢
    by_cases h2:rt (T7 (V1 p q) (V1 p q))<1000∨rt (T7 (V1 p q) (V1 p q))>1048576
    ·rw [bE h2]at hstep
     rw [N4 hstep,bE h2];rfl
    ·rw [bF h2]at hstep ⊢
     by_cases h3:i=0
     ·subst h3
      rw [bF (by simp)]at hstep
      rw [X5 hstep,ih q (0+1) (V1 p q) hi1 hv]
      simp
     ·by_cases h5:T7 last (V1 p q)≤0
      ·rw [bE ⟨h3,h5⟩]at hstep
       rw [N4 hstep]
       simp [h3,h5]
      ·rw [bF (fun h=>h5 h.2)]at hstep
       rw [X5 hstep,ih q (i+1) (V1 p q) hi1 hv]
       simp [h3,h5]
theorem Ok (c:Curve)(hl:c.Pts.length≤1000000):Ca c=some (Fg c.Pts):=by
  unfold Ca Fg
  by_cases h1:c.Pts.length<2
  ·rw [bE h1,show decide ((c.Pts.length:Int)<2)=true by simp;omega];rfl
  ·rw [bF h1,show decide ((c.Pts.length:Int)<2)=false by simp;omega]
   simp only [bD]
   by_cases h2:c.Pts.length>16
   ·rw [bE h2,show decide ((c.Pts.length:Int)>16)=true by simp;omega];rfl
   ·rw [bF h2,show decide ((c.Pts.length:Int)>16)=false by simp;omega]
    simp only [bD,Ym c.Pts hl,lA]
    cases h3:c.Pts.all Xj with
    |false=>rfl
    |true=>
     simp only [bI,bD,if_true]
     cases hp:c.Pts with
     |nil=>rw [hp]at h1;simp at h1
     |cons p r=>
      have:=Xl c hl h3 r p 0 ⟨0,0⟩ (by rw [hp];rfl) ⟨by decide,by decide,by decide,by decide⟩
      rw [bE rfl,show ((0:Nat):Int)=0 from rfl]at this
      rw [this]
      by_cases h4:JR none (p::r)=0
      ·rw [bE h4,h4];rfl
      ·rw [bF h4];rfl
/-- What a valid chain is. -/
inductive Good:Option CurveVector→List Spot→Prop
  |one (last:Option CurveVector) (p:Spot):Good last [p]
  |cons (last:Option CurveVector) (p q:Spot) (r:List Spot) (h1:rt (T7 (V1 p q) (V1 p q))*rt (T7 (V1 p q) (V1 p q))=T7 (V1 p q) (V1 p q)) (h2:1000≤rt (T7 (V1 p q) (V1 p q))) (h3:rt (T7 (V1 p q) (V1 p q))≤1048576)
     (h4: ∀u,last=some u→0<T7 u (V1 p q)) (h:Good (some (V1 p q)) (q::r)):Good last (p::q::r)
theorem DX: ∀(r:List Spot) (p:Spot) (last:Option CurveVector),JR last (p::r)=0→Good last (p::r):=by
  intro r
  induction r with
  |nil=>intro p last _;exact .one _ _
  |cons q r ih=>
   intro p last h
   rw [Xk]at h
   split at h
   ·cases h
   ·rename_i h1
    split at h
    ·cases h
    ·rename_i h2
     have h1:rt (T7 (V1 p q) (V1 p q))*rt (T7 (V1 p q) (V1 p q))=T7 (V1 p q) (V1 p q):=by simpa using h1
     cases last with
     |none=>exact .cons _ _ _ _ h1 (by omega) (by omega) (fun u hu=>by cases hu) (ih q _ h)
     |some u=>
      dsimp only at h
      split at h
      ·cases h
      ·exact .cons _ _ _ _ h1 (by omega) (by omega) (fun u' hu=>by cases hu;omega) (ih q _ h)
theorem DY {last:Option CurveVector}{l:List Spot}(h:Good last l):JR last l=0:=by
  induction h with
  |one=>rfl
  |cons last p q r h1 h2 h3 h4 h ih=>
   rw [Xk,bF (by simpa using h1),bF (by omega)]
   cases last with
   |none=>exact ih
   |some u=>dsimp only;rw [bF (by have:=h4 u rfl;omega)];exact ih
structure Valid (l:List Spot):Prop where
  two:2≤l.length
  most:l.length≤16
  ok:l.all Xj=true
  good:Good none l
theorem checkM_zero {l:List Spot}:Fg l=0↔Valid l:=by
  unfold Fg
  constructor
  ·intro h
   split at h
   ·cases h
   ·rename_i h1
    split at h
    ·cases h
    ·rename_i h2
     split at h
     ·rename_i h3
      cases l with
      |nil=>simp at h1
      |cons p r=>exact ⟨by omega,by omega,h3,DX r p none h⟩
     ·cases h
  ·rintro ⟨h1,h2,h3,h4⟩
   rw [bF (by omega),bF (by omega),bE h3]
   exact DY h4
/-- The pieces of a chain: the number, the piece. -/
noncomputable def Mm:Nat→Int→List Spot→List (Int×CurvePiece)
  |i,s,p::q::r=>((i:Int),⟨p,V1 p q,rt (T7 (V1 p q) (V1 p q)),s⟩)::Mm (i+1) (H6 (s+rt (T7 (V1 p q) (V1 p q)))) (q::r)
  |_,_,_=> []
theorem Sj (i:Nat)(s:Int)(p q:Spot)(r:List Spot):Mm i s (p::q::r)=((i:Int),⟨p,V1 p q,rt (T7 (V1 p q) (V1 p q)),s⟩)::Mm (i+1) (H6 (s+rt (T7 (V1 p q) (V1 p q)))) (q::r):=by conv=>lhs;unfold Mm
theorem DZ (pts:List Spot)(hok:pts.all Xj=true): ∀(r:List Spot) (p:Spot) (i:Nat) (s:Int),pts.drop i=p::r→Ec pts r.length i s=some (Mm i s (p::r)):=by
  intro r
  induction r with
  |nil=>intro p i s _;rfl
  |cons q r ih=>
   intro p i s hi
   have hi1:=X8 hi
   have hp:Xj p=true:=lW.1 hok p (List.mem_of_mem_drop (i:=i) (by rw [hi];simp))
   have hq:Xj q=true:=lW.1 hok q (List.mem_of_mem_drop (i:=i) (by rw [hi];simp))
   have hv:=IA hp hq
   have h0:pts[i]? =some p:=by have:=congrArg (fun z=>z[0]?) hi;simpa using this
   have h1:pts[i+1]? =some q:=by have:=congrArg (fun z=>z[0]?) hi1;simpa using this
   rw [lJ,Ec,h0,h1]
   simp only [lA,Pw hp hq,Ml hv hv,Pv]
   rw [ih q (i+1) _ hi1,Sj]
   rfl
theorem GM {pts:List Spot}(h:Valid pts):Kp pts=some (Mm 0 0 pts):=by
  unfold Kp
  have:=h.most
  rw [bE (by omega)]
  cases hp:pts with
  |nil=>have:=h.two;rw [hp]at this;simp at this
  |cons p r=>exact DZ (p::r) (by rw [← hp];exact h.ok) r p 0 0 rfl
/-- The lengths. -/
noncomputable def Tq:List Spot→List Int
  |p::q::r=>rt (T7 (V1 p q) (V1 p q))::Tq (q::r)
  |_=> []
theorem Pd (p q:Spot)(r:List Spot):Tq (p::q::r)=rt (T7 (V1 p q) (V1 p q))::Tq (q::r):=by conv=>lhs;unfold Tq
theorem Kr: ∀(r:List Spot) (p:Spot),(Tq (p::r)).length=r.length
  | [],_=>rfl
  |q::r,p=>by rw [Pd,lJ,Kr r q,lJ]
theorem Sk: ∀(r:List Spot) (p:Spot) (i:Nat) (s:Int),(Mm i s (p::r)).map (·.2.l)=Tq (p::r)
  | [],_,_,_=>rfl
  |q::r,p,i,s=>by rw [Sj,Pd,lO,Sk r q]
theorem EA: ∀(L:List (Int×CurvePiece)) (out:List Int),out.length+L.length≤1000000000→loopL Bt (fun x=>x) L out=some (out++L.map (·.2.l)):=by
  intro L
  induction L with
  |nil=>intro out _;simp [loopL]
  |cons a L ih=>
   intro out h
   simp only [lJ]at h
   have:Bt out a=some (.go (out++ [a.2.l])):=by
     unfold Bt
     rw [Bj (by simp;omega)];rfl
   rw [loopL,this]
   dsimp only
   rw [ih _ (by simp;omega)]
   simp
theorem Uy (c:Curve)(hl:c.Pts.length≤1000000):Cb c=some (if Fg c.Pts=0 then Tq c.Pts else []):=by
  unfold Cb
  rw [Ok c hl,lA]
  by_cases h:Fg c.Pts=0
  ·rw [bE h,h]
   have hv:=checkM_zero.1 h
   have:=hv.most
   simp only [bne_self_eq_false,bD,GM hv,lA]
   cases hp:c.Pts with
   |nil=>have:=hv.two;rw [hp]at this;simp at this
   |cons p r=>
    have e:=Sk r p 0 0
    rw [EA _ _ (by
     have:=congrArg List.length e
     rw [lP,Kr]at this
     rw [this];rw [hp]at hl;simp at hl ⊢;omega)]
    rw [e];rfl
  ·rw [bF h,show (Fg c.Pts !=0)=true from bne_iff_ne.2 h];rfl
/-- A sum, as the programs take it. -/
def Xm:Int→List Int→Int
  |s,[]=>s
  |s,a::l=>Xm (H6 (s+a)) l
theorem Sl (l:List Int)(hl:l.length≤1000000): ∀(r:List Int) (i:Nat) (s:Int),l.drop i=r→loop (W6 l) (s,(i:Int))=some (Xm s r):=by
  intro r
  induction r with
  |nil=>
   intro i s hi
   have:=Cy hi
   refine N4 ?_
   unfold W6
   simp only [show ¬(i:Int)<l.length by omega,decide_false,bD,Xm]
  |cons a r ih=>
   intro i s hi
   have hlt:=Eo hi
   have hstep:W6 l (s,(i:Int))=some (.go (H6 (s+a),((i+1:Nat):Int))):=by
     unfold W6
     simp only [show (i:Int)<l.length by omega,decide_true,bC,Ll hi,lA]
     rw [R5 (n:=(i:Int)+1) (by omega)];rfl
   rw [X5 hstep,ih (i+1) _ (X8 hi),Xm]
noncomputable def Ks (c:Curve):List Int:=if Fg c.Pts=0 then Tq c.Pts else []
theorem RL: ∀l:List Spot,(Tq l).length≤l.length
  | []=>by simp [Tq]
  |p::r=>by rw [Kr];simp
theorem GN (c:Curve):(Ks c).length≤c.Pts.length:=by
  unfold Ks
  split
  ·exact RL _
  ·simp
theorem Na (c:Curve)(hl:c.Pts.length≤1000000):Ak c=some (Xm 0 (Ks c)):=by
  unfold Ak
  rw [Uy c hl,lA]
  have:=GN c
  have h:=Sl (Ks c) (by omega) (Ks c) 0 0 (by simp)
  rw [show ((0:Nat):Int)=0 from rfl]at h
  show (loop (W6 (Ks c)) (0,0)).bind _=_
  rw [h];rfl
/-- A quarter turn, so many times. -/
def JS:Nat→CurveVector→CurveVector
  |0,v=>v
  |n+1,v=>JS n ⟨-v.y,v.x⟩
theorem BN: ∀(n:Nat) (v w:CurveVector),T7 (JS n v) (JS n w)=T7 v w
  |0,_,_=>rfl
  |n+1,v,w=>by rw [JS,JS,BN n];unfold T7;grind
/-- A piece's vector, made of numbers: in one quadrant. -/
def UI (n:Nat)(v:CurveVector):Prop:= ∃x y L:Int,v=JS n ⟨x,y⟩∧0<x∧0≤y∧x*x+y*y=L*L∧1000≤L∧L≤3029∧x≤L∧y≤L
inductive Ch (Q:CurveVector→Prop):List Spot→Prop
  |one (p:Spot):Ch Q [p]
  |cons (p q:Spot) (r:List Spot) (h:Q (V1 p q)) (hr:Ch Q (q::r)):Ch Q (p::q::r)
theorem Xn {n:Nat}: ∀(r:List Spot) (p:Spot) (last:Option CurveVector),Ch (UI n) (p::r)→(∀u,last=some u→UI n u)→Good last (p::r)
  | [],p,last,_,_=> .one _ _
  |q::r,p,last,hc,hl=>by
   cases hc with
   |cons _ _ _ h1 h2=>
    have hq:=h1
    obtain ⟨x,y,L,hv,hx,hy,hsq,hL1,hL2,hxL,hyL⟩:=h1
    have hd:T7 (V1 p q) (V1 p q)=L*L:=by rw [hv,BN];unfold T7;exact hsq
    have hrt:rt (T7 (V1 p q) (V1 p q))=L:=by rw [hd];exact VZ (by omega) (by omega)
    refine .cons _ _ _ _ (by rw [hrt,hd]) (by rw [hrt];exact hL1) (by rw [hrt];omega) (fun u hu=> ?_) (Xn r q _ h2 (fun u hu=>by cases hu;exact hq))
    obtain ⟨x',y',L',hv',hx',hy',_⟩:=hl u hu
    rw [hv,hv',BN]
    unfold T7
    have:=Int.mul_pos hx' hx
    have:=bU hy' hy
    dsimp only
    omega
/-- What the curves made of numbers are like. -/
structure Made (l:List Spot):Prop where
  two:2≤l.length
  six:l.length≤6
  ch: ∃n,Ch (UI n) l
  bd: ∀p∈l, -50000≤p.X∧p.X≤50000∧ -50000≤p.Y∧p.Y≤50000
theorem Made.valid {l:List Spot}(h:Made l):Valid l:=by
  obtain ⟨n,hc⟩:=h.ch
  have:=h.two;have:=h.six
  refine ⟨h.two,by omega,lW.2 fun p hp=>okS_iff.2 (by have:=h.bd p hp;omega),?_⟩
  match l,h,hc with
  |p::r,_,hc=>exact Xn r p none hc (fun u hu=>by cases hu)
  | [],h,_=>exact absurd h.two (by simp)
/-! ### Loops that look for the first error -/
def O8 {α β:Type}(g:Nat→α→Option β):Nat→List α→Option β
  |_,[]=>none
  |i,a::r=>match g i a with
   |some e=>some e
   |none=>O8 g (i+1) r
def RM {β:Type}:Option β→Sum Unit β
  |some e=> .inr e
  |none=> .inl ()
theorem Gx {α β:Type}(l:List α)(F:Int→Option (Stp Int (Sum Unit β)))(g:Nat→α→Option β)(hF: ∀(i:Nat) a,l[i]? =some a→F (i:Int)=some (match g i a with|some e=> .out (.inr e)|none=> .go ((i+1:Nat):Int)))(h0:F (l.length:Int)=some (.out (.inl ()))):
    loop F 0=some (RM (O8 g 0 l)):=by
  have key: ∀(r:List α) (i:Nat),l.drop i=r→i≤l.length→loop F (i:Int)=some (RM (O8 g i r)):=by
    intro r
    induction r with
    |nil=>
     intro i hi hil
     have:i=l.length:=by have:=List.drop_eq_nil_iff.1 hi;omega
     subst this
     exact N4 h0
    |cons a r ih=>
     intro i hi hil
     have hlt:i<l.length:=by
       rcases Nat.lt_or_ge i l.length with q|q
       ·exact q
       ·rw [List.drop_eq_nil_of_le q]at hi;cases hi
     have ha:l[i]? =some a:=by have:=congrArg (fun z=>z[0]?) hi;simpa using this
     have hr:l.drop (i+1)=r:=by have:=congrArg (fun z=>z.drop 1) hi;simpa using this
     have hs:=hF i a ha
     unfold O8
     cases hg:g i a with
     |some e=>rw [hg]at hs;exact N4 hs
     |none=>rw [hg]at hs;rw [X5 hs];exact ih (i+1) hr (by omega)
  have:=key l 0 rfl (by omega)
  exact this
theorem firstE_none {α β:Type}{g:Nat→α→Option β}: ∀{l:List α} {i:Nat},O8 g i l=none↔∀(j:Nat) a,l[j]? =some a→g (i+j) a=none
  | [],i=>by simp [O8]
  |a::r,i=>by
   unfold O8
   cases h:g i a with
   |some e=>
    constructor
    ·intro h';cases h'
    ·intro h';have:=h' 0 a rfl;rw [Nat.add_zero,h]at this;cases this
   |none=>
    dsimp only
    rw [firstE_none (l:=r)]
    constructor
    ·intro h' j b hj
     cases j with
     |zero=>cases hj;exact h
     |succ j=>have:=h' j b hj;rwa [show i+1+j=i+ (j+1) by omega]at this
    ·intro h' j b hj
     have:=h' (j+1) b hj
     rwa [show i+ (j+1)=i+1+j by omega]at this
/-! ### Numbers -/
def Uz (n a b:Int):Bool:=decide (a≤n)&&decide (n≤b)
theorem Jk (n a b:Int):T3 n a b=some (Uz n a b):=rfl
def Ts (kind:Int):Int×Int×Int:=if kind=1 then (2000,30,90)else if kind=2 then (1000,20,60)else if kind=3 then (300,100,300)else (0,0,0)
theorem Zq (k:Int):Fl k=some (Ts k):=by
  unfold Fl Ts
  by_cases h:k<0∨k≥4
  ·rw [show ((decide (k<0))||(decide (k≥4)))=true by simpa using h,bC,bF (by omega),bF (by omega),bF (by omega)]
  ·rw [show ((decide (k<0))||(decide (k≥4)))=false by rw [bJ];simpa using h,bD]
   obtain ⟨h1,h2⟩:=not_or.1 h
   rcases (show k=0∨k=1∨k=2∨k=3 by omega)with rfl|rfl|rfl|rfl<;>rfl
theorem PK {n:Int}(h: -9223372036854775808≤n∧n≤9223372036854775807):H6 n=n:=Go.IntWalk.i64_in n h
theorem E5 {α:Type}{l:List α}{i:Nat}{a:α}(h:l[i]? =some a):E8 l (i:Int)=some a:=by
  unfold E8;rw [bE (by omega),bN];exact h
theorem I7 {α:Type}{l:List α}{i:Nat}{a:α}(h:l[i]? =some a):i<l.length:=(lH.1 h).1
theorem RN {α:Type}(c:Bool)(a b:α):cond c (some a) (some b)=some (cond c a b):=by cases c<;>rfl
def Hq (high:Int):Int→List Int→Bool
  |_,[]=>true
  |low,n::r=>decide (low≤n)&&decide (n<high)&&Hq high (n+1) r
theorem Tt (l:List Int)(low high:Int)(hl:l.length≤1000000)(hh:high≤1000000000)(h0:0≤low):Y5 l low high=some (Hq high low l):=by
  have key: ∀(r:List Int) (i:Nat) (lo:Int),0≤lo→l.drop i=r→i≤l.length→loop (Ad l high) (lo,(i:Int))=some (if Hq high lo r then .inl ()else .inr false):=by
    intro r
    induction r with
    |nil=>
     intro i lo _ hi hil
     have:=Cy hi
     refine N4 ?_
     unfold Ad
     dsimp only
     rw [show decide ((i:Int)< (l.length:Int))=false from bA (by omega)];rfl
    |cons n r ih=>
     intro i lo hlo hi hil
     have hlt:=Eo hi
     have hs:Ad l high (lo,(i:Int))=some (if decide (lo≤n)&&decide (n<high)then .go (n+1,((i+1:Nat):Int))else .out (.inr false)):=by
       unfold Ad
       dsimp only
       rw [show decide ((i:Int)< (l.length:Int))=true from l9 (by omega),Ll hi,bC,lA,PK (n:=(i:Int)+1) (by omega)]
       by_cases q:lo≤n∧n<high
       ·rw [show ((decide (n<lo))||(decide (n≥high)))=false by rw [bJ];simp;omega,bD,PK (n:=n+1) (by omega),bE (by simpa using q)];rfl
       ·rw [show ((decide (n<lo))||(decide (n≥high)))=true by simp;omega,bC,bF (by simpa using q)]
     unfold Hq
     cases q:(decide (lo≤n)&&decide (n<high))
     ·rw [q]at hs;rw [N4 hs];rfl
     ·rw [q]at hs
      simp only [bG,bB]at q
      rw [X5 hs,ih (i+1) (n+1) (by omega) (X8 hi) (by omega)];rfl
  unfold Y5
  have:=key l 0 low h0 rfl (by omega)
  rw [show ((0:Nat):Int)=0 from rfl]at this
  rw [this]
  cases Hq high low l<;>rfl
noncomputable def Jf (c:Curve):Int:=Xm 0 (Ks c)
theorem RO {m:Map}{i:Nat}{l:Lane}(h:m.Lanes[i]? =some l)(hl:l.Curve_.Pts.length≤1000000):V6 m (i:Int)=some (Jf l.Curve_):=by
  unfold V6
  rw [E5 h,lA,Na _ hl];rfl
/-- The lists of a map are of bearable lengths. -/
structure Bear (m:Map):Prop where
  lanes:m.Lanes.length≤1000000
  pts: ∀l∈m.Lanes,l.Curve_.Pts.length≤1000000∧l.Next.length≤1000000
noncomputable def laneE (n:Nat)(i:Nat)(l:Lane):Option Int:=
  if (Ts l.Kind).1=0 then some 4
  else if Fg l.Curve_.Pts≠0 then some (Fg l.Curve_.Pts)
  else if (Uz l.Half 200 4000&&Uz l.Limit 1 (Ts l.Kind).1)=false then some 2
  else if 3<l.Next.length then some 8
  else if Hq n (i+1) l.Next=false then some 11 else none
theorem OE {m:Map}(B:Bear m):R7 ⟨m⟩=some ((O8 (laneE m.Lanes.length) 0 m.Lanes).getD 0):=by
  have h:=Gx m.Lanes (N5 ⟨m⟩) (laneE m.Lanes.length) (fun i l hl=>by
    have hi:=I7 hl
    have hb:=B.lanes
    obtain ⟨p1,p2⟩:=B.pts l (lF hl)
    unfold N5 laneE
    dsimp only
    rw [show decide ((i:Int)< (m.Lanes.length:Int))=true from l9 (by omega),E5 hl,bC,lA,Zq,lA,Ok _ p1,lA,Jk,Jk,lA,RN,lA,PK (n:=(i:Int)+1) (by omega),Tt _ _ _ p2 (by omega) (by omega),lA]
    by_cases h1:(Ts l.Kind).1=0
    ·rw [bE h1,show ((Ts l.Kind).1==0)=true by simpa using h1];rfl
    ·rw [bF h1,show ((Ts l.Kind).1==0)=false by simpa using h1,bD]
     by_cases h2:Fg l.Curve_.Pts≠0
     ·rw [bE h2,show (Fg l.Curve_.Pts !=0)=true by simpa using h2];rfl
     ·rw [bF h2,show (Fg l.Curve_.Pts !=0)=false by simpa using h2,bD]
      cases Uz l.Half 200 4000
      ·rfl
      ·cases Uz l.Limit 1 (Ts l.Kind).1
       ·rfl
       ·simp only [bI,Bool.not_false,bC,bD,Bool.false_or,Bool.and_self]
        rw [bF (by decide)]
        by_cases h3:3<l.Next.length
        ·rw [bE h3,show decide ((l.Next.length:Int)>3)=true from l9 (by omega)];rfl
        ·rw [bF h3,show decide ((l.Next.length:Int)>3)=false from bA (by omega),bD]
         cases Hq (m.Lanes.length:Int) ((i:Int)+1) l.Next<;>rfl) (by
    unfold N5
    dsimp only
    rw [show decide ((m.Lanes.length:Int)< (m.Lanes.length:Int))=false from bA (by omega)];rfl)
  unfold R7
  rw [h]
  cases O8 (laneE m.Lanes.length) 0 m.Lanes<;>rfl
theorem EB {n i:Nat}{l:Lane}{e:Int}(h:laneE n i l=some e):e≠0:=by
  unfold laneE at h
  split at h
  ·cases h;decide
  ·split at h
   ·rename_i h2;cases h;exact h2
   ·split at h
    ·cases h;decide
    ·split at h
     ·cases h;decide
     ·split at h
      ·cases h;decide
      ·cases h
theorem Ls {high:Int}: ∀{l:List Int} {low:Int},Hq high low l=true→∀k∈l,low≤k∧k<high
  | [],_,_,k,hk=>by cases hk
  |n::r,low,h,k,hk=>by
   unfold Hq at h
   simp only [bG,bB]at h
   rcases lR.1 hk with rfl|hk
   ·exact h.1
   ·have:=Ls h.2 k hk
    omega
/-- What a lane is that has no error of its own. -/
structure LaneOK (n i:Nat)(l:Lane):Prop where
  kind:(Ts l.Kind).1≠0
  curve:Fg l.Curve_.Pts=0
  half:Uz l.Half 200 4000=true
  limit:Uz l.Limit 1 (Ts l.Kind).1=true
  few:l.Next.length≤3
  next:Hq n (i+1) l.Next=true
theorem GO {n i:Nat}{l:Lane}(h:laneE n i l=none):LaneOK n i l:=by
  unfold laneE at h
  split at h
  ·cases h
  ·rename_i h1
   split at h
   ·cases h
   ·rename_i h2
    split at h
    ·cases h
    ·rename_i h3
     split at h
     ·cases h
     ·rename_i h4
      split at h
      ·cases h
      ·rename_i h5
       simp only [Bool.not_eq_false,bG]at h3
       exact ⟨h1,Decidable.not_not.1 h2,h3.1,h3.2,by omega,by simpa using h5⟩
theorem Ol {m:Map}(h:O8 (laneE m.Lanes.length) 0 m.Lanes=none){i:Nat}{l:Lane}(hl:m.Lanes[i]? =some l):LaneOK m.Lanes.length i l:=by
  have:=firstE_none.1 h i l hl
  rw [bR]at this
  exact GO this
theorem Tu {l:List Spot}(h:Fg l=0):2≤l.length:=by
  unfold Fg at h
  split at h
  ·cases h
  ·omega
def Px (l:List Spot):Spot:=l.headD ⟨0,0⟩
def Nb (l:List Spot):Spot:=l.getLastD ⟨0,0⟩
theorem Zr {l:List Spot}(h:2≤l.length):E8 l 0=some (Px l):=by
  cases l with
  |nil=>simp at h
  |cons a r=>rfl
theorem Zs {l:List Spot}(h:2≤l.length)(hl:l.length≤1000000):E8 l (H6 ((l.length:Int) - 1))=some (Nb l):=by
  rw [PK (by omega),show (l.length:Int) - 1=((l.length - 1:Nat):Int) by omega]
  refine E5 ?_
  unfold Nb
  rw [List.getLastD_eq_getLast?,List.getLast?_eq_getElem?]
  rw [lG (by omega)];rfl
def EC (a b:Spot):Bool:=a.X==b.X&& (a.Y==b.Y&&true)
def Qp (m:Map)(l:Lane)(_:Nat)(k:Int):Option Int:=
  match m.Lanes[k.toNat]? with
  |some n=>if n.Kind≠l.Kind then some 4 else if EC (Px n.Curve_.Pts) (Nb l.Curve_.Pts)=false then some 3 else none
  |none=>none
def nextE (m:Map)(_:Nat)(l:Lane):Option Int:=O8 (Qp m l) 0 l.Next
theorem Xo {m:Map}(B:Bear m)(H:O8 (laneE m.Lanes.length) 0 m.Lanes=none){i:Nat}{l:Lane}(hl:m.Lanes[i]? =some l){j:Nat}{k:Int}(hk:l.Next[j]? =some k):
    ∃n,E8 m.Lanes k=some n∧m.Lanes[k.toNat]? =some n∧2≤n.Curve_.Pts.length∧n.Curve_.Pts.length≤1000000:=by
  have L:=Ol H hl
  have hb:=Ls L.next k (lF hk)
  have hlt:k.toNat<m.Lanes.length:=by omega
  refine ⟨m.Lanes[k.toNat],?_,lG hlt,Tu (Ol H (lG hlt)).curve,(B.pts _ (List.getElem_mem hlt)).1⟩
  unfold E8
  rw [bE (by omega),lG hlt]
theorem JT {m:Map}{l:Lane}{j:Nat}{k e:Int}(h:Qp m l j k=some e):e≠0:=by
  unfold Qp at h
  split at h
  ·split at h
   ·cases h;decide
   ·split at h
    ·cases h;decide
    ·cases h
  ·cases h
theorem Zt {m:Map}(B:Bear m)(H:O8 (laneE m.Lanes.length) 0 m.Lanes=none){i:Nat}{l:Lane}(hl:m.Lanes[i]? =some l):
    loop (T9 ⟨m⟩ l (Nb l.Curve_.Pts)) 0=some (RM (nextE m i l))∧loop (Dv m l) 0=some (RM (nextE m i l)):=by
  have L:=Ol H hl
  obtain ⟨p1,p2⟩:=B.pts l (lF hl)
  constructor
  ·refine Gx l.Next _ (Qp m l) (fun j k hk=> ?_) ?_
   ·have hj:=I7 hk
    obtain ⟨n,g1,g2,g3,g4⟩:=Xo B H hl hk
    unfold T9 Qp
    dsimp only
    rw [show decide ((j:Int)< (l.Next.length:Int))=true from l9 (by omega),E5 hk,bC,lA,g1,lA,lA,Zr g3,lA,PK (n:=(j:Int)+1) (by omega),g2]
    dsimp only
    rw [show ((Px n.Curve_.Pts).X==(Nb l.Curve_.Pts).X&& ((Px n.Curve_.Pts).Y==(Nb l.Curve_.Pts).Y&&true))=EC (Px n.Curve_.Pts) (Nb l.Curve_.Pts) from rfl]
    by_cases h1:n.Kind≠l.Kind
    ·rw [bE h1,show (n.Kind !=l.Kind)=true by simpa using h1];rfl
    ·rw [bF h1,show (n.Kind !=l.Kind)=false by simpa using h1]
     cases EC (Px n.Curve_.Pts) (Nb l.Curve_.Pts)<;>rfl
   ·unfold T9
    rw [show decide ((l.Next.length:Int)< (l.Next.length:Int))=false from bA (by omega)];rfl
  ·refine Gx l.Next _ (Qp m l) (fun j k hk=> ?_) ?_
   ·have hj:=I7 hk
    obtain ⟨n,g1,g2,g3,g4⟩:=Xo B H hl hk
    unfold Dv Qp
    rw [show decide ((j:Int)< (l.Next.length:Int))=true from l9 (by omega),E5 hk,bC,lA,g1,lA,Zr g3,lA,Zs (Tu L.curve) p1,lA,PK (n:=(j:Int)+1) (by omega),g2]
    dsimp only
    rw [show ((Px n.Curve_.Pts).X==(Nb l.Curve_.Pts).X&& ((Px n.Curve_.Pts).Y==(Nb l.Curve_.Pts).Y&&true))=EC (Px n.Curve_.Pts) (Nb l.Curve_.Pts) from rfl]
    by_cases h1:n.Kind≠l.Kind
    ·rw [bE h1,show (n.Kind !=l.Kind)=true by simpa using h1];rfl
    ·rw [bF h1,show (n.Kind !=l.Kind)=false by simpa using h1]
     cases EC (Px n.Curve_.Pts) (Nb l.Curve_.Pts)<;>rfl
   ·unfold Dv
    rw [show decide ((l.Next.length:Int)< (l.Next.length:Int))=false from bA (by omega)];rfl
theorem JU {m:Map}(B:Bear m)(H:O8 (laneE m.Lanes.length) 0 m.Lanes=none):
    Q6 ⟨m⟩=some ((O8 (nextE m) 0 m.Lanes).getD 0)∧Mz m=some ((O8 (nextE m) 0 m.Lanes).getD 0):=by
  have hb:=B.lanes
  constructor
  ·have h:=Gx m.Lanes (M7 ⟨m⟩) (nextE m) (fun i l hl=>by
     have hi:=I7 hl
     have L:=Ol H hl
     obtain ⟨p1,p2⟩:=B.pts l (lF hl)
     unfold M7
     dsimp only
     rw [show decide ((i:Int)< (m.Lanes.length:Int))=true from l9 (by omega),E5 hl,bC,lA,Zs (Tu L.curve) p1,lA,(Zt B H hl).1,PK (n:=(i:Int)+1) (by omega)]
     cases nextE m i l<;>rfl) (by
     unfold M7
     dsimp only
     rw [show decide ((m.Lanes.length:Int)< (m.Lanes.length:Int))=false from bA (by omega)];rfl)
   unfold Q6
   rw [h]
   cases O8 (nextE m) 0 m.Lanes<;>rfl
  ·have h:=Gx m.Lanes (Dw m) (nextE m) (fun i l hl=>by
     have hi:=I7 hl
     unfold Dw
     rw [show decide ((i:Int)< (m.Lanes.length:Int))=true from l9 (by omega),E5 hl,bC,lA,(Zt B H hl).2,PK (n:=(i:Int)+1) (by omega)]
     cases nextE m i l<;>rfl) (by
     unfold Dw
     rw [show decide ((m.Lanes.length:Int)< (m.Lanes.length:Int))=false from bA (by omega)];rfl)
   unfold Mz
   rw [h]
   cases O8 (nextE m) 0 m.Lanes<;>rfl
/-- The place of the first element with a property. -/
theorem GP {α:Type}{f:Int→Option (Stp Int (Sum Unit Int))}(l:List α)(P:α→Bool)(hl:l.length≤1000000000)(hf: ∀(i:Nat) a,l[i]? =some a→f (i:Int)=some (if P a then .out (.inr (i:Int))else .go (H6 ((i:Int)+1))))(he:f (l.length:Int)=some (.out (.inl ()))):
    loop f 0=some (match l.findIdx? P with|some i=> .inr (i:Int)|none=> .inl ()):=by
  have key: ∀(r:List α) (i:Nat),l.drop i=r→i≤l.length→loop f (i:Int)=some (match r.findIdx? P with|some j=> .inr ((i+j:Nat):Int)|none=> .inl ()):=by
    intro r
    induction r with
    |nil=>
     intro i hi hil
     have:=Cy hi
     obtain rfl:i=l.length:=by omega
     rw [N4 he];rfl
    |cons a r ih=>
     intro i hi _
     have hlt:=Eo hi
     have h0:l[i]? =some a:=by have:=congrArg (fun z=>z[0]?) hi;simpa using this
     have hs:=hf i a h0
     rw [List.findIdx?_cons]
     by_cases hp:P a=true
     ·rw [bE hp]at hs
      rw [N4 hs,bE hp];simp
     ·rw [bF hp]at hs
      rw [R5 (by omega)]at hs
      rw [X5 hs,show ((i:Int)+1)=((i+1:Nat):Int) by omega,ih (i+1) (X8 hi) (by omega),bF hp]
      cases r.findIdx? P with
      |none=>rfl
      |some j=>simp only [lE];congr 3;omega
  have:=key l 0 rfl (by omega)
  rw [show ((0:Nat):Int)=0 from rfl]at this
  rw [this]
  cases l.findIdx? P<;>simp
/-- -1, or the place. -/
def OF {α:Type}(P:α→Bool)(l:List α):Int:=match l.findIdx? P with|some i=>(i:Int)|none=> -1
theorem Kb {α:Type}(P:α→Bool)(l:List α):decide (OF P l≥0)=l.any P:=by
  unfold OF
  cases h:l.findIdx? P with
  |none=>
   have:=List.findIdx?_eq_none_iff.1 h
   rw [show l.any P=false by rw [List.any_eq_false];intro x hx;simpa using this x hx]
   decide
  |some i=>
   have:=List.findIdx?_isSome (xs:=l) (p:=P)
   rw [h]at this
   rw [← this]
   simp
/-- What both twins compute of a list. -/
theorem Iq {α:Type}{f:Int→Option (Stp Int (Sum Unit Int))}(l:List α)(P:α→Bool)(hl:l.length≤1000000000)(hf: ∀(i:Nat) a,l[i]? =some a→f (i:Int)=some (if P a then .out (.inr (i:Int))else .go (H6 ((i:Int)+1))))(he:f (l.length:Int)=some (.out (.inl ()))):
    thenS (loop f 0) (fun _=>some (-1)) (fun r=>some r)=some (OF P l):=by
  rw [GP l P hl hf he]
  unfold OF
  cases l.findIdx? P<;>rfl
theorem JV (l:List Phase)(hl:l.length≤1000000):C5 l=some (l.any fun p=> !Uz p.Ticks 1 10000):=by
  unfold C5 E1
  rw [Iq l (fun p=> !Uz p.Ticks 1 10000) (by omega) (fun i a h=>by
   have:=I7 h
   unfold G3 Bk
   rw [show decide ((i:Int)< (l.length:Int))=true from l9 (by omega),E5 h,bC,lA,Jk,lA,lA]
   cases Uz a.Ticks 1 10000<;>rfl) (by
   unfold G3
   simp)]
  rw [lA,Kb]
theorem GQ (m:Map)(l:List Phase)(hl:l.length≤1000000)(hm:m.Lanes.length≤1000000)(hg: ∀p∈l,p.Green.length≤1000000):C3 l ⟨m⟩=some (l.any fun p=> !Hq m.Lanes.length 0 p.Green):=by
  unfold C3 D9
  rw [Iq l (fun p=> !Hq m.Lanes.length 0 p.Green) (by omega) (fun i a h=>by
   have:=I7 h
   unfold C2 P4
   dsimp only
   rw [show decide ((i:Int)< (l.length:Int))=true from l9 (by omega),E5 h,bC,lA,Tt _ _ _ (hg a (lF h)) (by omega) (by omega),lA,lA]
   cases Hq (m.Lanes.length:Int) 0 a.Green<;>rfl) (by
   unfold C2
   simp)]
  rw [lA,Kb]
structure BearS (m:Map):Prop where
  many:m.Signals.length≤1000000
  phases: ∀s∈m.Signals,s.Phases.length≤1000000∧∀p∈s.Phases,p.Green.length≤1000000
def signalE (m:Map)(_:Nat)(s:Signal):Option Int:=
  if s.Phases.length=0 then some 6
  else if 6<s.Phases.length then some 8
  else if Uz s.Offset 0 1099511627776=false then some 2
  else if (s.Phases.any fun p=> !Uz p.Ticks 1 10000)=true then some 2
  else if (s.Phases.any fun p=> !Hq m.Lanes.length 0 p.Green)=true then some 11 else none
theorem GR {m:Map}(B:Bear m)(S:BearS m):P2 ⟨m⟩=some ((O8 (signalE m) 0 m.Signals).getD 0):=by
  have h:=Gx m.Signals (L5 ⟨m⟩) (signalE m) (fun i s hs=>by
    have hi:=I7 hs
    have hb:=S.many
    obtain ⟨p1,p2⟩:=S.phases s (lF hs)
    unfold L5 signalE
    dsimp only
    rw [show decide ((i:Int)< (m.Signals.length:Int))=true from l9 (by omega),E5 hs,bC,lA,Jk,lA,JV _ p1,lA,GQ m _ p1 B.lanes p2,lA,PK (n:=(i:Int)+1) (by omega)]
    by_cases h1:s.Phases.length=0
    ·rw [bE h1,h1];rfl
    ·rw [bF h1,show ((s.Phases.length:Int)==0)=false by simp only [beq_eq_false_iff_ne];omega,bD]
     by_cases h2:6<s.Phases.length
     ·rw [bE h2,show decide ((s.Phases.length:Int)>6)=true from l9 (by omega)];rfl
     ·rw [bF h2,show decide ((s.Phases.length:Int)>6)=false from bA (by omega),bD]
      cases Uz s.Offset 0 1099511627776
      ·rfl
      ·cases (s.Phases.any fun p=> !Uz p.Ticks 1 10000)
       ·cases (s.Phases.any fun p=> !Hq m.Lanes.length 0 p.Green)<;>rfl
       ·rfl) (by
    unfold L5
    dsimp only
    rw [show decide ((m.Signals.length:Int)< (m.Signals.length:Int))=false from bA (by omega)];rfl)
  unfold P2
  rw [h]
  cases O8 (signalE m) 0 m.Signals<;>rfl
end Go.Abs.Roadsz
/-! Loops over lists, as functions on lists. -/
namespace Go.Abs
open Go
section
variable {α β σ S τ:Type}
/-- What a loop over a list makes, with a state, and with a way out. -/
def Sm (step:Nat→σ→α→Sum σ τ)(fin:σ→τ):Nat→σ→List α→τ
  |_,s,[]=>fin s
  |i,s,a::r=>match step i s a with
   | .inl s'=>Sm step fin (i+1) s' r
   | .inr t=>t
theorem Ir {l:List α}{i:Nat}{a:α}{r:List α}(h:l.drop i=a::r):l[i]? =some a:=by
  have:=congrArg (fun z=>z[0]?) h
  simpa using this
theorem IB {F:S→Option (Stp S τ)}(pk:Nat→σ→S)(l:List α)(inv:Nat→σ→Prop)(step:Nat→σ→α→Sum σ τ)(fin:σ→τ){s0:σ}{S0:S}(hS:pk 0 s0=S0)(hi:inv 0 s0)
    (hF: ∀i a s,l[i]? =some a→inv i s→F (pk i s)=some (match step i s a with| .inl s'=> .go (pk (i+1) s')| .inr t=> .out t))
    (hI: ∀i a s s',l[i]? =some a→inv i s→step i s a= .inl s'→inv (i+1) s')
    (h0: ∀s,inv l.length s→F (pk l.length s)=some (.out (fin s))):loop F S0=some (Sm step fin 0 s0 l):=by
  have key: ∀(r:List α) (i:Nat) (s:σ),l.drop i=r→i≤l.length→inv i s→loop F (pk i s)=some (Sm step fin i s r):=by
    intro r
    induction r with
    |nil=>
     intro i s hi hil hv
     have:=Cy hi
     obtain rfl:i=l.length:=by omega
     exact N4 (h0 s hv)
    |cons a r ih=>
     intro i s hi hil hv
     have hlt:=Eo hi
     have ha:=Ir hi
     have hs:=hF i a s ha hv
     unfold Sm
     cases h:step i s a with
     |inl s'=>rw [h]at hs;rw [X5 hs];exact ih (i+1) s' (X8 hi) (by omega) (hI i a s s' ha hv h)
     |inr t=>rw [h]at hs;exact N4 hs
  rw [← hS]
  exact key l 0 s0 rfl (by omega) hi
/-- The same without a way out. -/
def Nc (step:Nat→σ→α→σ):Nat→σ→List α→σ
  |_,s,[]=>s
  |i,s,a::r=>Nc step (i+1) (step i s a) r
theorem Uj (step:Nat→σ→α→σ)(fin:σ→τ): ∀(l:List α) (i:Nat) (s:σ),Sm (fun i s a=> .inl (step i s a)) fin i s l=fin (Nc step i s l)
  | [],_,_=>rfl
  |_::r,i,_=>Uj step fin r (i+1) _
theorem IC {F:S→Option (Stp S τ)}(pk:Nat→σ→S)(l:List α)(inv:Nat→σ→Prop)(step:Nat→σ→α→σ)(fin:σ→τ){s0:σ}{S0:S}(hS:pk 0 s0=S0)(hi:inv 0 s0)
    (hF: ∀i a s,l[i]? =some a→inv i s→F (pk i s)=some (.go (pk (i+1) (step i s a))))
    (hI: ∀i a s,l[i]? =some a→inv i s→inv (i+1) (step i s a))
    (h0: ∀s,inv l.length s→F (pk l.length s)=some (.out (fin s))):loop F S0=some (fin (Nc step 0 s0 l)):=by
  rw [← Uj step fin]
  exact IB pk l inv _ fin hS hi hF (fun i a s s' h1 h2 h3=>by cases h3;exact hI i a s h1 h2) h0
/-- The elements that a loop gathers. -/
def Z9 (g:Nat→α→Option β):Nat→List α→List β
  |_,[]=> []
  |i,a::r=>match g i a with
   |some b=>b::Z9 g (i+1) r
   |none=>Z9 g (i+1) r
theorem Ej (g:Nat→α→Option β): ∀(l:List α) (i:Nat),(Z9 g i l).length≤l.length
  | [],_=>bO _
  |a::r,i=>by
   have:=Ej g r (i+1)
   unfold Z9
   cases g i a<;>simp only [lJ]<;>omega
theorem Qq (g:Nat→α→Option β): ∀(l:List α) (i:Nat) (s:List β),Nc (fun i s a=>match g i a with|some b=>s++ [b]|none=>s) i s l=s++Z9 g i l
  | [],_,s=>by simp [Nc,Z9]
  |a::r,i,s=>by
   unfold Nc Z9
   rw [Qq g r (i+1)]
   cases g i a<;>simp
theorem ST {F:S→Option (Stp S τ)}(pk:Nat→List β→S)(l:List α)(g:Nat→α→Option β)(fin:List β→τ){S0:S}(hS:pk 0 []=S0)
    (hF: ∀i a (s:List β),l[i]? =some a→s.length≤i→F (pk i s)=some (.go (pk (i+1) (match g i a with|some b=>s++ [b]|none=>s))))
    (h0: ∀s,F (pk l.length s)=some (.out (fin s))):loop F S0=some (fin (Z9 g 0 l)):=by
  have:=IC pk l (fun i s=>s.length≤i) (fun i s a=>match g i a with|some b=>s++ [b]|none=>s) fin hS (by simp) hF (fun i a s _ hs=>by
    cases g i a<;>simp<;>omega) (fun s _=>h0 s)
  rw [this,Qq,lN]
theorem GS {F:List β×Int→Option (Stp (List β×Int) τ)}(l:List α)(g:Nat→α→Option β)(fin:List β→τ)
    (hF: ∀(i:Nat) a (s:List β),l[i]? =some a→s.length≤i→F (s,(i:Int))=some (.go ((match g i a with|some b=>s++ [b]|none=>s),((i+1:Nat):Int))))
    (h0: ∀s,F (s,(l.length:Int))=some (.out (fin s))):loop F ([],0)=some (fin (Z9 g 0 l)):=ST (fun i s=>(s,(i:Int))) l g fin rfl hF h0
/-- Is there one? -/
theorem Xp {F:Int→Option (Stp Int (Sum Unit β))}(l:List α)(p:α→Bool)(v:β)(hF: ∀(i:Nat) a,l[i]? =some a→F (i:Int)=some (if p a then .out (.inr v)else .go ((i+1:Nat):Int)))(h0:F (l.length:Int)=some (.out (.inl ()))):
    loop F 0=some (if l.any p then .inr v else .inl ()):=by
  have key: ∀(l:List α) (i:Nat),Sm (fun _ _ a=>if p a then Sum.inr (Sum.inr v)else Sum.inl ()) (fun _=>(Sum.inl ():Sum Unit β)) i () l=if l.any p then .inr v else .inl ():=by
    intro l
    induction l with
    |nil=>intro i;rfl
    |cons a r ih=>
     intro i
     unfold Sm
     rw [List.any_cons]
     cases h:p a
     ·exact ih (i+1)
     ·rfl
  rw [← key l 0]
  exact IB (F:=F) (σ:=Unit) (fun i _=>(i:Int)) l (fun _ _=>True) _ _ (s0:=()) rfl trivial (fun i a _ h _=>by rw [hF i a h];cases p a<;>rfl) (fun _ _ _ _ _ _ _=>trivial) (fun _ _=>h0)
end
theorem Q4 {i:Nat}{n:Nat}(h:i<n):decide ((i:Int)< (n:Int))=true:=l9 (by omega)
theorem M5 (n:Nat):decide ((n:Int)< (n:Int))=false:=bA (by omega)
theorem K5 {i:Nat}{n:Nat}(h:i<n)(hn:n≤1000000000000):H6 ((i:Int)+1)=((i+1:Nat):Int):=by rw [R5 (by omega)];omega
end Go.Abs
namespace Go.Abs.Roadsz
open Go Go.Abs
structure BearZ (m:Map):Prop where
  many:m.Zones.length≤1000000
  parts: ∀z∈m.Zones,z.Parts.length≤1000000
noncomputable def Y9 (m:Map)(k:Int):Int:=((m.Lanes[k.toNat]?).map fun l=>Jf l.Curve_).getD 0
noncomputable def Sn (m:Map)(p:Part):Bool:=decide (p.From<0)||decide (p.From≥p.To)||decide (p.To>Y9 m p.Lane_)||decide (p.Rank<0)||decide (p.Rank>100)
noncomputable def zoneE (m:Map)(_:Nat)(z:Zone):Option Int:=
  if z.Parts.length<2 then some 6
  else if 6<z.Parts.length then some 8
  else if z.Signal_<0∨(m.Signals.length:Int)<z.Signal_ then some 2
  else if Hq m.Lanes.length 0 (z.Parts.map (·.Lane_))=false then some 11
  else if z.Parts.any (Sn m)=true then some 2 else none
theorem BO {m:Map}{k:Int}(h0:0≤k)(h1:k<m.Lanes.length): ∃l,m.Lanes[k.toNat]? =some l∧E8 m.Lanes k=some l:=by
  have hlt:k.toNat<m.Lanes.length:=by omega
  refine ⟨m.Lanes[k.toNat],lG hlt,?_⟩
  unfold E8
  rw [bE h0,lG hlt]
theorem BP {m:Map}(B:Bear m){k:Int}(h0:0≤k)(h1:k<m.Lanes.length):V6 m k=some (Y9 m k):=by
  obtain ⟨l,e1,e2⟩:=BO h0 h1
  have:=RO (m:=m) e1 (B.pts l (lF e1)).1
  rw [show ((k.toNat:Nat):Int)=k by omega]at this
  rw [this,Y9,e1];rfl
theorem ED {α β:Type}(f:α→β): ∀(l:List α) (i:Nat),Z9 (fun _ a=>some (f a)) i l=l.map f
  | [],_=>rfl
  |a::r,i=>by rw [Z9,ED f r];rfl
theorem UJ {z:Zone}{F:List Int×Int→Option (Stp (List Int×Int) (List Int))}(hl:z.Parts.length≤1000000)
    (hF: ∀x,F x=cond (decide (x.2< (z.Parts.length:Int))) ((E8 z.Parts x.2).bind fun v=>(X6 x.1 [v.Lane_]).bind fun w=>some (.go (w,H6 (x.2+1)))) (some (.out x.1))):
    loop F ([],0)=some (z.Parts.map (·.Lane_)):=by
  rw [← ED (fun p:Part=>p.Lane_) z.Parts 0]
  refine ST (fun i s=>(s,(i:Int))) z.Parts (fun _ p=>some p.Lane_) id rfl (fun i a s ha hs=> ?_) (fun s=> ?_)
  ·have hi:=I7 ha
   rw [hF,Q4 hi,E5 ha,bC,lA,Bj (by simp;omega),lA,K5 hi (by omega)]
  ·rw [hF,M5];rfl
theorem OG {m:Map}(B:Bear m)(Z:BearZ m):R8 ⟨m⟩=some ((O8 (zoneE m) 0 m.Zones).getD 0):=by
  have hb:=B.lanes
  have h:=Gx m.Zones (N7 ⟨m⟩) (zoneE m) (fun i z hz=>by
    have hi:=I7 hz
    have hm:=Z.many
    have p1:=Z.parts z (lF hz)
    unfold N7 zoneE
    dsimp only
    rw [Q4 hi,E5 hz,bC,lA,UJ p1 (F:=Cc z) (fun x=>rfl),lA,Tt _ _ _ (by simpa using p1) (by omega) (by omega),lA,K5 hi (by omega)]
    by_cases h1:z.Parts.length<2
    ·rw [bE h1,show decide ((z.Parts.length:Int)<2)=true from l9 (by omega)];rfl
    ·rw [bF h1,show decide ((z.Parts.length:Int)<2)=false from bA (by omega),bD]
     by_cases h2:6<z.Parts.length
     ·rw [bE h2,show decide ((z.Parts.length:Int)>6)=true from l9 (by omega)];rfl
     ·rw [bF h2,show decide ((z.Parts.length:Int)>6)=false from bA (by omega),bD]
      by_cases h3:z.Signal_<0∨(m.Signals.length:Int)<z.Signal_
      ·rw [bE h3,show ((decide (z.Signal_<0))||(decide (z.Signal_>(m.Signals.length:Int))))=true by simpa using h3];rfl
      ·rw [bF h3,show ((decide (z.Signal_<0))||(decide (z.Signal_>(m.Signals.length:Int))))=false by rw [bJ];simpa using h3,bD]
       cases h4:Hq (m.Lanes.length:Int) 0 (z.Parts.map (·.Lane_))
       ·rfl
       ·rw [bF (by decide)]
        have:=Xp (F:=N6 ⟨m⟩ z) z.Parts (Sn m) (2:Int) (fun j p hp=>by
          have hj:=I7 hp
          have hk:=Ls h4 p.Lane_ (List.mem_map.2 ⟨p,lF hp,rfl⟩)
          unfold N6 Sn
          dsimp only
          rw [Q4 hj,E5 hp,bC,lA,BP B hk.1 hk.2,K5 hj (by omega)]
          cases h5:(decide (p.From<0)||decide (p.From≥p.To))
          ·simp only [Bool.not_false,bC,lA]
           cases (false||decide (p.To>Y9 m p.Lane_)||decide (p.Rank<0)||decide (p.Rank>100))<;>rfl
          ·rfl) (by unfold N6;rw [M5];rfl)
        rw [this]
        cases z.Parts.any (Sn m)<;>rfl) (by
    unfold N7
    dsimp only
    rw [M5];rfl)
  unfold R8
  rw [h]
  cases O8 (zoneE m) 0 m.Zones<;>rfl
structure BearW (m:Map):Prop where
  many:m.Works.length≤1000000
noncomputable def workE (m:Map)(_:Nat)(w:Work):Option Int:=
  if w.Lane_<0∨(m.Lanes.length:Int)≤w.Lane_ then some 7
  else if (decide (w.From<0)||decide (w.From>w.To)||decide (w.To>Y9 m w.Lane_)||decide (w.Begin<0)||decide (w.Begin≥w.End)||decide (w.End>1099511627776)|| !Uz w.Limit 0 ((m.Lanes[w.Lane_.toNat]?).map fun l=>(Ts l.Kind).1).get!)=true then some 2 else none
theorem OH {m:Map}(B:Bear m)(W:BearW m):R9 ⟨m⟩=some ((O8 (workE m) 0 m.Works).getD 0):=by
  have hb:=B.lanes
  have h:=Gx m.Works (N8 ⟨m⟩) (workE m) (fun i w hw=>by
    have hi:=I7 hw
    have hm:=W.many
    unfold N8 workE
    dsimp only
    rw [Q4 hi,E5 hw,bC,lA,K5 hi (by omega)]
    by_cases h1:w.Lane_<0∨(m.Lanes.length:Int)≤w.Lane_
    ·rw [bE h1,show ((decide (w.Lane_<0))||(decide (w.Lane_≥(m.Lanes.length:Int))))=true by simpa using h1];rfl
    ·rw [bF h1,show ((decide (w.Lane_<0))||(decide (w.Lane_≥(m.Lanes.length:Int))))=false by rw [bJ];simpa using h1,bD]
     obtain ⟨l,e1,e2⟩:=BO (m:=m) (k:=w.Lane_) (by omega) (by omega)
     rw [e2,lA,Zq,lA,BP B (by omega) (by omega),Jk,e1]
     simp only [lE,Option.get!_some]
     cases (decide (w.From<0)||decide (w.From>w.To))
     ·simp only [Bool.not_false,bC,lA]
      cases (false||decide (w.To>Y9 m w.Lane_)||decide (w.Begin<0)||decide (w.Begin≥w.End)||decide (w.End>1099511627776))
      ·simp only [Bool.not_false,bC,lA]
       by_cases hq:Uz w.Limit 0 (Ts l.Kind).1=true<;>simp [hq]
      ·rfl
     ·rfl) (by
    unfold N8
    dsimp only
    rw [M5];rfl)
  unfold R9
  rw [h]
  cases O8 (workE m) 0 m.Works<;>rfl
/-- All lists of a map are of bearable lengths. -/
structure BearM (m:Map):Prop where
  toBear:Bear m
  toBearS:BearS m
  toBearZ:BearZ m
  toBearW:BearW m
theorem BearM.lanes {m:Map}(B:BearM m):m.Lanes.length≤1000000:=B.toBear.lanes
noncomputable def Iy (m:Map):Int:=
  if Uz m.Version 0 1099511627776=false then 2
  else if m.Lanes.length=0 then 6
  else if 12<m.Lanes.length∨12<m.Zones.length∨4<m.Signals.length∨8<m.Works.length then 8
  else ((O8 (laneE m.Lanes.length) 0 m.Lanes).or ((O8 (nextE m) 0 m.Lanes).or ((O8 (signalE m) 0 m.Signals).or ((O8 (zoneE m) 0 m.Zones).or (O8 (workE m) 0 m.Works))))).getD 0
theorem Bv {α:Type}{g:Nat→α→Option Int}(h: ∀i a e,g i a=some e→e≠0): ∀{l:List α} {i:Nat} {e:Int},O8 g i l=some e→e≠0
  | [],_,_,q=>by cases q
  |a::r,i,e,q=>by
   unfold O8 at q
   cases hg:g i a with
   |some e'=>rw [hg]at q;cases q;exact h i a e hg
   |none=>rw [hg]at q;exact Bv h q
theorem EE {m:Map}{i:Nat}{z:Zone}{e:Int}(h:zoneE m i z=some e):e≠0:=by
  unfold zoneE at h
  repeat' split at h
  all_goals first|(cases h;decide)|cases h
theorem Xq {m:Map}{i:Nat}{z:Signal}{e:Int}(h:signalE m i z=some e):e≠0:=by
  unfold signalE at h
  repeat' split at h
  all_goals first|(cases h;decide)|cases h
theorem EF {m:Map}{i:Nat}{z:Work}{e:Int}(h:workE m i z=some e):e≠0:=by
  unfold workE at h
  repeat' split at h
  all_goals first|(cases h;decide)|cases h
theorem EG {m:Map}{i:Nat}{z:Lane}{e:Int}(h:nextE m i z=some e):e≠0:=Bv (fun _ _ _=>JT) h
theorem Df {m:Map}(B:BearM m):Q5 m=some (Iy m):=by
  have hb:=B.lanes
  have s0:K9 m 0=(W4 ⟨m⟩).bind fun v2=>cond (v2 !=0) (some (.out (.inr v2))) (some (.go 1)):=rfl
  have s1:K9 m 1=(R7 ⟨m⟩).bind fun v2=>cond (v2 !=0) (some (.out (.inr v2))) (some (.go 2)):=rfl
  have s2:K9 m 2=(Q6 ⟨m⟩).bind fun v2=>cond (v2 !=0) (some (.out (.inr v2))) (some (.go 3)):=rfl
  have s3:K9 m 3=(P2 ⟨m⟩).bind fun v2=>cond (v2 !=0) (some (.out (.inr v2))) (some (.go 4)):=rfl
  have s4:K9 m 4=(R8 ⟨m⟩).bind fun v2=>cond (v2 !=0) (some (.out (.inr v2))) (some (.go 5)):=rfl
  have s5:K9 m 5=(R9 ⟨m⟩).bind fun v2=>cond (v2 !=0) (some (.out (.inr v2))) (some (.go 6)):=rfl
  have s6:K9 m 6=some (.out (.inl ())):=rfl
  have UK: ∀(i j:Int) (e:Option Int) (X:Option Int),(∀e',e=some e'→e'≠0)→X=some (e.getD 0)→K9 m i=X.bind (fun v2=>cond (v2 !=0) (some (.out (.inr v2))) (some (.go j)))→loop (K9 m) i=match e with|some e'=>some (.inr e')|none=>loop (K9 m) j:=by
    intro i j e X he hX hs
    subst hX
    rw [lA]at hs
    cases e with
    |none=>exact X5 hs
    |some e'=>
     rw [Option.getD_some,show (e' !=0)=true by simpa using he e' rfl]at hs
     exact N4 hs
  unfold Q5 Iy
  have hnum:W4 ⟨m⟩=some ((if Uz m.Version 0 1099511627776=false then some 2 else if m.Lanes.length=0 then some 6 else if 12<m.Lanes.length∨12<m.Zones.length∨4<m.Signals.length∨8<m.Works.length then some 8 else none:Option Int).getD 0):=by
    unfold W4
    dsimp only
    rw [Jk,lA]
    cases Uz m.Version 0 1099511627776
    ·rfl
    ·simp only [bI,bD,Bool.true_eq_false,if_false]
     by_cases h1:m.Lanes.length=0
     ·rw [bE h1,h1];rfl
     ·rw [bF h1,show ((m.Lanes.length:Int)==0)=false by simp only [beq_eq_false_iff_ne];omega,bD]
      by_cases h2:12<m.Lanes.length∨12<m.Zones.length∨4<m.Signals.length∨8<m.Works.length
      ·rw [bE h2,show ((((decide ((m.Lanes.length:Int)>12))||(decide ((m.Zones.length:Int)>12)))||(decide ((m.Signals.length:Int)>4)))||(decide ((m.Works.length:Int)>8)))=true by simp;omega];rfl
      ·rw [bF h2,show ((((decide ((m.Lanes.length:Int)>12))||(decide ((m.Zones.length:Int)>12)))||(decide ((m.Signals.length:Int)>4)))||(decide ((m.Works.length:Int)>8)))=false by simp;omega];rfl
  rw [UK 0 1 _ _ (by (repeat' split);all_goals (intro e' h;first|(cases h;decide)|cases h)) hnum s0]
  by_cases q1:Uz m.Version 0 1099511627776=false
  ·rw [bE q1,bE q1];rfl
  ·rw [bF q1,bF q1]
   by_cases q2:m.Lanes.length=0
   ·rw [bE q2,bE q2];rfl
   ·rw [bF q2,bF q2]
    by_cases q3:12<m.Lanes.length∨12<m.Zones.length∨4<m.Signals.length∨8<m.Works.length
    ·rw [bE q3,bE q3];rfl
    ·rw [bF q3,bF q3]
     dsimp only
     rw [UK 1 2 _ _ (fun e' h=>Bv (fun _ _ _=>EB) h) (OE B.toBear) s1]
     cases H:O8 (laneE m.Lanes.length) 0 m.Lanes with
     |some e=>rfl
     |none=>
      dsimp only
      rw [UK 2 3 _ _ (fun e' h=>Bv (fun _ _ _=>EG) h) (JU B.toBear H).1 s2]
      cases O8 (nextE m) 0 m.Lanes with
      |some e=>rfl
      |none=>
       dsimp only
       rw [UK 3 4 _ _ (fun e' h=>Bv (fun _ _ _=>Xq) h) (GR B.toBear B.toBearS) s3]
       cases O8 (signalE m) 0 m.Signals with
       |some e=>rfl
       |none=>
        dsimp only
        rw [UK 4 5 _ _ (fun e' h=>Bv (fun _ _ _=>EE) h) (OG B.toBear B.toBearZ) s4]
        cases O8 (zoneE m) 0 m.Zones with
        |some e=>rfl
        |none=>
         dsimp only
         rw [UK 5 6 _ _ (fun e' h=>Bv (fun _ _ _=>EF) h) (OH B.toBear B.toBearW) s5]
         cases O8 (workE m) 0 m.Works with
         |some e=>rfl
         |none=>dsimp only;rw [N4 s6];rfl
/-- What a valid map is. -/
structure ValR (m:Map):Prop where
  ver:0≤m.Version∧m.Version≤1099511627776
  pos:0<m.Lanes.length
  lanes:m.Lanes.length≤12
  zones:m.Zones.length≤12
  signals:m.Signals.length≤4
  works:m.Works.length≤8
  laneE:O8 (laneE m.Lanes.length) 0 m.Lanes=none
  nextE:O8 (nextE m) 0 m.Lanes=none
  signalE:O8 (signalE m) 0 m.Signals=none
  zoneE:O8 (zoneE m) 0 m.Zones=none
  workE:O8 (workE m) 0 m.Works=none
theorem JW {α:Type}{g:Nat→α→Option Int}{l:List α}(h: ∀i a e,g i a=some e→e≠0)(h0:(O8 g 0 l).getD 0=0):O8 g 0 l=none:=by
  cases q:O8 g 0 l with
  |none=>rfl
  |some e=>rw [q]at h0;exact absurd h0 (Bv h q)
theorem chkR_zero {m:Map}:Iy m=0↔ValR m:=by
  unfold Iy
  constructor
  ·intro h
   split at h
   ·cases h
   ·rename_i h1
    split at h
    ·cases h
    ·rename_i h2
     split at h
     ·cases h
     ·rename_i h3
      simp only [Uz,Bool.not_eq_false,bG,bB]at h1
      have key: ∀{o r:Option Int},(∀e,o=some e→e≠0)→(o.or r).getD 0=0→o=none∧r.getD 0=0:=by
        intro o r ho hr
        cases o with
        |none=>exact ⟨rfl,hr⟩
        |some e=>exact absurd hr (ho e rfl)
      obtain ⟨a1,h⟩:=key (fun e h=>Bv (fun _ _ _=>EB) h) h
      obtain ⟨a2,h⟩:=key (fun e h=>Bv (fun _ _ _=>EG) h) h
      obtain ⟨a3,h⟩:=key (fun e h=>Bv (fun _ _ _=>Xq) h) h
      obtain ⟨a4,h⟩:=key (fun e h=>Bv (fun _ _ _=>EE) h) h
      exact ⟨h1,by omega,by omega,by omega,by omega,by omega,a1,a2,a3,a4,JW (fun _ _ _=>EF) h⟩
  ·rintro ⟨h1,h2,h3,h4,h5,h6,a1,a2,a3,a4,a5⟩
   rw [bF (by simp only [Uz,Bool.not_eq_false,bG,bB];exact h1),bF (by omega),bF (by omega),a1,a2,a3,a4,a5];rfl
section
variable {m:Map}
theorem ValR.laneOK (V:ValR m){i:Nat}{l:Lane}(h:m.Lanes[i]? =some l):LaneOK m.Lanes.length i l:=Ol V.laneE h
theorem ValR.next (V:ValR m){i:Nat}{l:Lane}(h:m.Lanes[i]? =some l){k:Int}(hk:k∈l.Next):(i:Int)<k∧k<m.Lanes.length:=by
  have:=Ls (V.laneOK h).next k hk
  omega
end
/-- The lanes in which a lane goes on. -/
def nextOf (m:Map)(a:Nat):List Int:=((m.Lanes[a]?).map (·.Next)).getD []
theorem ValR.nextOf {m:Map}(V:ValR m){a:Nat}{k:Int}(hk:k∈Roadsz.nextOf m a):(a:Int)<k∧k<m.Lanes.length:=by
  unfold Roadsz.nextOf at hk
  cases h:m.Lanes[a]? with
  |none=>rw [h]at hk;cases hk
  |some l=>rw [h]at hk;exact V.next h hk
def Gk (m:Map)(b:Int):Nat→Nat→Bool
  |0,_=>false
  |n+1,a=>(nextOf m a).any fun k=>k==b||Gk m b n k.toNat
theorem EH {m:Map}(V:ValR m)(b:Int): ∀(n n' a:Nat),m.Lanes.length≤a+n→m.Lanes.length≤a+n'→Gk m b n a=Gk m b n' a:=by
  intro n
  induction n with
  |zero=>
   intro n' a h h'
   have:nextOf m a= []:=by
     unfold nextOf
     rw [List.getElem?_eq_none (by omega)];rfl
   cases n' with
   |zero=>rfl
   |succ n'=>rw [Gk,Gk,this];rfl
  |succ n ih=>
   intro n' a h h'
   cases n' with
   |zero=>
    have:nextOf m a= []:=by
      unfold nextOf
      rw [List.getElem?_eq_none (by omega)];rfl
    rw [Gk,Gk,this];rfl
   |succ n'=>
    rw [Gk,Gk]
    rw [Bool.eq_iff_iff,List.any_eq_true,List.any_eq_true]
    refine exists_congr fun k=>and_congr_right fun hk=> ?_
    have:=V.nextOf hk
    rw [ih n' k.toNat (by omega) (by omega)]
/-- Does a lane lead to another one? -/
def Kc (m:Map)(a:Nat)(b:Int):Bool:=Gk m b m.Lanes.length a
theorem JX {m:Map}(V:ValR m)(a:Nat)(b:Int):Kc m a b=(nextOf m a).any fun k=>k==b||Kc m k.toNat b:=by
  unfold Kc
  rw [EH V b _ (m.Lanes.length+1) a (by omega) (by omega),Gk]
theorem GU {x:Nat}(h:x<2^32):IntKind.wrap .u32 (x:Int)=(x:Int):=by
  have e:IntKind.wrap .u32 (x:Int)=(x:Int) % 4294967296:=rfl
  rw [e];omega
theorem OI {x:Int}(h0:0≤x)(h:x<4294967296):IntKind.wrap .u64 x=x:=by
  have e:IntKind.wrap .u64 x=x % 18446744073709551616:=rfl
  rw [e];omega
theorem RP {x:Nat}(_:x<2^32):BitVec.ofInt 32 (x:Int)=BitVec.ofNat 32 x:=by
  rw [BitVec.ofInt_natCast]
theorem WA {x y:Nat}(hx:x<2^32)(hy:y<2^32):IntKind.wrap .u32 (((BitVec.ofInt (IntKind.bits .u32) (x:Int)|||BitVec.ofInt (IntKind.bits .u32) (y:Int)).toNat:Nat))=((x|||y:Nat):Int):=by
  have:(BitVec.ofInt (IntKind.bits .u32) (x:Int)|||BitVec.ofInt (IntKind.bits .u32) (y:Int)).toNat=x|||y:=by
    show (BitVec.ofInt 32 (x:Int)|||BitVec.ofInt 32 (y:Int)).toNat=x|||y
    rw [RP hx,RP hy,BitVec.toNat_or,BitVec.toNat_ofNat,BitVec.toNat_ofNat,Nat.mod_eq_of_lt hx,Nat.mod_eq_of_lt hy]
  rw [this]
  exact GU (Nat.or_lt_two_pow hx hy)
theorem WV (x:Nat)(b:Nat):(((x>>>b)&&&1)==1)=x.testBit b:=by
  rw [Nat.testBit,Nat.and_comm]
  have:1&&& (x>>>b)=(x>>>b) % 2:=Nat.one_and_eq_mod_two _
  rw [this]
  rcases Nat.mod_two_eq_zero_or_one (x>>>b)with h|h<;>rw [h]<;>rfl
theorem WW {k:Int}(h0:0≤k)(h:k<32):NN .u32 1 (IntKind.wrap .u64 k)=some ((2^k.toNat:Nat):Int):=by
  rw [OI h0 (by omega)]
  unfold NN
  rw [bF (by omega)]
  have:min k.toNat (IntKind.bits .u32)=k.toNat:=by show min k.toNat 32=_;omega
  rw [this,Int.one_mul,show ((2:Int)^k.toNat)=((2^k.toNat:Nat):Int) by simp]
  rw [GU (Nat.pow_lt_pow_right (by decide) (by omega))]
theorem GV {x:Nat}(hx:x<2^32){b:Int}(h0:0≤b)(h:b<32):Eh (x:Int) b=some (x.testBit b.toNat):=by
  unfold Eh RF
  rw [OI h0 (by omega),bF (by omega),lA]
  have e1:min b.toNat (IntKind.bits .u32)=b.toNat:=by show min b.toNat 32=_;omega
  have e2:((x:Int).fdiv (2^b.toNat))=((x>>>b.toNat:Nat):Int):=by
    rw [show ((2:Int)^b.toNat)=((2^b.toNat:Nat):Int) by simp,Nat.shiftRight_eq_div_pow]
    rw [Int.fdiv_eq_ediv_of_nonneg _ (Int.natCast_nonneg _)];rfl
  have hy:x>>>b.toNat<2^32:=by rw [Nat.shiftRight_eq_div_pow];exact Nat.lt_of_le_of_lt (Nat.div_le_self _ _) hx
  rw [e1,e2]
  have e3:(BitVec.ofInt (IntKind.bits .u32) ((x>>>b.toNat:Nat):Int)&&&BitVec.ofInt (IntKind.bits .u32) 1).toNat=x>>>b.toNat&&&1:=by
    show (BitVec.ofInt 32 ((x>>>b.toNat:Nat):Int)&&&BitVec.ofInt 32 ((1:Nat):Int)).toNat=_
    rw [RP hy,RP (by decide),BitVec.toNat_and,BitVec.toNat_ofNat,BitVec.toNat_ofNat,Nat.mod_eq_of_lt hy]
  rw [e3,GU (Nat.lt_of_le_of_lt (Nat.and_le_right) (by decide)),← WV]
  congr 1
  rw [Bool.eq_iff_iff];simp only [bK];omega
abbrev VB:=Int×Int×Int×Int×Int×Int×Int×Int×Int×Int×Int×Int
def Vn (v:List Int):VB:=((v.getD 0 0),(v.getD 1 0),(v.getD 2 0),(v.getD 3 0),(v.getD 4 0),(v.getD 5 0),(v.getD 6 0),(v.getD 7 0),(v.getD 8 0),(v.getD 9 0),(v.getD 10 0),(v.getD 11 0))
def WO (t:VB):List Int:= [t.1,t.2.1,t.2.2.1,t.2.2.2.1,t.2.2.2.2.1,t.2.2.2.2.2.1,t.2.2.2.2.2.2.1,t.2.2.2.2.2.2.2.1,t.2.2.2.2.2.2.2.2.1,t.2.2.2.2.2.2.2.2.2.1,t.2.2.2.2.2.2.2.2.2.2.1,t.2.2.2.2.2.2.2.2.2.2.2]
theorem ID {v:List Int}(h:v.length=12):WO (Vn v)=v:=by
  match v,h with
  | [_,_,_,_,_,_,_,_,_,_,_,_],_=>rfl
def Av (l:List Nat):List Int:=l.map fun x:Nat=>(x:Int)
theorem Tv {l:List Nat}{i:Nat}{x:Nat}(h:l[i]? =some x):E8 (Av l) (i:Int)=some (x:Int):=E5 (by rw [Av,lI,h];rfl)
/-- The round of the inner loop. -/
theorem GW {l:List Nat}(hl:l.length=12){i:Nat}{x:Nat}(hx:l[i]? =some x)(hx32:x<2^32){k:Int}{y:Nat}(hk0:0≤k)(hk:k<12)(hy:l[k.toNat]? =some y)(hy32:y<2^32){ln:Lane}{j:Nat}(hj:ln.Next[j]? =some k)(hn:ln.Next.length≤1000000)(z:VB):
    Bg ((i:Int),z) ln ((j:Int),Vn (Av l))=some (.go (((j+1:Nat):Int),Vn (Av (l.set i (x|||(y|||2^k.toNat)))))):=by
  have hi:i<12:=by have:=(lH.1 hx).1;omega
  have hp:2^k.toNat<2^32:=Nat.pow_lt_pow_right (by decide) (by omega)
  unfold Bg
  dsimp only
  rw [Q4 (I7 hj),E5 hj,bC,lA]
  have e: ∀t:VB,[t.1,t.2.1,t.2.2.1,t.2.2.2.1,t.2.2.2.2.1,t.2.2.2.2.2.1,t.2.2.2.2.2.2.1,t.2.2.2.2.2.2.2.1,t.2.2.2.2.2.2.2.2.1,t.2.2.2.2.2.2.2.2.2.1,t.2.2.2.2.2.2.2.2.2.2.1,t.2.2.2.2.2.2.2.2.2.2.2]=WO t:=fun _=>rfl
  rw [e,ID (by simpa [Av] using hl),Tv hx,lA]
  have hy':=Tv hy
  rw [show ((k.toNat:Nat):Int)=k by omega]at hy'
  rw [hy',lA,WW hk0 (by omega),lA,lA,WA hy32 hp,WA hx32 (Nat.or_lt_two_pow hy32 hp)]
  unfold JJ
  rw [bE ⟨by omega,by simp [Av];omega⟩,lA,K5 (I7 hj) (by omega)]
  have:(Av l).set (i:Int).toNat ((x|||(y|||2^k.toNat):Nat):Int)=Av (l.set i (x|||(y|||2^k.toNat))):=by
    rw [bN,Av,Av,List.map_set]
  rw [this];rfl
/-- What is known of the sets of the lanes from a number on. -/
structure Reach (m:Map)(i:Nat)(l:List Nat):Prop where
  len:l.length=12
  small: ∀(a x:Nat),l[a]? =some x→x<2^32
  zero: ∀(a:Nat),a<i→l[a]? =some 0
  bits: ∀(a x:Nat),i≤a→a<m.Lanes.length→l[a]? =some x→∀b:Nat,x.testBit b=Kc m a (b:Int)
theorem Reach.get {m:Map}{i:Nat}{l:List Nat}(R:Reach m i l){a:Nat}(h:a<12): ∃x,l[a]? =some x∧x<2^32:=by
  have:=R.len
  exact ⟨l[a],lG (by omega),R.small a _ (lG (by omega))⟩
theorem OJ {m:Map}(V:ValR m){i:Nat}{ln:Lane}(hln:m.Lanes[i]? =some ln){l0:List Nat}(R:Reach m (i+1) l0)(z:VB): ∀(r:List Int) (j:Nat) (l:List Nat) (x:Nat),ln.Next.drop j=r→l.length=12→l[i]? =some x→x<2^32→(∀a:Nat,a≠i→l[a]? =l0[a]?)→(∀b:Nat,x.testBit b=(ln.Next.take j).any fun k=>k==(b:Int)||Kc m k.toNat (b:Int))→
    ∃l',loop (Bg ((i:Int),z) ln) ((j:Int),Vn (Av l))=some (Vn (Av l'))∧Reach m i l':=by
  have hi:=I7 hln
  have h12:=V.lanes
  have hn:=(V.laneOK hln).few
  intro r
  induction r with
  |nil=>
   intro j l x hj hl hx hx32 hoth hb
   have hjl:=Cy hj
   refine ⟨l,N4 ?_,hl,fun a y hy=> ?_,fun a ha=> ?_,fun a y ha ha' hy b=> ?_⟩
   ·unfold Bg
    dsimp only
    rw [show decide ((j:Int)< (ln.Next.length:Int))=false from bA (by omega)];rfl
   ·by_cases e:a=i
    ·subst e;rw [hx]at hy;cases hy;exact hx32
    ·rw [hoth a e]at hy;exact R.small a y hy
   ·rw [hoth a (by omega)];exact R.zero a (by omega)
   ·by_cases e:a=i
    ·subst e;rw [hx]at hy;cases hy
     rw [hb b,JX V a,List.take_of_length_le hjl]
     unfold Roadsz.nextOf
     rw [hln];rfl
    ·rw [hoth a e]at hy;exact R.bits a y (by omega) ha' hy b
  |cons k r ih=>
   intro j l x hj hl hx hx32 hoth hb
   have hk:=Ir hj
   have hkm:=V.next hln (lF hk)
   obtain ⟨y,hy,hy32⟩:=R.get (a:=k.toNat) (by omega)
   have hy':l[k.toNat]? =some y:=by rw [hoth k.toNat (by omega)];exact hy
   have hp:2^k.toNat<2^32:=Nat.pow_lt_pow_right (by decide) (by omega)
   rw [X5 (GW hl hx hx32 (by omega) (by omega) hy' hy32 hk (by omega) z)]
   refine ih (j+1) _ _ (X8 hj) (by simpa using hl) (by rw [List.getElem?_set_self (by omega)]) (Nat.or_lt_two_pow hx32 (Nat.or_lt_two_pow hy32 hp)) (fun a ha=>by rw [List.getElem?_set_ne (Ne.symm ha)];exact hoth a ha) (fun b=> ?_)
   rw [Nat.testBit_or,Nat.testBit_or,hb b,R.bits k.toNat y (by omega) (by omega) hy b,Nat.testBit_two_pow,List.take_add_one,hk]
   simp only [Option.toList_some,List.any_append,List.any_cons,List.any_nil,Bool.or_false]
   rw [Bool.or_comm (Kc m k.toNat b)]
   congr 2
   rw [Bool.eq_iff_iff];simp only [bB,bK];omega
theorem Zu {m:Map}(V:ValR m): ∀(i:Nat) (l:List Nat),i≤m.Lanes.length→Reach m i l→∃l',loop (Z8 m) ((i:Int) - 1,Vn (Av l))=some (Vn (Av l'))∧Reach m 0 l'
  |0,l,_,R=>⟨l,N4 rfl,R⟩
  |i+1,l,hi,R=>by
   have h12:=V.lanes
   have hln:m.Lanes[i]? =some m.Lanes[i]:=lG (by omega)
   obtain ⟨x,hx,_⟩:=R.get (a:=i) (by omega)
   have hx0:=R.zero i (by omega)
   obtain ⟨l1,e1,R1⟩:=OJ V hln R (Vn (Av l)) m.Lanes[i].Next 0 l 0 rfl R.len hx0 (by decide) (fun _ _=>rfl) (fun b=>by simp)
   obtain ⟨l2,e2,R2⟩:=Zu V i l1 (by omega) R1
   refine ⟨l2,?_,R2⟩
   rw [← e2]
   refine X5 ?_
   unfold Z8
   dsimp only
   rw [show ((i+1:Nat):Int) - 1=(i:Int) by omega,show decide ((i:Int)≥0)=true from l9 (by omega),E5 hln,bC,lA]
   rw [show (0:Int)=((0:Nat):Int) from rfl,e1,lA,R5 (by omega)]
theorem OK {m:Map}(V:ValR m): ∃l,Dk m=some (Vn (Av l))∧Reach m 0 l:=by
  have h12:=V.lanes
  have hp:=V.pos
  have R0:Reach m m.Lanes.length (List.replicate 12 0):=by
    refine ⟨by simp,fun a x hx=> ?_,fun a ha=> ?_,fun a x h1 h2=>by omega⟩
    ·rw [List.getElem?_replicate]at hx
     split at hx
     ·cases hx;decide
     ·cases hx
    ·rw [List.getElem?_replicate,bE (by omega)]
  obtain ⟨l,e,R⟩:=Zu V m.Lanes.length (List.replicate 12 0) (bO _) R0
  refine ⟨l,?_,R⟩
  unfold Dk
  rw [R5 (by omega)]
  have:((0,0,0,0,0,0,0,0,0,0,0,0):VB)=Vn (Av (List.replicate 12 0)):=rfl
  rw [this,e];rfl
/-- The bit of a set. -/
theorem JY {m:Map}{l:List Nat}(V:ValR m)(R:Reach m 0 l){a b:Int}(ha:0≤a)(ha':a<m.Lanes.length)(hb:0≤b)(hb':b<32):((E8 (WO (Vn (Av l))) a).bind fun v=>Eh v b)=some (Kc m a.toNat b):=by
  have h12:=V.lanes
  obtain ⟨x,hx,h32⟩:=R.get (a:=a.toNat) (by omega)
  have:=Tv hx
  rw [show ((a.toNat:Nat):Int)=a by omega]at this
  rw [ID (by simpa [Av] using R.len),this,lA,GV h32 hb hb',R.bits a.toNat x (by omega) (by omega) hx b.toNat,show ((b.toNat:Nat):Int)=b by omega]
theorem Om (l:List Int)(hl:l.length≤1000000)(k:Int):I5 l k=some (l.contains k):=by
  unfold I5 S6
  rw [Iq l (fun x=>k==x) (by omega) (fun i a h=>by
   have hi:=I7 h
   unfold U9
   rw [Q4 hi,E5 h,bC,lA]
   cases k==a<;>rfl) (by unfold U9;rw [M5];rfl)]
  rw [lA,Kb,List.contains_eq_any_beq]
/-- What comes before a lane. -/
def Bl (m:Map)(k:Int):List Int:=Z9 (fun i (l:Lane)=>if l.Next.contains k then some (i:Int)else none) 0 m.Lanes
theorem Zv {m:Map}(B:BearM m)(k:Int):Y8 m k=some (Bl m k):=by
  unfold Y8 Bl
  have hb:=B.lanes
  rw [GS m.Lanes (fun i (l:Lane)=>if l.Next.contains k then some (i:Int)else none) id (fun i l s h hs=>by
   have hi:=I7 h
   unfold W8
   dsimp only
   rw [Q4 hi,E5 h,bC,lA,Om _ (B.toBear.pts l (lF h)).2,lA,Bj (by simp;omega),K5 hi (by omega)]
   cases l.Next.contains k<;>rfl) (fun s=>by unfold W8;rw [M5];rfl)]
  rfl
def Gy (z:Zone)(k:Int):Part×Bool:=match z.Parts.find? (fun p=>p.Lane_==k)with|some p=>(p,true)|none=>(⟨0,0,0,0⟩,false)
theorem Vo {z:Zone}(hl:z.Parts.length≤1000000)(k:Int):Bf z k=some (Gy z k):=by
  unfold Bf G4 Gy
  rw [Iq z.Parts (fun p=>p.Lane_==k) (by omega) (fun i a h=>by
   have hi:=I7 h
   unfold I8 Hp
   rw [Q4 hi,E5 h,bC,lA,lA]
   cases a.Lane_==k<;>rfl) (by unfold I8;rw [M5];rfl),lA]
  unfold OF
  cases h:z.Parts.findIdx? (fun p=>p.Lane_==k)with
  |none=>
   have:z.Parts.find? (fun p=>p.Lane_==k)=none:=by
     rw [List.find?_eq_none]
     have:=List.findIdx?_eq_none_iff.1 h
     intro x hx;simpa using this x hx
   rw [this];rfl
  |some i=>
   obtain ⟨hi,h1,h2⟩:=List.findIdx?_eq_some_iff_getElem.1 h
   have:z.Parts.find? (fun p=>p.Lane_==k)=some z.Parts[i]:=by
     rw [List.find?_eq_some_iff_getElem]
     exact ⟨h1,i,hi,rfl,fun j hj=>by simpa using h2 j hj⟩
   rw [this]
   dsimp only
   rw [show decide ((i:Int)<0)=false from bA (by omega),bD,MZ hi];rfl
/-- Is a lane an entry of a zone? -/
def Em (m:Map)(z:Zone)(b:Int):Bool:= !(z.Parts.any fun p=>Kc m p.Lane_.toNat b)
structure ZoneOK (m:Map)(z:Zone):Prop where
  two:2≤z.Parts.length
  six:z.Parts.length≤6
  sig:0≤z.Signal_∧z.Signal_≤m.Signals.length
  rise:Hq m.Lanes.length 0 (z.Parts.map (·.Lane_))=true
  part: ∀p∈z.Parts,0≤p.From∧p.From<p.To∧p.To≤Y9 m p.Lane_∧0≤p.Rank∧p.Rank≤100
theorem GX {m:Map}{i:Nat}{z:Zone}(h:zoneE m i z=none):ZoneOK m z:=by
  unfold zoneE at h
  split at h
  ·cases h
  ·rename_i h1
   split at h
   ·cases h
   ·rename_i h2
    split at h
    ·cases h
    ·rename_i h3
     split at h
     ·cases h
     ·rename_i h4
      split at h
      ·cases h
      ·rename_i h5
       refine ⟨by omega,by omega,by omega,by simpa using h4,fun p hp=> ?_⟩
       have:=List.any_eq_false.1 (bJ.2 h5) p hp
       simp only [Sn,bH,bB,not_or,Int.not_lt,Int.not_le,ge_iff_le,gt_iff_lt]at this
       omega
theorem ValR.zoneOK {m:Map}(V:ValR m){z:Zone}(hz:z∈m.Zones):ZoneOK m z:=by
  obtain ⟨i,hi,rfl⟩:=List.mem_iff_getElem.1 hz
  have:=firstE_none.1 V.zoneE i _ (lG hi)
  exact GX this
theorem ZoneOK.lane {m:Map}{z:Zone}(O:ZoneOK m z){p:Part}(hp:p∈z.Parts):0≤p.Lane_∧p.Lane_<m.Lanes.length:=Ls O.rise p.Lane_ (List.mem_map.2 ⟨p,hp,rfl⟩)
theorem Xr {m:Map}(V:ValR m){z:Zone}(O:ZoneOK m z){b:Int}(h0:0≤b)(h1:b<32):Au m z b=some (Em m z b):=by
  obtain ⟨l,e,R⟩:=OK V
  have h6:=O.six
  unfold Au F5 F9 Em
  rw [e,lA,Iq z.Parts (fun p=>Kc m p.Lane_.toNat b) (by omega) (fun i a h=>by
   have hi:=I7 h
   have hk:=O.lane (lF h)
   have hbit:=JY V R hk.1 hk.2 h0 h1
   unfold I0 Ev
   rw [Q4 hi,E5 h,bC,lA]
   cases hg:E8 (WO (Vn (Av l))) a.Lane_ with
   |none=>rw [hg]at hbit;cases hbit
   |some v=>
    rw [hg,lA]at hbit
    have hg':E8 ([(Vn (Av l)).1,(Vn (Av l)).2.1,(Vn (Av l)).2.2.1,(Vn (Av l)).2.2.2.1,(Vn (Av l)).2.2.2.2.1,(Vn (Av l)).2.2.2.2.2.1,(Vn (Av l)).2.2.2.2.2.2.1,(Vn (Av l)).2.2.2.2.2.2.2.1,(Vn (Av l)).2.2.2.2.2.2.2.2.1,(Vn (Av l)).2.2.2.2.2.2.2.2.2.1,(Vn (Av l)).2.2.2.2.2.2.2.2.2.2.1,(Vn (Av l)).2.2.2.2.2.2.2.2.2.2.2]:List Int) a.Lane_=some v:=hg
    rw [hg',lA,hbit,lA,lA]
    cases Kc m a.Lane_.toNat b<;>rfl) (by unfold I0;rw [M5];rfl)]
  rw [lA,Kb,lA]
def W2 (m:Map)(z:Zone):List Int:=Z9 (fun _ (p:Part)=>if Em m z p.Lane_ then some p.Lane_ else none) 0 z.Parts
theorem GY {m:Map}(V:ValR m){z:Zone}(O:ZoneOK m z):U2 m z=some (W2 m z):=by
  have h6:=O.six
  have h12:=V.lanes
  unfold U2 W2
  rw [GS z.Parts (fun _ (p:Part)=>if Em m z p.Lane_ then some p.Lane_ else none) id (fun i p s h hs=>by
   have hi:=I7 h
   have hk:=O.lane (lF h)
   unfold V0
   dsimp only
   rw [Q4 hi,E5 h,bC,lA,Xr V O hk.1 (by omega),lA,Bj (by simp;omega),K5 hi (by omega)]
   cases Em m z p.Lane_<;>rfl) (fun s=>by unfold V0;rw [M5];rfl)]
  rfl
theorem OL:Ff=some true:=law03_awake_le _ (by decide+kernel)
noncomputable def RQ (p q:Spot):Int:=rt (T7 (V1 p q) (V1 p q))
theorem Good.inv {last:Option CurveVector}{p q:Spot}{r:List Spot}(h:Good last (p::q::r)):RQ p q*RQ p q=T7 (V1 p q) (V1 p q)∧1000≤RQ p q∧RQ p q≤1048576∧(∀u,last=some u→0<T7 u (V1 p q))∧Good (some (V1 p q)) (q::r):=by
  cases h with|cons _ _ _ _ h1 h2 h3 h4 h=>exact ⟨h1,h2,h3,h4,h⟩
def UK (c:CurveCorridor):Ref01Stripe:=⟨c.piece.p,vs c.piece.v,c.piece.l,c.half,c.ends.1,c.ends.2⟩
def R2 (c d:CurveCorridor):Int:=(c.piece.l+d.piece.l+c.half+d.half)* (c.piece.l+d.piece.l+c.half+d.half)
theorem Xs (m:Map)(k:Int):(Bl m k).length≤m.Lanes.length:=Ej _ _ _
theorem Hr (n:Int){m:Int}(hm:0<m):0≤n % m∧n % m<m:=⟨Int.emod_nonneg n (by omega),Int.emod_lt_of_pos n hm⟩
theorem JZ {n m:Int}(hm:0<m):n % m=if n.tmod m<0 then n.tmod m+m else n.tmod m:=by
  have a:=Int.emod_nonneg n (show m≠0 by omega)
  have b:=Int.emod_lt_of_pos n hm
  rw [Int.tmod_eq_emod]
  by_cases q:0≤n∨m ∣ n
  ·rw [bE q,bF (by omega)];omega
  ·rw [bF q]
   have:n % m≠0:=fun e=>q (.inr (Int.dvd_of_emod_eq_zero e))
   rw [bE (by omega)];omega
theorem GZ {n m:Int}(hm:0<m)(hm2:m≤9223372036854775807):Rz n m=some (n % m):=by
  have h1:=JZ (n:=n) hm
  have a:=Hr n hm
  unfold Rz MR
  rw [bF (by omega),lA]
  by_cases q:n.tmod m<0
  ·rw [bE q]at h1
   rw [l9 q,bC,R5 (by omega),← h1]
  ·rw [bF q]at h1
   rw [bA q,bD,← h1]
def BQ (kind lim:Int)(next:List Int)(a b c d:Int):Lane:=⟨kind,⟨[⟨a,b⟩,⟨c,d⟩]⟩,if kind=3 then 500 else 1500,lim,next⟩
theorem RR (kind lim:Int)(next:List Int)(a b c d:Int):R4 kind lim next [a,b,c,d]=some (BQ kind lim next a b c d):=by
  unfold R4 BQ
  rw [X5 (s':=(2,⟨kind,⟨[⟨a,b⟩]⟩,1500,lim,next⟩)) rfl,X5 (s':=(4,⟨kind,⟨[⟨a,b⟩,⟨c,d⟩]⟩,1500,lim,next⟩)) rfl,N4 (t:=⟨kind,⟨[⟨a,b⟩,⟨c,d⟩]⟩,1500,lim,next⟩) rfl,lA]
  by_cases h:kind=3
  ·rw [bE h,h];rfl
  ·rw [bF h,show (kind==3)=false by simpa using h];rfl
def VC (off a b:Int):Signal:=⟨off,[⟨12,[a]⟩,⟨5,[]⟩,⟨9,[b]⟩,⟨4,[]⟩]⟩
/-- The numbers of which a map of the kit is made. -/
structure Par where
  lim:Int
  r:Int
  o:Int
  o':Int
  ver:Int
  wk:List Work
structure ParOK (p:Par):Prop where
  lim:p.lim=1500∨p.lim=600∨p.lim=1000∨p.lim=300
  r:p.r=0∨p.r=1
  o:0≤p.o∧p.o<31
  o':0≤p.o'∧p.o'<31
  ver:0≤p.ver∧p.ver<5
  wk:p.wk= []∨∃b l,0≤b∧b<40∧0≤l∧l≤400∧p.wk= [⟨0,10000,15000,b,b+20,l⟩]
def Gl (k:Nat)(lim:Int):List Lane:=match k with
  |0=> [BQ 1 lim [] 0 0 60000 0]
  |1|2=> [BQ 1 lim [] 0 0 50000 0,BQ 1 1500 [] 30000 (-20000) 30000 20000]
  |3=> [BQ 1 lim [1,2] 0 0 30000 0,BQ 1 1500 [] 30000 0 60000 0,BQ 1 800 [] 30000 0 54000 10000]
  |4=> [BQ 1 lim [2] 0 0 30000 0,BQ 1 1500 [2] 6000 (-10000) 30000 0,BQ 1 1500 [] 30000 0 60000 0]
  |5=> [BQ 1 lim [1] 0 0 20000 0,BQ 1 lim [] 20000 0 50000 0,BQ 3 200 [] 35000 (-8000) 35000 8000]
  |_=> [BQ 1 lim [1,2] 0 0 20000 0,BQ 1 1500 [] 20000 0 50000 0,BQ 1 1000 [] 20000 0 44000 10000,BQ 2 700 [] 36000 (-12000) 36000 18000]
def Qr (k:Nat)(r:Int):List Zone:=match k with
  |1=> [⟨[⟨0,28000,32000,r⟩,⟨1,18000,22000,2 - 2*r⟩],0⟩]
  |2=> [⟨[⟨0,28000,32000,r⟩,⟨1,18000,22000,2 - 2*r⟩],1⟩]
  |4=> [⟨[⟨0,25000,30000,1⟩,⟨1,20000,26000,0⟩,⟨2,0,5000,0⟩],0⟩]
  |5=> [⟨[⟨1,14000,16000,0⟩,⟨2,6000,10000,3⟩],0⟩]
  |6=> [⟨[⟨1,14000,18000,1⟩,⟨3,10000,14000,0⟩],0⟩,⟨[⟨2,14000,21000,1⟩,⟨3,14500,23000,0⟩],0⟩]
  |7=> [⟨[⟨1,14000,18000,1⟩,⟨3,10000,14000,0⟩],1⟩,⟨[⟨2,14000,21000,1⟩,⟨3,14500,23000,0⟩],2⟩]
  |_=> []
def Jb (k:Nat)(o o':Int):List Signal:=match k with
  |2=> [VC o 0 1]
  |7=> [VC o 1 3,VC o' 2 3]
  |_=> []
def Fv (k:Nat)(p:Par):Map:=⟨p.ver,Gl k p.lim,Qr k p.r,Jb k p.o p.o',p.wk⟩
theorem Xt (n:Int): ∃k p,k<8∧ParOK p∧Pc n=some (Fv k p):=by
  obtain ⟨h0,h1⟩:=Hr n (show (0:Int)<16777216 by decide)
  unfold Pc
  rw [GZ (by decide) (by decide),lA]
  generalize n % 16777216=v at h0 h1
  have t: ∀m:Int,0<m→v.tdiv m=v / m:=fun m hm=>by rw [Int.tdiv_eq_ediv_of_nonneg h0]
  have u: ∀x m:Int,0≤x→x.tmod m=x % m:=fun x m hx=>by rw [Int.tmod_eq_emod_of_nonneg hx]
  have d: ∀m:Int,0<m→0≤v / m∧v / m<16777216:=fun m hm=>⟨Int.ediv_nonneg h0 (by omega),Int.lt_of_le_of_lt (Int.ediv_le_self m h0) h1⟩
  have W: ∀m:Int,0<m→H6 (v / m)=v / m:=fun m hm=>R5 (by have:=d m hm;omega)
  rw [t 7 (by decide),t 28 (by decide),t 56 (by decide),t 1736 (by decide),t 5208 (by decide),t 208320 (by decide)]
  rw [W 7 (by decide),W 28 (by decide),W 56 (by decide),W 1736 (by decide),W 5208 (by decide),W 208320 (by decide)]
  rw [u (v / 7) _ (d 7 (by decide)).1,u (v / 28) 2 (d 28 (by decide)).1,u (v / 28) 31 (d 28 (by decide)).1,u (v / 56) 31 (d 56 (by decide)).1,u (v / 56) 17 (d 56 (by decide)).1,u (v / 1736) _ (d 1736 (by decide)).1,u (v / 5208) _ (d 5208 (by decide)).1,u (v / 208320) _ (d 208320 (by decide)).1,u v _ h0,u (v / 28) 5 (d 28 (by decide)).1]
  have b1:=Hr (v / 7) (show (0:Int)<4 by decide)
  have b2:=Hr (v / 28) (show (0:Int)<2 by decide)
  have b3:=Hr (v / 28) (show (0:Int)<31 by decide)
  have b4:=Hr (v / 56) (show (0:Int)<31 by decide)
  have b5:=Hr (v / 56) (show (0:Int)<17 by decide)
  have b6:=Hr (v / 5208) (show (0:Int)<40 by decide)
  have b7:=Hr (v / 208320) (show (0:Int)<3 by decide)
  have b8:=Hr v (show (0:Int)<7 by decide)
  have b9:=Hr (v / 28) (show (0:Int)<5 by decide)
  generalize v / 7 % 4=q1 at b1
  generalize v / 28 % 2=q2 at b2
  generalize v / 28 % 31=q3 at b3
  generalize v / 56 % 31=q4 at b4
  generalize v / 56 % 17=q5 at b5
  generalize v / 5208 % 40=q6 at b6
  generalize v / 208320 % 3=q7 at b7
  generalize v % 7=q8 at b8
  generalize v / 28 % 5=q9 at b9
  have e1: ∃lim:Int,E8 ([1500,600,1000,300]:List Int) q1=some lim∧(lim=1500∨lim=600∨lim=1000∨lim=300):=by
    rcases (show q1=0∨q1=1∨q1=2∨q1=3 by omega)with rfl|rfl|rfl|rfl
    ·exact ⟨1500,rfl,by decide⟩
    ·exact ⟨600,rfl,by decide⟩
    ·exact ⟨1000,rfl,by decide⟩
    ·exact ⟨300,rfl,by decide⟩
  obtain ⟨lim,e1,hlim⟩:=e1
  rw [e1,lA]
  have ew: ∀(L:List Lane) (Z:List Zone) (S:List Signal),∃wk,(wk= []∨∃b l,0≤b∧b<40∧0≤l∧l≤400∧wk= [⟨0,10000,15000,b,b+20,l⟩])∧
   (cond (v / 1736 % 3==1) (some (Map.mk q9 L Z S [(Work.mk 0 10000 15000 q6 (H6 (q6+20)) (H6 (q7*200)))])) (some (Map.mk q9 L Z S [])))=some ⟨q9,L,Z,S,wk⟩:=by
    intro L Z S
    cases v / 1736 % 3==1
    ·exact ⟨[], .inl rfl,rfl⟩
    ·exact ⟨[⟨0,10000,15000,q6,q6+20,q7*200⟩], .inr ⟨q6,q7*200,by omega,by omega,by omega,by omega,rfl⟩,by rw [R5 (by omega),R5 (by omega)];rfl⟩
  have er:H6 (2 - H6 (2*q2))=2 - 2*q2:=by rw [R5 (n:=2*q2) (by omega),R5 (by omega)]
  rw [er]
  simp only [RR,lA]
  have fin: ∀(k:Nat) (o o':Int) (L:List Lane) (Z:List Zone) (S:List Signal),k<8→0≤o∧o<31→0≤o'∧o'<31→L=Gl k lim→Z=Qr k q2→S=Jb k o o'→∃k p,k<8∧ParOK p∧(cond (v / 1736 % 3==1) (some (Map.mk q9 L Z S [(Work.mk 0 10000 15000 q6 (H6 (q6+20)) (H6 (q7*200)))])) (some (Map.mk q9 L Z S [])))=some (Fv k p):=by
    intro k o o' L Z S hk h1 h2 e1 e2 e3
    obtain ⟨wk,w1,w2⟩:=ew L Z S
    subst e1 e2 e3
    exact ⟨k,⟨lim,q2,o,o',q9,wk⟩,hk,⟨hlim,by dsimp only;omega,h1,h2,b9,w1⟩,w2⟩
  rcases (show q8=0∨q8=1∨q8=2∨q8=3∨q8=4∨q8=5∨q8=6 by omega)with rfl|rfl|rfl|rfl|rfl|rfl|rfl
  ·exact fin 0 0 0 _ _ _ (by decide) (by decide) (by decide) rfl rfl rfl
  ·exact fin 1 0 0 _ _ _ (by decide) (by decide) (by decide) rfl rfl rfl
  ·exact fin 2 q3 0 _ _ _ (by decide) b3 (by decide) rfl rfl rfl
  ·exact fin 3 0 0 _ _ _ (by decide) (by decide) (by decide) rfl rfl rfl
  ·exact fin 4 0 0 _ _ _ (by decide) (by decide) (by decide) rfl rfl rfl
  ·exact fin 5 0 0 _ _ _ (by decide) (by decide) (by decide) rfl rfl rfl
  ·rcases (show q2=0∨q2=1 by omega)with rfl|rfl
   ·exact fin 6 0 0 _ _ _ (by decide) (by decide) (by decide) rfl rfl rfl
   ·exact fin 7 q4 q5 _ _ _ (by decide) b4 (by omega) rfl rfl rfl
theorem KA:((List.range 8).all fun k=>([1500,600,1000,300]:List Int).all fun lim=>([0,1]:List Int).all fun r=>(@Q5 Bs) (Fv k ⟨lim,r,0,0,0,[]⟩)==some 0)=true:=by decide+kernel
theorem EI (k:Nat)(lim:Int):(Gl k lim).length≤4∧∀l∈Gl k lim,l.Curve_.Pts.length=2∧l.Next.length≤2:=by
  unfold Gl
  split<;>simp [BQ]
theorem EJ (k:Nat)(r:Int):(Qr k r).length≤2∧∀z∈Qr k r,z.Parts.length≤3:=by
  unfold Qr
  split<;>simp
theorem HA (k:Nat)(o o':Int):(Jb k o o').length≤2∧∀s∈Jb k o o',s.Phases.length=4∧∀p∈s.Phases,p.Green.length≤1:=by
  unfold Jb
  split<;>simp [VC]
theorem BR {m:Map}{k:Nat}{lim r o o':Int}(h1:m.Lanes=Gl k lim)(h2:m.Zones=Qr k r)(h3:m.Signals=Jb k o o')(h4:m.Works.length≤1):BearM m:=by
  obtain ⟨a1,a2⟩:=EI k lim
  obtain ⟨b1,b2⟩:=EJ k r
  obtain ⟨c1,c2⟩:=HA k o o'
  refine ⟨⟨by rw [h1];omega,fun l hl=> ?_⟩,⟨by rw [h3];omega,fun s hs=>⟨?_,fun p hp=> ?_⟩⟩,⟨by rw [h2];omega,fun z hz=> ?_⟩,⟨by omega⟩⟩
  ·rw [h1]at hl;have:=a2 l hl;omega
  ·rw [h3]at hs;have:=(c2 s hs).1;omega
  ·rw [h3]at hs;have:=(c2 s hs).2 p hp;omega
  ·rw [h2]at hz;have:=b2 z hz;omega
theorem ParOK.wk1 {p:Par}(h:ParOK p):p.wk.length≤1:=by
  rcases h.wk with e|⟨b,l,_,_,_,_,e⟩<;>rw [e]<;>simp
theorem EK {k:Nat}{p:Par}(h:ParOK p):BearM (Fv k p):=BR rfl rfl rfl h.wk1
theorem WB {k:Nat}{p:Par}(hk:k<8)(h:ParOK p):ValR (Fv k ⟨p.lim,p.r,0,0,0,[]⟩):=by
  have h1:=lW.1 KA k (List.mem_range.2 hk)
  have h2:=lW.1 h1 p.lim (by have:=h.lim;simp;omega)
  have h3:=lW.1 h2 p.r (by have:=h.r;simp;omega)
  have h4:=roads_Check_le _ _ (eq_of_beq h3)
  have h5:=Df (m:=Fv k ⟨p.lim,p.r,0,0,0,[]⟩) (BR rfl rfl rfl (bP 1))
  rw [h4]at h5
  exact chkR_zero.1 (lC h5).symm
/-- Another version, other offsets, other works. -/
theorem ValR.change {L:List Lane}{Z:List Zone}{S S':List Signal}{W W':List Work}{v v':Int}(V:ValR ⟨v,L,Z,S,W⟩)(hv:0≤v'∧v'≤1099511627776)(hl:S'.length=S.length)(hs: ∀s∈S',Roadsz.signalE ⟨v,L,Z,S,W⟩ 0 s=none)(hw:W'.length≤8)(hw': ∀w∈W',Roadsz.workE ⟨v,L,Z,S,W⟩ 0 w=none):ValR ⟨v',L,Z,S',W'⟩:=by
  refine ⟨hv,V.pos,V.lanes,V.zones,by show S'.length≤4;rw [hl];exact V.signals,hw,V.laneE,V.nextE,?_,?_,?_⟩
  ·rw [firstE_none]
   intro j a ha
   exact hs a (lF ha)
  ·have:=V.zoneE
   rw [firstE_none]at this ⊢
   intro j a ha
   have:=this j a ha
   unfold Roadsz.zoneE at this ⊢
   dsimp only at this ⊢
   rw [hl]
   exact this
  ·rw [firstE_none]
   intro j a ha
   exact hw' a (lF ha)
theorem KB (k:Nat)(o o' a a':Int):(Jb k o o').length=(Jb k a a').length:=by unfold Jb;split<;>rfl
theorem OM {k:Nat}{o o':Int}(h:0≤o∧o<31)(h':0≤o'∧o'<31){m:Map}(hm:m.Lanes.length=(Gl k 0).length): ∀s∈Jb k o o',signalE m 0 s=none:=by
  have key: ∀(off a b:Int),0≤off∧off<31→0≤a∧a<m.Lanes.length→0≤b∧b<m.Lanes.length→signalE m 0 (VC off a b)=none:=by
    intro off a b h1 h2 h3
    unfold signalE VC
    simp only [lJ,lL]
    rw [bF (by decide),bF (by decide),bF (by simp [Uz];omega),bF (by simp [Uz]),bF]
    simp only [List.any_cons,List.any_nil,Hq,Bool.and_true,Bool.or_false,bI,Bool.false_or,bH,Bool.not_eq_true',not_or,Bool.not_eq_false,bG,bB]
    omega
  intro s hs
  unfold Jb at hs
  split at hs
  ·rw [show (Gl 2 0).length=2 from rfl]at hm
   simp only [l8]at hs
   subst hs
   exact key _ _ _ h (by omega) (by omega)
  ·rw [show (Gl 7 0).length=4 from rfl]at hm
   simp only [lR,List.not_mem_nil,or_false]at hs
   rcases hs with rfl|rfl
   ·exact key _ _ _ h (by omega) (by omega)
   ·exact key _ _ _ h' (by omega) (by omega)
  ·cases hs
theorem HB (k:Nat)(lim:Int):(Gl k lim).length=(Gl k 0).length:=by unfold Gl;split<;>rfl
theorem Pe (c:Int)(h:(@Ak Bs) ⟨[⟨0,0⟩,⟨c,0⟩]⟩=some c):Jf ⟨[⟨0,0⟩,⟨c,0⟩]⟩=c:=by
  have h1:=curve_Length_le _ _ h
  rw [Na _ (by simp)]at h1
  exact lC h1
/-- The first lane of a map of the kit: a road, long enough. -/
theorem Uk (k:Nat)(lim:Int): ∃l,(Gl k lim)[0]? =some l∧l.Kind=1∧l.Limit=lim∧20000≤Jf l.Curve_∧Jf l.Curve_≤60000:=by
  have e6:=Pe 60000 (by decide+kernel)
  have e5:=Pe 50000 (by decide+kernel)
  have e3:=Pe 30000 (by decide+kernel)
  have e2:=Pe 20000 (by decide+kernel)
  unfold Gl
  split
  ·exact ⟨_,rfl,rfl,rfl,by show 20000≤Jf ⟨[⟨0,0⟩,⟨60000,0⟩]⟩∧Jf ⟨[⟨0,0⟩,⟨60000,0⟩]⟩≤60000;rw [e6];decide⟩
  ·exact ⟨_,rfl,rfl,rfl,by show 20000≤Jf ⟨[⟨0,0⟩,⟨50000,0⟩]⟩∧Jf ⟨[⟨0,0⟩,⟨50000,0⟩]⟩≤60000;rw [e5];decide⟩
  ·exact ⟨_,rfl,rfl,rfl,by show 20000≤Jf ⟨[⟨0,0⟩,⟨50000,0⟩]⟩∧Jf ⟨[⟨0,0⟩,⟨50000,0⟩]⟩≤60000;rw [e5];decide⟩
  ·exact ⟨_,rfl,rfl,rfl,by show 20000≤Jf ⟨[⟨0,0⟩,⟨30000,0⟩]⟩∧Jf ⟨[⟨0,0⟩,⟨30000,0⟩]⟩≤60000;rw [e3];decide⟩
  ·exact ⟨_,rfl,rfl,rfl,by show 20000≤Jf ⟨[⟨0,0⟩,⟨30000,0⟩]⟩∧Jf ⟨[⟨0,0⟩,⟨30000,0⟩]⟩≤60000;rw [e3];decide⟩
  ·exact ⟨_,rfl,rfl,rfl,by show 20000≤Jf ⟨[⟨0,0⟩,⟨20000,0⟩]⟩∧Jf ⟨[⟨0,0⟩,⟨20000,0⟩]⟩≤60000;rw [e2];decide⟩
  ·exact ⟨_,rfl,rfl,rfl,by show 20000≤Jf ⟨[⟨0,0⟩,⟨20000,0⟩]⟩∧Jf ⟨[⟨0,0⟩,⟨20000,0⟩]⟩≤60000;rw [e2];decide⟩
theorem WC {m:Map}{l:Lane}(hl:m.Lanes[0]? =some l)(hk:l.Kind=1){w:Work}(h:w.Lane_=0∧0≤w.From∧w.From≤w.To∧w.To≤Jf l.Curve_∧0≤w.Begin∧w.Begin<w.End∧w.End≤1099511627776∧0≤w.Limit∧w.Limit≤2000):workE m 0 w=none:=by
  obtain ⟨h1,h2,h3,h4,h5,h6,h7,h8,h9⟩:=h
  have hlen:=I7 hl
  unfold workE Y9
  rw [h1,show ((0:Int).toNat)=0 from rfl,hl,bF (by omega),bF]
  simp only [lE,Option.getD_some,Option.get!_some,hk,Uz,Ts,if_true,bH,bB,Bool.not_eq_true',not_or,Bool.not_eq_false,bG]
  omega
/-- A map of the kit is valid, with such works. -/
theorem ON {k:Nat}{p:Par}(hk:k<8)(h:ParOK p){W:List Work}(hw:W.length≤8)(hW: ∀w∈W,w.Lane_=0∧0≤w.From∧w.From≤w.To∧w.To≤Y9 (Fv k p) 0∧0≤w.Begin∧w.Begin<w.End∧w.End≤1099511627776∧0≤w.Limit∧w.Limit≤2000):ValR ⟨p.ver,Gl k p.lim,Qr k p.r,Jb k p.o p.o',W⟩:=by
  have V:=WB hk h
  obtain ⟨l,l1,l2,l3,l4,l5⟩:=Uk k p.lim
  have hv:=h.ver
  refine ValR.change (v:=0) (S:=Jb k 0 0) (W:= []) V (by omega) (KB k _ _ _ _) (fun s hs=>OM h.o h.o' (by exact HB k p.lim) s hs) hw (fun w hwm=> ?_)
  obtain ⟨a1,a2,a3,a4,a5,a6,a7,a8,a9⟩:=hW w hwm
  refine WC (l:=l) l1 l2 ⟨a1,a2,a3,?_,a5,a6,a7,a8,a9⟩
  have:Y9 (Fv k p) 0=Jf l.Curve_:=by
    unfold Y9 Fv
    dsimp only
    rw [show ((0:Int).toNat)=0 from rfl,l1];rfl
  omega
theorem KC (k:Nat)(p:Par):20000≤Y9 (Fv k p) 0∧Y9 (Fv k p) 0≤60000:=by
  obtain ⟨l,l1,l2,l3,l4,l5⟩:=Uk k p.lim
  unfold Y9 Fv
  dsimp only
  rw [show ((0:Int).toNat)=0 from rfl,l1]
  exact ⟨l4,l5⟩
theorem IE {k:Nat}{p:Par}(hk:k<8)(h:ParOK p):ValR (Fv k p):=by
  have hl:=KC k p
  refine ON hk h (bS h.wk1 (by decide)) (fun w hw=> ?_)
  rcases h.wk with e|⟨b,l,h1,h2,h3,h4,e⟩
  ·rw [e]at hw;cases hw
  ·rw [e]at hw
   simp only [l8]at hw
   subst hw
   dsimp only
   omega
/-! ### Limits -/
end Go.Abs.Roadsz
namespace Go.Abs
theorem pickI_mem {α β:Type}{g:Nat→α→Option β}{x:β}: ∀{l:List α} {i:Nat},x∈Z9 g i l↔∃j a,l[j]? =some a∧g (i+j) a=some x
  | [],i=>by simp [Z9]
  |a::r,i=>by
   unfold Z9
   have ih:=pickI_mem (g:=g) (x:=x) (l:=r) (i:=i+1)
   have sh:(∃j b,(a::r)[j]? =some b∧g (i+j) b=some x)↔g i a=some x∨∃j b,r[j]? =some b∧g (i+1+j) b=some x:=by
     constructor
     ·rintro ⟨j,b,h1,h2⟩
      cases j with
      |zero=>simp at h1;subst h1;exact .inl h2
      |succ j=>exact .inr ⟨j,b,by simpa using h1,by rwa [show i+1+j=i+ (j+1) by omega]⟩
     ·rintro (h|⟨j,b,h1,h2⟩)
      ·exact ⟨0,a,rfl,h⟩
      ·exact ⟨j+1,b,by simpa using h1,by rwa [show i+ (j+1)=i+1+j by omega]⟩
   rw [sh,← ih]
   cases h:g i a with
   |none=>simp
   |some b=>simp [eq_comm]
end Go.Abs
namespace Go.Abs.Roadsz
open Go Go.Abs
theorem mem_before {m:Map}{k x:Int}:x∈Bl m k↔∃(i:Nat) (l:Lane),m.Lanes[i]? =some l∧k∈l.Next∧x=(i:Int):=by
  unfold Bl
  rw [pickI_mem]
  refine exists_congr fun i=>exists_congr fun l=>and_congr_right fun _=> ?_
  rw [bR]
  by_cases h:l.Next.contains k=true
  ·rw [bE h]
   simp only [Option.some.injEq]
   exact ⟨fun e=>⟨by simpa using h,e.symm⟩,fun e=>e.2.symm⟩
  ·rw [bF h]
   simp only [reduceCtorEq,false_iff,not_and]
   intro hk
   exact absurd (by simpa using hk) h
/-! ### How long lanes are -/
theorem OO: ∀(l:List Int) (s:Int),(∀x∈l,0≤x∧x≤1048576)→0≤s→s+1048576*l.length≤9000000000000000000→s≤Xm s l∧Xm s l≤s+1048576*l.length
  | [],s,_,_,_=>by simp [Xm]
  |a::r,s,h,h0,h1=>by
   have ha:=h a (by simp)
   simp only [lJ]at h1 ⊢
   rw [Xm,R5 (by omega)]
   have:=OO r (s+a) (fun x hx=>h x (by simp [hx])) (by omega) (by omega)
   omega
theorem OP: ∀{l:List Spot} {last:Option CurveVector},Good last l→∀x∈Tq l,1000≤x∧x≤1048576:=by
  intro l last h
  induction h with
  |one last p=>intro x hx;simp [Tq]at hx
  |cons last p q r h1 h2 h3 h4 h ih=>
   intro x hx
   rw [Pd,lR]at hx
   rcases hx with rfl|hx
   ·exact ⟨h2,h3⟩
   ·exact ih x hx
theorem RS {c:Curve}(h:Fg c.Pts=0):1000≤Jf c∧Jf c≤16777216:=by
  have V:=checkM_zero.1 h
  unfold Jf Ks
  rw [bE h]
  have h16:=V.most
  have h2:=V.two
  have hm:=OP V.good
  cases hp:c.Pts with
  |nil=>rw [hp]at h2;simp at h2
  |cons p r=>
   rw [hp]at hm h16 h2
   cases r with
   |nil=>simp at h2
   |cons q r=>
    simp only [lJ]at h16
    rw [Pd]at hm ⊢
    have ha:=hm _ (List.mem_cons_self)
    have hl:=Kr r q
    rw [Xm,R5 (by omega),Int.zero_add]
    have:=OO (Tq (q::r)) (rt (T7 (V1 p q) (V1 p q))) (fun x hx=>by have:=hm x (List.mem_cons_of_mem _ hx);omega) (by omega) (by rw [hl];omega)
    rw [hl]at this
    omega
theorem ValR.long {m:Map}(V:ValR m){k:Int}(h0:0≤k)(h1:k<m.Lanes.length):1000≤Y9 m k∧Y9 m k≤16777216:=by
  obtain ⟨l,e1,e2⟩:=BO h0 h1
  unfold Y9
  rw [e1]
  exact RS (V.laneOK e1).curve
/-! ### Routes -/
end Go.Abs.Roadsz
namespace Go.Abs
open Go
section
variable {α β σ τ:Type}
/-- Gathering goes on behind what is there. -/
theorem OQ {F:List β×Int→Option (Stp (List β×Int) τ)}(l:List α)(g:Nat→α→Option β)(fin:List β→τ)(s0:List β)(B:Nat)(hB:s0.length+l.length≤B)
    (hF: ∀(i:Nat) a (s:List β),l[i]? =some a→s.length+1≤B→F (s,(i:Int))=some (.go ((match g i a with|some b=>s++ [b]|none=>s),((i+1:Nat):Int))))
    (h0: ∀s,F (s,(l.length:Int))=some (.out (fin s))):loop F (s0,0)=some (fin (s0++Z9 g 0 l)):=by
  have:=IC (F:=F) (fun i s=>(s,(i:Int))) l (fun i s=>s.length≤s0.length+i) (fun i s a=>match g i a with|some b=>s++ [b]|none=>s) fin (s0:=s0) (S0:=(s0,0)) rfl (by simp) (fun i a s h hs=>hF i a s h (by have:=(lH.1 h).1;omega)) (fun i a s _ hs=>by
    cases g i a<;>simp<;>omega) (fun s _=>h0 s)
  exact this.trans (congrArg (fun x=>some (fin x)) (Qq g l 0 s0))
/-- What rounds put one behind the other. -/
def Nd (g:Nat→α→List β):Nat→List α→List β
  |_,[]=> []
  |i,a::r=>g i a++Nd g (i+1) r
theorem Tw (g:Nat→α→List β)(C:Nat): ∀(l:List α) (i:Nat),(∀(j:Nat) a,l[j]? =some a→(g (i+j) a).length≤C)→(Nd g i l).length≤l.length*C
  | [],_,_=>by simp [Nd]
  |a::r,i,h=>by
   have h1:=h 0 a rfl
   have h2:=Tw g C r (i+1) (fun j b hb=>by have:=h (j+1) b (by simpa using hb);rwa [show i+1+j=i+ (j+1) by omega])
   rw [Nd,lK,lJ,Nat.succ_mul]
   rw [Nat.add_zero]at h1
   omega
theorem OR {F:List β×Int→Option (Stp (List β×Int) τ)}(l:List α)(g:Nat→α→List β)(fin:List β→τ)(s0:List β)(C B:Nat)(hB:s0.length+l.length*C≤B)(hC: ∀(i:Nat) a,l[i]? =some a→(g i a).length≤C)
    (hF: ∀(i:Nat) a (s:List β),l[i]? =some a→s.length+C≤B→F (s,(i:Int))=some (.go (s++g i a,((i+1:Nat):Int))))
    (h0: ∀s,F (s,(l.length:Int))=some (.out (fin s))):loop F (s0,0)=some (fin (s0++Nd g 0 l)):=by
  have key: ∀(r:List α) (i:Nat) (s:List β),Nc (fun i s a=>s++g i a) i s r=s++Nd g i r:=by
    intro r
    induction r with
    |nil=>intro i s;simp [Nc,Nd]
    |cons a r ih=>intro i s;rw [Nc,ih,Nd,lM]
  have:=IC (F:=F) (fun i s=>(s,(i:Int))) l (fun i s=>i≤l.length→s.length≤s0.length+i*C) (fun i s a=>s++g i a) fin (s0:=s0) (S0:=(s0,0)) rfl (by simp) (fun i a s h hs=>by
    have hi:=(lH.1 h).1
    have:=hs (by omega)
    have e:i*C+C≤l.length*C:=by rw [← Nat.succ_mul];exact Nat.mul_le_mul_right _ hi
    exact hF i a s h (by omega)) (fun i a s h hs=>by
    intro hi
    have:=hs (by omega)
    have:=hC i a h
    rw [lK,Nat.succ_mul];omega) (fun s _=>h0 s)
  rw [this,key]
/-- What pairs of a list give. -/
def Ul (f:α→α→Option β):List α→List β
  | []=> []
  |a::r=>Z9 (fun _ b=>f a b) 0 r++Ul f r
theorem Xu (f:α→α→Option β)(l:List α): ∀(r:List α) (i:Nat),l.drop i=r→Nd (fun i a=>Z9 (fun _ b=>f a b) 0 (l.drop (i+1))) i r=Ul f r
  | [],i,_=>rfl
  |a::r,i,h=>by
   have h1:l.drop (i+1)=r:=by have:=congrArg (List.drop 1) h;simpa using this
   rw [Nd,Ul,h1,Xu f l r (i+1) h1]
end
end Go.Abs
namespace Go.Abs.Roadsz
open Go Go.Abs
/-- Parts from 0 on, and up to the ends of all that come before. -/
noncomputable def Kt (m:Map)(z:Zone)(a:Int):Bool:=(Gy z a).2&& (Gy z a).1.From==0&& !((Bl m a).any fun k=> !(Gy z k).2||(Gy z k).1.To !=Y9 m k)
theorem Um {m:Map}{k x:Int}(h:x∈Bl m k):0≤x∧x<m.Lanes.length:=by
  obtain ⟨i,l,h1,_,rfl⟩:=mem_before.1 h
  have:=I7 h1
  omega
theorem Zw {m:Map}(B:BearM m){z:Zone}(hz:z.Parts.length≤1000000)(a:Int):An m z a=some (Kt m z a):=by
  have hb:=B.lanes
  have hl:=Xs m a
  unfold An Kt
  rw [Vo hz,lA]
  cases (Gy z a).2
  ·rfl
  ·cases q:(Gy z a).1.From !=0
   ·rw [show ((Gy z a).1.From==0)=true by simpa using q]
    simp only [bI,Bool.or_self,bD,Bool.true_and]
    rw [Zv B,lA,Xp (Bl m a) (fun k=> !(Gy z k).2||(Gy z k).1.To !=Y9 m k) false (fun i k hk=>by
     have hi:=I7 hk
     have hm:=Um (lF hk)
     unfold W9
     rw [Q4 hi,E5 hk,bC,lA,Vo hz,lA,K5 hi (by omega)]
     cases (Gy z k).2
     ·rfl
     ·simp only [bI,Bool.not_false,bC,Bool.false_or]
      rw [BP B.toBear hm.1 hm.2,lA]
      cases (Gy z k).1.To !=Y9 m k<;>rfl) (by unfold W9;rw [M5];rfl)]
    cases (Bl m a).any fun k=> !(Gy z k).2||(Gy z k).1.To !=Y9 m k<;>rfl
   ·rw [show ((Gy z a).1.From==0)=false by simpa using q];rfl
noncomputable def Mn (m:Map)(a:Int)(z:Zone):Bool:=Kt m z a&& !((Bl m a).any fun k=> !Em m z k)
noncomputable def Mo (m:Map):List Clash:=Z9 (fun i (_:Lane)=>if 1< (Bl m (i:Int)).length∧(m.Zones.any (Mn m (i:Int)))=false then some ⟨1, -1,(i:Int), -1⟩else none) 0 m.Lanes
theorem KD {m:Map}(B:BearM m)(V:ValR m)(a:Int):D3 m.Zones m a (Bl m a)=some (m.Zones.any (Mn m a)):=by
  have hb:=B.lanes
  have hl:=Xs m a
  have h12:=V.lanes
  have hz:=V.zones
  unfold D3 F7
  rw [Iq m.Zones (Mn m a) (by omega) (fun i z h=>by
   have hi:=I7 h
   have O:=V.zoneOK (lF h)
   have h6:=O.six
   unfold D2 S8 Mn
   rw [Q4 hi,E5 h,bC,lA,Zw B (by omega),lA]
   cases Kt m z a
   ·rfl
   ·simp only [bC,Bool.true_and]
    unfold E9 F8
    rw [Iq (Bl m a) (fun k=> !Em m z k) (by omega) (fun j k hk=>by
     have hj:=I7 hk
     have hm:=Um (lF hk)
     unfold D7 S7
     rw [Q4 hj,E5 hk,bC,lA,Xr V O hm.1 (by omega),lA,lA]
     cases Em m z k<;>rfl) (by unfold D7;rw [M5];rfl)]
    rw [lA,Kb,lA,lA]
    cases (Bl m a).any fun k=> !Em m z k<;>rfl) (by unfold D2;rw [M5];rfl)]
  rw [lA,Kb]
theorem KE {m:Map}(B:BearM m)(V:ValR m):Ck m=some (Mo m):=by
  have h12:=V.lanes
  unfold Ck Mo
  rw [GS m.Lanes (fun i (_:Lane)=>if 1< (Bl m (i:Int)).length∧(m.Zones.any (Mn m (i:Int)))=false then some (⟨1, -1,(i:Int), -1⟩:Clash)else none) id (fun i l s h hs=>by
   have hi:=I7 h
   unfold X0
   dsimp only
   rw [Q4 hi,bC,Zv B,lA,KD B V,lA,Bj (by simp;omega),lA,K5 hi (by omega)]
   by_cases q:1< (Bl m (i:Int)).length
   ·rw [show decide (((Bl m (i:Int)).length:Int)>1)=true from l9 (by omega)]
    cases m.Zones.any (Mn m (i:Int))
    ·rw [bE ⟨q,rfl⟩];rfl
    ·rw [bF (by simp)];rfl
   ·rw [show decide (((Bl m (i:Int)).length:Int)>1)=false from bA (by omega),bF (fun x=>q x.1)];rfl) (fun s=>by unfold X0;rw [M5];rfl)]
  rfl
noncomputable def Mp (m:Map):List Clash:=Nd (fun i (z:Zone)=>Z9 (fun _ (p:Part)=>if !Em m z p.Lane_&& !Kt m z p.Lane_ then some ⟨2,(i:Int),p.Lane_, -1⟩else none) 0 z.Parts) 0 m.Zones
theorem KF {m:Map}(B:BearM m)(V:ValR m):Cl m=some (Mp m):=by
  have h12:=V.lanes
  have hz:=V.zones
  unfold Cl Mp
  rw [OR m.Zones (fun i (z:Zone)=>Z9 (fun _ (p:Part)=>if !Em m z p.Lane_&& !Kt m z p.Lane_ then some (⟨2,(i:Int),p.Lane_, -1⟩:Clash)else none) 0 z.Parts) id [] 6 1000 (by simp;omega) (fun i z h=>bS (Ej _ _ _) (V.zoneOK (lF h)).six) (fun i z s h hs=>by
   have hi:=I7 h
   have O:=V.zoneOK (lF h)
   have h6:=O.six
   unfold X2
   dsimp only
   rw [Q4 hi,E5 h,bC,lA,K5 hi (by omega)]
   rw [OQ z.Parts (fun _ (p:Part)=>if !Em m z p.Lane_&& !Kt m z p.Lane_ then some (⟨2,(i:Int),p.Lane_, -1⟩:Clash)else none) id s 2000 (by omega) (fun j p s h hs=>by
    have hj:=I7 h
    have hk:=O.lane (lF h)
    unfold X1
    dsimp only
    rw [Q4 hj,E5 h,bC,lA,Xr V O hk.1 (by omega),lA,Zw B (by omega),Bj (by simp;omega),lA,K5 hj (by omega)]
    cases Em m z p.Lane_
    ·cases Kt m z p.Lane_<;>rfl
    ·rfl) (fun s=>by unfold X1;rw [M5];rfl)]
   rfl) (fun s=>by unfold X2;rw [M5];rfl)]
  rfl
def IF (z:Zone)(a b:Int):Bool:=z.Signal_==0&& (Gy z a).1.Rank==(Gy z b).1.Rank
def SU (s:Signal)(a b:Int):Bool:=s.Phases.any fun p=>p.Green.contains a&&p.Green.contains b
def Kd (m:Map)(z:Zone)(a b:Int):Bool:=decide (z.Signal_>0)&& (match m.Signals[(z.Signal_ - 1).toNat]? with|some s=>SU s a b|none=>false)
def Lb (m:Map)(kind:Int)(bad:Zone→Int→Int→Bool):List Clash:=Nd (fun i (z:Zone)=>Ul (fun a b=>if bad z a b then some ⟨kind,(i:Int),a,b⟩else none) (W2 m z)) 0 m.Zones
theorem Zx {α β:Type}(f:α→α→Option β): ∀(l:List α),(Ul f l).length≤l.length*l.length
  | []=>bO _
  |a::r=>by
   have h1:=Ej (fun (_:Nat) b=>f a b) r 0
   have h2:=Zx f r
   rw [Ul,lK,lJ,Nat.succ_mul,Nat.mul_succ]
   omega
theorem So (m:Map)(z:Zone):(W2 m z).length≤z.Parts.length:=Ej _ _ _
theorem OS {β:Type}(f:Int→Int→Option β){m:Map}{z:Zone}(O:ZoneOK m z):(Ul f (W2 m z)).length≤36:=by
  have:=Zx f (W2 m z)
  have h1:=bS (So m z) O.six
  exact bS this (bS (Nat.mul_le_mul h1 h1) (by decide))
/-- The three loops of the program. -/
theorem Zy {m:Map}(V:ValR m)(kind:Int)(bad:Zone→Int→Int→Bool)(L1:List Clash×Int→Option (Stp (List Clash×Int) (List Clash)))
    (L2:List Clash×Int→Zone→List Int→List Clash×Int→Option (Stp (List Clash×Int) (List Clash))) (L3:List Clash×Int→Zone→Int→List Int→List Clash×Int→Option (Stp (List Clash×Int) (List Clash)))
    (h1: ∀x,L1 x=cond (decide (x.2< (m.Zones.length:Int))) ((E8 m.Zones x.2).bind fun v1=>(U2 m v1).bind fun v2=>(loop (L2 x v1 v2) (x.1,0)).bind fun y2=>some (.go (y2,(H6 (x.2+1))))) (some (.out x.1)))
    (h2: ∀x v1 v2 y,L2 x v1 v2 y=cond (decide (y.2< (v2.length:Int))) ((E8 v2 y.2).bind fun v3=>(Rn v2 (H6 (y.2+1)) (v2.length:Int)).bind fun v4=>(loop (L3 x v1 v3 v4) (y.1,0)).bind fun y3=>some (.go (y3,(H6 (y.2+1))))) (some (.out y.1)))
    (h3: ∀(x:List Clash×Int) v1 v3 v4 (s:List Clash) (j:Nat) (b:Int),v1∈m.Zones→v4[j]? =some b→v4.length≤6→s.length+1≤2000→L3 x v1 v3 v4 (s,(j:Int))=some (.go ((if bad v1 v3 b then s++ [⟨kind,x.2,v3,b⟩]else s),((j+1:Nat):Int))))
    (h4: ∀x v1 v3 v4 s,L3 x v1 v3 v4 (s,(v4.length:Int))=some (.out s)):loop L1 ([],0)=some (Lb m kind bad):=by
  have hz:=V.zones
  unfold Lb
  rw [OR m.Zones (fun i (z:Zone)=>Ul (fun a b=>if bad z a b then some (⟨kind,(i:Int),a,b⟩:Clash)else none) (W2 m z)) id [] 36 1000 (by simp;omega) (fun i z h=>OS _ (V.zoneOK (lF h))) (fun i z s h hs=>by
   have hi:=I7 h
   have O:=V.zoneOK (lF h)
   have he:=bS (So m z) O.six
   rw [h1]
   dsimp only
   rw [Q4 hi,E5 h,bC,lA,GY V O,lA,K5 hi (by omega)]
   rw [OR (W2 m z) (fun j a=>Z9 (fun _ b=>if bad z a b then some (⟨kind,(i:Int),a,b⟩:Clash)else none) 0 ((W2 m z).drop (j+1))) id s 6 1100 (by omega) (fun j a h=>bS (Ej _ _ _) (by rw [lT];omega)) (fun j a t ha ht=>by
    have hj:=I7 ha
    have hd:((W2 m z).drop (j+1)).length≤6:=by rw [lT];omega
    rw [h2]
    dsimp only
    rw [Q4 hj,E5 ha,bC,lA,K5 hj (by omega)]
    have:Rn (W2 m z) ((j+1:Nat):Int) ((W2 m z).length:Int)=some ((W2 m z).drop (j+1)):=by
      unfold Rn
      rw [bE (by omega),bN,bN,List.take_length]
    rw [this,lA]
    rw [OQ ((W2 m z).drop (j+1)) (fun _ b=>if bad z a b then some (⟨kind,(i:Int),a,b⟩:Clash)else none) id t 1200 (by omega) (fun g b q hb hq=>by
     rw [h3 _ _ _ _ _ _ _ (lF h) hb hd (by omega)]
     cases bad z a b<;>rfl) (fun q=>h4 _ _ _ _ q)]
    rfl) (fun q=>by rw [h2,M5];rfl)]
   rw [Xu _ (W2 m z) (W2 m z) 0 rfl];rfl) (fun s=>by rw [h1,M5];rfl)]
  rfl
theorem OT {m:Map}(V:ValR m):Dl m=some (Lb m 3 IF):=by
  unfold Dl N1
  rw [Zy V 3 IF (K7 m 3) (fun x v1 v2 y=>K6 3 x v1 v2 y) (fun x v1 v3 v4 y=>H8 3 x v1 v3 v4 y) (fun _=>rfl) (fun _ _ _ _=>rfl) (fun x v1 v3 v4 s j b hz hb h6 hs=>by
   have hj:=I7 hb
   have O:=V.zoneOK hz
   have h6':=O.six
   unfold H8 Cr
   dsimp only
   rw [Q4 hj,E5 hb,bC,lA,Vo (by omega),Vo (by omega),lA,lA,lA,Bj (by simp;omega),lA,K5 hj (by omega)]
   unfold IF
   cases (v1.Signal_==0&& (Gy v1 v3).1.Rank==(Gy v1 b).1.Rank)<;>rfl) (fun x v1 v3 v4 s=>by unfold H8;rw [M5];rfl)]
  rfl
theorem OU {l:List Phase}(hl:l.length≤1000000)(hg: ∀p∈l,p.Green.length≤1000000)(a b:Int):D0 l a b=some (l.any fun p=>p.Green.contains a&&p.Green.contains b):=by
  unfold D0 E7
  rw [Iq l (fun p=>p.Green.contains a&&p.Green.contains b) (by omega) (fun i p h=>by
   have hi:=I7 h
   have hp:=hg p (lF h)
   unfold C9 S9
   rw [Q4 hi,E5 h,bC,lA,Om _ hp,Om _ hp,lA]
   cases p.Green.contains a
   ·rfl
   ·cases p.Green.contains b<;>rfl) (by unfold C9;rw [M5];rfl)]
  rw [lA,Kb]
theorem UL {m:Map}{k:Int}(h0:0≤k)(h1:k<m.Signals.length): ∃s,m.Signals[k.toNat]? =some s∧E8 m.Signals k=some s:=by
  have hlt:k.toNat<m.Signals.length:=by omega
  refine ⟨m.Signals[k.toNat],lG hlt,?_⟩
  unfold E8
  rw [bE h0,lG hlt]
theorem KG {m:Map}(B:BearM m)(V:ValR m){z:Zone}(hz:z∈m.Zones)(a b:Int):T4 z a b m=some (Kd m z a b):=by
  have O:=V.zoneOK hz
  have hs:=O.sig
  have h4:=V.signals
  unfold T4 Kd
  by_cases q:z.Signal_>0
  ·obtain ⟨s,s1,s2⟩:=UL (m:=m) (k:=z.Signal_ - 1) (by omega) (by omega)
   obtain ⟨p1,p2⟩:=B.toBearS.phases s (lF s1)
   rw [l9 q,PK (n:=z.Signal_ - 1) (by omega),bC,s2,lA,bC,OU p1 p2,s1];rfl
  ·rw [bA q];rfl
theorem KH {m:Map}(B:BearM m)(V:ValR m):Cm m=some (Lb m 4 (Kd m)):=by
  unfold Cm L6
  rw [Zy V 4 (Kd m) (K0 m 4 m) (fun x v1 v2 y=>J9 4 m x v1 v2 y) (fun x v1 v3 v4 y=>G8 4 m x v1 v3 v4 y) (fun _=>rfl) (fun _ _ _ _=>rfl) (fun x v1 v3 v4 s j b hz hb h6 hs=>by
   have hj:=I7 hb
   unfold G8
   dsimp only
   rw [Q4 hj,E5 hb,bC,lA,KG B V hz,lA,Bj (by simp;omega),lA,K5 hj (by omega)]
   cases Kd m v1 v3 b<;>rfl) (fun x v1 v3 v4 s=>by unfold G8;rw [M5];rfl)]
  rfl
noncomputable def RU (m:Map):Bool:=decide (Iy m=0)&& (Mo m).isEmpty&& (Mp m).isEmpty&& (Lb m 3 IF).isEmpty&& (Lb m 4 (Kd m)).isEmpty
theorem WX (a b c d:Nat)(ha:a≤1000)(hb:b≤1000)(hc:c≤1000)(hd:d≤1000):(H6 ((H6 ((H6 ((a:Int)+ (b:Int)))+ (c:Int)))+ (d:Int))==0)=(a==0&&b==0&&c==0&&d==0):=by
  rw [R5 (n:=(a:Int)+b) (by omega),R5 (n:=(a:Int)+b+c) (by omega),R5 (by omega),Bool.eq_iff_iff]
  simp only [bK,bG]
  omega
theorem EL {α:Type}(l:List α):l.isEmpty=(l.length==0):=by cases l<;>rfl
theorem Xv {m:Map}(V:ValR m)(k:Int)(bad:Zone→Int→Int→Bool):(Lb m k bad).length≤1000:=by
  have hz:=V.zones
  refine bS (Tw _ 36 _ _ (fun j z h=>OS _ (V.zoneOK (lF h)))) (by omega)
theorem EM {m:Map}(V:ValR m):(Mp m).length≤1000:=by
  have hz:=V.zones
  refine bS (Tw _ 6 _ _ (fun j z h=>bS (Ej _ _ _) (V.zoneOK (lF h)).six)) (by omega)
theorem EN {m:Map}(V:ValR m):(Mo m).length≤1000:=bS (Ej _ _ _) (by have:=V.lanes;omega)
theorem OV {m:Map}(B:BearM m):Ei m=some (RU m):=by
  unfold Ei RU
  rw [Df B,lA]
  by_cases q:Iy m=0
  ·have V:=chkR_zero.1 q
   rw [q,show ((0:Int)==0)=true from rfl,bC,KE B V,lA,bC,KF B V,lA,bC,OT V,lA,bC,KH B V,lA,WX _ _ _ _ (EN V) (EM V) (Xv V _ _) (Xv V _ _)]
   simp only [EL,decide_true,Bool.true_and]
  ·rw [show (Iy m==0)=false by simpa using q,bA q];rfl
end Go.Abs.Roadsz
namespace Go.Abs
open Go
theorem Zz {α:Type}: ∀(l:List α) (i:Nat) (s:List α),Nc (fun _ s a=>s++ [a]) i s l=s++l
  | [],_,s=>by simp [Nc]
  |a::r,i,s=>by rw [Nc,Zz r];simp
theorem On {α:Type}{l:List α}(h:l.length≤1000000):X6 ([]:List α) l=some l:=Bj (by simp;omega)
/-- A loop that copies a list, in a state. -/
theorem IG {α S τ:Type}{F:S→Option (Stp S τ)}(pk:Nat→List α→S)(l:List α)(fin:List α→τ){S0:S}(hS:pk 0 []=S0)
    (hF: ∀(i:Nat) a (s:List α),l[i]? =some a→s.length≤i→F (pk i s)=some (.go (pk (i+1) (s++ [a])))) (h0: ∀s,F (pk l.length s)=some (.out (fin s))):loop F S0=some (fin l):=by
  have:=IC pk l (fun i s=>s.length≤i) (fun _ s a=>s++ [a]) fin hS (by simp) hF (fun i a s _ hs=>by simp;omega) (fun s _=>h0 s)
  rw [this,Zz,lN]
end Go.Abs
namespace Go.Abs.Roadsz
open Go Go.Abs
theorem Py {l:List Int}(h:l.length≤1000000):Dd l l=some true:=by
  unfold Dd
  rw [Xp l (fun _=>false) false (fun i a h=>by
   have hi:=I7 h
   unfold Cg
   rw [Q4 hi,E5 h,K5 hi (by omega)]
   simp) (by unfold Cg;rw [M5];rfl)]
  simp [thenS]
theorem Xw {c:Curve}(h:c.Pts.length≤1000000):Jv c c=some true:=by
  unfold Jv
  rw [show ((c.Pts.length:Int) !=(c.Pts.length:Int))=false by simp,bD,Xp c.Pts (fun _=>false) false (fun i a h=>by
   have hi:=I7 h
   unfold Gg
   rw [Q4 hi,E5 h,K5 hi (by omega)]
   simp) (by unfold Gg;rw [M5];rfl)]
  simp [thenS]
theorem Yn {l:Lane}(h1:l.Curve_.Pts.length≤1000000)(h2:l.Next.length≤1000000):Fd l l=some true:=by
  unfold Fd
  rw [Xw h1,Py h2]
  simp
theorem Yo {z:Zone}(h:z.Parts.length≤1000000):Fe z z=some true:=by
  unfold Fe
  rw [Xp z.Parts (fun _=>false) false (fun i a h=>by
   have hi:=I7 h
   unfold Ci
   rw [Q4 hi,E5 h,K5 hi (by omega)]
   simp) (by unfold Ci;rw [M5];rfl)]
  simp [thenS]
theorem Vc {s:Signal}(h1:s.Phases.length≤1000000)(h2: ∀p∈s.Phases,p.Green.length≤1000000):De s s=some true:=by
  unfold De
  rw [Xp s.Phases (fun _=>false) false (fun i a h=>by
   have hi:=I7 h
   unfold Ah
   rw [Q4 hi,E5 h,K5 hi (by omega)]
   simp [Py (h2 a (lF h))]) (by unfold Ah;rw [M5];rfl)]
  simp [thenS]
theorem KI {m:Map}(B:BearM m):Jw m m=some true:=by
  have b1:=B.toBear.lanes
  have b2:=B.toBearZ.many
  have b3:=B.toBearS.many
  have b4:=B.toBearW.many
  have row: ∀(t:Int) (n:Nat),Gj m t=some (n:Int)→n≤1000000→(∀i:Nat,i<n→Ar m m t (i:Int)=some true)→loop (As m m t) 0=some (.inl ()):=by
    intro t n hn hle hr
    have:=IB (F:=As m m t) (σ:=Unit) (fun i _=>(i:Int)) (List.range n) (fun _ _=>True) (fun _ _ _=> .inl ()) (fun _=>(.inl ():Sum Unit Bool)) (s0:=()) (S0:=0) rfl trivial (fun i a _ h _=>by
      have hi:=I7 h
      rw [List.length_range]at hi
      unfold As
      rw [hn,lA,Q4 hi,bC,hr i hi,lA,K5 hi (by omega)];rfl) (fun _ _ _ _ _ _ _=>trivial) (fun _ _=>by unfold As;rw [hn,lA,List.length_range,M5];rfl)
    rw [this]
    have key: ∀(l:List Nat) (i:Nat),Sm (fun _ (_:Unit) (_:Nat)=>(.inl ():Sum Unit (Sum Unit Bool))) (fun _=>(.inl ():Sum Unit Bool)) i () l= .inl ():=by
      intro l
      induction l with
      |nil=>intro i;rfl
      |cons a r ih=>intro i;exact ih (i+1)
    rw [key]
  have r1:=row 1 m.Lanes.length rfl b1 (fun i hi=>by
    have e:=lG hi
    obtain ⟨p1,p2⟩:=B.toBear.pts _ (List.getElem_mem hi)
    unfold Ar
    rw [show ((1:Int)==1)=true from rfl,bC,E5 e,lA,lA,Yn p1 p2];rfl)
  have r2:=row 2 m.Zones.length rfl b2 (fun i hi=>by
    have e:=lG hi
    have p1:=B.toBearZ.parts _ (List.getElem_mem hi)
    unfold Ar
    rw [show ((2:Int)==1)=false from rfl,show ((2:Int)==2)=true from rfl,bD,bC,E5 e,lA,lA,Yo p1];rfl)
  have r3:=row 3 m.Signals.length rfl b3 (fun i hi=>by
    have e:=lG hi
    obtain ⟨p1,p2⟩:=B.toBearS.phases _ (List.getElem_mem hi)
    unfold Ar
    rw [show ((3:Int)==1)=false from rfl,show ((3:Int)==2)=false from rfl,show ((3:Int)==3)=true from rfl,bD,bD,bC,E5 e,lA,lA,Vc p1 p2];rfl)
  have r4:=row 4 m.Works.length rfl b4 (fun i hi=>by
    have e:=lG hi
    unfold Ar
    rw [show ((4:Int)==1)=false from rfl,show ((4:Int)==2)=false from rfl,show ((4:Int)==3)=false from rfl,bD,bD,bD,E5 e,lA,lA]
    simp)
  have s: ∀(t t':Int) (n:Int),decide (t≤4)=true→Gj m t=some n→H6 (t+1)=t'→loop (As m m t) 0=some (.inl ())→Gh m m t=some (.go t'):=by
    intro t t' n h1 h2 h3 h4
    unfold Gh
    rw [h1,bC,h2,lA,lA,show (n !=n)=false by simp,bD,h4,h3];rfl
  unfold Jw
  rw [X5 (s 1 2 _ rfl rfl rfl r1),X5 (s 2 3 _ rfl rfl rfl r2),X5 (s 3 4 _ rfl rfl rfl r3),X5 (s 4 5 _ rfl rfl rfl r4),N4 (t:= .inl ()) rfl]
  simp [thenS]
/-- Lists one behind the other. -/
theorem OW {α:Type}(l:List (List α))(F:Int×Int→Option (Stp (Int×Int) Int))(hF: ∀(s:Int) (i:Nat) (x:List α),l[i]? =some x→F (s,(i:Int))=cond (decide ((H6 (s+ (x.length:Int)))<0)) none (some (.go ((H6 (s+ (x.length:Int))),(H6 ((i:Int)+1))))))(h0: ∀s,F (s,(l.length:Int))=some (.out s))(hl:l.length≤1000)(hs:l.flatten.length≤1000000):
    loop F (0,0)=some (l.flatten.length:Int):=by
  have key: ∀(r:List (List α)) (i:Nat) (s:Nat),l.drop i=r→i≤l.length→s+r.flatten.length≤1000000→loop F ((s:Int),(i:Int))=some ((s+r.flatten.length:Nat):Int):=by
    intro r
    induction r with
    |nil=>
     intro i s hi hil _
     have:=Cy hi
     obtain rfl:i=l.length:=by omega
     rw [N4 (h0 _)];simp
    |cons x r ih=>
     intro i s hi hil hb
     have hlt:=Eo hi
     rw [List.flatten_cons,lK]at hb ⊢
     have h:=hF (s:Int) i x (Ir hi)
     rw [R5 (by omega),bA (by omega),bD,K5 hlt (by omega)]at h
     rw [X5 h,show (s:Int)+ (x.length:Int)=((s+x.length:Nat):Int) by omega,ih (i+1) (s+x.length) (X8 hi) hlt (by omega)]
     congr 2;omega
  have:=key l 0 0 rfl (by omega) (by omega)
  rw [bR]at this
  exact this
theorem OX {α:Type}(l:List (List α))(F:List α×Int→Option (Stp (List α×Int) (List α)))(hF: ∀(s:List α) (i:Nat) (x:List α),l[i]? =some x→F (s,(i:Int))=(X6 s x).bind fun v=>some (.go (v,(H6 ((i:Int)+1)))))(h0: ∀s,F (s,(l.length:Int))=some (.out s))(hl:l.length≤1000)(hs:l.flatten.length≤1000000):
    loop F ([],0)=some l.flatten:=by
  have key: ∀(r:List (List α)) (i:Nat) (s:List α),l.drop i=r→i≤l.length→s.length+r.flatten.length≤1000000→loop F (s,(i:Int))=some (s++r.flatten):=by
    intro r
    induction r with
    |nil=>
     intro i s hi hil _
     have:=Cy hi
     obtain rfl:i=l.length:=by omega
     rw [N4 (h0 _)];simp
    |cons x r ih=>
     intro i s hi hil hb
     have hlt:=Eo hi
     rw [List.flatten_cons,lK]at hb
     have h:=hF s i x (Ir hi)
     rw [Bj (by omega),lA,K5 hlt (by omega)]at h
     rw [X5 h,ih (i+1) _ (X8 hi) hlt (by rw [lK];omega)]
     simp
  have:=key l 0 [] rfl (by omega) (by simpa using hs)
  rw [lN]at this
  exact this
theorem OY {n:Nat}(h:n≤1000000):DR (n:Int)=some ():=bE (by omega)
noncomputable def eqB {α:Type}(a b:α):Bool:= @decide (a=b) (Classical.propDecidable _)
theorem eqB_iff {α:Type}{a b:α}:eqB a b=true↔a=b:= @decide_eq_true_iff (a=b) (Classical.propDecidable _)
theorem OZ {α:Type}{a b:α}(h:a≠b):eqB a b=false:=by
  cases q:eqB a b
  ·rfl
  ·exact absurd (eqB_iff.1 q) h
theorem IH {α:Type}: ∀(l l':List α),(!((l.zip l').any fun q=> !eqB q.1 q.2)&& (l.length==l'.length))=eqB l l'
  | [],[]=>by rw [Bool.eq_iff_iff];simp [eqB_iff]
  | [],b::r=>by rw [Bool.eq_iff_iff];simp [eqB_iff]
  |a::r,[]=>by rw [Bool.eq_iff_iff];simp [eqB_iff]
  |a::r,b::r'=>by
   have ih:=Bool.eq_iff_iff.1 (IH r r')
   rw [eqB_iff]at ih
   rw [Bool.eq_iff_iff,eqB_iff,List.cons.injEq,← ih]
   simp [eqB_iff,and_assoc]
theorem Vp {α β:Type}{l:List α}{l':List β}{i:Nat}{p:α×β}(h:(l.zip l')[i]? =some p):l[i]? =some p.1∧l'[i]? =some p.2:=List.getElem?_zip_eq_some.1 h
/-- Equal length first, then element by element. -/
theorem BS {α:Type}(l l':List α)(F:Int→Option (Stp Int (Sum Unit Bool)))(hF: ∀(i:Nat) a b,l[i]? =some a→l'[i]? =some b→F (i:Int)=some (cond (!eqB a b) (.out (.inr false)) (.go ((i+1:Nat):Int))))(h0:F (l.length:Int)=some (.out (.inl ()))):
    cond ((l.length:Int) !=(l'.length:Int)) (some false) (thenS (loop F 0) (fun _=>some true) (fun r=>some r))=some (eqB l l'):=by
  by_cases q:l.length=l'.length
  ·rw [← q,show ((l.length:Int) !=(l.length:Int))=false by simp,bD,← IH,← q]
   rw [Xp (l.zip l') (fun q=> !eqB q.1 q.2) false (fun i p h=>by
    obtain ⟨h1,h2⟩:=Vp h
    rw [hF i p.1 p.2 h1 h2];cases eqB p.1 p.2<;>rfl) (by rw [List.length_zip,← q,Nat.min_self];exact h0)]
   cases (l.zip l').any fun q=> !eqB q.1 q.2<;>simp [thenS]
  ·rw [show ((l.length:Int) !=(l'.length:Int))=true by rw [bne_iff_ne];omega,bC,OZ (fun h=>q (by rw [h]))]
theorem WD (a b:Int):(a !=b)= !eqB a b:=by rw [Bool.eq_iff_iff];simp [← Bool.not_eq_true,eqB_iff]
theorem UM (a b:Spot):(a.X==b.X&& (a.Y==b.Y&&true))=eqB a b:=by
  cases a;cases b;rw [Bool.eq_iff_iff,eqB_iff];simp
theorem UN (a b:Part):(a.Lane_==b.Lane_&& (a.From==b.From&& (a.To==b.To&& (a.Rank==b.Rank&&true))))=eqB a b:=by
  cases a;cases b;rw [Bool.eq_iff_iff,eqB_iff];simp
theorem UO (a b:Work):(a.Lane_==b.Lane_&& (a.From==b.From&& (a.To==b.To&& (a.Begin==b.Begin&& (a.End==b.End&& (a.Limit==b.Limit&&true))))))=eqB a b:=by
  cases a;cases b;rw [Bool.eq_iff_iff,eqB_iff];simp
theorem RW (a b:Phase):((a.Ticks==b.Ticks)&&eqB a.Green b.Green)=eqB a b:=by
  cases a;cases b;rw [Bool.eq_iff_iff,eqB_iff];simp [eqB_iff]
theorem PA (a b:Signal):((a.Offset==b.Offset)&&eqB a.Phases b.Phases)=eqB a b:=by
  cases a;cases b;rw [Bool.eq_iff_iff,eqB_iff];simp [eqB_iff]
theorem UP (a b:Zone):((a.Signal_==b.Signal_)&&eqB a.Parts b.Parts)=eqB a b:=by
  cases a;cases b;rw [Bool.eq_iff_iff,eqB_iff];simp [eqB_iff,and_comm]
theorem RX (a b:Curve):eqB a.Pts b.Pts=eqB a b:=by
  cases a;cases b;rw [Bool.eq_iff_iff,eqB_iff];simp [eqB_iff]
theorem UQ (a b:Lane):(((((a.Kind==b.Kind)&& (a.Half==b.Half))&& (a.Limit==b.Limit))&&eqB a.Curve_ b.Curve_)&&eqB a.Next b.Next)=eqB a b:=by
  cases a;cases b;rw [Bool.eq_iff_iff,eqB_iff];simp [eqB_iff]
  constructor
  ·rintro ⟨⟨⟨⟨h1,h2⟩,h3⟩,h4⟩,h5⟩;exact ⟨h1,h4,h2,h3,h5⟩
  ·rintro ⟨h1,h4,h2,h3,h5⟩;exact ⟨⟨⟨⟨h1,h2⟩,h3⟩,h4⟩,h5⟩
theorem UR {l l':List Spot}(h:l.length≤1000000):Al l l'=some (eqB l l'):=
  BS l l' _ (fun i a b ha hb=>by
   unfold T5
   rw [Q4 (I7 ha),bC,E5 ha,E5 hb,lA,lA,UM,K5 (I7 ha) (by omega)]
   cases eqB a b<;>rfl) (by unfold T5;rw [M5];rfl)
theorem SV {l l':List Int}(h:l.length≤1000000):Z3 l l'=some (eqB l l'):=
  BS l l' _ (fun i a b ha hb=>by
   unfold U7
   rw [Q4 (I7 ha),bC,E5 ha,E5 hb,lA,lA,WD,K5 (I7 ha) (by omega)]
   cases eqB a b<;>rfl) (by unfold U7;rw [M5];rfl)
theorem US {l l':List Part}(h:l.length≤1000000):Am l l'=some (eqB l l'):=
  BS l l' _ (fun i a b ha hb=>by
   unfold T6
   rw [Q4 (I7 ha),bC,E5 ha,E5 hb,lA,lA,UN,K5 (I7 ha) (by omega)]
   cases eqB a b<;>rfl) (by unfold T6;rw [M5];rfl)
theorem EO {a b:Lane}(h1:a.Curve_.Pts.length≤1000000)(h2:a.Next.length≤1000000):Cz a b=some (eqB a b):=by
  unfold Cz Mj
  rw [UR h1,SV h2,RX,← UQ a b]
  cases ((a.Kind==b.Kind)&& (a.Half==b.Half))&& (a.Limit==b.Limit)
  ·rfl
  ·cases eqB a.Curve_ b.Curve_<;>rfl
theorem EP {a b:Zone}(h:a.Parts.length≤1000000):Da a b=some (eqB a b):=by
  unfold Da
  rw [US h,← UP a b]
  cases a.Signal_==b.Signal_<;>rfl
theorem BT {a b:Phase}(h:a.Green.length≤1000000):Be a b=some (eqB a b):=by
  unfold Be
  rw [SV h,← RW a b]
  cases a.Ticks==b.Ticks<;>rfl
theorem Yp {a b:Signal}(h:a.Phases.length≤1000000)(hg: ∀p∈a.Phases,p.Green.length≤1000000):Aw a b=some (eqB a b):=by
  unfold Aw
  have e:G7 a.Phases b.Phases=some (eqB a.Phases b.Phases):=
    BS _ _ _ (fun i x y ha hb=>by
     unfold E6
     rw [Q4 (I7 ha),bC,E5 ha,E5 hb,lA,lA,BT (hg x (lF ha)),lA,K5 (I7 ha) (by omega)]
     cases eqB x y<;>rfl) (by unfold E6;rw [M5];rfl)
  rw [e,← PA a b]
  cases a.Offset==b.Offset<;>rfl
theorem EQ {a b:Work}:Db a b=some (eqB a b):=by
  unfold Db;rw [UO]
/-! ### The document's twins -/
def W3 (k t i:Int):Edit:=Edit.mk k t i (Lane.mk 0 (Curve.mk []) 0 0 []) (Zone.mk [] 0) (Signal.mk 0 []) (Work.mk 0 0 0 0 0 0)
def Oo {E:Type}(g:Nat→E)(lo:Nat):Nat→List E
  |0=> []
  |n+1=>g (lo+n)::Oo g lo n
theorem AA {E:Type}(g:Nat→E)(lo:Nat): ∀n,(Oo g lo n).length=n
  |0=>rfl
  |n+1=>by rw [Oo,lJ,AA]
theorem SW {α E S τ:Type}{F:S→Option (Stp S τ)}(pk:Int→List E→S)(l:List α)(g:Nat→α→Option E)(fin:List E→τ)(B:Nat)
    (hF: ∀(i:Nat) a (s:List E),l[i]? =some a→s.length+1≤B→F (pk (i:Int) s)=some (.go (pk ((i+1:Nat):Int) (match g i a with|some b=>s++ [b]|none=>s))))
    (h0: ∀s,F (pk (l.length:Int) s)=some (.out (fin s))): ∀(r:List α) (i:Nat) (s:List E),l.drop i=r→i≤l.length→s.length+r.length≤B→loop F (pk (i:Int) s)=some (fin (s++Z9 g i r)):=by
  intro r
  induction r with
  |nil=>
   intro i s hi hil _
   have:=Cy hi
   obtain rfl:i=l.length:=by omega
   rw [N4 (h0 _)];simp [Z9]
  |cons x r ih=>
   intro i s hi hil hb
   have hlt:=Eo hi
   rw [lJ]at hb
   rw [X5 (hF i x s (Ir hi) (by omega)),ih (i+1) _ (X8 hi) hlt (by cases g i x<;>simp<;>omega),Z9]
   cases g i x with
   |none=>rfl
   |some b=>dsimp only;rw [lM];rfl
theorem WE {E S τ:Type}{F:S→Option (Stp S τ)}(pk:Int→List E→S)(g:Nat→E)(fin:List E→τ)(B lo hi:Nat)
    (hF: ∀(i:Nat) (s:List E),lo≤i→i<hi→s.length+1≤B→F (pk (i:Int) s)=some (.go (pk ((i:Int) - 1) (s++ [g i]))))
    (h0: ∀s,F (pk ((lo:Int) - 1) s)=some (.out (fin s))): ∀(n:Nat) (s:List E),lo+n≤hi→s.length+n≤B→loop F (pk (((lo+n:Nat):Int) - 1) s)=some (fin (s++Oo g lo n)):=by
  intro n
  induction n with
  |zero=>intro s _ _;rw [Nat.add_zero,N4 (h0 s)];simp [Oo]
  |succ n ih=>
   intro s h1 h2
   rw [show ((lo+ (n+1):Nat):Int) - 1=((lo+n:Nat):Int) by omega,X5 (hF (lo+n) s (by omega) (by omega) (by omega)),ih _ (by omega) (by simp;omega)]
   simp [Oo]
noncomputable def Vd {α:Type}(t:Int)(put:Edit→α→Edit)(a b:List α):List Edit:=Z9 (fun i (p:α×α)=>if eqB p.1 p.2=true then none else some (put (W3 3 t i) p.2)) 0 (a.zip b)
noncomputable def Ve {α:Type}(t:Int)(a b:List α):List Edit:=Oo (fun i=>W3 2 t i) (min a.length b.length) (a.length - min a.length b.length)
noncomputable def Yq {α:Type}(t:Int)(put:Edit→α→Edit)(a b:List α):List Edit:=Z9 (fun i y=>some (put (W3 1 t i) y)) a.length (b.drop a.length)
noncomputable def Cs {α:Type}(t:Int)(put:Edit→α→Edit)(a b:List α):List Edit:=Vd t put a b++ (Ve t a b++Yq t put a b)
theorem II {α:Type}(t:Int)(put:Edit→α→Edit)(a b:List α):(Vd t put a b).length≤min a.length b.length:=by
  have:=Ej (fun i (p:α×α)=>if eqB p.1 p.2=true then none else some (put (W3 3 t i) p.2)) (a.zip b) 0
  rw [List.length_zip]at this
  exact this
theorem IJ {α:Type}(t:Int)(a b:List α):(Ve t a b).length≤a.length:=by unfold Ve;rw [AA];omega
theorem RY {α:Type}(t:Int)(put:Edit→α→Edit)(a b:List α):(Yq t put a b).length≤b.length:=by
  have:=Ej (fun i y=>some (put (W3 1 t i) y)) (b.drop a.length) a.length
  rw [lT]at this
  unfold Yq;omega
theorem Pf {α:Type}(t:Int)(put:Edit→α→Edit)(a b:List α):(Cs t put a b).length≤2*a.length+b.length:=by
  have:=II t put a b
  have:=IJ t a b
  have:=RY t put a b
  unfold Cs
  simp only [lK]
  omega
section run
variable {α S τ:Type}(pk:Int→List Edit→S)(fin:List Edit→τ)(t:Int)(put:Edit→α→Edit)(a b:List α)(B:Nat)
theorem RZ {F:S→Option (Stp S τ)}(h1: ∀(i:Nat) x y (s:List Edit),a[i]? =some x→b[i]? =some y→s.length+1≤B→F (pk (i:Int) s)=some (.go (pk ((i+1:Nat):Int) (cond (!eqB x y) (s++ [put (W3 3 t i) y]) s))))
    (h2: ∀s,F (pk ((min a.length b.length:Nat):Int) s)=some (.out (fin s))) (s:List Edit) (hs:s.length+a.length≤B):loop F (pk 0 s)=some (fin (s++Vd t put a b)):=by
  refine SW pk (a.zip b) (fun i (p:α×α)=>if eqB p.1 p.2=true then none else some (put (W3 3 t i) p.2)) fin B (fun i p s h hl=> ?_) (fun s=>by rw [List.length_zip];exact h2 s) (a.zip b) 0 s rfl (by omega) (by rw [List.length_zip];omega)
  obtain ⟨ha,hb⟩:=Vp h
  rw [h1 i p.1 p.2 s ha hb hl]
  cases eqB p.1 p.2<;>rfl
theorem SA {F:S→Option (Stp S τ)}(h1: ∀(i:Nat) (s:List Edit),min a.length b.length≤i→i<a.length→s.length+1≤B→F (pk (i:Int) s)=some (.go (pk ((i:Int) - 1) (s++ [W3 2 t i]))))
    (h2: ∀s,F (pk (((min a.length b.length:Nat):Int) - 1) s)=some (.out (fin s))) (s:List Edit) (hs:s.length+a.length≤B):loop F (pk ((a.length:Int) - 1) s)=some (fin (s++Ve t a b)):=by
  have h:=WE pk (fun i=>W3 2 t i) fin B (min a.length b.length) a.length (fun i s=>h1 i s) h2 (a.length - min a.length b.length) s (by omega) (by omega)
  rw [show min a.length b.length+ (a.length - min a.length b.length)=a.length by omega]at h
  exact h
theorem SB {F:S→Option (Stp S τ)}(h1: ∀(i:Nat) y (s:List Edit),b[i]? =some y→s.length+1≤B→F (pk (i:Int) s)=some (.go (pk ((i+1:Nat):Int) (s++ [put (W3 1 t i) y]))))
    (h2: ∀(i:Nat) s,b.length≤i→F (pk (i:Int) s)=some (.out (fin s))) (i:Nat) (hi:i=a.length∨i=b.length∧b.length≤a.length) (s:List Edit) (hs:s.length+b.length≤B):loop F (pk (i:Int) s)=some (fin (s++Yq t put a b)):=by
  by_cases q:b.length≤a.length
  ·have hd:b.drop a.length= []:=List.drop_eq_nil_of_le q
   rw [N4 (h2 i s (by omega))];unfold Yq;rw [hd];simp [Z9]
  ·obtain rfl:i=a.length:=by omega
   exact SW pk b (fun i y=>some (put (W3 1 t i) y)) fin B (fun i y s h hl=>h1 i y s h hl) (fun s=>h2 _ s (bO _)) (b.drop a.length) a.length s rfl (by omega) (by rw [lT];omega)
end run
theorem Sp (a b:Nat):Fi false (a:Int) (b:Int)=((min a b:Nat):Int):=by rw [HT];omega
theorem UT {a b:Int}(h:b≤a):decide (a≥b)=true:=l9 h
theorem BU {α:Type}(t:Int)(put:Edit→α→Edit)(a b:List α)(same:α→α→Option Bool)(D:Edit→α→Option Edit)(hs: ∀x∈a,∀y∈b,same x y=some (eqB x y))(hD: ∀e,∀y∈b,D e y=some (put e y))(ha:a.length≤1000)(hb:b.length≤1000)
    (F1 F2 F3:List Edit×Int→Option (Stp (List Edit×Int) (List Edit)))
    (h1: ∀x1,F1 x1=cond (decide (x1.2< (Fi false (a.length:Int) (b.length:Int)))) ((E8 a x1.2).bind fun v1=>(E8 b x1.2).bind fun v2=>(same v1 v2).bind fun v3=>cond (!v3) ((E8 b x1.2).bind fun v4=>(D (W3 3 t x1.2) v4).bind fun v5=>(X6 x1.1 [v5]).bind fun v6=>some (.go (v6,(H6 (x1.2+1))))) (some (.go (x1.1,(H6 (x1.2+1)))))) (some (.out x1.1)))
    (h2: ∀x2,F2 x2=cond (decide (x2.2≥(Fi false (a.length:Int) (b.length:Int)))) ((X6 x2.1 [(W3 2 t x2.2)]).bind fun v7=>some (.go (v7,(H6 (x2.2 - 1))))) (some (.out x2.1)))
    (h3: ∀x3,F3 x3=cond (decide (x3.2< (b.length:Int))) ((E8 b x3.2).bind fun v8=>(D (W3 1 t x3.2) v8).bind fun v9=>(X6 x3.1 [v9]).bind fun v10=>some (.go (v10,(H6 (x3.2+1))))) (some (.out x3.1))):
    ((loop F1 ([],0)).bind fun y1=>(loop F2 (y1,(H6 ((a.length:Int) - 1)))).bind fun y2=>(loop F3 (y2,(Fi false (a.length:Int) (b.length:Int)))).bind fun y3=>some y3)=some (Cs t put a b):=by
  have l1:=II t put a b
  have l2:=IJ t a b
  have r1:=RZ (F:=F1) (fun i s=>(s,i)) id t put a b 10000 (fun i x y s hx hy hl=>by
    have:=I7 hx
    have:=I7 hy
    rw [h1];dsimp only
    rw [Sp,Q4 (by omega),bC,E5 hx,E5 hy,lA,lA,hs x (lF hx) y (lF hy),lA,lA,hD _ y (lF hy),lA,Bj (by simp;omega),K5 (I7 hx) (by omega)]
    cases eqB x y<;>rfl) (fun s=>by rw [h1,Sp,M5];rfl) [] (by simp;omega)
  have r2:=SA (F:=F2) (fun i s=>(s,i)) id t a b 10000 (fun i s hi1 hi2 hl=>by
    rw [h2];dsimp only
    rw [Sp,UT (by omega),bC,Bj (by simp;omega),lA,R5 (by omega)]) (fun s=>by
    rw [h2];dsimp only
    rw [Sp,bA (by omega)];rfl) (Vd t put a b) (by omega)
  have r3:=SB (F:=F3) (fun i s=>(s,i)) id t put a b 10000 (fun i y s hy hl=>by
    rw [h3];dsimp only
    rw [Q4 (I7 hy),bC,E5 hy,lA,hD _ y (lF hy),lA,Bj (by simp;omega),lA,K5 (I7 hy) (by omega)]) (fun i s hi=>by
    rw [h3];dsimp only
    rw [bA (by omega)];rfl) (min a.length b.length) (by omega) (Vd t put a b++Ve t a b) (by rw [lK];omega)
  rw [lN]at r1
  rw [show loop F1 ([],0)=some (Vd t put a b) from r1,lA,R5 (by omega),show loop F2 (Vd t put a b,(a.length:Int) - 1)=some (Vd t put a b++Ve t a b) from r2,lA,Sp,show loop F3 (Vd t put a b++Ve t a b,((min a.length b.length:Nat):Int))=some (Vd t put a b++Ve t a b++Yq t put a b) from r3]
  unfold Cs
  rw [lM];rfl
/-! ### The program -/
theorem Qs {l:Lane}(h1:l.Curve_.Pts.length≤1000000)(h2:l.Next.length≤1000000):Ap l=some l:=by
  unfold Ap Mk If Dr Z4
  rw [On h1,On h2];rfl
theorem Qt {z:Zone}(h:z.Parts.length≤1000000):Aq z=some z:=by
  unfold Aq Ds
  rw [On h];rfl
theorem Mq {s:Signal}(h1:s.Phases.length≤1000000)(h2: ∀p∈s.Phases,p.Green.length≤1000000):W7 s=some s:=by
  unfold W7 Y7
  rw [On h1,lA]
  have:=IB (F:=Y0 s.Phases) (σ:=Unit) (fun i _=>((i:Int),s)) s.Phases (fun _ _=>True) (fun _ _ _=> .inl ()) (fun _=>s) (s0:=()) (S0:=(0,Signal.mk s.Offset s.Phases)) rfl trivial (fun i p _ h _=>by
    have hi:=I7 h
    unfold Y0 Z4
    dsimp only
    rw [Q4 hi,E5 h,bC,lA,On (h2 p (lF h)),lA,lA,K5 hi (by omega)]
    have e:Lj s.Phases (i:Int) (Phase.mk p.Ticks p.Green)=s.Phases:=by
      unfold Lj
      rw [bN]
      exact List.ext_getElem? fun k=>by
        rw [List.getElem?_set]
        split
        ·next q=>subst q;exact h.symm
        ·rfl
    rw [e]) (fun _ _ _ _ _ _ _=>trivial) (fun _ _=>by unfold Y0;rw [M5];rfl)
  rw [this]
  have key: ∀(l:List Phase) (i:Nat),Sm (fun _ (_:Unit) (_:Phase)=>(.inl ():Sum Unit Signal)) (fun _=>s) i () l=s:=by
    intro l
    induction l with
    |nil=>intro i;rfl
    |cons a r ih=>intro i;exact ih (i+1)
  rw [key];rfl
def KJ (e:Edit)(l:Lane):Edit:=Edit.mk e.Kind e.Table e.At l e.Zone_ e.Signal_ e.Work_
def KL (e:Edit)(z:Zone):Edit:=Edit.mk e.Kind e.Table e.At e.Lane_ z e.Signal_ e.Work_
def KM (e:Edit)(s:Signal):Edit:=Edit.mk e.Kind e.Table e.At e.Lane_ e.Zone_ s e.Work_
def KN (e:Edit)(w:Work):Edit:=Edit.mk e.Kind e.Table e.At e.Lane_ e.Zone_ e.Signal_ w
noncomputable def Nf (a b:Map):List Edit:=Cs 1 KJ a.Lanes b.Lanes++ (Cs 2 KL a.Zones b.Zones++ (Cs 3 KM a.Signals b.Signals++Cs 4 KN a.Works b.Works))
theorem ER {a b:Map}(V:ValR a)(W:ValR b):(Nf a b).length≤5000:=by
  have:=Pf 1 KJ a.Lanes b.Lanes
  have:=Pf 2 KL a.Zones b.Zones
  have:=Pf 3 KM a.Signals b.Signals
  have:=Pf 4 KN a.Works b.Works
  have:=V.lanes
  have:=V.zones
  have:=V.signals
  have:=V.works
  have:=W.lanes
  have:=W.zones
  have:=W.signals
  have:=W.works
  unfold Nf
  simp only [lK]
  omega
theorem HC {l:List (List Edit)}(hl:l.length≤1000)(hs:l.flatten.length≤1000000):U8 l=some l.flatten:=by
  unfold U8
  rw [OW l (P7 l) (fun s i x h=>by
      unfold P7
      rw [Q4 (I7 h),bC,E5 h];rfl) (fun s=>by unfold P7;rw [M5];rfl) hl hs,lA,OY hs,lA,
   OX l (P6 l) (fun s i x h=>by
    unfold P6
    rw [Q4 (I7 h),bC,E5 h];rfl) (fun s=>by unfold P6;rw [M5];rfl) hl hs]
  rfl
noncomputable def AB (a b:Map):Patch×Int:=if Iy a≠0 then (⟨0,[]⟩,Iy a)else if Iy b≠0 then (⟨0,[]⟩,Iy b)else (⟨a.Version,Nf a b⟩,0)
theorem IK {a b:Map}(A:BearM a)(B:BearM b):Hz a b=some (AB a b):=by
  unfold Hz AB
  rw [Df A,Df B,lA]
  by_cases q:Iy a=0
  ·by_cases q2:Iy b=0
   ·have V:=chkR_zero.1 q
    have W:=chkR_zero.1 q2
    have h1:=V.lanes
    have h2:=V.zones
    have h3:=V.signals
    have h4:=V.works
    have w1:=W.lanes
    have w2:=W.zones
    have w3:=W.signals
    have w4:=W.works
    rw [q,q2,bF (by simp),bF (by simp),show ((0:Int) !=0)=false from rfl]
    have e1:I4 1 a.Lanes b.Lanes=some (Cs 1 KJ a.Lanes b.Lanes):=
      BU 1 KJ a.Lanes b.Lanes Cz Fo (fun x hx y hy=>EO (A.toBear.pts x hx).1 (A.toBear.pts x hx).2) (fun e y hy=>by unfold Fo;rw [Qs (B.toBear.pts y hy).1 (B.toBear.pts y hy).2];rfl) (by omega) (by omega) _ _ _ (fun _=>rfl) (fun _=>rfl) (fun _=>rfl)
    have e2:K2 2 a.Zones b.Zones=some (Cs 2 KL a.Zones b.Zones):=
      BU 2 KL a.Zones b.Zones Da Fq (fun x hx y hy=>EP (A.toBearZ.parts x hx)) (fun e y hy=>by unfold Fq;rw [Qt (B.toBearZ.parts y hy)];rfl) (by omega) (by omega) _ _ _ (fun _=>rfl) (fun _=>rfl) (fun _=>rfl)
    have e3:J4 3 a.Signals b.Signals=some (Cs 3 KM a.Signals b.Signals):=
      BU 3 KM a.Signals b.Signals Aw Fr (fun x hx y hy=>Yp (A.toBearS.phases x hx).1 (A.toBearS.phases x hx).2) (fun e y hy=>by unfold Fr;rw [Mq (B.toBearS.phases y hy).1 (B.toBearS.phases y hy).2];rfl) (by omega) (by omega) _ _ _ (fun _=>rfl) (fun _=>rfl) (fun _=>rfl)
    have e4:K3 4 a.Works b.Works=some (Cs 4 KN a.Works b.Works):=
      BU 4 KN a.Works b.Works Db Hj (fun x hx y hy=>EQ) (fun e y hy=>rfl) (by omega) (by omega) _ _ _ (fun _=>rfl) (fun _=>rfl) (fun _=>rfl)
    have hlen:=ER V W
    have e: [Cs 1 KJ a.Lanes b.Lanes,Cs 2 KL a.Zones b.Zones,Cs 3 KM a.Signals b.Signals,Cs 4 KN a.Works b.Works].flatten=Nf a b:=by simp [Nf]
    show (I4 1 a.Lanes b.Lanes).bind _=_
    rw [e1,lA,e2,lA,e3,lA,e4,lA,HC (by simp) (by rw [e];omega),e];rfl
   ·rw [q,bF (by simp),bE q2]
    show (thenS (cond (Iy b !=0) _ _) _ _)=_
    rw [show (Iy b !=0)=true by simpa using q2];rfl
  ·rw [bE q,show (Iy a !=0)=true by simpa using q];rfl
/-! ### The document -/
structure EditOK (e:Edit):Prop where
  pts:e.Lane_.Curve_.Pts.length≤1000000
  next:e.Lane_.Next.length≤1000000
  parts:e.Zone_.Parts.length≤1000000
  phases:e.Signal_.Phases.length≤1000000
  greens: ∀p∈e.Signal_.Phases,p.Green.length≤1000000
theorem ES (k t i:Int):EditOK (W3 k t i):=⟨by simp [W3],by simp [W3],by simp [W3],by simp [W3],by simp [W3]⟩
theorem AD {E:Type}{g:Nat→E}{lo:Nat}{x:E}: ∀{n:Nat},x∈Oo g lo n→∃i,x=g i
  |0,h=>by cases h
  |n+1,h=>by
   rcases lR.1 h with h|h
   ·exact ⟨_,h⟩
   ·exact AD h
theorem Sq {α:Type}{t:Int}{put:Edit→α→Edit}{a b:List α}(h: ∀y∈b,∀k t i,EditOK (put (W3 k t i) y)): ∀e∈Cs t put a b,EditOK e:=by
  intro e he
  rcases lQ.1 he with he|he
  ·obtain ⟨j,p,h1,h2⟩:=pickI_mem.1 he
   obtain ⟨_,hb⟩:=Vp h1
   cases q:eqB p.1 p.2<;>rw [q]at h2
   ·cases h2;exact h _ (lF hb) _ _ _
   ·cases h2
  ·rcases lQ.1 he with he|he
   ·obtain ⟨i,rfl⟩:=AD he;exact ES _ _ _
   ·obtain ⟨j,y,h1,h2⟩:=pickI_mem.1 he
    cases h2
    exact h y (List.mem_of_mem_drop (lF h1)) _ _ _
theorem SC {a b:Map}(B:BearM b): ∀e∈Nf a b,EditOK e:=by
  intro e he
  have k (k t i:Int):=ES k t i
  rcases lQ.1 he with he|he
  ·exact Sq (fun y hy k' t i=>⟨(B.toBear.pts y hy).1,(B.toBear.pts y hy).2,(k k' t i).parts,(k k' t i).phases,(k k' t i).greens⟩) e he
  ·rcases lQ.1 he with he|he
   ·exact Sq (fun y hy k' t i=>⟨(k k' t i).pts,(k k' t i).next,B.toBearZ.parts y hy,(k k' t i).phases,(k k' t i).greens⟩) e he
   ·rcases lQ.1 he with he|he
    ·exact Sq (fun y hy k' t i=>⟨(k k' t i).pts,(k k' t i).next,(k k' t i).parts,(B.toBearS.phases y hy).1,(B.toBearS.phases y hy).2⟩) e he
    ·exact Sq (fun y hy k' t i=>⟨(k k' t i).pts,(k k' t i).next,(k k' t i).parts,(k k' t i).phases,(k k' t i).greens⟩) e he
/-! ### Copies -/
theorem WF {l:List Lane}(hl:l.length≤1000000)(h: ∀x∈l,x.Curve_.Pts.length≤1000000∧x.Next.length≤1000000):P8 l=some l:=by
  unfold P8
  rw [IG (fun i s=>(s,(i:Int))) l id (S0:=([],0)) rfl (fun i p s hp hs=>by
   have hi:=I7 hp
   have hm:=h p (lF hp)
   unfold M8
   dsimp only
   rw [Q4 hi,E5 hp,bC,lA,Qs hm.1 hm.2,lA,Bj (by simp;omega),lA,K5 hi (by omega)]) (fun s=>by unfold M8;rw [M5];rfl)]
  rfl
theorem WG {l:List Zone}(hl:l.length≤1000000)(h: ∀x∈l,x.Parts.length≤1000000):P9 l=some l:=by
  unfold P9
  rw [IG (fun i s=>(s,(i:Int))) l id (S0:=([],0)) rfl (fun i p s hp hs=>by
   have hi:=I7 hp
   unfold M9
   dsimp only
   rw [Q4 hi,E5 hp,bC,lA,Qt (h p (lF hp)),lA,Bj (by simp;omega),lA,K5 hi (by omega)]) (fun s=>by unfold M9;rw [M5];rfl)]
  rfl
theorem WH {l:List Signal}(hl:l.length≤1000000)(h: ∀x∈l,x.Phases.length≤1000000∧∀p∈x.Phases,p.Green.length≤1000000):M6 l=some l:=by
  unfold M6
  rw [IG (fun i s=>(s,(i:Int))) l id (S0:=([],0)) rfl (fun i p s hp hs=>by
   have hi:=I7 hp
   have hm:=h p (lF hp)
   unfold K4
   dsimp only
   rw [Q4 hi,E5 hp,bC,lA,Mq hm.1 hm.2,lA,Bj (by simp;omega),lA,K5 hi (by omega)]) (fun s=>by unfold K4;rw [M5];rfl)]
  rfl
theorem WI {l:List Work}(hl:l.length≤1000000):Q0 l=some l:=by
  unfold Q0
  rw [IG (fun i s=>(s,(i:Int))) l id (S0:=([],0)) rfl (fun i p s hp hs=>by
   have hi:=I7 hp
   unfold N0 Gd
   dsimp only
   rw [Q4 hi,E5 hp,bC,lA,lA,Bj (by simp;omega),lA,K5 hi (by omega)]) (fun s=>by unfold N0;rw [M5];rfl)]
  rfl
theorem Yr {m:Map}(B:BearM m):Gf m=some m:=by
  unfold Gf
  rw [WF B.toBear.lanes B.toBear.pts,lA,WG B.toBearZ.many B.toBearZ.parts,lA,WH B.toBearS.many B.toBearS.phases,lA,WI B.toBearW.many];rfl
/-! ### One edit -/
/-- The rows that an edit leaves; none: it can't be. -/
def Dm {α:Type}(k i:Int)(xs:List α)(v:α):Option (List α):=
  if k=1∧i=xs.length then some (xs++ [v])
  else if k=2∧0<xs.length∧i=(xs.length:Int) - 1 then some (xs.take i.toNat)
  else if k=3∧0≤i∧i<xs.length then some (xs.set i.toNat v)else none
theorem Lu {α:Type}{k i:Int}{xs zs:List α}{v:α}(h:Dm k i xs v=some zs):zs.length≤xs.length+1:=by
  unfold Dm at h
  split at h
  ·cases h;simp
  ·split at h
   ·cases h;rw [lS];omega
   ·split at h
    ·cases h;rw [List.length_set];omega
    ·cases h
theorem Tx {α:Type}{k i:Int}{xs zs:List α}{v:α}(h:Dm k i xs v=some zs): ∀x∈zs,x∈xs∨x=v:=by
  unfold Dm at h
  intro x hx
  split at h
  ·cases h;simpa using hx
  ·split at h
   ·cases h;exact .inl (List.mem_of_mem_take hx)
   ·split at h
    ·cases h;exact List.mem_or_eq_of_mem_set hx
    ·cases h
theorem Sr {α:Type}(k i:Int)(xs:List α)(v:α)(hl:xs.length≤900000):Eb k i xs v=some ((Dm k i xs v).getD xs,(Dm k i xs v).isSome):=by
  unfold Eb Dm
  by_cases h1:k=1∧i=xs.length
  ·obtain ⟨rfl,rfl⟩:=h1
   rw [bE ⟨rfl,rfl⟩,show (((1:Int)==1)&& ((xs.length:Int)==(xs.length:Int)))=true by simp,bC,Bj (by simp;omega)];rfl
  ·rw [bF h1,show ((k==1)&& (i==(xs.length:Int)))=false by rw [bJ];simpa using h1,bD]
   by_cases h2:k=2∧0<xs.length∧i=(xs.length:Int) - 1
   ·obtain ⟨rfl,h3,rfl⟩:=h2
    rw [bE ⟨rfl,h3,rfl⟩,R5 (by omega),show ((((2:Int)==2)&&decide ((xs.length:Int)>0))&& ((xs.length:Int) - 1==(xs.length:Int) - 1))=true by simp;omega,bC]
    have e:Rn xs 0 ((xs.length:Int) - 1)=some (xs.take ((xs.length:Int) - 1).toNat):=by unfold Rn;rw [bE ⟨by omega,by omega,by omega⟩];simp
    rw [e];rfl
   ·rw [bF h2,show (((k==2)&&decide ((xs.length:Int)>0))&& (i==H6 ((xs.length:Int) - 1)))=false by
    rw [bJ]
    intro q
    simp only [bG,bK,bB]at q
    obtain ⟨⟨q1,q2⟩,q3⟩:=q
    rw [R5 (by omega)]at q3
    exact h2 ⟨q1,by omega,q3⟩,bD]
    by_cases h3:k=3∧0≤i∧i<xs.length
    ·rw [bE h3,show (((k==3)&&decide (i≥0))&&decide (i< (xs.length:Int)))=true by simp [h3],bC]
     obtain ⟨x,hx⟩: ∃x,E8 xs i=some x:=by
       have:i=((i.toNat:Nat):Int):=(Int.toNat_of_nonneg h3.2.1).symm
       rw [this]
       exact ⟨_,E5 (lG (by omega))⟩
     rw [hx];rfl
    ·rw [bF h3,show (((k==3)&&decide (i≥0))&&decide (i< (xs.length:Int)))=false by
     rw [bJ]
     intro q
     simp only [bG,bK,bB]at q
     exact h3 ⟨q.1.1,by omega,q.2⟩,bD];rfl
noncomputable def Ss (e:Edit)(m:Map):Option Map:=
  if e.Table=1 then (Dm e.Kind e.At m.Lanes e.Lane_).map fun l=>⟨m.Version,l,m.Zones,m.Signals,m.Works⟩
  else if e.Table=2 then (Dm e.Kind e.At m.Zones e.Zone_).map fun l=>⟨m.Version,m.Lanes,l,m.Signals,m.Works⟩
  else if e.Table=3 then (Dm e.Kind e.At m.Signals e.Signal_).map fun l=>⟨m.Version,m.Lanes,m.Zones,l,m.Works⟩
  else (Dm e.Kind e.At m.Works e.Work_).map fun l=>⟨m.Version,m.Lanes,m.Zones,m.Signals,l⟩
/-- A list of edits: the map, or how it went wrong. -/
noncomputable def Dg:List Edit→Map→Sum Map Int
  | [],m=> .inl m
  |e::r,m=>if e.Kind<1∨3<e.Kind∨e.Table<1∨4<e.Table then .inr 4 else match Ss e m with
   |none=> .inr 2
   |some m'=>Dg r m'
/-- What every list can bear, with so many edits to come. -/
structure RoomM (m:Map)(n:Nat):Prop where
  lanes:m.Lanes.length+n≤900000
  zones:m.Zones.length+n≤900000
  signals:m.Signals.length+n≤900000
  works:m.Works.length+n≤900000
theorem AE {e:Edit}{m m':Map}{n:Nat}(R:RoomM m (n+1))(h:Ss e m=some m'):RoomM m' n∧m'.Version=m.Version:=by
  obtain ⟨r1,r2,r3,r4⟩:=R
  unfold Ss at h
  repeat' split at h
  all_goals
    rw [lD]at h
    obtain ⟨l,hl,rfl⟩:=h
    have:=Lu hl
    exact ⟨⟨by dsimp only;omega,by dsimp only;omega,by dsimp only;omega,by dsimp only;omega⟩,rfl⟩
theorem AF {e:Edit}{m m':Map}(B:BearM m)(E:EditOK e)(R:RoomM m 1)(h:Ss e m=some m'):BearM m':=by
  obtain ⟨r1,r2,r3,r4⟩:=R
  unfold Ss at h
  split at h
  ·rw [lD]at h
   obtain ⟨l,hl,rfl⟩:=h
   have:=Lu hl
   exact ⟨⟨by dsimp only;omega,fun x hx=>by
     rcases Tx hl x hx with q|rfl
     ·exact B.toBear.pts x q
     ·exact ⟨E.pts,E.next⟩⟩,⟨B.toBearS.many,B.toBearS.phases⟩,⟨B.toBearZ.many,B.toBearZ.parts⟩,⟨B.toBearW.many⟩⟩
  ·split at h
   ·rw [lD]at h
    obtain ⟨l,hl,rfl⟩:=h
    have:=Lu hl
    exact ⟨⟨B.toBear.lanes,B.toBear.pts⟩,⟨B.toBearS.many,B.toBearS.phases⟩,⟨by dsimp only;omega,fun x hx=>by
      rcases Tx hl x hx with q|rfl
      ·exact B.toBearZ.parts x q
      ·exact E.parts⟩,⟨B.toBearW.many⟩⟩
   ·split at h
    ·rw [lD]at h
     obtain ⟨l,hl,rfl⟩:=h
     have:=Lu hl
     exact ⟨⟨B.toBear.lanes,B.toBear.pts⟩,⟨by dsimp only;omega,fun x hx=>by
       rcases Tx hl x hx with q|rfl
       ·exact B.toBearS.phases x q
       ·exact ⟨E.phases,E.greens⟩⟩,⟨B.toBearZ.many,B.toBearZ.parts⟩,⟨B.toBearW.many⟩⟩
    ·rw [lD]at h
     obtain ⟨l,hl,rfl⟩:=h
     have:=Lu hl
     exact ⟨⟨B.toBear.lanes,B.toBear.pts⟩,⟨B.toBearS.many,B.toBearS.phases⟩,⟨B.toBearZ.many,B.toBearZ.parts⟩,⟨by dsimp only;omega⟩⟩
theorem Un: ∀{l:List Edit} {m m':Map},BearM m→(∀e∈l,EditOK e)→RoomM m l.length→Dg l m= .inl m'→BearM m'∧m'.Version=m.Version
  | [],m,m',B,_,_,h=>by cases h;exact ⟨B,rfl⟩
  |e::r,m,m',B,E,R,h=>by
   rw [Dg]at h
   split at h
   ·cases h
   ·split at h
    ·cases h
    ·next m1 q=>
     have R1:RoomM m 1:=⟨by have:=R.lanes;simp at this;omega,by have:=R.zones;simp at this;omega,by have:=R.signals;simp at this;omega,by have:=R.works;simp at this;omega⟩
     obtain ⟨R2,v⟩:=AE (n:=r.length) (by simpa using R) q
     obtain ⟨B3,v3⟩:=Un (AF B (E e (by simp)) R1 q) (fun x hx=>E x (List.mem_cons_of_mem _ hx)) R2 h
     exact ⟨B3,v3.trans v⟩
def Lc:Map:=Map.mk 0 [] [] [] []
def WJ:Sum Map Int→Sum Map (Map×Int)
  | .inl m=> .inl m
  | .inr c=> .inr (Lc,c)
theorem PB {F:Int×Map→Option (Stp (Int×Map) (Sum Map (Map×Int)))}(l:List Edit)(hl:l.length≤100000)
    (hF: ∀(i:Nat) e m,l[i]? =some e→BearM m→EditOK e→RoomM m 1→F ((i:Int),m)=some (if e.Kind<1∨3<e.Kind∨e.Table<1∨4<e.Table then .out (.inr (Lc,4))else match Ss e m with
      |none=> .out (.inr (Lc,2))
      |some m'=> .go (((i+1:Nat):Int),m'))) (h0: ∀m,F ((l.length:Int),m)=some (.out (.inl m))) (hE: ∀e∈l,EditOK e): ∀(r:List Edit) (i:Nat) (m:Map),l.drop i=r→i≤l.length→BearM m→RoomM m r.length→loop F ((i:Int),m)=some (WJ (Dg r m)):=by
  intro r
  induction r with
  |nil=>
   intro i m hi hil _ _
   have:=Cy hi
   obtain rfl:i=l.length:=by omega
   rw [N4 (h0 _)];rfl
  |cons e r ih=>
   intro i m hi hil B R
   have hlt:=Eo hi
   have he:=Ir hi
   have R1:RoomM m 1:=⟨by have:=R.lanes;simp at this;omega,by have:=R.zones;simp at this;omega,by have:=R.signals;simp at this;omega,by have:=R.works;simp at this;omega⟩
   have hO:=hE e (lF he)
   have h:=hF i e m he B hO R1
   rw [Dg]
   split
   ·next q=>rw [bE q]at h;rw [N4 h];rfl
   ·next q=>
    rw [bF q]at h
    cases q2:Ss e m with
    |none=>rw [q2]at h;rw [N4 h];rfl
    |some m'=>
     rw [q2]at h
     rw [X5 h]
     exact ih (i+1) m' (X8 hi) hlt (AF B hO R1 q2) (AE (n:=r.length) (by simpa using R) q2).1
/-! ### The program -/
theorem Pg {α:Type}{k i:Int}{xs:List α}{v:α}{n:Nat}(f:List α→Map):
    thenS (some (.inl ((Dm k i xs v).isSome,f ((Dm k i xs v).getD xs))):Option (Sum (Bool×Map) (Map×Int))) (fun y2=>cond (!y2.1) (some (.out (.inr (Lc,2)))) (some (.go ((((n:Nat):Int)),y2.2)))) (fun r=>some (.out (.inr r)))
      =some (match (Dm k i xs v).map f with|none=>Stp.out (Sum.inr (Lc,2))|some m'=>Stp.go (((n:Nat):Int),m'):Stp (Int×Map) (Sum Map (Map×Int))):=by
  cases Dm k i xs v<;>rfl
theorem HD (p:Patch)(hl:p.Edits.length≤100000)(hE: ∀e∈p.Edits,EditOK e){m:Map}(B:BearM m)(R:RoomM m p.Edits.length):loop (Dc p) (0,m)=some (WJ (Dg p.Edits m)):=by
  refine PB p.Edits hl (fun i e m he B E R=> ?_) (fun m=>by unfold Dc;dsimp only;rw [M5];rfl) hE p.Edits 0 m rfl (by omega) B R
  have hi:=I7 he
  unfold Dc
  dsimp only
  rw [Q4 hi,bC,E5 he,lA,K5 hi (by omega)]
  by_cases k:e.Kind<1∨3<e.Kind
  ·rw [show ((decide (e.Kind<1))||(decide (e.Kind>3)))=true by simpa using k,bE (by omega)];rfl
  ·rw [show ((decide (e.Kind<1))||(decide (e.Kind>3)))=false by rw [bJ];simpa using k,bD]
   have r1:=R.lanes
   have r2:=R.zones
   have r3:=R.signals
   have r4:=R.works
   by_cases t1:e.Table=1
   ·rw [bF (by omega),show (e.Table==1)=true by simpa using t1,bC,Qs E.pts E.next,lA,Sr _ _ _ _ (by omega),lA]
    unfold Ss
    rw [bE t1]
    exact Pg fun l=>⟨m.Version,l,m.Zones,m.Signals,m.Works⟩
   ·rw [show (e.Table==1)=false by simpa using t1,bD]
    by_cases t2:e.Table=2
    ·rw [bF (by omega),show (e.Table==2)=true by simpa using t2,bC,Qt E.parts,lA,Sr _ _ _ _ (by omega),lA]
     unfold Ss
     rw [bF t1,bE t2]
     exact Pg fun l=>⟨m.Version,m.Lanes,l,m.Signals,m.Works⟩
    ·rw [show (e.Table==2)=false by simpa using t2,bD]
     by_cases t3:e.Table=3
     ·rw [bF (by omega),show (e.Table==3)=true by simpa using t3,bC,Mq E.phases E.greens,lA,Sr _ _ _ _ (by omega),lA]
      unfold Ss
      rw [bF t1,bF t2,bE t3]
      exact Pg fun l=>⟨m.Version,m.Lanes,m.Zones,l,m.Works⟩
     ·rw [show (e.Table==3)=false by simpa using t3,bD]
      by_cases t4:e.Table=4
      ·rw [bF (by omega),show (e.Table==4)=true by simpa using t4,bC,Sr _ _ _ _ (by omega),lA]
       unfold Ss
       rw [bF t1,bF t2,bF t3]
       exact Pg fun l=>⟨m.Version,m.Lanes,m.Zones,m.Signals,l⟩
      ·rw [bE (by omega),show (e.Table==4)=false by simpa using t4];rfl
def PL (m:Map):Map:=Map.mk (m.Version+1) m.Lanes m.Zones m.Signals m.Works
noncomputable def BV (m:Map)(p:Patch):Map×Int:=
  if Iy m≠0 then (Lc,Iy m)else if p.Base≠m.Version then (Lc,14)else match Dg p.Edits m with
   | .inr c=>(Lc,c)
   | .inl a=>if a.Version=1099511627776 then (Lc,2)else if Iy (PL a)≠0 then (Lc,Iy (PL a))else (PL a,0)
theorem PC {m:Map}(B:BearM m):BearM (PL m):=⟨⟨B.toBear.lanes,B.toBear.pts⟩,⟨B.toBearS.many,B.toBearS.phases⟩,⟨B.toBearZ.many,B.toBearZ.parts⟩,⟨B.toBearW.many⟩⟩
theorem PD {m:Map}{p:Patch}(B:BearM m)(hl:p.Edits.length≤100000)(hE: ∀e∈p.Edits,EditOK e):Ip m p=some (BV m p):=by
  unfold Ip BV
  rw [Df B,lA]
  by_cases q:Iy m=0
  ·have V:=chkR_zero.1 q
   have R:RoomM m p.Edits.length:=⟨by have:=V.lanes;omega,by have:=V.zones;omega,by have:=V.signals;omega,by have:=V.works;omega⟩
   rw [q,bF (by simp),show ((0:Int) !=0)=false from rfl,bD]
   by_cases q2:p.Base=m.Version
   ·rw [bF (by simpa using q2),show (p.Base !=m.Version)=false by simpa using q2,bD,Yr B,lA,HD p hl hE B R]
    cases h:Dg p.Edits m with
    |inr c=>rfl
    |inl a=>
     obtain ⟨A,hv⟩:=Un B hE R h
     have hver:=V.ver
     show (cond (decide (a.Version≥1099511627776)) _ _)=_
     dsimp only
     by_cases q3:a.Version=1099511627776
     ·rw [bE q3,l9 (by omega)];rfl
     ·rw [bF q3,bA (by omega),bD,R5 (by omega)]
      show (Q5 (PL a)).bind _=_
      rw [Df (PC A),lA]
      by_cases q4:Iy (PL a)=0
      ·rw [bF (by simpa using q4),q4];rfl
      ·rw [bE q4,show (Iy (PL a) !=0)=true by simpa using q4];rfl
   ·rw [bE q2,show (p.Base !=m.Version)=true by simpa using q2];rfl
  ·rw [bE q,show (Iy m !=0)=true by simpa using q];rfl
/-! ### The document -/
/-! ### The kit's maps fit -/
theorem PE:((List.range 8).all fun k=>([1500,600,1000,300]:List Int).all fun lim=>([0,1]:List Int).all fun r=>(@Ei Bs) (Fv k ⟨lim,r,0,0,0,[]⟩)==some true)=true:=by decide+kernel
theorem BW {m m':Map}(h:m.Signals.map (·.Phases)=m'.Signals.map (·.Phases))(z:Zone)(a b:Int):Kd m z a b=Kd m' z a b:=by
  unfold Kd
  have: ∀i:Nat,(m.Signals[i]?).map (·.Phases)=(m'.Signals[i]?).map (·.Phases):=fun i=>by rw [← lI,← lI,h]
  have:=this (z.Signal_ - 1).toNat
  generalize m.Signals[(z.Signal_ - 1).toNat]? =A at this
  generalize m'.Signals[(z.Signal_ - 1).toNat]? =B at this
  cases A<;>cases B
  ·rfl
  ·cases this
  ·cases this
  ·simp only [lE,Option.some.injEq]at this
   simp only [SU,this]
theorem Su {m m':Map}(h:m.Lanes=m'.Lanes)(b:Int): ∀(n:Nat) (a:Nat),Gk m b n a=Gk m' b n a
  |0,a=>rfl
  |n+1,a=>by
   rw [Gk,Gk]
   unfold nextOf
   rw [h]
   congr 1
   funext k
   rw [Su h b n]
theorem BX {m m':Map}(h:m.Lanes=m'.Lanes):Em m=Em m':=by
  funext z b
  unfold Em Kc
  rw [h]
  congr 2
  funext p
  exact Su h _ _ _
theorem BY (k:Nat)(o o':Int):(Jb k o o').map (·.Phases)=(Jb k 0 0).map (·.Phases):=by unfold Jb;split<;>rfl
theorem SD {k:Nat}{p:Par}(hk:k<8)(h:ParOK p)(V:ValR (Fv k p)):RU (Fv k p)=true:=by
  have h1:=lW.1 PE k (List.mem_range.2 hk)
  have h2:=lW.1 h1 p.lim (by have:=h.lim;simp;omega)
  have h3:=lW.1 h2 p.r (by have:=h.r;simp;omega)
  have h4:=roads_Fit_le _ _ (eq_of_beq h3)
  have h5:=OV (m:=Fv k ⟨p.lim,p.r,0,0,0,[]⟩) (BR rfl rfl rfl (bP 1))
  rw [h4]at h5
  have h6:=(lC h5).symm
  unfold RU at h6 ⊢
  simp only [bG]at h6 ⊢
  obtain ⟨⟨⟨⟨_,a2⟩,a3⟩,a4⟩,a5⟩:=h6
  have hE:Em (Fv k p)=Em (Fv k ⟨p.lim,p.r,0,0,0,[]⟩):=BX rfl
  have hG:Mn (Fv k p)=Mn (Fv k ⟨p.lim,p.r,0,0,0,[]⟩):=by
    funext a z
    unfold Mn
    rw [hE];rfl
  have hN:W2 (Fv k p)=W2 (Fv k ⟨p.lim,p.r,0,0,0,[]⟩):=by
    funext z
    unfold W2
    rw [hE]
  have e2:Mo (Fv k p)=Mo (Fv k ⟨p.lim,p.r,0,0,0,[]⟩):=by
    unfold Mo
    rw [hG];rfl
  have e3:Mp (Fv k p)=Mp (Fv k ⟨p.lim,p.r,0,0,0,[]⟩):=by
    unfold Mp
    rw [hE];rfl
  have e4: ∀n bad,Lb (Fv k p) n bad=Lb (Fv k ⟨p.lim,p.r,0,0,0,[]⟩) n bad:=by
    intro n bad
    unfold Lb
    rw [hN];rfl
  rw [e2,e3,e4,e4]
  refine ⟨⟨⟨⟨l9 (chkR_zero.2 V),a2⟩,a3⟩,a4⟩,?_⟩
  have hg:Kd (Fv k p)=Kd (Fv k ⟨p.lim,p.r,0,0,0,[]⟩):=by
    funext z a b
    exact BW (BY k p.o p.o') z a b
  rw [hg]
  exact a5
/-! ### Edits, one behind the other -/
theorem Oq {e:Edit}{r:List Edit}{m m':Map}(hk:1≤e.Kind∧e.Kind≤3)(ht:1≤e.Table∧e.Table≤4)(h:Ss e m=some m'):Dg (e::r) m=Dg r m':=by
  rw [Dg,bF (by omega),h]
structure Tab {α:Type}(t:Int)(put:Edit→α→Edit)(A:List α→Map):Prop where
  p: ∀k i v xs,Ss (put (W3 k t i) v) (A xs)=(Dm k i xs v).map A
  b: ∀(i:Nat) xs,xs.length=i+1→Ss (W3 2 t i) (A xs)=some (A (xs.take i))
  kd: ∀k i v,(put (W3 k t i) v).Kind=k∧(put (W3 k t i) v).Table=t
  ok:1≤t∧t≤4
section
variable {α:Type}{t:Int}{put:Edit→α→Edit}{A:List α→Map}
theorem SE (T:Tab t put A)(a b:List α)(rest:List Edit): ∀(r:List (α×α)) (i:Nat),(a.zip b).drop i=r→i≤(a.zip b).length→Dg (Z9 (fun i (p:α×α)=>if eqB p.1 p.2=true then none else some (put (W3 3 t i) p.2)) i r++rest) (A (b.take i++a.drop i))=Dg rest (A (b.take (min a.length b.length)++a.drop (min a.length b.length))):=by
  intro r
  induction r with
  |nil=>
   intro i hi hil
   have:=Cy hi
   rw [List.length_zip]at this hil
   obtain rfl:i=min a.length b.length:=by omega
   rfl
  |cons p r ih=>
   intro i hi hil
   have hlt:=Eo hi
   obtain ⟨ha,hb⟩:=Vp (Ir hi)
   have ia:=I7 ha
   have ib:=I7 hb
   have e1:b.take (i+1)=b.take i++ [p.2]:=by rw [List.take_add_one,hb];rfl
   have e2:a.drop i=p.1::a.drop (i+1):=by
     rw [List.drop_eq_getElem_cons ia]
     congr 1
     exact (lH.1 ha).2
   have hlen:(b.take i).length=i:=by rw [lS];omega
   have ih:=ih (i+1) (X8 hi) hlt
   rw [Z9]
   by_cases q:p.1=p.2
   ·rw [bE (eqB_iff.2 q)]
    rw [e1,lM]at ih
    rw [e2,q]
    exact ih
   ·rw [bF (by rw [OZ q];simp)]
    refine (Oq (m':=A (b.take (i+1)++a.drop (i+1))) (by rw [(T.kd 3 i p.2).1];omega) (by rw [(T.kd 3 i p.2).2];exact T.ok) ?_).trans ih
    rw [T.p]
    unfold Dm
    rw [bF (by omega),bF (by omega),bE ⟨rfl,by omega,by rw [lK,hlen,lT];omega⟩,lE]
    congr 2
    rw [bN,e2,e1,List.set_append_right _ _ (by omega),hlen,Nat.sub_self,List.set_cons_zero,lM];rfl
theorem IL (T:Tab t put A)(lo:Nat)(rest:List Edit): ∀(n:Nat) (xs:List α),xs.length=lo+n→Dg (Oo (fun i=>W3 2 t i) lo n++rest) (A xs)=Dg rest (A (xs.take lo))
  |0,xs,h=>by rw [Oo,lN,List.take_of_length_le (by omega)]
  |n+1,xs,h=>by
   rw [Oo,List.cons_append,Oq (m':=A (xs.take (lo+n))) (by show 1≤(2:Int)∧(2:Int)≤3;omega) T.ok (T.b (lo+n) xs (by omega)),IL T lo rest n _ (by rw [lS];omega),List.take_take,Nat.min_eq_left (by omega)]
theorem SF (T:Tab t put A)(b:List α)(rest:List Edit): ∀(r:List α) (i:Nat),b.drop i=r→i≤b.length→Dg (Z9 (fun i y=>some (put (W3 1 t i) y)) i r++rest) (A (b.take i))=Dg rest (A b):=by
  intro r
  induction r with
  |nil=>
   intro i hi hil
   have:=Cy hi
   rw [List.take_of_length_le (by omega)];rfl
  |cons y r ih=>
   intro i hi hil
   have hlt:=Eo hi
   have hb:=Ir hi
   have hlen:(b.take i).length=i:=by rw [lS];omega
   rw [Z9]
   refine (Oq (m':=A (b.take (i+1))) (by rw [(T.kd 1 i y).1];omega) (by rw [(T.kd 1 i y).2];exact T.ok) ?_).trans (ih (i+1) (X8 hi) hlt)
   rw [T.p]
   unfold Dm
   rw [bE ⟨rfl,by rw [hlen]⟩,lE,List.take_add_one,hb];rfl
theorem Ph (T:Tab t put A)(a b:List α)(rest:List Edit):Dg (Cs t put a b++rest) (A a)=Dg rest (A b):=by
  unfold Cs
  rw [lM,lM]
  have h1:=SE T a b (Ve t a b++ (Yq t put a b++rest)) (a.zip b) 0 rfl (by omega)
  rw [List.take_zero,List.drop_zero,lN]at h1
  refine (show _=_ from h1).trans ?_
  have hl:(b.take (min a.length b.length)++a.drop (min a.length b.length)).length=min a.length b.length+ (a.length - min a.length b.length):=by
    rw [lK,lS,lT];omega
  rw [Ve,IL T _ _ _ _ hl]
  have e:(b.take (min a.length b.length)++a.drop (min a.length b.length)).take (min a.length b.length)=b.take (min a.length b.length):=by
    rw [List.take_append_of_le_length (by rw [lS];omega),List.take_take,Nat.min_self]
  rw [e]
  by_cases q:b.length≤a.length
  ·have hd:b.drop a.length= []:=List.drop_eq_nil_of_le q
   unfold Yq
   rw [hd,List.take_of_length_le (by omega)];rfl
  ·rw [Nat.min_eq_left (by omega)]
   exact SF T b rest _ a.length rfl (by omega)
end
theorem WY (v:Int)(z:List Zone)(s:List Signal)(w:List Work):Tab 1 KJ (fun l=>Map.mk v l z s w):=⟨fun _ _ _ _=>rfl,fun i xs h=>by
  show (Dm 2 (i:Int) xs _).map _=_
  unfold Dm
  rw [bF (by omega),bE ⟨rfl,by omega,by omega⟩];rfl,fun _ _ _=>⟨rfl,rfl⟩,by omega⟩
theorem WZ (v:Int)(l:List Lane)(s:List Signal)(w:List Work):Tab 2 KL (fun z=>Map.mk v l z s w):=⟨fun _ _ _ _=>rfl,fun i xs h=>by
  show (Dm 2 (i:Int) xs _).map _=_
  unfold Dm
  rw [bF (by omega),bE ⟨rfl,by omega,by omega⟩];rfl,fun _ _ _=>⟨rfl,rfl⟩,by omega⟩
theorem XA (v:Int)(l:List Lane)(z:List Zone)(w:List Work):Tab 3 KM (fun s=>Map.mk v l z s w):=⟨fun _ _ _ _=>rfl,fun i xs h=>by
  show (Dm 2 (i:Int) xs _).map _=_
  unfold Dm
  rw [bF (by omega),bE ⟨rfl,by omega,by omega⟩];rfl,fun _ _ _=>⟨rfl,rfl⟩,by omega⟩
theorem XB (v:Int)(l:List Lane)(z:List Zone)(s:List Signal):Tab 4 KN (fun w=>Map.mk v l z s w):=⟨fun _ _ _ _=>rfl,fun i xs h=>by
  show (Dm 2 (i:Int) xs _).map _=_
  unfold Dm
  rw [bF (by omega),bE ⟨rfl,by omega,by omega⟩];rfl,fun _ _ _=>⟨rfl,rfl⟩,by omega⟩
theorem PF (a b:Map):Dg (Nf a b) a= .inl ⟨a.Version,b.Lanes,b.Zones,b.Signals,b.Works⟩:=by
  unfold Nf
  have e:=Ph (XB a.Version b.Lanes b.Zones b.Signals) a.Works b.Works []
  rw [List.append_nil]at e
  exact (Ph (WY a.Version a.Zones a.Signals a.Works) a.Lanes b.Lanes _).trans ((Ph (WZ a.Version b.Lanes a.Signals a.Works) a.Zones b.Zones _).trans ((Ph (XA a.Version b.Lanes b.Zones a.Works) a.Signals b.Signals _).trans e))
/-- Another version alone. -/
theorem UU {m:Map}(V:ValR m){v:Int}(hv:0≤v∧v≤1099511627776):ValR (Map.mk v m.Lanes m.Zones m.Signals m.Works):=by
  have V':ValR (Map.mk m.Version m.Lanes m.Zones m.Signals m.Works):=V
  refine V'.change hv rfl (fun s hs=> ?_) V.works (fun w hw=> ?_)
  ·obtain ⟨i,hi⟩:=List.getElem?_of_mem hs
   exact firstE_none.1 V.signalE i s hi
  ·obtain ⟨i,hi⟩:=List.getElem?_of_mem hw
   exact firstE_none.1 V.workE i w hi
theorem Mr {α:Type}(t:Int)(put:Edit→α→Edit)(a:List α):Cs t put a a= []:=by
  have h1:Vd t put a a= []:=by
    unfold Vd
    have: ∀(l:List α) (i:Nat),Z9 (fun i (p:α×α)=>if eqB p.1 p.2=true then none else some (put (W3 3 t i) p.2)) i (l.zip l)= []:=by
      intro l
      induction l with
      |nil=>intro i;rfl
      |cons x r ih=>
       intro i
       rw [List.zip_cons_cons,Z9,bE (eqB_iff.2 rfl)]
       exact ih (i+1)
    exact this a 0
  have h2:Ve t a a= []:=by unfold Ve;rw [Nat.min_self,Nat.sub_self];rfl
  have h3:Yq t put a a= []:=by unfold Yq;rw [List.drop_length];rfl
  unfold Cs
  rw [h1,h2,h3];rfl
theorem KO (a:Map):Nf a a= []:=by
  unfold Nf
  rw [Mr,Mr,Mr,Mr];rfl
theorem Ld (n k:Int):Du n k=some true:=by
  obtain ⟨i,p,hi,hp,ha⟩:=Xt n
  obtain ⟨j,q,hj,hq,hb⟩:=Xt k
  have Va:=IE hi hp
  have Vb:=IE hj hq
  have Ba:=EK (k:=i) hp
  have Bb:=EK (k:=j) hq
  have Fb:=SD hj hq Vb
  have hver:(Fv i p).Version=p.ver:=rfl
  have hpv:=hp.ver
  unfold Du
  rw [ha,hb,lA,lA]
  generalize Fv i p=a at*
  generalize Fv j q=b at*
  have ca:=chkR_zero.2 Va
  have cb:=chkR_zero.2 Vb
  have hd:AB a b=(⟨a.Version,Nf a b⟩,0):=by unfold AB;rw [bF (by simpa using ca),bF (by simpa using cb)]
  have hlen:=ER Va Vb
  have hc:Iy (PL ⟨a.Version,b.Lanes,b.Zones,b.Signals,b.Works⟩)=0:=chkR_zero.2 (UU Vb (by rw [hver];omega))
  have hA:BV a ⟨a.Version,Nf a b⟩=(PL ⟨a.Version,b.Lanes,b.Zones,b.Signals,b.Works⟩,0):=by
    unfold BV
    rw [bF (by simpa using ca),bF (by simp)]
    dsimp only
    rw [PF]
    dsimp only
    rw [bF (by rw [hver];omega),bF (by simpa using hc)]
  have hbb:Map.mk b.Version b.Lanes b.Zones b.Signals b.Works=b:=rfl
  rw [IK Ba Bb,hd,lA]
  dsimp only
  rw [show ((0:Int) !=0)=false from rfl,bD,PD Ba (by dsimp only;omega) (SC Bb),hA,lA]
  dsimp only [PL]
  rw [R5 (by rw [hver];omega),show (((0:Int) !=0)||(a.Version+1 !=a.Version+1))=false by simp,bD,hbb,IK Bb Bb,lA]
  have hdd:AB b b=(⟨b.Version,[]⟩,0):=by unfold AB;rw [bF (by simpa using cb),bF (by simpa using cb),KO]
  rw [hdd,KI Bb,OV Bb,Fb,OL]
  rfl
end Go.Abs.Roadsz
