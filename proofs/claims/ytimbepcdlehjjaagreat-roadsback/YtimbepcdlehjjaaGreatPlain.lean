/-
  Plain facts on the functions: what they compute, and that the law holds of it.
-/
import Derived.Test.YtimbepcdlehjjaaGreatFns4
set_option maxRecDepth 100000
set_option synthInstance.maxHeartbeats 0
set_option synthInstance.maxSize 100000
set_option linter.unusedVariables false
namespace Go.Abs.Roadsz
open Go Go.Abs
noncomputable def Dj (p1:Map)(v1:Lane)(x2:Int):Option (Stp Int (Sum Unit Int)):=
  cond (decide (x2< (v1.Next.length:Int))) ((F6 v1.Next x2).bind fun v2=>(F6 p1.Lanes v2).bind fun v3=>cond (v3.Kind !=v1.Kind) (some (.out (.inr 4))) ((F6 v3.Curve_.Pts 0).bind fun v4=>(F6 v1.Curve_.Pts (I4 ((v1.Curve_.Pts.length:Int) - 1))).bind fun v5=>cond (!(v4.X==v5.X&& (v4.Y==v5.Y&&true))) (some (.out (.inr 3))) (some (.go (I4 (x2+1)))))) (some (.out (.inl ())))
noncomputable def Dk [Lp](p1:Map)(x1:Int):Option (Stp Int (Sum Unit Int)):=
  cond (decide (x1< (p1.Lanes.length:Int))) ((F6 p1.Lanes x1).bind fun v1=>thenS (loop (Dj p1 v1) 0) (fun _=>some (.go (I4 (x1+1)))) (fun r=>some (.out (.inr r)))) (some (.out (.inl ())))
noncomputable def Ob [Lp](p1:Map):Option Int:=
  thenS (loop (Dk p1) 0) (fun _=>some 0) (fun r=>some r)
instance (a)(b)(c)(d):Le (@Q4 By a b c d) (Q4 a b c d):=by unfold Q4;infer_instance
instance:Le (@Jx By) (Jx):=by unfold Jx;infer_instance
instance (a):Le (@Ef By a) (Ef a):=by unfold Ef;infer_instance
instance curve_root_le (a):Le (@Cm By a) (Cm a):=by unfold Cm;infer_instance
instance (a)(b):Le (@T5 By a b) (T5 a b):=by unfold T5;infer_instance
instance (a):Le (@Ca By a) (Ca a):=by unfold Ca;infer_instance
instance (a)(b)(c):Le (@X9 By a b c) (X9 a b c):=by unfold X9;infer_instance
instance (a)(b):Le (@M8 By a b) (M8 a b):=by unfold M8;infer_instance
instance (a):Le (@R3 By a) (R3 a):=by unfold R3;infer_instance
instance (a)(b):Le (@M2 By a b) (M2 a b):=by unfold M2;infer_instance
instance (a):Le (@P9 By a) (P9 a):=by unfold P9;infer_instance
instance (a):Le (@E2 By a) (E2 a):=by unfold E2;infer_instance
instance (a):Le (@D0 By a) (D0 a):=by unfold D0;infer_instance
instance (a)(b):Le (@O9 By a b) (O9 a b):=by unfold O9;infer_instance
instance (a)(b)(c):Le (@C8 By a b c) (C8 a b c):=by unfold C8;infer_instance
instance (a)(b):Le (@E1 By a b) (E1 a b):=by unfold E1;infer_instance
instance (a)(b):Le (@C9 By a b) (C9 a b):=by unfold C9;infer_instance
instance (a)(b):Le (@L6 By a b) (L6 a b):=by unfold L6;infer_instance
instance (a):Le (@O6 By a) (O6 a):=by unfold O6;infer_instance
instance piecesGo_le (pts:List Spot): ∀(n i:Nat) (s:Int),Le (@Dp By pts n i s) (Dp pts n i s)
  |0,i,s=>Le.refl _
  |n+1,i,s=>by
   unfold Dp
   have:=fun i s=>piecesGo_le pts n i s
   infer_instance -- curve_root_le
instance (a):Le (@Lo By a) (Lo a):=by unfold Lo;infer_instance
instance (a):Le (@Cb By a) (Cb a):=by unfold Cb;infer_instance
instance curve_Length_le (a):Le (@Ak By a) (Ak a):=by unfold Ak;infer_instance
instance (a)(b):Le (@V3 By a b) (V3 a b):=by unfold V3;infer_instance
instance (a)(b)(c):Le (@M9 By a b c) (M9 a b c):=by unfold M9;infer_instance
instance (a)(b):Le (@N0 By a b) (N0 a b):=by unfold N0;infer_instance
instance (a):Le (@R4 By a) (R4 a):=by unfold R4;infer_instance
instance (a)(b):Le (@N1 By a b) (N1 a b):=by unfold N1;infer_instance
instance (a):Le (@R5 By a) (R5 a):=by unfold R5;infer_instance
instance (a)(b):Le (@P0 By a b) (P0 a b):=by unfold P0;infer_instance
instance (a)(b):Le (@L5 By a b) (L5 a b):=by unfold L5;infer_instance
instance roads_Check_le (a):Le (@R6 By a) (R6 a):=by unfold R6;infer_instance
instance (a)(b):Le (@U2 By a b) (U2 a b):=by unfold U2;infer_instance
instance (a)(b):Le (@L3 By a b) (L3 a b):=by unfold L3;infer_instance
instance (a)(b)(c):Le (@Bo By a b c) (Bo a b c):=by unfold Bo;infer_instance
instance (a)(b):Le (@Cf By a b) (Cf a b):=by unfold Cf;infer_instance
instance (a)(b)(c):Le (@W4 By a b c) (W4 a b c):=by unfold W4;infer_instance
instance (a)(b):Le (@Ar By a b) (Ar a b):=by unfold Ar;infer_instance
instance (a)(b)(c):Le (@Bp By a b c) (Bp a b c):=by unfold Bp;infer_instance
instance (a)(b):Le (@Ey By a b) (Ey a b):=by unfold Ey;infer_instance
instance (a)(b)(c):Le (@Fy By a b c) (Fy a b c):=by unfold Fy;infer_instance
instance (a)(b):Le (@I5 By a b) (I5 a b):=by unfold I5;infer_instance
instance (a)(b):Le (@Dh By a b) (Dh a b):=by unfold Dh;infer_instance
instance (a)(b)(c)(d):Le (@Bq By a b c d) (Bq a b c d):=by unfold Bq;infer_instance
instance (a)(b)(c):Le (@Di By a b c) (Di a b c):=by unfold Di;infer_instance
instance (a)(b):Le (@Cz By a b) (Cz a b):=by unfold Cz;infer_instance
instance (a):Le (@Fz By a) (Fz a):=by unfold Fz;infer_instance
instance (a)(b)(c):Le (@I3 By a b c) (I3 a b c):=by unfold I3;infer_instance
instance (a)(b)(c):Le (@G8 By a b c) (G8 a b c):=by unfold G8;infer_instance
instance (a)(b)(c):Le (@Dc By a b c) (Dc a b c):=by unfold Dc;infer_instance
instance (a)(b)(c):Le (@U3 By a b c) (U3 a b c):=by unfold U3;infer_instance
instance (a)(b)(c)(d):Le (@G3 By a b c d) (G3 a b c d):=by unfold G3;infer_instance
instance (a)(b)(c):Le (@H8 By a b c) (H8 a b c):=by unfold H8;infer_instance
instance (a)(b)(c):Le (@G4 By a b c) (G4 a b c):=by unfold G4;infer_instance
instance (a)(b)(c)(d):Le (@U4 By a b c d) (U4 a b c d):=by unfold U4;infer_instance
instance (a)(b)(c)(d)(e):Le (@F7 By a b c d e) (F7 a b c d e):=by unfold F7;infer_instance
instance (a)(b)(c)(d):Le (@H6 By a b c d) (H6 a b c d):=by unfold H6;infer_instance
instance (a)(b)(c)(d):Le (@F8 By a b c d) (F8 a b c d):=by unfold F8;infer_instance
instance (a)(b):Le (@Br By a b) (Br a b):=by unfold Br;infer_instance
instance (a):Le (@Ez By a) (Ez a):=by unfold Ez;infer_instance
instance (a)(b)(c)(d):Le (@Bs By a b c d) (Bs a b c d):=by unfold Bs;infer_instance
instance (a)(b):Le (@Bt By a b) (Bt a b):=by unfold Bt;infer_instance
instance (a):Le (@Fa By a) (Fa a):=by unfold Fa;infer_instance
instance (a)(b)(c):Le (@As By a b c) (As a b c):=by unfold As;infer_instance
instance (a)(b):Le (@Aq By a b) (Aq a b):=by unfold Aq;infer_instance
instance (a)(b)(c):Le (@Ds By a b c) (Ds a b c):=by unfold Ds;infer_instance
instance (a)(b)(c)(d)(e)(f):Le (@M4 By a b c d e f) (M4 a b c d e f):=by unfold M4;infer_instance
instance (a)(b)(c)(d)(e):Le (@M5 By a b c d e) (M5 a b c d e):=by unfold M5;infer_instance
instance (a)(b)(c):Le (@M6 By a b c) (M6 a b c):=by unfold M6;infer_instance
instance (a)(b):Le (@P8 By a b) (P8 a b):=by unfold P8;infer_instance
instance (a):Le (@Ga By a) (Ga a):=by unfold Ga;infer_instance
instance (a)(b)(c):Le (@U5 By a b c) (U5 a b c):=by unfold U5;infer_instance
instance (a)(b)(c)(d):Le (@F3 By a b c d) (F3 a b c d):=by unfold F3;infer_instance
instance (a)(b)(c):Le (@F9 By a b c) (F9 a b c):=by unfold F9;infer_instance
instance (a)(b)(c):Le (@F4 By a b c) (F4 a b c):=by unfold F4;infer_instance
instance (a)(b)(c)(d):Le (@X2 By a b c d) (X2 a b c d):=by unfold X2;infer_instance
instance (a)(b)(c)(d)(e)(f)(g):Le (@L8 By a b c d e f g) (L8 a b c d e f g):=by unfold L8;infer_instance
instance (a)(b)(c)(d)(e)(f):Le (@L9 By a b c d e f) (L9 a b c d e f):=by unfold L9;infer_instance
instance (a)(b)(c)(d):Le (@M0 By a b c d) (M0 a b c d):=by unfold M0;infer_instance
instance (a)(b)(c):Le (@N8 By a b c) (N8 a b c):=by unfold N8;infer_instance
instance (a):Le (@Fb By a) (Fb a):=by unfold Fb;infer_instance
instance (a):Le (@Jy By a) (Jy a):=by unfold Jy;infer_instance
instance (a)(b):Le (@Kw By a b) (Kw a b):=by unfold Kw;infer_instance
instance (a)(b):Le (@Fc By a b) (Fc a b):=by unfold Fc;infer_instance
instance (a)(b)(c)(d):Le (@Gb By a b c d) (Gb a b c d):=by unfold Gb;infer_instance
instance law03_awake_le:Le (@Ek By) (Ek):=by unfold Ek;infer_instance
theorem Dq (n:Int): ∃y,Cm n=some (y,y*y==n)∧0≤y∧y≤67108864∧(∀m,0≤m→m<y→m*m<n)∧(y=67108864∨n≤y*y):=by
  have key:=MT (f:=Fh n) (fun x=>0≤x.1∧x.1≤x.2∧x.2≤67108864∧(∀m,0≤m→m<x.1→m*m<n)∧(x.2=67108864∨n≤x.2*x.2)) (fun x=>(x.2 - x.1).toNat)
    (fun y=>0≤y∧y≤67108864∧(∀m,0≤m→m<y→m*m<n)∧(y=67108864∨n≤y*y)) (by
      rintro ⟨lo,hi⟩ ⟨h1,h2,h3,h4,h5⟩
      dsimp only at h1 h2 h3 h4 h5
      unfold Fh
      dsimp only
      by_cases hlt:lo<hi
      ·have e1:I4 (lo+hi)=lo+hi:=W9 (by omega)
       have e2:I4 ((lo+hi).tdiv 2)=(lo+hi) / 2:=by rw [Int.tdiv_eq_ediv_of_nonneg (by omega)];exact W9 (by omega)
       have hm:lo≤(lo+hi) / 2∧(lo+hi) / 2<hi:=by omega
       generalize hmid:(lo+hi) / 2=mid at*
       have hmm:mid*mid≤67108864*67108864:=SX (by omega) (by omega)
       have hmm0:=Zf mid
       have e3:I4 (mid*mid)=mid*mid:=W9 (by omega)
       have e4:I4 (mid+1)=mid+1:=W9 (by omega)
       simp only [e1,e2,e3,e4,hlt,decide_true,bC]
       by_cases hc:mid*mid<n
       ·simp only [hc,decide_true,bC]
        refine ⟨_,rfl,⟨by omega,by omega,h3,fun m hm0 hm1=> ?_,h5⟩,by dsimp only;omega⟩
        rcases Int.lt_or_le m mid with q|q
        ·have:=Int.mul_le_mul (show m≤mid by omega) (show m≤mid by omega) hm0 (by omega);omega
        ·have:m=mid:=by dsimp only at hm1;omega
         subst this;exact hc
       ·simp only [hc,decide_false,bD]
        exact ⟨_,rfl,⟨h1,by dsimp only;omega,by dsimp only;omega,h4, .inr (by dsimp only;omega)⟩,by dsimp only;omega⟩
      ·simp only [hlt,decide_false,bD]
       obtain rfl:lo=hi:=by omega
       exact ⟨_,rfl,h1,h3,h4,h5⟩) (0,67108864) ⟨by decide,by decide,by decide,fun m h1 h2=>by dsimp only at h2;omega, .inl rfl⟩
  obtain ⟨y,hy,h1,h2,h3,h4⟩:=key
  refine ⟨y,?_,h1,h2,h3,h4⟩
  have hmm:y*y≤67108864*67108864:=SX (by omega) (by omega)
  have hmm0:=Zf y
  unfold Cm
  rw [hy,lA,W9 (by omega)]
/-- The least number whose square is not less. -/
noncomputable def rt (n:Int):Int:=(Dq n).choose
theorem Qo (n:Int):Cm n=some (rt n,rt n*rt n==n):=(Dq n).choose_spec.1
theorem JN (n:Int):0≤rt n:=(Dq n).choose_spec.2.1
theorem VC (n m:Int)(h1:0≤m)(h2:m<rt n):m*m<n:=(Dq n).choose_spec.2.2.2.1 m h1 h2
theorem VD (n:Int):rt n=67108864∨n≤rt n*rt n:=(Dq n).choose_spec.2.2.2.2
theorem WX {l:Int}(h0:0≤l)(h1:l≤67108864):rt (l*l)=l:=by
  rcases Int.lt_trichotomy (rt (l*l)) l with q|q|q
  ·rcases VD (l*l)with h|h
   ·omega
   ·have h2:=JN (l*l)
    have:=Int.mul_lt_mul' (show rt (l*l)≤l by omega) q h2 (by omega);omega
  ·exact q
  ·have:=VC (l*l) l h0 q;omega
def Xe (p:Spot):Bool:=decide (-16777216≤p.X)&&decide (p.X≤16777216)&&decide (-16777216≤p.Y)&&decide (p.Y≤16777216)
theorem okS_iff {p:Spot}:Xe p=true↔ -16777216≤p.X∧p.X≤16777216∧ -16777216≤p.Y∧p.Y≤16777216:=by simp [Xe,and_assoc]
theorem JO (p:Spot):((decide ((IP false p.X p.Y)< (-16777216)))||(decide ((IP true p.X p.Y)>16777216)))= !Xe p:=by
  rw [QY,QX]
  cases h:Xe p with
  |true=>have:=okS_iff.1 h;simp;omega
  |false=>
   have: ¬(-16777216≤p.X∧p.X≤16777216∧ -16777216≤p.Y∧p.Y≤16777216):=fun q=>by rw [okS_iff.2 q]at h;cases h
   simp;omega
theorem Yl (l:List Spot)(hl:l.length≤1000000): ∀(r:List Spot) (i:Nat),l.drop i=r→loop (Cl l) (i:Int)=some (if r.all Xe then .inl ()else .inr false):=by
  intro r
  induction r with
  |nil=>
   intro i hi
   have:=Kf hi
   refine M1 ?_
   unfold Cl
   simp only [show ¬(i:Int)<l.length by omega,decide_false,bD,List.all_nil,if_true]
  |cons p r ih=>
   intro i hi
   have hlt:=Jt hi
   have hstep:Cl l (i:Int)=if Xe p then some (.go ((i+1:Nat):Int))else some (.out (.inr false)):=by
     unfold Cl
     simp only [show (i:Int)<l.length by omega,decide_true,bC,Mp hi,lA,JO]
     cases h:Xe p with
     |true=>simp only [bI,bD,if_true];rw [W9 (by omega)];rfl
     |false=>simp
   cases h:Xe p with
   |true=>
    rw [h,bE rfl]at hstep
    rw [Bf hstep,ih (i+1) (Er hi)]
    simp [h]
   |false=>
    rw [h]at hstep
    rw [M1 hstep]
    simp [h]
theorem Ym (l:List Spot)(hl:l.length≤1000000):Ef l=some (l.all Xe):=by
  unfold Ef
  have:=Yl l hl l 0 (by simp)
  rw [show ((0:Nat):Int)=0 from rfl]at this
  rw [this]
  cases l.all Xe<;>rfl
def U6 (p q:Spot):CurveVector:=⟨q.X - p.X,q.Y - p.Y⟩
def S9 (v w:CurveVector):Int:=v.x*w.x+v.y*w.y
/-- A vector between valid spots. -/
def RH (v:CurveVector):Prop:= -33554432≤v.x∧v.x≤33554432∧ -33554432≤v.y∧v.y≤33554432
theorem HV {p q:Spot}(hp:Xe p=true)(hq:Xe q=true):RH (U6 p q):=by
  have:=okS_iff.1 hp;have:=okS_iff.1 hq
  unfold RH U6;dsimp only;omega
theorem Qp {p q:Spot}(hp:Xe p=true)(hq:Xe q=true):Ha p q=some (U6 p q):=by
  have:=okS_iff.1 hp;have:=okS_iff.1 hq
  unfold Ha U6
  rw [W9 (by omega),W9 (by omega)]
theorem VE {v w:CurveVector}(hv:RH v)(hw:RH w): -2251799813685248≤S9 v w∧S9 v w≤2251799813685248∧(-1125899906842624≤v.x*w.x∧v.x*w.x≤1125899906842624)∧ -1125899906842624≤v.y*w.y∧v.y*w.y≤1125899906842624:=by
  obtain ⟨a1,a2,a3,a4⟩:=hv
  obtain ⟨b1,b2,b3,b4⟩:=hw
  have h1:=NC ⟨a1,a2⟩ ⟨b1,b2⟩
  have h2:=NC ⟨a3,a4⟩ ⟨b3,b4⟩
  unfold S9
  omega
theorem Nr {v w:CurveVector}(hv:RH v)(hw:RH w):X1 v w=some (S9 v w):=by
  have h:=VE hv hw
  unfold X1
  rw [W9 (n:=v.x*w.x) (by omega),W9 (n:=v.y*w.y) (by omega),W9 (by unfold S9 at h;omega)]
  rfl
def vs (v:CurveVector):Spot:=⟨v.x,v.y⟩
/-- The error of a chain of points, from a piece on; the piece ahead of it. -/
noncomputable def JP:Option CurveVector→List Spot→Int
  |last,p::q::r=>
   if rt (S9 (U6 p q) (U6 p q))*rt (S9 (U6 p q) (U6 p q))≠S9 (U6 p q) (U6 p q)then 3
   else if rt (S9 (U6 p q) (U6 p q))<1000∨rt (S9 (U6 p q) (U6 p q))>1048576 then 2
   else match last with
     |some u=>if S9 u (U6 p q)≤0 then 12 else JP (some (U6 p q)) (q::r)
     |none=>JP (some (U6 p q)) (q::r)
  |_,_=>0
theorem Xf (last:Option CurveVector)(p q:Spot)(r:List Spot):JP last (p::q::r)=
    if rt (S9 (U6 p q) (U6 p q))*rt (S9 (U6 p q) (U6 p q))≠S9 (U6 p q) (U6 p q)then 3
    else if rt (S9 (U6 p q) (U6 p q))<1000∨rt (S9 (U6 p q) (U6 p q))>1048576 then 2
    else match last with
      |some u=>if S9 u (U6 p q)≤0 then 12 else JP (some (U6 p q)) (q::r)
      |none=>JP (some (U6 p q)) (q::r):=by
  conv=>lhs;unfold JP
noncomputable def El (l:List Spot):Int:=if l.length<2 then 6 else if l.length>16 then 5 else if l.all Xe then JP none l else 2
theorem Xg (c:Curve)(hl:c.Pts.length≤1000000)(hok:c.Pts.all Xe=true): ∀(r:List Spot) (p:Spot) (i:Nat) (last:CurveVector),c.Pts.drop i=p::r→RH last→
    loop (T5 c) ((i:Int),last)=some (if JP (if i=0 then none else some last) (p::r)=0 then .inl ()else .inr (JP (if i=0 then none else some last) (p::r))):=by
  intro r
  induction r with
  |nil=>
   intro p i last hi hlast
   have hlt:=Jt hi
   have:=Kf (Er hi)
   refine M1 ?_
   unfold T5
   dsimp only
   rw [W9 (n:=(c.Pts.length:Int) - 1) (by omega)]
   simp only [show ¬(i:Int)< (c.Pts.length:Int) - 1 by omega,decide_false,bD,JP,if_true]
  |cons q r ih=>
   intro p i last hi hlast
   have hlt:=Jt hi
   have hi1:=Er hi
   have hlt1:=Jt hi1
   have hp:Xe p=true:=lX.1 hok p (List.mem_of_mem_drop (i:=i) (by rw [hi];simp))
   have hq:Xe q=true:=lX.1 hok q (List.mem_of_mem_drop (i:=i) (by rw [hi];simp))
   have hv:=HV hp hq
   have hg1:F6 c.Pts ((i:Int)+1)=some q:=by have:=Mp hi1;simpa using this
   have hstep:T5 c ((i:Int),last)=
    if rt (S9 (U6 p q) (U6 p q))*rt (S9 (U6 p q) (U6 p q))≠S9 (U6 p q) (U6 p q)then some (.out (.inr 3))
    else if rt (S9 (U6 p q) (U6 p q))<1000∨rt (S9 (U6 p q) (U6 p q))>1048576 then some (.out (.inr 2))
    else if i≠0∧S9 last (U6 p q)≤0 then some (.out (.inr 12))else some (.go (((i+1:Nat):Int),U6 p q)):=by
     unfold T5
     dsimp only
     rw [W9 (n:=(c.Pts.length:Int) - 1) (by omega),W9 (n:=(i:Int)+1) (by omega)]
     simp only [show (i:Int)< (c.Pts.length:Int) - 1 by omega,decide_true,bC,Mp hi,hg1,lA,Qp hp hq,Nr hv hv,Qo]
     by_cases h1:rt (S9 (U6 p q) (U6 p q))*rt (S9 (U6 p q) (U6 p q))=S9 (U6 p q) (U6 p q)
     ·simp only [h1,beq_self_eq_true,bI,bD,ne_eq,not_true_eq_false,if_false]
      by_cases h2:rt (S9 (U6 p q) (U6 p q))<1000∨rt (S9 (U6 p q) (U6 p q))>1048576
      ·rw [bE h2]
       have:(decide (rt (S9 (U6 p q) (U6 p q))<1000)||decide (rt (S9 (U6 p q) (U6 p q))>1048576))=true:=by simpa using h2
       rw [this];rfl
      ·rw [bF h2]
       have:(decide (rt (S9 (U6 p q) (U6 p q))<1000)||decide (rt (S9 (U6 p q) (U6 p q))>1048576))=false:=by simpa using h2
       rw [this]
       simp only [bD]
       by_cases h3:i=0
       ·subst h3
        simp only [Int.natCast_zero,gt_iff_lt,Int.lt_irrefl,decide_false,bD,Bool.false_and,lA,not_true_eq_false,false_and,if_false]
        rfl
       ·have h4:(i:Int)>0:=by omega
        simp only [h4,decide_true,bC,Nr hlast hv,lA,Bool.true_and,h3,not_false_eq_true,true_and]
        by_cases h5:S9 last (U6 p q)≤0<;>simp [h5]
     ·have:(rt (S9 (U6 p q) (U6 p q))*rt (S9 (U6 p q) (U6 p q))==S9 (U6 p q) (U6 p q))=false:=by simpa using h1
      simp only [this,bJ,bC,ne_eq,h1,not_false_eq_true,if_true]
   rw [Xf]
   by_cases h1:rt (S9 (U6 p q) (U6 p q))*rt (S9 (U6 p q) (U6 p q))≠S9 (U6 p q) (U6 p q)
   ·rw [bE h1]at hstep
    rw [M1 hstep,bE h1];rfl
   ·rw [bF h1]at hstep ⊢
    by_cases h2:rt (S9 (U6 p q) (U6 p q))<1000∨rt (S9 (U6 p q) (U6 p q))>1048576
    ·rw [bE h2]at hstep
     rw [M1 hstep,bE h2];rfl
    ·rw [bF h2]at hstep ⊢
     by_cases h3:i=0
     ·subst h3
      rw [bF (by simp)]at hstep
      rw [Bf hstep,ih q (0+1) (U6 p q) hi1 hv]
      simp
     ·by_cases h5:S9 last (U6 p q)≤0
      ·rw [bE ⟨h3,h5⟩]at hstep
       rw [M1 hstep]
       simp [h3,h5]
      ·rw [bF (fun h=>h5 h.2)]at hstep
       rw [Bf hstep,ih q (i+1) (U6 p q) hi1 hv]
       simp [h3,h5]
theorem Pk (c:Curve)(hl:c.Pts.length≤1000000):Ca c=some (El c.Pts):=by
  unfold Ca El
  by_cases h1:c.Pts.length<2
  ·rw [bE h1,show decide ((c.Pts.length:Int)<2)=true by simp;omega];rfl
  ·rw [bF h1,show decide ((c.Pts.length:Int)<2)=false by simp;omega]
   simp only [bD]
   by_cases h2:c.Pts.length>16
   ·rw [bE h2,show decide ((c.Pts.length:Int)>16)=true by simp;omega];rfl
   ·rw [bF h2,show decide ((c.Pts.length:Int)>16)=false by simp;omega]
    simp only [bD,Ym c.Pts hl,lA]
    cases h3:c.Pts.all Xe with
    |false=>rfl
    |true=>
     simp only [bI,bD,if_true]
     cases hp:c.Pts with
     |nil=>rw [hp]at h1;simp at h1
     |cons p r=>
      have:=Xg c hl h3 r p 0 ⟨0,0⟩ (by rw [hp];rfl) ⟨by decide,by decide,by decide,by decide⟩
      rw [bE rfl,show ((0:Nat):Int)=0 from rfl]at this
      rw [this]
      by_cases h4:JP none (p::r)=0
      ·rw [bE h4,h4];rfl
      ·rw [bF h4];rfl
/-- What a valid chain is. -/
inductive Good:Option CurveVector→List Spot→Prop
  |one (last:Option CurveVector) (p:Spot):Good last [p]
  |cons (last:Option CurveVector) (p q:Spot) (r:List Spot) (h1:rt (S9 (U6 p q) (U6 p q))*rt (S9 (U6 p q) (U6 p q))=S9 (U6 p q) (U6 p q)) (h2:1000≤rt (S9 (U6 p q) (U6 p q))) (h3:rt (S9 (U6 p q) (U6 p q))≤1048576)
     (h4: ∀u,last=some u→0<S9 u (U6 p q)) (h:Good (some (U6 p q)) (q::r)):Good last (p::q::r)
theorem DN: ∀(r:List Spot) (p:Spot) (last:Option CurveVector),JP last (p::r)=0→Good last (p::r):=by
  intro r
  induction r with
  |nil=>intro p last _;exact .one _ _
  |cons q r ih=>
   intro p last h
   rw [Xf]at h
   split at h
   ·cases h
   ·rename_i h1
    split at h
    ·cases h
    ·rename_i h2
     have h1:rt (S9 (U6 p q) (U6 p q))*rt (S9 (U6 p q) (U6 p q))=S9 (U6 p q) (U6 p q):=by simpa using h1
     cases last with
     |none=>exact .cons _ _ _ _ h1 (by omega) (by omega) (fun u hu=>by cases hu) (ih q _ h)
     |some u=>
      dsimp only at h
      split at h
      ·cases h
      ·exact .cons _ _ _ _ h1 (by omega) (by omega) (fun u' hu=>by cases hu;omega) (ih q _ h)
theorem DO {last:Option CurveVector}{l:List Spot}(h:Good last l):JP last l=0:=by
  induction h with
  |one=>rfl
  |cons last p q r h1 h2 h3 h4 h ih=>
   rw [Xf,bF (by simpa using h1),bF (by omega)]
   cases last with
   |none=>exact ih
   |some u=>dsimp only;rw [bF (by have:=h4 u rfl;omega)];exact ih
structure Valid (l:List Spot):Prop where
  two:2≤l.length
  most:l.length≤16
  ok:l.all Xe=true
  good:Good none l
theorem checkM_zero {l:List Spot}:El l=0↔Valid l:=by
  unfold El
  constructor
  ·intro h
   split at h
   ·cases h
   ·rename_i h1
    split at h
    ·cases h
    ·rename_i h2
     split at h
     ·rename_i h3
      cases l with
      |nil=>simp at h1
      |cons p r=>exact ⟨by omega,by omega,h3,DN r p none h⟩
     ·cases h
  ·rintro ⟨h1,h2,h3,h4⟩
   rw [bF (by omega),bF (by omega),bE h3]
   exact DO h4
/-- The pieces of a chain: the number, the piece. -/
noncomputable def Ns:Nat→Int→List Spot→List (Int×CurvePiece)
  |i,s,p::q::r=>((i:Int),⟨p,U6 p q,rt (S9 (U6 p q) (U6 p q)),s⟩)::Ns (i+1) (I4 (s+rt (S9 (U6 p q) (U6 p q)))) (q::r)
  |_,_,_=> []
theorem Ss (i:Nat)(s:Int)(p q:Spot)(r:List Spot):Ns i s (p::q::r)=((i:Int),⟨p,U6 p q,rt (S9 (U6 p q) (U6 p q)),s⟩)::Ns (i+1) (I4 (s+rt (S9 (U6 p q) (U6 p q)))) (q::r):=by conv=>lhs;unfold Ns
theorem DP (pts:List Spot)(hok:pts.all Xe=true): ∀(r:List Spot) (p:Spot) (i:Nat) (s:Int),pts.drop i=p::r→Dp pts r.length i s=some (Ns i s (p::r)):=by
  intro r
  induction r with
  |nil=>intro p i s _;rfl
  |cons q r ih=>
   intro p i s hi
   have hi1:=Er hi
   have hp:Xe p=true:=lX.1 hok p (List.mem_of_mem_drop (i:=i) (by rw [hi];simp))
   have hq:Xe q=true:=lX.1 hok q (List.mem_of_mem_drop (i:=i) (by rw [hi];simp))
   have hv:=HV hp hq
   have h0:pts[i]? =some p:=by have:=congrArg (fun z=>z[0]?) hi;simpa using this
   have h1:pts[i+1]? =some q:=by have:=congrArg (fun z=>z[0]?) hi1;simpa using this
   rw [lJ,Dp,h0,h1]
   simp only [lA,Qp hp hq,Nr hv hv,Qo]
   rw [ih q (i+1) _ hi1,Ss]
   rfl
theorem GF {pts:List Spot}(h:Valid pts):Lo pts=some (Ns 0 0 pts):=by
  unfold Lo
  have:=h.most
  rw [bE (by omega)]
  cases hp:pts with
  |nil=>have:=h.two;rw [hp]at this;simp at this
  |cons p r=>exact DP (p::r) (by rw [← hp];exact h.ok) r p 0 0 rfl
/-- The lengths. -/
noncomputable def Tv:List Spot→List Int
  |p::q::r=>rt (S9 (U6 p q) (U6 p q))::Tv (q::r)
  |_=> []
theorem Pw (p q:Spot)(r:List Spot):Tv (p::q::r)=rt (S9 (U6 p q) (U6 p q))::Tv (q::r):=by conv=>lhs;unfold Tv
theorem Lr: ∀(r:List Spot) (p:Spot),(Tv (p::r)).length=r.length
  | [],_=>rfl
  |q::r,p=>by rw [Pw,lJ,Lr r q,lJ]
theorem Su: ∀(r:List Spot) (p:Spot) (i:Nat) (s:Int),(Ns i s (p::r)).map (·.2.l)=Tv (p::r)
  | [],_,_,_=>rfl
  |q::r,p,i,s=>by rw [Ss,Pw,lP,Su r q]
theorem DQ: ∀(L:List (Int×CurvePiece)) (out:List Int),out.length+L.length≤1000000000→loopL Bn (fun x=>x) L out=some (out++L.map (·.2.l)):=by
  intro L
  induction L with
  |nil=>intro out _;simp [loopL]
  |cons a L ih=>
   intro out h
   simp only [lJ]at h
   have:Bn out a=some (.go (out++ [a.2.l])):=by
     unfold Bn
     rw [Pu (by simp;omega)];rfl
   rw [loopL,this]
   dsimp only
   rw [ih _ (by simp;omega)]
   simp
theorem Ve (c:Curve)(hl:c.Pts.length≤1000000):Cb c=some (if El c.Pts=0 then Tv c.Pts else []):=by
  unfold Cb
  rw [Pk c hl,lA]
  by_cases h:El c.Pts=0
  ·rw [bE h,h]
   have hv:=checkM_zero.1 h
   have:=hv.most
   simp only [bne_self_eq_false,bD,GF hv,lA]
   cases hp:c.Pts with
   |nil=>have:=hv.two;rw [hp]at this;simp at this
   |cons p r=>
    have e:=Su r p 0 0
    rw [DQ _ _ (by
     have:=congrArg List.length e
     rw [lQ,Lr]at this
     rw [this];rw [hp]at hl;simp at hl ⊢;omega)]
    rw [e];rfl
  ·rw [bF h,show (El c.Pts !=0)=true from bne_iff_ne.2 h];rfl
/-- A sum, as the programs take it. -/
def Xh:Int→List Int→Int
  |s,[]=>s
  |s,a::l=>Xh (I4 (s+a)) l
theorem Sv (l:List Int)(hl:l.length≤1000000): ∀(r:List Int) (i:Nat) (s:Int),l.drop i=r→loop (W7 l) (s,(i:Int))=some (Xh s r):=by
  intro r
  induction r with
  |nil=>
   intro i s hi
   have:=Kf hi
   refine M1 ?_
   unfold W7
   simp only [show ¬(i:Int)<l.length by omega,decide_false,bD,Xh]
  |cons a r ih=>
   intro i s hi
   have hlt:=Jt hi
   have hstep:W7 l (s,(i:Int))=some (.go (I4 (s+a),((i+1:Nat):Int))):=by
     unfold W7
     simp only [show (i:Int)<l.length by omega,decide_true,bC,Mp hi,lA]
     rw [W9 (n:=(i:Int)+1) (by omega)];rfl
   rw [Bf hstep,ih (i+1) _ (Er hi),Xh]
noncomputable def Ls (c:Curve):List Int:=if El c.Pts=0 then Tv c.Pts else []
theorem RI: ∀l:List Spot,(Tv l).length≤l.length
  | []=>by simp [Tv]
  |p::r=>by rw [Lr];simp
theorem GG (c:Curve):(Ls c).length≤c.Pts.length:=by
  unfold Ls
  split
  ·exact RI _
  ·simp
theorem Oc (c:Curve)(hl:c.Pts.length≤1000000):Ak c=some (Xh 0 (Ls c)):=by
  unfold Ak
  rw [Ve c hl,lA]
  have:=GG c
  have h:=Sv (Ls c) (by omega) (Ls c) 0 0 (by simp)
  rw [show ((0:Nat):Int)=0 from rfl]at h
  show (loop (W7 (Ls c)) (0,0)).bind _=_
  rw [h];rfl
/-- A quarter turn, so many times. -/
def JQ:Nat→CurveVector→CurveVector
  |0,v=>v
  |n+1,v=>JQ n ⟨-v.y,v.x⟩
theorem BB: ∀(n:Nat) (v w:CurveVector),S9 (JQ n v) (JQ n w)=S9 v w
  |0,_,_=>rfl
  |n+1,v,w=>by rw [JQ,JQ,BB n];unfold S9;grind
/-- A piece's vector, made of numbers: in one quadrant. -/
def VF (n:Nat)(v:CurveVector):Prop:= ∃x y L:Int,v=JQ n ⟨x,y⟩∧0<x∧0≤y∧x*x+y*y=L*L∧1000≤L∧L≤3029∧x≤L∧y≤L
inductive Ch (Q:CurveVector→Prop):List Spot→Prop
  |one (p:Spot):Ch Q [p]
  |cons (p q:Spot) (r:List Spot) (h:Q (U6 p q)) (hr:Ch Q (q::r)):Ch Q (p::q::r)
theorem Xi {n:Nat}: ∀(r:List Spot) (p:Spot) (last:Option CurveVector),Ch (VF n) (p::r)→(∀u,last=some u→VF n u)→Good last (p::r)
  | [],p,last,_,_=> .one _ _
  |q::r,p,last,hc,hl=>by
   cases hc with
   |cons _ _ _ h1 h2=>
    have hq:=h1
    obtain ⟨x,y,L,hv,hx,hy,hsq,hL1,hL2,hxL,hyL⟩:=h1
    have hd:S9 (U6 p q) (U6 p q)=L*L:=by rw [hv,BB];unfold S9;exact hsq
    have hrt:rt (S9 (U6 p q) (U6 p q))=L:=by rw [hd];exact WX (by omega) (by omega)
    refine .cons _ _ _ _ (by rw [hrt,hd]) (by rw [hrt];exact hL1) (by rw [hrt];omega) (fun u hu=> ?_) (Xi r q _ h2 (fun u hu=>by cases hu;exact hq))
    obtain ⟨x',y',L',hv',hx',hy',_⟩:=hl u hu
    rw [hv,hv',BB]
    unfold S9
    have:=Int.mul_pos hx' hx
    have:=bW hy' hy
    dsimp only
    omega
/-- What the curves made of numbers are like. -/
structure Made (l:List Spot):Prop where
  two:2≤l.length
  six:l.length≤6
  ch: ∃n,Ch (VF n) l
  bd: ∀p∈l, -50000≤p.X∧p.X≤50000∧ -50000≤p.Y∧p.Y≤50000
theorem Made.valid {l:List Spot}(h:Made l):Valid l:=by
  obtain ⟨n,hc⟩:=h.ch
  have:=h.two;have:=h.six
  refine ⟨h.two,by omega,lX.2 fun p hp=>okS_iff.2 (by have:=h.bd p hp;omega),?_⟩
  match l,h,hc with
  |p::r,_,hc=>exact Xi r p none hc (fun u hu=>by cases hu)
  | [],h,_=>exact absurd h.two (by simp)
/-! ### Loops that look for the first error -/
def N2 {α β:Type}(g:Nat→α→Option β):Nat→List α→Option β
  |_,[]=>none
  |i,a::r=>match g i a with
   |some e=>some e
   |none=>N2 g (i+1) r
def RJ {β:Type}:Option β→Sum Unit β
  |some e=> .inr e
  |none=> .inl ()
theorem Gc {α β:Type}(l:List α)(F:Int→Option (Stp Int (Sum Unit β)))(g:Nat→α→Option β)(hF: ∀(i:Nat) a,l[i]? =some a→F (i:Int)=some (match g i a with|some e=> .out (.inr e)|none=> .go ((i+1:Nat):Int)))(h0:F (l.length:Int)=some (.out (.inl ()))):
    loop F 0=some (RJ (N2 g 0 l)):=by
  have key: ∀(r:List α) (i:Nat),l.drop i=r→i≤l.length→loop F (i:Int)=some (RJ (N2 g i r)):=by
    intro r
    induction r with
    |nil=>
     intro i hi hil
     have:i=l.length:=by have:=List.drop_eq_nil_iff.1 hi;omega
     subst this
     exact M1 h0
    |cons a r ih=>
     intro i hi hil
     have hlt:i<l.length:=by
       rcases Nat.lt_or_ge i l.length with q|q
       ·exact q
       ·rw [List.drop_eq_nil_of_le q]at hi;cases hi
     have ha:l[i]? =some a:=by have:=congrArg (fun z=>z[0]?) hi;simpa using this
     have hr:l.drop (i+1)=r:=by have:=congrArg (fun z=>z.drop 1) hi;simpa using this
     have hs:=hF i a ha
     unfold N2
     cases hg:g i a with
     |some e=>rw [hg]at hs;exact M1 hs
     |none=>rw [hg]at hs;rw [Bf hs];exact ih (i+1) hr (by omega)
  have:=key l 0 rfl (by omega)
  exact this
theorem firstE_none {α β:Type}{g:Nat→α→Option β}: ∀{l:List α} {i:Nat},N2 g i l=none↔∀(j:Nat) a,l[j]? =some a→g (i+j) a=none
  | [],i=>by simp [N2]
  |a::r,i=>by
   unfold N2
   cases h:g i a with
   |some e=>
    constructor
    ·intro h';cases h'
    ·intro h';have:=h' 0 a rfl;rw [Nat.add_zero,h]at this;cases this
   |none=>
    dsimp only
    rw [firstE_none (l:=r)]
    constructor
    ·intro h' j b hj
     cases j with
     |zero=>cases hj;exact h
     |succ j=>have:=h' j b hj;rwa [show i+1+j=i+ (j+1) by omega]at this
    ·intro h' j b hj
     have:=h' (j+1) b hj
     rwa [show i+ (j+1)=i+1+j by omega]at this
/-! ### Numbers -/
def Tw (n a b:Int):Bool:=decide (a≤n)&&decide (n≤b)
theorem Jz (n a b:Int):S3 n a b=some (Tw n a b):=rfl
def Pl (kind:Int):Int×Int×Int:=if kind=1 then (2000,30,90)else if kind=2 then (1000,20,60)else if kind=3 then (300,100,300)else (0,0,0)
theorem Zm (k:Int):Ev k=some (Pl k):=by
  unfold Ev Pl
  by_cases h:k<0∨k≥4
  ·rw [show ((decide (k<0))||(decide (k≥4)))=true by simpa using h,bC,bF (by omega),bF (by omega),bF (by omega)]
  ·rw [show ((decide (k<0))||(decide (k≥4)))=false by rw [bK];simpa using h,bD]
   obtain ⟨h1,h2⟩:=not_or.1 h
   rcases (show k=0∨k=1∨k=2∨k=3 by omega)with rfl|rfl|rfl|rfl<;>rfl
theorem RK {n:Int}(h: -9223372036854775808≤n∧n≤9223372036854775807):I4 n=n:=Go.IntWalk.i64_in n h
theorem F2 {α:Type}{l:List α}{i:Nat}{a:α}(h:l[i]? =some a):F6 l (i:Int)=some a:=by
  unfold F6;rw [bE (by omega),bQ];exact h
theorem I9 {α:Type}{l:List α}{i:Nat}{a:α}(h:l[i]? =some a):i<l.length:=(lH.1 h).1
theorem RL {α:Type}(c:Bool)(a b:α):cond c (some a) (some b)=some (cond c a b):=by cases c<;>rfl
def Fl (high:Int):Int→List Int→Bool
  |_,[]=>true
  |low,n::r=>decide (low≤n)&&decide (n<high)&&Fl high (n+1) r
theorem Tx (l:List Int)(low high:Int)(hl:l.length≤1000000)(hh:high≤1000000000)(h0:0≤low):X9 l low high=some (Fl high low l):=by
  have key: ∀(r:List Int) (i:Nat) (lo:Int),0≤lo→l.drop i=r→i≤l.length→loop (Z1 l high) (lo,(i:Int))=some (if Fl high lo r then .inl ()else .inr false):=by
    intro r
    induction r with
    |nil=>
     intro i lo _ hi hil
     have:=Kf hi
     refine M1 ?_
     unfold Z1
     dsimp only
     rw [show decide ((i:Int)< (l.length:Int))=false from bA (by omega)];rfl
    |cons n r ih=>
     intro i lo hlo hi hil
     have hlt:=Jt hi
     have hs:Z1 l high (lo,(i:Int))=some (if decide (lo≤n)&&decide (n<high)then .go (n+1,((i+1:Nat):Int))else .out (.inr false)):=by
       unfold Z1
       dsimp only
       rw [show decide ((i:Int)< (l.length:Int))=true from l9 (by omega),Mp hi,bC,lA,RK (n:=(i:Int)+1) (by omega)]
       by_cases q:lo≤n∧n<high
       ·rw [show ((decide (n<lo))||(decide (n≥high)))=false by rw [bK];simp;omega,bD,RK (n:=n+1) (by omega),bE (by simpa using q)];rfl
       ·rw [show ((decide (n<lo))||(decide (n≥high)))=true by simp;omega,bC,bF (by simpa using q)]
     unfold Fl
     cases q:(decide (lo≤n)&&decide (n<high))
     ·rw [q]at hs;rw [M1 hs];rfl
     ·rw [q]at hs
      simp only [bG,bB]at q
      rw [Bf hs,ih (i+1) (n+1) (by omega) (Er hi) (by omega)];rfl
  unfold X9
  have:=key l 0 low h0 rfl (by omega)
  rw [show ((0:Nat):Int)=0 from rfl]at this
  rw [this]
  cases Fl high low l<;>rfl
noncomputable def Ju (c:Curve):Int:=Xh 0 (Ls c)
theorem RM {m:Map}{i:Nat}{l:Lane}(h:m.Lanes[i]? =some l)(hl:l.Curve_.Pts.length≤1000000):V3 m (i:Int)=some (Ju l.Curve_):=by
  unfold V3
  rw [F2 h,lA,Oc _ hl];rfl
/-- The lists of a map are of bearable lengths. -/
structure Bear (m:Map):Prop where
  lanes:m.Lanes.length≤1000000
  pts: ∀l∈m.Lanes,l.Curve_.Pts.length≤1000000∧l.Next.length≤1000000
noncomputable def laneE (n:Nat)(i:Nat)(l:Lane):Option Int:=
  if (Pl l.Kind).1=0 then some 4
  else if El l.Curve_.Pts≠0 then some (El l.Curve_.Pts)
  else if (Tw l.Half 200 4000&&Tw l.Limit 1 (Pl l.Kind).1)=false then some 2
  else if 3<l.Next.length then some 8
  else if Fl n (i+1) l.Next=false then some 11 else none
theorem NT {m:Map}(B:Bear m):R3 ⟨m⟩=some ((N2 (laneE m.Lanes.length) 0 m.Lanes).getD 0):=by
  have h:=Gc m.Lanes (M8 ⟨m⟩) (laneE m.Lanes.length) (fun i l hl=>by
    have hi:=I9 hl
    have hb:=B.lanes
    obtain ⟨p1,p2⟩:=B.pts l (lF hl)
    unfold M8 laneE
    dsimp only
    rw [show decide ((i:Int)< (m.Lanes.length:Int))=true from l9 (by omega),F2 hl,bC,lA,Zm,lA,Pk _ p1,lA,Jz,Jz,lA,RL,lA,RK (n:=(i:Int)+1) (by omega),Tx _ _ _ p2 (by omega) (by omega),lA]
    by_cases h1:(Pl l.Kind).1=0
    ·rw [bE h1,show ((Pl l.Kind).1==0)=true by simpa using h1];rfl
    ·rw [bF h1,show ((Pl l.Kind).1==0)=false by simpa using h1,bD]
     by_cases h2:El l.Curve_.Pts≠0
     ·rw [bE h2,show (El l.Curve_.Pts !=0)=true by simpa using h2];rfl
     ·rw [bF h2,show (El l.Curve_.Pts !=0)=false by simpa using h2,bD]
      cases Tw l.Half 200 4000
      ·rfl
      ·cases Tw l.Limit 1 (Pl l.Kind).1
       ·rfl
       ·simp only [bI,bJ,bC,bD,Bool.false_or,Bool.and_self]
        rw [bF (by decide)]
        by_cases h3:3<l.Next.length
        ·rw [bE h3,show decide ((l.Next.length:Int)>3)=true from l9 (by omega)];rfl
        ·rw [bF h3,show decide ((l.Next.length:Int)>3)=false from bA (by omega),bD]
         cases Fl (m.Lanes.length:Int) ((i:Int)+1) l.Next<;>rfl) (by
    unfold M8
    dsimp only
    rw [show decide ((m.Lanes.length:Int)< (m.Lanes.length:Int))=false from bA (by omega)];rfl)
  unfold R3
  rw [h]
  cases N2 (laneE m.Lanes.length) 0 m.Lanes<;>rfl
theorem DR {n i:Nat}{l:Lane}{e:Int}(h:laneE n i l=some e):e≠0:=by
  unfold laneE at h
  split at h
  ·cases h;decide
  ·split at h
   ·rename_i h2;cases h;exact h2
   ·split at h
    ·cases h;decide
    ·split at h
     ·cases h;decide
     ·split at h
      ·cases h;decide
      ·cases h
theorem Hd {high:Int}: ∀{l:List Int} {low:Int},Fl high low l=true→∀k∈l,low≤k∧k<high
  | [],_,_,k,hk=>by cases hk
  |n::r,low,h,k,hk=>by
   unfold Fl at h
   simp only [bG,bB]at h
   rcases lS.1 hk with rfl|hk
   ·exact h.1
   ·have:=Hd h.2 k hk
    omega
/-- What a lane is that has no error of its own. -/
structure LaneOK (n i:Nat)(l:Lane):Prop where
  kind:(Pl l.Kind).1≠0
  curve:El l.Curve_.Pts=0
  half:Tw l.Half 200 4000=true
  limit:Tw l.Limit 1 (Pl l.Kind).1=true
  few:l.Next.length≤3
  next:Fl n (i+1) l.Next=true
theorem GH {n i:Nat}{l:Lane}(h:laneE n i l=none):LaneOK n i l:=by
  unfold laneE at h
  split at h
  ·cases h
  ·rename_i h1
   split at h
   ·cases h
   ·rename_i h2
    split at h
    ·cases h
    ·rename_i h3
     split at h
     ·cases h
     ·rename_i h4
      split at h
      ·cases h
      ·rename_i h5
       simp only [bL,bG]at h3
       exact ⟨h1,Decidable.not_not.1 h2,h3.1,h3.2,by omega,by simpa using h5⟩
theorem Pm {m:Map}(h:N2 (laneE m.Lanes.length) 0 m.Lanes=none){i:Nat}{l:Lane}(hl:m.Lanes[i]? =some l):LaneOK m.Lanes.length i l:=by
  have:=firstE_none.1 h i l hl
  rw [bU]at this
  exact GH this
theorem Ty {l:List Spot}(h:El l=0):2≤l.length:=by
  unfold El at h
  split at h
  ·cases h
  ·omega
def Qq (l:List Spot):Spot:=l.headD ⟨0,0⟩
def Od (l:List Spot):Spot:=l.getLastD ⟨0,0⟩
theorem Zn {l:List Spot}(h:2≤l.length):F6 l 0=some (Qq l):=by
  cases l with
  |nil=>simp at h
  |cons a r=>rfl
theorem Zo {l:List Spot}(h:2≤l.length)(hl:l.length≤1000000):F6 l (I4 ((l.length:Int) - 1))=some (Od l):=by
  rw [RK (by omega),show (l.length:Int) - 1=((l.length - 1:Nat):Int) by omega]
  refine F2 ?_
  unfold Od
  rw [List.getLastD_eq_getLast?,List.getLast?_eq_getElem?]
  rw [lG (by omega)];rfl
def DS (a b:Spot):Bool:=a.X==b.X&& (a.Y==b.Y&&true)
def Rk (m:Map)(l:Lane)(_:Nat)(k:Int):Option Int:=
  match m.Lanes[k.toNat]? with
  |some n=>if n.Kind≠l.Kind then some 4 else if DS (Qq n.Curve_.Pts) (Od l.Curve_.Pts)=false then some 3 else none
  |none=>none
def nextE (m:Map)(_:Nat)(l:Lane):Option Int:=N2 (Rk m l) 0 l.Next
theorem Xj {m:Map}(B:Bear m)(H:N2 (laneE m.Lanes.length) 0 m.Lanes=none){i:Nat}{l:Lane}(hl:m.Lanes[i]? =some l){j:Nat}{k:Int}(hk:l.Next[j]? =some k):
    ∃n,F6 m.Lanes k=some n∧m.Lanes[k.toNat]? =some n∧2≤n.Curve_.Pts.length∧n.Curve_.Pts.length≤1000000:=by
  have L:=Pm H hl
  have hb:=Hd L.next k (lF hk)
  have hlt:k.toNat<m.Lanes.length:=by omega
  refine ⟨m.Lanes[k.toNat],?_,lG hlt,Ty (Pm H (lG hlt)).curve,(B.pts _ (List.getElem_mem hlt)).1⟩
  unfold F6
  rw [bE (by omega),lG hlt]
theorem JR {m:Map}{l:Lane}{j:Nat}{k e:Int}(h:Rk m l j k=some e):e≠0:=by
  unfold Rk at h
  split at h
  ·split at h
   ·cases h;decide
   ·split at h
    ·cases h;decide
    ·cases h
  ·cases h
theorem Zp {m:Map}(B:Bear m)(H:N2 (laneE m.Lanes.length) 0 m.Lanes=none){i:Nat}{l:Lane}(hl:m.Lanes[i]? =some l):
    loop (T1 ⟨m⟩ l (Od l.Curve_.Pts)) 0=some (RJ (nextE m i l))∧loop (Dj m l) 0=some (RJ (nextE m i l)):=by
  have L:=Pm H hl
  obtain ⟨p1,p2⟩:=B.pts l (lF hl)
  constructor
  ·refine Gc l.Next _ (Rk m l) (fun j k hk=> ?_) ?_
   ·have hj:=I9 hk
    obtain ⟨n,g1,g2,g3,g4⟩:=Xj B H hl hk
    unfold T1 Rk
    dsimp only
    rw [show decide ((j:Int)< (l.Next.length:Int))=true from l9 (by omega),F2 hk,bC,lA,g1,lA,lA,Zn g3,lA,RK (n:=(j:Int)+1) (by omega),g2]
    dsimp only
    rw [show ((Qq n.Curve_.Pts).X==(Od l.Curve_.Pts).X&& ((Qq n.Curve_.Pts).Y==(Od l.Curve_.Pts).Y&&true))=DS (Qq n.Curve_.Pts) (Od l.Curve_.Pts) from rfl]
    by_cases h1:n.Kind≠l.Kind
    ·rw [bE h1,show (n.Kind !=l.Kind)=true by simpa using h1];rfl
    ·rw [bF h1,show (n.Kind !=l.Kind)=false by simpa using h1]
     cases DS (Qq n.Curve_.Pts) (Od l.Curve_.Pts)<;>rfl
   ·unfold T1
    rw [show decide ((l.Next.length:Int)< (l.Next.length:Int))=false from bA (by omega)];rfl
  ·refine Gc l.Next _ (Rk m l) (fun j k hk=> ?_) ?_
   ·have hj:=I9 hk
    obtain ⟨n,g1,g2,g3,g4⟩:=Xj B H hl hk
    unfold Dj Rk
    rw [show decide ((j:Int)< (l.Next.length:Int))=true from l9 (by omega),F2 hk,bC,lA,g1,lA,Zn g3,lA,Zo (Ty L.curve) p1,lA,RK (n:=(j:Int)+1) (by omega),g2]
    dsimp only
    rw [show ((Qq n.Curve_.Pts).X==(Od l.Curve_.Pts).X&& ((Qq n.Curve_.Pts).Y==(Od l.Curve_.Pts).Y&&true))=DS (Qq n.Curve_.Pts) (Od l.Curve_.Pts) from rfl]
    by_cases h1:n.Kind≠l.Kind
    ·rw [bE h1,show (n.Kind !=l.Kind)=true by simpa using h1];rfl
    ·rw [bF h1,show (n.Kind !=l.Kind)=false by simpa using h1]
     cases DS (Qq n.Curve_.Pts) (Od l.Curve_.Pts)<;>rfl
   ·unfold Dj
    rw [show decide ((l.Next.length:Int)< (l.Next.length:Int))=false from bA (by omega)];rfl
theorem JS {m:Map}(B:Bear m)(H:N2 (laneE m.Lanes.length) 0 m.Lanes=none):
    P9 ⟨m⟩=some ((N2 (nextE m) 0 m.Lanes).getD 0)∧Ob m=some ((N2 (nextE m) 0 m.Lanes).getD 0):=by
  have hb:=B.lanes
  constructor
  ·have h:=Gc m.Lanes (M2 ⟨m⟩) (nextE m) (fun i l hl=>by
     have hi:=I9 hl
     have L:=Pm H hl
     obtain ⟨p1,p2⟩:=B.pts l (lF hl)
     unfold M2
     dsimp only
     rw [show decide ((i:Int)< (m.Lanes.length:Int))=true from l9 (by omega),F2 hl,bC,lA,Zo (Ty L.curve) p1,lA,(Zp B H hl).1,RK (n:=(i:Int)+1) (by omega)]
     cases nextE m i l<;>rfl) (by
     unfold M2
     dsimp only
     rw [show decide ((m.Lanes.length:Int)< (m.Lanes.length:Int))=false from bA (by omega)];rfl)
   unfold P9
   rw [h]
   cases N2 (nextE m) 0 m.Lanes<;>rfl
  ·have h:=Gc m.Lanes (Dk m) (nextE m) (fun i l hl=>by
     have hi:=I9 hl
     unfold Dk
     rw [show decide ((i:Int)< (m.Lanes.length:Int))=true from l9 (by omega),F2 hl,bC,lA,(Zp B H hl).2,RK (n:=(i:Int)+1) (by omega)]
     cases nextE m i l<;>rfl) (by
     unfold Dk
     rw [show decide ((m.Lanes.length:Int)< (m.Lanes.length:Int))=false from bA (by omega)];rfl)
   unfold Ob
   rw [h]
   cases N2 (nextE m) 0 m.Lanes<;>rfl
/-- The place of the first element with a property. -/
theorem GI {α:Type}{f:Int→Option (Stp Int (Sum Unit Int))}(l:List α)(P:α→Bool)(hl:l.length≤1000000000)(hf: ∀(i:Nat) a,l[i]? =some a→f (i:Int)=some (if P a then .out (.inr (i:Int))else .go (I4 ((i:Int)+1))))(he:f (l.length:Int)=some (.out (.inl ()))):
    loop f 0=some (match l.findIdx? P with|some i=> .inr (i:Int)|none=> .inl ()):=by
  have key: ∀(r:List α) (i:Nat),l.drop i=r→i≤l.length→loop f (i:Int)=some (match r.findIdx? P with|some j=> .inr ((i+j:Nat):Int)|none=> .inl ()):=by
    intro r
    induction r with
    |nil=>
     intro i hi hil
     have:=Kf hi
     obtain rfl:i=l.length:=by omega
     rw [M1 he];rfl
    |cons a r ih=>
     intro i hi _
     have hlt:=Jt hi
     have h0:l[i]? =some a:=by have:=congrArg (fun z=>z[0]?) hi;simpa using this
     have hs:=hf i a h0
     rw [List.findIdx?_cons]
     by_cases hp:P a=true
     ·rw [bE hp]at hs
      rw [M1 hs,bE hp];simp
     ·rw [bF hp]at hs
      rw [W9 (by omega)]at hs
      rw [Bf hs,show ((i:Int)+1)=((i+1:Nat):Int) by omega,ih (i+1) (Er hi) (by omega),bF hp]
      cases r.findIdx? P with
      |none=>rfl
      |some j=>simp only [lE];congr 3;omega
  have:=key l 0 rfl (by omega)
  rw [show ((0:Nat):Int)=0 from rfl]at this
  rw [this]
  cases l.findIdx? P<;>simp
/-- -1, or the place. -/
def RN {α:Type}(P:α→Bool)(l:List α):Int:=match l.findIdx? P with|some i=>(i:Int)|none=> -1
theorem DT {α:Type}(P:α→Bool)(l:List α):decide (RN P l≥0)=l.any P:=by
  unfold RN
  cases h:l.findIdx? P with
  |none=>
   have:=List.findIdx?_eq_none_iff.1 h
   rw [show l.any P=false by rw [List.any_eq_false];intro x hx;simpa using this x hx]
   decide
  |some i=>
   have:=List.findIdx?_isSome (xs:=l) (p:=P)
   rw [h]at this
   rw [← this]
   simp
/-- What both twins compute of a list. -/
theorem DU {α:Type}{f:Int→Option (Stp Int (Sum Unit Int))}(l:List α)(P:α→Bool)(hl:l.length≤1000000000)(hf: ∀(i:Nat) a,l[i]? =some a→f (i:Int)=some (if P a then .out (.inr (i:Int))else .go (I4 ((i:Int)+1))))(he:f (l.length:Int)=some (.out (.inl ()))):
    thenS (loop f 0) (fun _=>some (-1)) (fun r=>some r)=some (RN P l):=by
  rw [GI l P hl hf he]
  unfold RN
  cases l.findIdx? P<;>rfl
theorem JT (l:List Phase)(hl:l.length≤1000000):D0 l=some (l.any fun p=> !Tw p.Ticks 1 10000):=by
  unfold D0 E2
  rw [DU l (fun p=> !Tw p.Ticks 1 10000) (by omega) (fun i a h=>by
   have:=I9 h
   unfold G6 Bg
   rw [show decide ((i:Int)< (l.length:Int))=true from l9 (by omega),F2 h,bC,lA,Jz,lA,lA]
   cases Tw a.Ticks 1 10000<;>rfl) (by
   unfold G6
   simp)]
  rw [lA,DT]
theorem GJ (m:Map)(l:List Phase)(hl:l.length≤1000000)(hm:m.Lanes.length≤1000000)(hg: ∀p∈l,p.Green.length≤1000000):C9 l ⟨m⟩=some (l.any fun p=> !Fl m.Lanes.length 0 p.Green):=by
  unfold C9 E1
  rw [DU l (fun p=> !Fl m.Lanes.length 0 p.Green) (by omega) (fun i a h=>by
   have:=I9 h
   unfold C8 O9
   dsimp only
   rw [show decide ((i:Int)< (l.length:Int))=true from l9 (by omega),F2 h,bC,lA,Tx _ _ _ (hg a (lF h)) (by omega) (by omega),lA,lA]
   cases Fl (m.Lanes.length:Int) 0 a.Green<;>rfl) (by
   unfold C8
   simp)]
  rw [lA,DT]
structure BearS (m:Map):Prop where
  many:m.Signals.length≤1000000
  phases: ∀s∈m.Signals,s.Phases.length≤1000000∧∀p∈s.Phases,p.Green.length≤1000000
def signalE (m:Map)(_:Nat)(s:Signal):Option Int:=
  if s.Phases.length=0 then some 6
  else if 6<s.Phases.length then some 8
  else if Tw s.Offset 0 1099511627776=false then some 2
  else if (s.Phases.any fun p=> !Tw p.Ticks 1 10000)=true then some 2
  else if (s.Phases.any fun p=> !Fl m.Lanes.length 0 p.Green)=true then some 11 else none
theorem GK {m:Map}(B:Bear m)(S:BearS m):O6 ⟨m⟩=some ((N2 (signalE m) 0 m.Signals).getD 0):=by
  have h:=Gc m.Signals (L6 ⟨m⟩) (signalE m) (fun i s hs=>by
    have hi:=I9 hs
    have hb:=S.many
    obtain ⟨p1,p2⟩:=S.phases s (lF hs)
    unfold L6 signalE
    dsimp only
    rw [show decide ((i:Int)< (m.Signals.length:Int))=true from l9 (by omega),F2 hs,bC,lA,Jz,lA,JT _ p1,lA,GJ m _ p1 B.lanes p2,lA,RK (n:=(i:Int)+1) (by omega)]
    by_cases h1:s.Phases.length=0
    ·rw [bE h1,h1];rfl
    ·rw [bF h1,show ((s.Phases.length:Int)==0)=false by simp only [beq_eq_false_iff_ne];omega,bD]
     by_cases h2:6<s.Phases.length
     ·rw [bE h2,show decide ((s.Phases.length:Int)>6)=true from l9 (by omega)];rfl
     ·rw [bF h2,show decide ((s.Phases.length:Int)>6)=false from bA (by omega),bD]
      cases Tw s.Offset 0 1099511627776
      ·rfl
      ·cases (s.Phases.any fun p=> !Tw p.Ticks 1 10000)
       ·cases (s.Phases.any fun p=> !Fl m.Lanes.length 0 p.Green)<;>rfl
       ·rfl) (by
    unfold L6
    dsimp only
    rw [show decide ((m.Signals.length:Int)< (m.Signals.length:Int))=false from bA (by omega)];rfl)
  unfold O6
  rw [h]
  cases N2 (signalE m) 0 m.Signals<;>rfl
end Go.Abs.Roadsz
/-! Loops over lists, as functions on lists. -/
namespace Go.Abs
open Go
section
variable {α β σ S τ:Type}
/-- What a loop over a list makes, with a state, and with a way out. -/
def Xk (step:Nat→σ→α→Sum σ τ)(fin:σ→τ):Nat→σ→List α→τ
  |_,s,[]=>fin s
  |i,s,a::r=>match step i s a with
   | .inl s'=>Xk step fin (i+1) s' r
   | .inr t=>t
theorem NU {l:List α}{i:Nat}{a:α}{r:List α}(h:l.drop i=a::r):l[i]? =some a:=by
  have:=congrArg (fun z=>z[0]?) h
  simpa using this
theorem TD {F:S→Option (Stp S τ)}(pk:Nat→σ→S)(l:List α)(inv:Nat→σ→Prop)(step:Nat→σ→α→Sum σ τ)(fin:σ→τ){s0:σ}{S0:S}(hS:pk 0 s0=S0)(hi:inv 0 s0)
    (hF: ∀i a s,l[i]? =some a→inv i s→F (pk i s)=some (match step i s a with| .inl s'=> .go (pk (i+1) s')| .inr t=> .out t))
    (hI: ∀i a s s',l[i]? =some a→inv i s→step i s a= .inl s'→inv (i+1) s')
    (h0: ∀s,inv l.length s→F (pk l.length s)=some (.out (fin s))):loop F S0=some (Xk step fin 0 s0 l):=by
  have key: ∀(r:List α) (i:Nat) (s:σ),l.drop i=r→i≤l.length→inv i s→loop F (pk i s)=some (Xk step fin i s r):=by
    intro r
    induction r with
    |nil=>
     intro i s hi hil hv
     have:=Kf hi
     obtain rfl:i=l.length:=by omega
     exact M1 (h0 s hv)
    |cons a r ih=>
     intro i s hi hil hv
     have hlt:=Jt hi
     have ha:=NU hi
     have hs:=hF i a s ha hv
     unfold Xk
     cases h:step i s a with
     |inl s'=>rw [h]at hs;rw [Bf hs];exact ih (i+1) s' (Er hi) (by omega) (hI i a s s' ha hv h)
     |inr t=>rw [h]at hs;exact M1 hs
  rw [← hS]
  exact key l 0 s0 rfl (by omega) hi
/-- The same without a way out. -/
def Zq (step:Nat→σ→α→σ):Nat→σ→List α→σ
  |_,s,[]=>s
  |i,s,a::r=>Zq step (i+1) (step i s a) r
theorem Uk (step:Nat→σ→α→σ)(fin:σ→τ): ∀(l:List α) (i:Nat) (s:σ),Xk (fun i s a=> .inl (step i s a)) fin i s l=fin (Zq step i s l)
  | [],_,_=>rfl
  |_::r,i,_=>Uk step fin r (i+1) _
theorem WY {F:S→Option (Stp S τ)}(pk:Nat→σ→S)(l:List α)(inv:Nat→σ→Prop)(step:Nat→σ→α→σ)(fin:σ→τ){s0:σ}{S0:S}(hS:pk 0 s0=S0)(hi:inv 0 s0)
    (hF: ∀i a s,l[i]? =some a→inv i s→F (pk i s)=some (.go (pk (i+1) (step i s a))))
    (hI: ∀i a s,l[i]? =some a→inv i s→inv (i+1) (step i s a))
    (h0: ∀s,inv l.length s→F (pk l.length s)=some (.out (fin s))):loop F S0=some (fin (Zq step 0 s0 l)):=by
  rw [← Uk step fin]
  exact TD pk l inv _ fin hS hi hF (fun i a s s' h1 h2 h3=>by cases h3;exact hI i a s h1 h2) h0
/-- The elements that a loop gathers. -/
def Ul (g:Nat→α→Option β):Nat→List α→List β
  |_,[]=> []
  |i,a::r=>match g i a with
   |some b=>b::Ul g (i+1) r
   |none=>Ul g (i+1) r
theorem Xl (g:Nat→α→Option β): ∀(l:List α) (i:Nat) (s:List β),Zq (fun i s a=>match g i a with|some b=>s++ [b]|none=>s) i s l=s++Ul g i l
  | [],_,s=>by simp [Zq,Ul]
  |a::r,i,s=>by
   unfold Zq Ul
   rw [Xl g r (i+1)]
   cases g i a<;>simp
theorem WZ {F:S→Option (Stp S τ)}(pk:Nat→List β→S)(l:List α)(g:Nat→α→Option β)(fin:List β→τ){S0:S}(hS:pk 0 []=S0)
    (hF: ∀i a (s:List β),l[i]? =some a→s.length≤i→F (pk i s)=some (.go (pk (i+1) (match g i a with|some b=>s++ [b]|none=>s))))
    (h0: ∀s,F (pk l.length s)=some (.out (fin s))):loop F S0=some (fin (Ul g 0 l)):=by
  have:=WY pk l (fun i s=>s.length≤i) (fun i s a=>match g i a with|some b=>s++ [b]|none=>s) fin hS (by simp) hF (fun i a s _ hs=>by
    cases g i a<;>simp<;>omega) (fun s _=>h0 s)
  rw [this,Xl,lO]
/-- Is there one? -/
theorem HW {F:Int→Option (Stp Int (Sum Unit β))}(l:List α)(p:α→Bool)(v:β)(hF: ∀(i:Nat) a,l[i]? =some a→F (i:Int)=some (if p a then .out (.inr v)else .go ((i+1:Nat):Int)))(h0:F (l.length:Int)=some (.out (.inl ()))):
    loop F 0=some (if l.any p then .inr v else .inl ()):=by
  have key: ∀(l:List α) (i:Nat),Xk (fun _ _ a=>if p a then Sum.inr (Sum.inr v)else Sum.inl ()) (fun _=>(Sum.inl ():Sum Unit β)) i () l=if l.any p then .inr v else .inl ():=by
    intro l
    induction l with
    |nil=>intro i;rfl
    |cons a r ih=>
     intro i
     unfold Xk
     rw [List.any_cons]
     cases h:p a
     ·exact ih (i+1)
     ·rfl
  rw [← key l 0]
  exact TD (F:=F) (σ:=Unit) (fun i _=>(i:Int)) l (fun _ _=>True) _ _ (s0:=()) rfl trivial (fun i a _ h _=>by rw [hF i a h];cases p a<;>rfl) (fun _ _ _ _ _ _ _=>trivial) (fun _ _=>h0)
end
theorem Ac {i:Nat}{n:Nat}(h:i<n):decide ((i:Int)< (n:Int))=true:=l9 (by omega)
theorem U7 (n:Nat):decide ((n:Int)< (n:Int))=false:=bA (by omega)
theorem O2 {i:Nat}{n:Nat}(h:i<n)(hn:n≤1000000000000):I4 ((i:Int)+1)=((i+1:Nat):Int):=by rw [W9 (by omega)];omega
end Go.Abs
namespace Go.Abs.Roadsz
open Go Go.Abs
structure BearZ (m:Map):Prop where
  many:m.Zones.length≤1000000
  parts: ∀z∈m.Zones,z.Parts.length≤1000000
noncomputable def Bh (m:Map)(k:Int):Int:=((m.Lanes[k.toNat]?).map fun l=>Ju l.Curve_).getD 0
noncomputable def Sw (m:Map)(p:Part):Bool:=decide (p.From<0)||decide (p.From≥p.To)||decide (p.To>Bh m p.Lane_)||decide (p.Rank<0)||decide (p.Rank>100)
noncomputable def zoneE (m:Map)(_:Nat)(z:Zone):Option Int:=
  if z.Parts.length<2 then some 6
  else if 6<z.Parts.length then some 8
  else if z.Signal_<0∨(m.Signals.length:Int)<z.Signal_ then some 2
  else if Fl m.Lanes.length 0 (z.Parts.map (·.Lane_))=false then some 11
  else if z.Parts.any (Sw m)=true then some 2 else none
theorem Vi {m:Map}{k:Int}(h0:0≤k)(h1:k<m.Lanes.length): ∃l,m.Lanes[k.toNat]? =some l∧F6 m.Lanes k=some l:=by
  have hlt:k.toNat<m.Lanes.length:=by omega
  refine ⟨m.Lanes[k.toNat],lG hlt,?_⟩
  unfold F6
  rw [bE h0,lG hlt]
theorem HX {m:Map}(B:Bear m){k:Int}(h0:0≤k)(h1:k<m.Lanes.length):V3 m k=some (Bh m k):=by
  obtain ⟨l,e1,e2⟩:=Vi h0 h1
  have:=RM (m:=m) e1 (B.pts l (lF e1)).1
  rw [show ((k.toNat:Nat):Int)=k by omega]at this
  rw [this,Bh,e1];rfl
theorem DV {α β:Type}(f:α→β): ∀(l:List α) (i:Nat),Ul (fun _ a=>some (f a)) i l=l.map f
  | [],_=>rfl
  |a::r,i=>by rw [Ul,DV f r];rfl
theorem VG {z:Zone}{F:List Int×Int→Option (Stp (List Int×Int) (List Int))}(hl:z.Parts.length≤1000000)
    (hF: ∀x,F x=cond (decide (x.2< (z.Parts.length:Int))) ((F6 z.Parts x.2).bind fun v=>(Bx x.1 [v.Lane_]).bind fun w=>some (.go (w,I4 (x.2+1)))) (some (.out x.1))):
    loop F ([],0)=some (z.Parts.map (·.Lane_)):=by
  rw [← DV (fun p:Part=>p.Lane_) z.Parts 0]
  refine WZ (fun i s=>(s,(i:Int))) z.Parts (fun _ p=>some p.Lane_) id rfl (fun i a s ha hs=> ?_) (fun s=> ?_)
  ·have hi:=I9 ha
   rw [hF,Ac hi,F2 ha,bC,lA,Pu (by simp;omega),lA,O2 hi (by omega)]
  ·rw [hF,U7];rfl
theorem NV {m:Map}(B:Bear m)(Z:BearZ m):R4 ⟨m⟩=some ((N2 (zoneE m) 0 m.Zones).getD 0):=by
  have hb:=B.lanes
  have h:=Gc m.Zones (N0 ⟨m⟩) (zoneE m) (fun i z hz=>by
    have hi:=I9 hz
    have hm:=Z.many
    have p1:=Z.parts z (lF hz)
    unfold N0 zoneE
    dsimp only
    rw [Ac hi,F2 hz,bC,lA,VG p1 (F:=Cc z) (fun x=>rfl),lA,Tx _ _ _ (by simpa using p1) (by omega) (by omega),lA,O2 hi (by omega)]
    by_cases h1:z.Parts.length<2
    ·rw [bE h1,show decide ((z.Parts.length:Int)<2)=true from l9 (by omega)];rfl
    ·rw [bF h1,show decide ((z.Parts.length:Int)<2)=false from bA (by omega),bD]
     by_cases h2:6<z.Parts.length
     ·rw [bE h2,show decide ((z.Parts.length:Int)>6)=true from l9 (by omega)];rfl
     ·rw [bF h2,show decide ((z.Parts.length:Int)>6)=false from bA (by omega),bD]
      by_cases h3:z.Signal_<0∨(m.Signals.length:Int)<z.Signal_
      ·rw [bE h3,show ((decide (z.Signal_<0))||(decide (z.Signal_>(m.Signals.length:Int))))=true by simpa using h3];rfl
      ·rw [bF h3,show ((decide (z.Signal_<0))||(decide (z.Signal_>(m.Signals.length:Int))))=false by rw [bK];simpa using h3,bD]
       cases h4:Fl (m.Lanes.length:Int) 0 (z.Parts.map (·.Lane_))
       ·rfl
       ·rw [bF (by decide)]
        have:=HW (F:=M9 ⟨m⟩ z) z.Parts (Sw m) (2:Int) (fun j p hp=>by
          have hj:=I9 hp
          have hk:=Hd h4 p.Lane_ (List.mem_map.2 ⟨p,lF hp,rfl⟩)
          unfold M9 Sw
          dsimp only
          rw [Ac hj,F2 hp,bC,lA,HX B hk.1 hk.2,O2 hj (by omega)]
          cases h5:(decide (p.From<0)||decide (p.From≥p.To))
          ·simp only [bJ,bC,lA]
           cases (false||decide (p.To>Bh m p.Lane_)||decide (p.Rank<0)||decide (p.Rank>100))<;>rfl
          ·rfl) (by unfold M9;rw [U7];rfl)
        rw [this]
        cases z.Parts.any (Sw m)<;>rfl) (by
    unfold N0
    dsimp only
    rw [U7];rfl)
  unfold R4
  rw [h]
  cases N2 (zoneE m) 0 m.Zones<;>rfl
structure BearW (m:Map):Prop where
  many:m.Works.length≤1000000
noncomputable def workE (m:Map)(_:Nat)(w:Work):Option Int:=
  if w.Lane_<0∨(m.Lanes.length:Int)≤w.Lane_ then some 7
  else if (decide (w.From<0)||decide (w.From>w.To)||decide (w.To>Bh m w.Lane_)||decide (w.Begin<0)||decide (w.Begin≥w.End)||decide (w.End>1099511627776)|| !Tw w.Limit 0 ((m.Lanes[w.Lane_.toNat]?).map fun l=>(Pl l.Kind).1).get!)=true then some 2 else none
theorem NW {m:Map}(B:Bear m)(W:BearW m):R5 ⟨m⟩=some ((N2 (workE m) 0 m.Works).getD 0):=by
  have hb:=B.lanes
  have h:=Gc m.Works (N1 ⟨m⟩) (workE m) (fun i w hw=>by
    have hi:=I9 hw
    have hm:=W.many
    unfold N1 workE
    dsimp only
    rw [Ac hi,F2 hw,bC,lA,O2 hi (by omega)]
    by_cases h1:w.Lane_<0∨(m.Lanes.length:Int)≤w.Lane_
    ·rw [bE h1,show ((decide (w.Lane_<0))||(decide (w.Lane_≥(m.Lanes.length:Int))))=true by simpa using h1];rfl
    ·rw [bF h1,show ((decide (w.Lane_<0))||(decide (w.Lane_≥(m.Lanes.length:Int))))=false by rw [bK];simpa using h1,bD]
     obtain ⟨l,e1,e2⟩:=Vi (m:=m) (k:=w.Lane_) (by omega) (by omega)
     rw [e2,lA,Zm,lA,HX B (by omega) (by omega),Jz,e1]
     simp only [lE,Option.get!_some]
     cases (decide (w.From<0)||decide (w.From>w.To))
     ·simp only [bJ,bC,lA]
      cases (false||decide (w.To>Bh m w.Lane_)||decide (w.Begin<0)||decide (w.Begin≥w.End)||decide (w.End>1099511627776))
      ·simp only [bJ,bC,lA]
       by_cases hq:Tw w.Limit 0 (Pl l.Kind).1=true<;>simp [hq]
      ·rfl
     ·rfl) (by
    unfold N1
    dsimp only
    rw [U7];rfl)
  unfold R5
  rw [h]
  cases N2 (workE m) 0 m.Works<;>rfl
/-- All lists of a map are of bearable lengths. -/
structure BearM (m:Map):Prop where
  toBear:Bear m
  toBearS:BearS m
  toBearZ:BearZ m
  toBearW:BearW m
theorem BearM.lanes {m:Map}(B:BearM m):m.Lanes.length≤1000000:=B.toBear.lanes
noncomputable def Qe (m:Map):Int:=
  if Tw m.Version 0 1099511627776=false then 2
  else if m.Lanes.length=0 then 6
  else if 12<m.Lanes.length∨12<m.Zones.length∨4<m.Signals.length∨8<m.Works.length then 8
  else ((N2 (laneE m.Lanes.length) 0 m.Lanes).or ((N2 (nextE m) 0 m.Lanes).or ((N2 (signalE m) 0 m.Signals).or ((N2 (zoneE m) 0 m.Zones).or (N2 (workE m) 0 m.Works))))).getD 0
theorem Bu {α:Type}{g:Nat→α→Option Int}(h: ∀i a e,g i a=some e→e≠0): ∀{l:List α} {i:Nat} {e:Int},N2 g i l=some e→e≠0
  | [],_,_,q=>by cases q
  |a::r,i,e,q=>by
   unfold N2 at q
   cases hg:g i a with
   |some e'=>rw [hg]at q;cases q;exact h i a e hg
   |none=>rw [hg]at q;exact Bu h q
theorem DW {m:Map}{i:Nat}{z:Zone}{e:Int}(h:zoneE m i z=some e):e≠0:=by
  unfold zoneE at h
  repeat' split at h
  all_goals first|(cases h;decide)|cases h
theorem Xm {m:Map}{i:Nat}{z:Signal}{e:Int}(h:signalE m i z=some e):e≠0:=by
  unfold signalE at h
  repeat' split at h
  all_goals first|(cases h;decide)|cases h
theorem DX {m:Map}{i:Nat}{z:Work}{e:Int}(h:workE m i z=some e):e≠0:=by
  unfold workE at h
  repeat' split at h
  all_goals first|(cases h;decide)|cases h
theorem DY {m:Map}{i:Nat}{z:Lane}{e:Int}(h:nextE m i z=some e):e≠0:=Bu (fun _ _ _=>JR) h
theorem Ky {m:Map}(B:BearM m):R6 m=some (Qe m):=by
  have hb:=B.lanes
  have s0:L5 m 0=(V7 ⟨m⟩).bind fun v2=>cond (v2 !=0) (some (.out (.inr v2))) (some (.go 1)):=rfl
  have s1:L5 m 1=(R3 ⟨m⟩).bind fun v2=>cond (v2 !=0) (some (.out (.inr v2))) (some (.go 2)):=rfl
  have s2:L5 m 2=(P9 ⟨m⟩).bind fun v2=>cond (v2 !=0) (some (.out (.inr v2))) (some (.go 3)):=rfl
  have s3:L5 m 3=(O6 ⟨m⟩).bind fun v2=>cond (v2 !=0) (some (.out (.inr v2))) (some (.go 4)):=rfl
  have s4:L5 m 4=(R4 ⟨m⟩).bind fun v2=>cond (v2 !=0) (some (.out (.inr v2))) (some (.go 5)):=rfl
  have s5:L5 m 5=(R5 ⟨m⟩).bind fun v2=>cond (v2 !=0) (some (.out (.inr v2))) (some (.go 6)):=rfl
  have s6:L5 m 6=some (.out (.inl ())):=rfl
  have VI: ∀(i j:Int) (e:Option Int) (X:Option Int),(∀e',e=some e'→e'≠0)→X=some (e.getD 0)→L5 m i=X.bind (fun v2=>cond (v2 !=0) (some (.out (.inr v2))) (some (.go j)))→loop (L5 m) i=match e with|some e'=>some (.inr e')|none=>loop (L5 m) j:=by
    intro i j e X he hX hs
    subst hX
    rw [lA]at hs
    cases e with
    |none=>exact Bf hs
    |some e'=>
     rw [Option.getD_some,show (e' !=0)=true by simpa using he e' rfl]at hs
     exact M1 hs
  unfold R6 Qe
  have hnum:V7 ⟨m⟩=some ((if Tw m.Version 0 1099511627776=false then some 2 else if m.Lanes.length=0 then some 6 else if 12<m.Lanes.length∨12<m.Zones.length∨4<m.Signals.length∨8<m.Works.length then some 8 else none:Option Int).getD 0):=by
    unfold V7
    dsimp only
    rw [Jz,lA]
    cases Tw m.Version 0 1099511627776
    ·rfl
    ·simp only [bI,bD,Bool.true_eq_false,if_false]
     by_cases h1:m.Lanes.length=0
     ·rw [bE h1,h1];rfl
     ·rw [bF h1,show ((m.Lanes.length:Int)==0)=false by simp only [beq_eq_false_iff_ne];omega,bD]
      by_cases h2:12<m.Lanes.length∨12<m.Zones.length∨4<m.Signals.length∨8<m.Works.length
      ·rw [bE h2,show ((((decide ((m.Lanes.length:Int)>12))||(decide ((m.Zones.length:Int)>12)))||(decide ((m.Signals.length:Int)>4)))||(decide ((m.Works.length:Int)>8)))=true by simp;omega];rfl
      ·rw [bF h2,show ((((decide ((m.Lanes.length:Int)>12))||(decide ((m.Zones.length:Int)>12)))||(decide ((m.Signals.length:Int)>4)))||(decide ((m.Works.length:Int)>8)))=false by simp;omega];rfl
  rw [VI 0 1 _ _ (by (repeat' split);all_goals (intro e' h;first|(cases h;decide)|cases h)) hnum s0]
  by_cases q1:Tw m.Version 0 1099511627776=false
  ·rw [bE q1,bE q1];rfl
  ·rw [bF q1,bF q1]
   by_cases q2:m.Lanes.length=0
   ·rw [bE q2,bE q2];rfl
   ·rw [bF q2,bF q2]
    by_cases q3:12<m.Lanes.length∨12<m.Zones.length∨4<m.Signals.length∨8<m.Works.length
    ·rw [bE q3,bE q3];rfl
    ·rw [bF q3,bF q3]
     dsimp only
     rw [VI 1 2 _ _ (fun e' h=>Bu (fun _ _ _=>DR) h) (NT B.toBear) s1]
     cases H:N2 (laneE m.Lanes.length) 0 m.Lanes with
     |some e=>rfl
     |none=>
      dsimp only
      rw [VI 2 3 _ _ (fun e' h=>Bu (fun _ _ _=>DY) h) (JS B.toBear H).1 s2]
      cases N2 (nextE m) 0 m.Lanes with
      |some e=>rfl
      |none=>
       dsimp only
       rw [VI 3 4 _ _ (fun e' h=>Bu (fun _ _ _=>Xm) h) (GK B.toBear B.toBearS) s3]
       cases N2 (signalE m) 0 m.Signals with
       |some e=>rfl
       |none=>
        dsimp only
        rw [VI 4 5 _ _ (fun e' h=>Bu (fun _ _ _=>DW) h) (NV B.toBear B.toBearZ) s4]
        cases N2 (zoneE m) 0 m.Zones with
        |some e=>rfl
        |none=>
         dsimp only
         rw [VI 5 6 _ _ (fun e' h=>Bu (fun _ _ _=>DX) h) (NW B.toBear B.toBearW) s5]
         cases N2 (workE m) 0 m.Works with
         |some e=>rfl
         |none=>dsimp only;rw [M1 s6];rfl
/-- What a valid map is. -/
structure ValR (m:Map):Prop where
  ver:0≤m.Version∧m.Version≤1099511627776
  pos:0<m.Lanes.length
  lanes:m.Lanes.length≤12
  zones:m.Zones.length≤12
  signals:m.Signals.length≤4
  works:m.Works.length≤8
  laneE:N2 (laneE m.Lanes.length) 0 m.Lanes=none
  nextE:N2 (nextE m) 0 m.Lanes=none
  signalE:N2 (signalE m) 0 m.Signals=none
  zoneE:N2 (zoneE m) 0 m.Zones=none
  workE:N2 (workE m) 0 m.Works=none
theorem JU {α:Type}{g:Nat→α→Option Int}{l:List α}(h: ∀i a e,g i a=some e→e≠0)(h0:(N2 g 0 l).getD 0=0):N2 g 0 l=none:=by
  cases q:N2 g 0 l with
  |none=>rfl
  |some e=>rw [q]at h0;exact absurd h0 (Bu h q)
theorem chkR_zero {m:Map}:Qe m=0↔ValR m:=by
  unfold Qe
  constructor
  ·intro h
   split at h
   ·cases h
   ·rename_i h1
    split at h
    ·cases h
    ·rename_i h2
     split at h
     ·cases h
     ·rename_i h3
      simp only [Tw,bL,bG,bB]at h1
      have key: ∀{o r:Option Int},(∀e,o=some e→e≠0)→(o.or r).getD 0=0→o=none∧r.getD 0=0:=by
        intro o r ho hr
        cases o with
        |none=>exact ⟨rfl,hr⟩
        |some e=>exact absurd hr (ho e rfl)
      obtain ⟨a1,h⟩:=key (fun e h=>Bu (fun _ _ _=>DR) h) h
      obtain ⟨a2,h⟩:=key (fun e h=>Bu (fun _ _ _=>DY) h) h
      obtain ⟨a3,h⟩:=key (fun e h=>Bu (fun _ _ _=>Xm) h) h
      obtain ⟨a4,h⟩:=key (fun e h=>Bu (fun _ _ _=>DW) h) h
      exact ⟨h1,by omega,by omega,by omega,by omega,by omega,a1,a2,a3,a4,JU (fun _ _ _=>DX) h⟩
  ·rintro ⟨h1,h2,h3,h4,h5,h6,a1,a2,a3,a4,a5⟩
   rw [bF (by simp only [Tw,bL,bG,bB];exact h1),bF (by omega),bF (by omega),a1,a2,a3,a4,a5];rfl
section
variable {m:Map}
theorem ValR.laneOK (V:ValR m){i:Nat}{l:Lane}(h:m.Lanes[i]? =some l):LaneOK m.Lanes.length i l:=Pm V.laneE h
theorem ValR.next (V:ValR m){i:Nat}{l:Lane}(h:m.Lanes[i]? =some l){k:Int}(hk:k∈l.Next):(i:Int)<k∧k<m.Lanes.length:=by
  have:=Hd (V.laneOK h).next k hk
  omega
end
/-- The lanes in which a lane goes on. -/
def nextOf (m:Map)(a:Nat):List Int:=((m.Lanes[a]?).map (·.Next)).getD []
theorem ValR.nextOf {m:Map}(V:ValR m){a:Nat}{k:Int}(hk:k∈Roadsz.nextOf m a):(a:Int)<k∧k<m.Lanes.length:=by
  unfold Roadsz.nextOf at hk
  cases h:m.Lanes[a]? with
  |none=>rw [h]at hk;cases hk
  |some l=>rw [h]at hk;exact V.next h hk
def NX (m:Map)(b:Int):Nat→Nat→Bool
  |0,_=>false
  |n+1,a=>(nextOf m a).any fun k=>k==b||NX m b n k.toNat
/-- Does a lane lead to another one? -/
def VH (m:Map)(a:Nat)(b:Int):Bool:=NX m b m.Lanes.length a
/-- What is known of the sets of the lanes from a number on. -/
structure Reach (m:Map)(i:Nat)(l:List Nat):Prop where
  len:l.length=12
  small: ∀(a x:Nat),l[a]? =some x→x<2^32
  zero: ∀(a:Nat),a<i→l[a]? =some 0
  bits: ∀(a x:Nat),i≤a→a<m.Lanes.length→l[a]? =some x→∀b:Nat,x.testBit b=VH m a (b:Int)
theorem Reach.get {m:Map}{i:Nat}{l:List Nat}(R:Reach m i l){a:Nat}(h:a<12): ∃x,l[a]? =some x∧x<2^32:=by
  have:=R.len
  exact ⟨l[a],lG (by omega),R.small a _ (lG (by omega))⟩
structure ZoneOK (m:Map)(z:Zone):Prop where
  two:2≤z.Parts.length
  six:z.Parts.length≤6
  sig:0≤z.Signal_∧z.Signal_≤m.Signals.length
  rise:Fl m.Lanes.length 0 (z.Parts.map (·.Lane_))=true
  part: ∀p∈z.Parts,0≤p.From∧p.From<p.To∧p.To≤Bh m p.Lane_∧0≤p.Rank∧p.Rank≤100
theorem GL {m:Map}{i:Nat}{z:Zone}(h:zoneE m i z=none):ZoneOK m z:=by
  unfold zoneE at h
  split at h
  ·cases h
  ·rename_i h1
   split at h
   ·cases h
   ·rename_i h2
    split at h
    ·cases h
    ·rename_i h3
     split at h
     ·cases h
     ·rename_i h4
      split at h
      ·cases h
      ·rename_i h5
       refine ⟨by omega,by omega,by omega,by simpa using h4,fun p hp=> ?_⟩
       have:=List.any_eq_false.1 (bK.2 h5) p hp
       simp only [Sw,bH,bB,not_or,Int.not_lt,Int.not_le,ge_iff_le,gt_iff_lt]at this
       omega
theorem ValR.zoneOK {m:Map}(V:ValR m){z:Zone}(hz:z∈m.Zones):ZoneOK m z:=by
  obtain ⟨i,hi,rfl⟩:=List.mem_iff_getElem.1 hz
  have:=firstE_none.1 V.zoneE i _ (lG hi)
  exact GL this
theorem ZoneOK.lane {m:Map}{z:Zone}(O:ZoneOK m z){p:Part}(hp:p∈z.Parts):0≤p.Lane_∧p.Lane_<m.Lanes.length:=Hd O.rise p.Lane_ (List.mem_map.2 ⟨p,hp,rfl⟩)
theorem NY:Ek=some true:=law03_awake_le _ (by decide+kernel)
noncomputable def RO (p q:Spot):Int:=rt (S9 (U6 p q) (U6 p q))
theorem Good.inv {last:Option CurveVector}{p q:Spot}{r:List Spot}(h:Good last (p::q::r)):RO p q*RO p q=S9 (U6 p q) (U6 p q)∧1000≤RO p q∧RO p q≤1048576∧(∀u,last=some u→0<S9 u (U6 p q))∧Good (some (U6 p q)) (q::r):=by
  cases h with|cons _ _ _ _ h1 h2 h3 h4 h=>exact ⟨h1,h2,h3,h4,h⟩
def VI (c:CurveCorridor):Ref01Stripe:=⟨c.piece.p,vs c.piece.v,c.piece.l,c.half,c.ends.1,c.ends.2⟩
theorem Gq (n:Int){m:Int}(hm:0<m):0≤n % m∧n % m<m:=⟨Int.emod_nonneg n (by omega),Int.emod_lt_of_pos n hm⟩
theorem JV {n m:Int}(hm:0<m):n % m=if n.tmod m<0 then n.tmod m+m else n.tmod m:=by
  have a:=Int.emod_nonneg n (show m≠0 by omega)
  have b:=Int.emod_lt_of_pos n hm
  rw [Int.tmod_eq_emod]
  by_cases q:0≤n∨m ∣ n
  ·rw [bE q,bF (by omega)];omega
  ·rw [bF q]
   have:n % m≠0:=fun e=>q (.inr (Int.dvd_of_emod_eq_zero e))
   rw [bE (by omega)];omega
theorem Xn {n m:Int}(hm:0<m)(hm2:m≤9223372036854775807):Pv n m=some (n % m):=by
  have h1:=JV (n:=n) hm
  have a:=Gq n hm
  unfold Pv MR
  rw [bF (by omega),lA]
  by_cases q:n.tmod m<0
  ·rw [bE q]at h1
   rw [l9 q,bC,W9 (by omega),← h1]
  ·rw [bF q]at h1
   rw [bA q,bD,← h1]
def BC (kind lim:Int)(next:List Int)(a b c d:Int):Lane:=⟨kind,⟨[⟨a,b⟩,⟨c,d⟩]⟩,if kind=3 then 500 else 1500,lim,next⟩
theorem RP (kind lim:Int)(next:List Int)(a b c d:Int):Q4 kind lim next [a,b,c,d]=some (BC kind lim next a b c d):=by
  unfold Q4 BC
  rw [Bf (s':=(2,⟨kind,⟨[⟨a,b⟩]⟩,1500,lim,next⟩)) rfl,Bf (s':=(4,⟨kind,⟨[⟨a,b⟩,⟨c,d⟩]⟩,1500,lim,next⟩)) rfl,M1 (t:=⟨kind,⟨[⟨a,b⟩,⟨c,d⟩]⟩,1500,lim,next⟩) rfl,lA]
  by_cases h:kind=3
  ·rw [bE h,h];rfl
  ·rw [bF h,show (kind==3)=false by simpa using h];rfl
def VY (off a b:Int):Signal:=⟨off,[⟨12,[a]⟩,⟨5,[]⟩,⟨9,[b]⟩,⟨4,[]⟩]⟩
/-- The numbers of which a map of the kit is made. -/
structure Par where
  lim:Int
  r:Int
  o:Int
  o':Int
  ver:Int
  wk:List Work
structure ParOK (p:Par):Prop where
  lim:p.lim=1500∨p.lim=600∨p.lim=1000∨p.lim=300
  r:p.r=0∨p.r=1
  o:0≤p.o∧p.o<31
  o':0≤p.o'∧p.o'<31
  ver:0≤p.ver∧p.ver<5
  wk:p.wk= []∨∃b l,0≤b∧b<40∧0≤l∧l≤400∧p.wk= [⟨0,10000,15000,b,b+20,l⟩]
def Fr (k:Nat)(lim:Int):List Lane:=match k with
  |0=> [BC 1 lim [] 0 0 60000 0]
  |1|2=> [BC 1 lim [] 0 0 50000 0,BC 1 1500 [] 30000 (-20000) 30000 20000]
  |3=> [BC 1 lim [1,2] 0 0 30000 0,BC 1 1500 [] 30000 0 60000 0,BC 1 800 [] 30000 0 54000 10000]
  |4=> [BC 1 lim [2] 0 0 30000 0,BC 1 1500 [2] 6000 (-10000) 30000 0,BC 1 1500 [] 30000 0 60000 0]
  |5=> [BC 1 lim [1] 0 0 20000 0,BC 1 lim [] 20000 0 50000 0,BC 3 200 [] 35000 (-8000) 35000 8000]
  |_=> [BC 1 lim [1,2] 0 0 20000 0,BC 1 1500 [] 20000 0 50000 0,BC 1 1000 [] 20000 0 44000 10000,BC 2 700 [] 36000 (-12000) 36000 18000]
def Rl (k:Nat)(r:Int):List Zone:=match k with
  |1=> [⟨[⟨0,28000,32000,r⟩,⟨1,18000,22000,2 - 2*r⟩],0⟩]
  |2=> [⟨[⟨0,28000,32000,r⟩,⟨1,18000,22000,2 - 2*r⟩],1⟩]
  |4=> [⟨[⟨0,25000,30000,1⟩,⟨1,20000,26000,0⟩,⟨2,0,5000,0⟩],0⟩]
  |5=> [⟨[⟨1,14000,16000,0⟩,⟨2,6000,10000,3⟩],0⟩]
  |6=> [⟨[⟨1,14000,18000,1⟩,⟨3,10000,14000,0⟩],0⟩,⟨[⟨2,14000,21000,1⟩,⟨3,14500,23000,0⟩],0⟩]
  |7=> [⟨[⟨1,14000,18000,1⟩,⟨3,10000,14000,0⟩],1⟩,⟨[⟨2,14000,21000,1⟩,⟨3,14500,23000,0⟩],2⟩]
  |_=> []
def Mw (k:Nat)(o o':Int):List Signal:=match k with
  |2=> [VY o 0 1]
  |7=> [VY o 1 3,VY o' 2 3]
  |_=> []
def Sx (k:Nat)(p:Par):Map:=⟨p.ver,Fr k p.lim,Rl k p.r,Mw k p.o p.o',p.wk⟩
theorem GM (n:Int): ∃k p,k<8∧ParOK p∧Sl n=some (Sx k p):=by
  obtain ⟨h0,h1⟩:=Gq n (show (0:Int)<16777216 by decide)
  unfold Sl
  rw [Xn (by decide) (by decide),lA]
  generalize n % 16777216=v at h0 h1
  have t: ∀m:Int,0<m→v.tdiv m=v / m:=fun m hm=>by rw [Int.tdiv_eq_ediv_of_nonneg h0]
  have u: ∀x m:Int,0≤x→x.tmod m=x % m:=fun x m hx=>by rw [Int.tmod_eq_emod_of_nonneg hx]
  have d: ∀m:Int,0<m→0≤v / m∧v / m<16777216:=fun m hm=>⟨Int.ediv_nonneg h0 (by omega),Int.lt_of_le_of_lt (Int.ediv_le_self m h0) h1⟩
  have W: ∀m:Int,0<m→I4 (v / m)=v / m:=fun m hm=>W9 (by have:=d m hm;omega)
  rw [t 7 (by decide),t 28 (by decide),t 56 (by decide),t 1736 (by decide),t 5208 (by decide),t 208320 (by decide)]
  rw [W 7 (by decide),W 28 (by decide),W 56 (by decide),W 1736 (by decide),W 5208 (by decide),W 208320 (by decide)]
  rw [u (v / 7) _ (d 7 (by decide)).1,u (v / 28) 2 (d 28 (by decide)).1,u (v / 28) 31 (d 28 (by decide)).1,u (v / 56) 31 (d 56 (by decide)).1,u (v / 56) 17 (d 56 (by decide)).1,u (v / 1736) _ (d 1736 (by decide)).1,u (v / 5208) _ (d 5208 (by decide)).1,u (v / 208320) _ (d 208320 (by decide)).1,u v _ h0,u (v / 28) 5 (d 28 (by decide)).1]
  have b1:=Gq (v / 7) (show (0:Int)<4 by decide)
  have b2:=Gq (v / 28) (show (0:Int)<2 by decide)
  have b3:=Gq (v / 28) (show (0:Int)<31 by decide)
  have b4:=Gq (v / 56) (show (0:Int)<31 by decide)
  have b5:=Gq (v / 56) (show (0:Int)<17 by decide)
  have b6:=Gq (v / 5208) (show (0:Int)<40 by decide)
  have b7:=Gq (v / 208320) (show (0:Int)<3 by decide)
  have b8:=Gq v (show (0:Int)<7 by decide)
  have b9:=Gq (v / 28) (show (0:Int)<5 by decide)
  generalize v / 7 % 4=q1 at b1
  generalize v / 28 % 2=q2 at b2
  generalize v / 28 % 31=q3 at b3
  generalize v / 56 % 31=q4 at b4
  generalize v / 56 % 17=q5 at b5
  generalize v / 5208 % 40=q6 at b6
  generalize v / 208320 % 3=q7 at b7
  generalize v % 7=q8 at b8
  generalize v / 28 % 5=q9 at b9
  have e1: ∃lim:Int,F6 ([1500,600,1000,300]:List Int) q1=some lim∧(lim=1500∨lim=600∨lim=1000∨lim=300):=by
    rcases (show q1=0∨q1=1∨q1=2∨q1=3 by omega)with rfl|rfl|rfl|rfl
    ·exact ⟨1500,rfl,by decide⟩
    ·exact ⟨600,rfl,by decide⟩
    ·exact ⟨1000,rfl,by decide⟩
    ·exact ⟨300,rfl,by decide⟩
  obtain ⟨lim,e1,hlim⟩:=e1
  rw [e1,lA]
  have ew: ∀(L:List Lane) (Z:List Zone) (S:List Signal),∃wk,(wk= []∨∃b l,0≤b∧b<40∧0≤l∧l≤400∧wk= [⟨0,10000,15000,b,b+20,l⟩])∧
   (cond (v / 1736 % 3==1) (some (Map.mk q9 L Z S [(Work.mk 0 10000 15000 q6 (I4 (q6+20)) (I4 (q7*200)))])) (some (Map.mk q9 L Z S [])))=some ⟨q9,L,Z,S,wk⟩:=by
    intro L Z S
    cases v / 1736 % 3==1
    ·exact ⟨[], .inl rfl,rfl⟩
    ·exact ⟨[⟨0,10000,15000,q6,q6+20,q7*200⟩], .inr ⟨q6,q7*200,by omega,by omega,by omega,by omega,rfl⟩,by rw [W9 (by omega),W9 (by omega)];rfl⟩
  have er:I4 (2 - I4 (2*q2))=2 - 2*q2:=by rw [W9 (n:=2*q2) (by omega),W9 (by omega)]
  rw [er]
  simp only [RP,lA]
  have fin: ∀(k:Nat) (o o':Int) (L:List Lane) (Z:List Zone) (S:List Signal),k<8→0≤o∧o<31→0≤o'∧o'<31→L=Fr k lim→Z=Rl k q2→S=Mw k o o'→∃k p,k<8∧ParOK p∧(cond (v / 1736 % 3==1) (some (Map.mk q9 L Z S [(Work.mk 0 10000 15000 q6 (I4 (q6+20)) (I4 (q7*200)))])) (some (Map.mk q9 L Z S [])))=some (Sx k p):=by
    intro k o o' L Z S hk h1 h2 e1 e2 e3
    obtain ⟨wk,w1,w2⟩:=ew L Z S
    subst e1 e2 e3
    exact ⟨k,⟨lim,q2,o,o',q9,wk⟩,hk,⟨hlim,by dsimp only;omega,h1,h2,b9,w1⟩,w2⟩
  rcases (show q8=0∨q8=1∨q8=2∨q8=3∨q8=4∨q8=5∨q8=6 by omega)with rfl|rfl|rfl|rfl|rfl|rfl|rfl
  ·exact fin 0 0 0 _ _ _ (by decide) (by decide) (by decide) rfl rfl rfl
  ·exact fin 1 0 0 _ _ _ (by decide) (by decide) (by decide) rfl rfl rfl
  ·exact fin 2 q3 0 _ _ _ (by decide) b3 (by decide) rfl rfl rfl
  ·exact fin 3 0 0 _ _ _ (by decide) (by decide) (by decide) rfl rfl rfl
  ·exact fin 4 0 0 _ _ _ (by decide) (by decide) (by decide) rfl rfl rfl
  ·exact fin 5 0 0 _ _ _ (by decide) (by decide) (by decide) rfl rfl rfl
  ·rcases (show q2=0∨q2=1 by omega)with rfl|rfl
   ·exact fin 6 0 0 _ _ _ (by decide) (by decide) (by decide) rfl rfl rfl
   ·exact fin 7 q4 q5 _ _ _ (by decide) b4 (by omega) rfl rfl rfl
theorem JW:((List.range 8).all fun k=>([1500,600,1000,300]:List Int).all fun lim=>([0,1]:List Int).all fun r=>(@R6 By) (Sx k ⟨lim,r,0,0,0,[]⟩)==some 0)=true:=by decide+kernel
theorem DZ (k:Nat)(lim:Int):(Fr k lim).length≤4∧∀l∈Fr k lim,l.Curve_.Pts.length=2∧l.Next.length≤2:=by
  unfold Fr
  split<;>simp [BC]
theorem EA (k:Nat)(r:Int):(Rl k r).length≤2∧∀z∈Rl k r,z.Parts.length≤3:=by
  unfold Rl
  split<;>simp
theorem GN (k:Nat)(o o':Int):(Mw k o o').length≤2∧∀s∈Mw k o o',s.Phases.length=4∧∀p∈s.Phases,p.Green.length≤1:=by
  unfold Mw
  split<;>simp [VY]
theorem HY {m:Map}{k:Nat}{lim r o o':Int}(h1:m.Lanes=Fr k lim)(h2:m.Zones=Rl k r)(h3:m.Signals=Mw k o o')(h4:m.Works.length≤1):BearM m:=by
  obtain ⟨a1,a2⟩:=DZ k lim
  obtain ⟨b1,b2⟩:=EA k r
  obtain ⟨c1,c2⟩:=GN k o o'
  refine ⟨⟨by rw [h1];omega,fun l hl=> ?_⟩,⟨by rw [h3];omega,fun s hs=>⟨?_,fun p hp=> ?_⟩⟩,⟨by rw [h2];omega,fun z hz=> ?_⟩,⟨by omega⟩⟩
  ·rw [h1]at hl;have:=a2 l hl;omega
  ·rw [h3]at hs;have:=(c2 s hs).1;omega
  ·rw [h3]at hs;have:=(c2 s hs).2 p hp;omega
  ·rw [h2]at hz;have:=b2 z hz;omega
theorem ParOK.wk1 {p:Par}(h:ParOK p):p.wk.length≤1:=by
  rcases h.wk with e|⟨b,l,_,_,_,_,e⟩<;>rw [e]<;>simp
theorem NZ {k:Nat}{p:Par}(h:ParOK p):BearM (Sx k p):=HY rfl rfl rfl h.wk1
theorem XA {k:Nat}{p:Par}(hk:k<8)(h:ParOK p):ValR (Sx k ⟨p.lim,p.r,0,0,0,[]⟩):=by
  have h1:=lX.1 JW k (List.mem_range.2 hk)
  have h2:=lX.1 h1 p.lim (by have:=h.lim;simp;omega)
  have h3:=lX.1 h2 p.r (by have:=h.r;simp;omega)
  have h4:=roads_Check_le _ _ (eq_of_beq h3)
  have h5:=Ky (m:=Sx k ⟨p.lim,p.r,0,0,0,[]⟩) (HY rfl rfl rfl (bS 1))
  rw [h4]at h5
  exact chkR_zero.1 (lC h5).symm
/-- Another version, other offsets, other works. -/
theorem ValR.change {L:List Lane}{Z:List Zone}{S S':List Signal}{W W':List Work}{v v':Int}(V:ValR ⟨v,L,Z,S,W⟩)(hv:0≤v'∧v'≤1099511627776)(hl:S'.length=S.length)(hs: ∀s∈S',Roadsz.signalE ⟨v,L,Z,S,W⟩ 0 s=none)(hw:W'.length≤8)(hw': ∀w∈W',Roadsz.workE ⟨v,L,Z,S,W⟩ 0 w=none):ValR ⟨v',L,Z,S',W'⟩:=by
  refine ⟨hv,V.pos,V.lanes,V.zones,by show S'.length≤4;rw [hl];exact V.signals,hw,V.laneE,V.nextE,?_,?_,?_⟩
  ·rw [firstE_none]
   intro j a ha
   exact hs a (lF ha)
  ·have:=V.zoneE
   rw [firstE_none]at this ⊢
   intro j a ha
   have:=this j a ha
   unfold Roadsz.zoneE at this ⊢
   dsimp only at this ⊢
   rw [hl]
   exact this
  ·rw [firstE_none]
   intro j a ha
   exact hw' a (lF ha)
theorem JX (k:Nat)(o o' a a':Int):(Mw k o o').length=(Mw k a a').length:=by unfold Mw;split<;>rfl
theorem OA {k:Nat}{o o':Int}(h:0≤o∧o<31)(h':0≤o'∧o'<31){m:Map}(hm:m.Lanes.length=(Fr k 0).length): ∀s∈Mw k o o',signalE m 0 s=none:=by
  have key: ∀(off a b:Int),0≤off∧off<31→0≤a∧a<m.Lanes.length→0≤b∧b<m.Lanes.length→signalE m 0 (VY off a b)=none:=by
    intro off a b h1 h2 h3
    unfold signalE VY
    simp only [lJ,lL]
    rw [bF (by decide),bF (by decide),bF (by simp [Tw];omega),bF (by simp [Tw]),bF]
    simp only [List.any_cons,List.any_nil,Fl,Bool.and_true,Bool.or_false,bI,Bool.false_or,bH,Bool.not_eq_true',not_or,bL,bG,bB]
    omega
  intro s hs
  unfold Mw at hs
  split at hs
  ·rw [show (Fr 2 0).length=2 from rfl]at hm
   simp only [l8]at hs
   subst hs
   exact key _ _ _ h (by omega) (by omega)
  ·rw [show (Fr 7 0).length=4 from rfl]at hm
   simp only [lS,List.not_mem_nil,or_false]at hs
   rcases hs with rfl|rfl
   ·exact key _ _ _ h (by omega) (by omega)
   ·exact key _ _ _ h' (by omega) (by omega)
  ·cases hs
theorem GO (k:Nat)(lim:Int):(Fr k lim).length=(Fr k 0).length:=by unfold Fr;split<;>rfl
theorem Px (c:Int)(h:(@Ak By) ⟨[⟨0,0⟩,⟨c,0⟩]⟩=some c):Ju ⟨[⟨0,0⟩,⟨c,0⟩]⟩=c:=by
  have h1:=curve_Length_le _ _ h
  rw [Oc _ (by simp)]at h1
  exact lC h1
/-- The first lane of a map of the kit: a road, long enough. -/
theorem Um (k:Nat)(lim:Int): ∃l,(Fr k lim)[0]? =some l∧l.Kind=1∧l.Limit=lim∧20000≤Ju l.Curve_∧Ju l.Curve_≤60000:=by
  have e6:=Px 60000 (by decide+kernel)
  have e5:=Px 50000 (by decide+kernel)
  have e3:=Px 30000 (by decide+kernel)
  have e2:=Px 20000 (by decide+kernel)
  unfold Fr
  split
  ·exact ⟨_,rfl,rfl,rfl,by show 20000≤Ju ⟨[⟨0,0⟩,⟨60000,0⟩]⟩∧Ju ⟨[⟨0,0⟩,⟨60000,0⟩]⟩≤60000;rw [e6];decide⟩
  ·exact ⟨_,rfl,rfl,rfl,by show 20000≤Ju ⟨[⟨0,0⟩,⟨50000,0⟩]⟩∧Ju ⟨[⟨0,0⟩,⟨50000,0⟩]⟩≤60000;rw [e5];decide⟩
  ·exact ⟨_,rfl,rfl,rfl,by show 20000≤Ju ⟨[⟨0,0⟩,⟨50000,0⟩]⟩∧Ju ⟨[⟨0,0⟩,⟨50000,0⟩]⟩≤60000;rw [e5];decide⟩
  ·exact ⟨_,rfl,rfl,rfl,by show 20000≤Ju ⟨[⟨0,0⟩,⟨30000,0⟩]⟩∧Ju ⟨[⟨0,0⟩,⟨30000,0⟩]⟩≤60000;rw [e3];decide⟩
  ·exact ⟨_,rfl,rfl,rfl,by show 20000≤Ju ⟨[⟨0,0⟩,⟨30000,0⟩]⟩∧Ju ⟨[⟨0,0⟩,⟨30000,0⟩]⟩≤60000;rw [e3];decide⟩
  ·exact ⟨_,rfl,rfl,rfl,by show 20000≤Ju ⟨[⟨0,0⟩,⟨20000,0⟩]⟩∧Ju ⟨[⟨0,0⟩,⟨20000,0⟩]⟩≤60000;rw [e2];decide⟩
  ·exact ⟨_,rfl,rfl,rfl,by show 20000≤Ju ⟨[⟨0,0⟩,⟨20000,0⟩]⟩∧Ju ⟨[⟨0,0⟩,⟨20000,0⟩]⟩≤60000;rw [e2];decide⟩
theorem XB {m:Map}{l:Lane}(hl:m.Lanes[0]? =some l)(hk:l.Kind=1){w:Work}(h:w.Lane_=0∧0≤w.From∧w.From≤w.To∧w.To≤Ju l.Curve_∧0≤w.Begin∧w.Begin<w.End∧w.End≤1099511627776∧0≤w.Limit∧w.Limit≤2000):workE m 0 w=none:=by
  obtain ⟨h1,h2,h3,h4,h5,h6,h7,h8,h9⟩:=h
  have hlen:=I9 hl
  unfold workE Bh
  rw [h1,show ((0:Int).toNat)=0 from rfl,hl,bF (by omega),bF]
  simp only [lE,Option.getD_some,Option.get!_some,hk,Tw,Pl,if_true,bH,bB,Bool.not_eq_true',not_or,bL,bG]
  omega
/-- A map of the kit is valid, with such works. -/
theorem OB {k:Nat}{p:Par}(hk:k<8)(h:ParOK p){W:List Work}(hw:W.length≤8)(hW: ∀w∈W,w.Lane_=0∧0≤w.From∧w.From≤w.To∧w.To≤Bh (Sx k p) 0∧0≤w.Begin∧w.Begin<w.End∧w.End≤1099511627776∧0≤w.Limit∧w.Limit≤2000):ValR ⟨p.ver,Fr k p.lim,Rl k p.r,Mw k p.o p.o',W⟩:=by
  have V:=XA hk h
  obtain ⟨l,l1,l2,l3,l4,l5⟩:=Um k p.lim
  have hv:=h.ver
  refine ValR.change (v:=0) (S:=Mw k 0 0) (W:= []) V (by omega) (JX k _ _ _ _) (fun s hs=>OA h.o h.o' (by exact GO k p.lim) s hs) hw (fun w hwm=> ?_)
  obtain ⟨a1,a2,a3,a4,a5,a6,a7,a8,a9⟩:=hW w hwm
  refine XB (l:=l) l1 l2 ⟨a1,a2,a3,?_,a5,a6,a7,a8,a9⟩
  have:Bh (Sx k p) 0=Ju l.Curve_:=by
    unfold Bh Sx
    dsimp only
    rw [show ((0:Int).toNat)=0 from rfl,l1];rfl
  omega
theorem JY (k:Nat)(p:Par):20000≤Bh (Sx k p) 0∧Bh (Sx k p) 0≤60000:=by
  obtain ⟨l,l1,l2,l3,l4,l5⟩:=Um k p.lim
  unfold Bh Sx
  dsimp only
  rw [show ((0:Int).toNat)=0 from rfl,l1]
  exact ⟨l4,l5⟩
theorem RQ {k:Nat}{p:Par}(hk:k<8)(h:ParOK p):ValR (Sx k p):=by
  have hl:=JY k p
  refine OB hk h (Nat.le_trans h.wk1 (by decide)) (fun w hw=> ?_)
  rcases h.wk with e|⟨b,l,h1,h2,h3,h4,e⟩
  ·rw [e]at hw;cases hw
  ·rw [e]at hw
   simp only [l8]at hw
   subst hw
   dsimp only
   omega
/-! ### Limits -/
theorem ValR.work {m:Map}(V:ValR m){w:Work}(hw:w∈m.Works):0≤w.Lane_∧w.Lane_<m.Lanes.length∧0≤w.From∧w.From≤w.To∧w.To≤Bh m w.Lane_∧0≤w.Begin∧w.Begin<w.End∧w.End≤1099511627776:=by
  obtain ⟨i,hi,rfl⟩:=List.mem_iff_getElem.1 hw
  have:=firstE_none.1 V.workE i _ (lG hi)
  unfold Roadsz.workE at this
  split at this
  ·cases this
  ·rename_i h1
   split at this
   ·cases this
   ·rename_i h2
    simp only [bH,bB,not_or,Bool.not_eq_true',bL]at h2
    omega
end Go.Abs.Roadsz
namespace Go.Abs
end Go.Abs
namespace Go.Abs.Roadsz
open Go Go.Abs
/-! ### How long lanes are -/
theorem OD: ∀(l:List Int) (s:Int),(∀x∈l,0≤x∧x≤1048576)→0≤s→s+1048576*l.length≤9000000000000000000→s≤Xh s l∧Xh s l≤s+1048576*l.length
  | [],s,_,_,_=>by simp [Xh]
  |a::r,s,h,h0,h1=>by
   have ha:=h a (by simp)
   simp only [lJ]at h1 ⊢
   rw [Xh,W9 (by omega)]
   have:=OD r (s+a) (fun x hx=>h x (by simp [hx])) (by omega) (by omega)
   omega
theorem OE: ∀{l:List Spot} {last:Option CurveVector},Good last l→∀x∈Tv l,1000≤x∧x≤1048576:=by
  intro l last h
  induction h with
  |one last p=>intro x hx;simp [Tv]at hx
  |cons last p q r h1 h2 h3 h4 h ih=>
   intro x hx
   rw [Pw,lS]at hx
   rcases hx with rfl|hx
   ·exact ⟨h2,h3⟩
   ·exact ih x hx
theorem RR {c:Curve}(h:El c.Pts=0):1000≤Ju c∧Ju c≤16777216:=by
  have V:=checkM_zero.1 h
  unfold Ju Ls
  rw [bE h]
  have h16:=V.most
  have h2:=V.two
  have hm:=OE V.good
  cases hp:c.Pts with
  |nil=>rw [hp]at h2;simp at h2
  |cons p r=>
   rw [hp]at hm h16 h2
   cases r with
   |nil=>simp at h2
   |cons q r=>
    simp only [lJ]at h16
    rw [Pw]at hm ⊢
    have ha:=hm _ (List.mem_cons_self)
    have hl:=Lr r q
    rw [Xh,W9 (by omega),Int.zero_add]
    have:=OD (Tv (q::r)) (rt (S9 (U6 p q) (U6 p q))) (fun x hx=>by have:=hm x (List.mem_cons_of_mem _ hx);omega) (by omega) (by rw [hl];omega)
    rw [hl]at this
    omega
theorem ValR.long {m:Map}(V:ValR m){k:Int}(h0:0≤k)(h1:k<m.Lanes.length):1000≤Bh m k∧Bh m k≤16777216:=by
  obtain ⟨l,e1,e2⟩:=Vi h0 h1
  unfold Bh
  rw [e1]
  exact RR (V.laneOK e1).curve
/-! ### Routes -/
end Go.Abs.Roadsz
namespace Go.Abs
open Go
section
variable {α β σ τ:Type}
end
end Go.Abs
namespace Go.Abs.Roadsz
open Go Go.Abs
end Go.Abs.Roadsz
namespace Go.Abs
open Go
end Go.Abs
namespace Go.Abs.Roadsz
open Go Go.Abs
noncomputable def eqB {α:Type}(a b:α):Bool:= @decide (a=b) (Classical.propDecidable _)
theorem eqB_iff {α:Type}{a b:α}:eqB a b=true↔a=b:= @decide_eq_true_iff (a=b) (Classical.propDecidable _)
theorem OF {α:Type}{a b:α}(h:a≠b):eqB a b=false:=by
  cases q:eqB a b
  ·rfl
  ·exact absurd (eqB_iff.1 q) h
theorem Vj {α:Type}: ∀(l l':List α),(!((l.zip l').any fun q=> !eqB q.1 q.2)&& (l.length==l'.length))=eqB l l'
  | [],[]=>by rw [Bool.eq_iff_iff];simp [eqB_iff]
  | [],b::r=>by rw [Bool.eq_iff_iff];simp [eqB_iff]
  |a::r,[]=>by rw [Bool.eq_iff_iff];simp [eqB_iff]
  |a::r,b::r'=>by
   have ih:=Bool.eq_iff_iff.1 (Vj r r')
   rw [eqB_iff]at ih
   rw [Bool.eq_iff_iff,eqB_iff,List.cons.injEq,← ih]
   simp [eqB_iff,and_assoc]
theorem BD {α β:Type}{l:List α}{l':List β}{i:Nat}{p:α×β}(h:(l.zip l')[i]? =some p):l[i]? =some p.1∧l'[i]? =some p.2:=List.getElem?_zip_eq_some.1 h
/-- Equal length first, then element by element. -/
theorem Nt {α:Type}(l l':List α)(F:Int→Option (Stp Int (Sum Unit Bool)))(hF: ∀(i:Nat) a b,l[i]? =some a→l'[i]? =some b→F (i:Int)=some (cond (!eqB a b) (.out (.inr false)) (.go ((i+1:Nat):Int))))(h0:F (l.length:Int)=some (.out (.inl ()))):
    cond ((l.length:Int) !=(l'.length:Int)) (some false) (thenS (loop F 0) (fun _=>some true) (fun r=>some r))=some (eqB l l'):=by
  by_cases q:l.length=l'.length
  ·rw [← q,show ((l.length:Int) !=(l.length:Int))=false by simp,bD,← Vj,← q]
   rw [HW (l.zip l') (fun q=> !eqB q.1 q.2) false (fun i p h=>by
    obtain ⟨h1,h2⟩:=BD h
    rw [hF i p.1 p.2 h1 h2];cases eqB p.1 p.2<;>rfl) (by rw [List.length_zip,← q,Nat.min_self];exact h0)]
   cases (l.zip l').any fun q=> !eqB q.1 q.2<;>simp [thenS]
  ·rw [show ((l.length:Int) !=(l'.length:Int))=true by rw [bne_iff_ne];omega,bC,OF (fun h=>q (by rw [h]))]
theorem BE {α:Type}(l l':List α)(F:Int→Option (Stp Int (Sum Unit Bool)))(hF: ∀(i:Nat) a b,l[i]? =some a→l'[i]? =some b→F (i:Int)=some (cond (!eqB a b) (.out (.inr false)) (.go ((i+1:Nat):Int))))(h0:F (min l.length l'.length:Nat)=some (.out (.inl ())))(G:Unit→Option Bool)(c:Bool)(hG:G ()=some (c&& (l.length==l'.length))):
    thenS (loop F 0) G (fun r=>some r)=some (c&&eqB l l'):=by
  rw [← Vj]
  rw [HW (l.zip l') (fun q=> !eqB q.1 q.2) false (fun i p h=>by
      obtain ⟨h1,h2⟩:=BD h
      rw [hF i p.1 p.2 h1 h2];cases eqB p.1 p.2<;>rfl) (by rw [List.length_zip];exact h0)]
  cases (l.zip l').any fun q=> !eqB q.1 q.2
  ·simp [thenS,hG]
  ·simp [thenS]
theorem TE (a b:Int):(a !=b)= !eqB a b:=by rw [Bool.eq_iff_iff];simp [← Bool.not_eq_true,eqB_iff]
theorem OG (a b:Spot):(a.X==b.X&& (a.Y==b.Y&&true))=eqB a b:=by
  cases a;cases b;rw [Bool.eq_iff_iff,eqB_iff];simp
theorem OH (a b:Part):(a.Lane_==b.Lane_&& (a.From==b.From&& (a.To==b.To&& (a.Rank==b.Rank&&true))))=eqB a b:=by
  cases a;cases b;rw [Bool.eq_iff_iff,eqB_iff];simp
theorem OI (a b:Work):(a.Lane_==b.Lane_&& (a.From==b.From&& (a.To==b.To&& (a.Begin==b.Begin&& (a.End==b.End&& (a.Limit==b.Limit&&true))))))=eqB a b:=by
  cases a;cases b;rw [Bool.eq_iff_iff,eqB_iff];simp
theorem HZ (a b:Phase):((a.Ticks==b.Ticks)&&eqB a.Green b.Green)=eqB a b:=by
  cases a;cases b;rw [Bool.eq_iff_iff,eqB_iff];simp [eqB_iff]
theorem EB (a b:Signal):((a.Offset==b.Offset)&&eqB a.Phases b.Phases)=eqB a b:=by
  cases a;cases b;rw [Bool.eq_iff_iff,eqB_iff];simp [eqB_iff]
theorem OJ (a b:Zone):((a.Signal_==b.Signal_)&&eqB a.Parts b.Parts)=eqB a b:=by
  cases a;cases b;rw [Bool.eq_iff_iff,eqB_iff];simp [eqB_iff,and_comm]
theorem IA (a b:Curve):eqB a.Pts b.Pts=eqB a b:=by
  cases a;cases b;rw [Bool.eq_iff_iff,eqB_iff];simp [eqB_iff]
theorem OK (a b:Lane):(((((a.Kind==b.Kind)&& (a.Half==b.Half))&& (a.Limit==b.Limit))&&eqB a.Curve_ b.Curve_)&&eqB a.Next b.Next)=eqB a b:=by
  cases a;cases b;rw [Bool.eq_iff_iff,eqB_iff];simp [eqB_iff]
  constructor
  ·rintro ⟨⟨⟨⟨h1,h2⟩,h3⟩,h4⟩,h5⟩;exact ⟨h1,h4,h2,h3,h5⟩
  ·rintro ⟨h1,h4,h2,h3,h5⟩;exact ⟨⟨⟨⟨h1,h2⟩,h3⟩,h4⟩,h5⟩
theorem VJ {l l':List Spot}(h:l.length≤1000000):Al l l'=some (eqB l l'):=
  Nt l l' _ (fun i a b ha hb=>by
   unfold S6
   rw [Ac (I9 ha),bC,F2 ha,F2 hb,lA,lA,OG,O2 (I9 ha) (by omega)]
   cases eqB a b<;>rfl) (by unfold S6;rw [U7];rfl)
theorem TF {l l':List Int}(h:l.length≤1000000):Y4 l l'=some (eqB l l'):=
  Nt l l' _ (fun i a b ha hb=>by
   unfold U1
   rw [Ac (I9 ha),bC,F2 ha,F2 hb,lA,lA,TE,O2 (I9 ha) (by omega)]
   cases eqB a b<;>rfl) (by unfold U1;rw [U7];rfl)
theorem VK {l l':List Part}(h:l.length≤1000000):Am l l'=some (eqB l l'):=
  Nt l l' _ (fun i a b ha hb=>by
   unfold S7
   rw [Ac (I9 ha),bC,F2 ha,F2 hb,lA,lA,OH,O2 (I9 ha) (by omega)]
   cases eqB a b<;>rfl) (by unfold S7;rw [U7];rfl)
theorem EC {a b:Lane}(h1:a.Curve_.Pts.length≤1000000)(h2:a.Next.length≤1000000):Eg a b=some (eqB a b):=by
  unfold Eg Np
  rw [VJ h1,TF h2,IA,← OK a b]
  cases ((a.Kind==b.Kind)&& (a.Half==b.Half))&& (a.Limit==b.Limit)
  ·rfl
  ·cases eqB a.Curve_ b.Curve_<;>rfl
theorem ED {a b:Zone}(h:a.Parts.length≤1000000):Eh a b=some (eqB a b):=by
  unfold Eh
  rw [VK h,← OJ a b]
  cases a.Signal_==b.Signal_<;>rfl
theorem BF {a b:Phase}(h:a.Green.length≤1000000):Bb a b=some (eqB a b):=by
  unfold Bb
  rw [TF h,← HZ a b]
  cases a.Ticks==b.Ticks<;>rfl
theorem Yn {a b:Signal}(h:a.Phases.length≤1000000)(hg: ∀p∈a.Phases,p.Green.length≤1000000):Cx a b=some (eqB a b):=by
  unfold Cx
  have e:H9 a.Phases b.Phases=some (eqB a.Phases b.Phases):=
    Nt _ _ _ (fun i x y ha hb=>by
     unfold E9
     rw [Ac (I9 ha),bC,F2 ha,F2 hb,lA,lA,BF (hg x (lF ha)),lA,O2 (I9 ha) (by omega)]
     cases eqB x y<;>rfl) (by unfold E9;rw [U7];rfl)
  rw [e,← EB a b]
  cases a.Offset==b.Offset<;>rfl
theorem XC {i a b:Nat}(h1:i<a)(h2:i<b):((decide ((i:Int)< (a:Int)))&& (decide ((i:Int)< (b:Int))))=true:=by
  rw [l9 (by omega),l9 (by omega)];rfl
theorem VL (a b:Nat):((decide (((min a b:Nat):Int)< (a:Int)))&& (decide (((min a b:Nat):Int)< (b:Int))))=false:=by
  rcases Nat.le_total a b with h|h
  ·rw [Nat.min_eq_left h,bA (by omega)];rfl
  ·rw [Nat.min_eq_right h,bA (p:=(b:Int)< (b:Int)) (by omega),Bool.and_false]
theorem BG (a b:Nat):((a:Int)==(b:Int))=(a==b):=by rw [Bool.eq_iff_iff,bM,bM];omega
theorem EE {l l':List Int}(h:l.length≤1000000):Ei l l'=some (eqB l l'):=by
  have:=BE l l' (Y8 l l') (fun i a b ha hb=>by
    unfold Y8
    rw [XC (I9 ha) (I9 hb),bC,F2 ha,F2 hb,lA,lA,TE,O2 (I9 ha) (by omega)]
    cases eqB a b<;>rfl) (by unfold Y8;rw [VL];rfl) (fun _=>some ((l.length:Int)==(l'.length:Int))) true (by rw [BG];rfl)
  rw [Bool.true_and]at this
  exact this
theorem JZ {a b:Curve}(h:a.Pts.length≤1000000):Nq a b=some (eqB a b):=by
  rw [← IA]
  exact Nt a.Pts b.Pts _ (fun i x y ha hb=>by
    unfold Fi
    rw [Ac (I9 ha),bC,F2 ha,F2 hb,lA,lA,OG,O2 (I9 ha) (by omega)]
    cases eqB x y<;>rfl) (by unfold Fi;rw [U7];rfl)
theorem OL {a b:Lane}(h1:a.Curve_.Pts.length≤1000000)(h2:a.Next.length≤1000000):Ej a b=some (eqB a b):=by
  unfold Ej
  rw [JZ h1,EE h2,← OK a b]
  cases ((a.Kind==b.Kind)&& (a.Half==b.Half))&& (a.Limit==b.Limit)
  ·rfl
  ·cases eqB a.Curve_ b.Curve_<;>rfl
theorem OM {a b:Zone}(h:a.Parts.length≤1000000):Gn a b=some (eqB a b):=by
  rw [← OJ]
  exact BE a.Parts b.Parts (Y9 a b) (fun i x y ha hb=>by
    unfold Y9
    rw [XC (I9 ha) (I9 hb),bC,F2 ha,F2 hb,lA,lA,OH,O2 (I9 ha) (by omega)]
    cases eqB x y<;>rfl) (by unfold Y9;rw [VL];rfl) _ _ (by rw [BG])
theorem GP {a b:Signal}(h:a.Phases.length≤1000000)(hg: ∀p∈a.Phases,p.Green.length≤1000000):Ew a b=some (eqB a b):=by
  rw [← EB]
  exact BE a.Phases b.Phases (W3 a b) (fun i x y ha hb=>by
    unfold W3
    rw [XC (I9 ha) (I9 hb),bC,F2 ha,F2 hb,lA,lA,← HZ,O2 (I9 ha) (by omega),show (x.Ticks !=y.Ticks)= !(x.Ticks==y.Ticks) from rfl]
    cases x.Ticks==y.Ticks
    ·rfl
    ·simp only [bI,bJ,bC,lA,EE (hg x (lF ha)),Bool.true_and,Bool.false_or]
     cases eqB x.Green y.Green<;>rfl) (by unfold W3;rw [VL];rfl) _ _ (by rw [BG])
/-! ### The edits of one table -/
section run
variable {α S τ:Type}(pk:Int→List Edit→S)(fin:List Edit→τ)(t:Int)(put:Edit→α→Edit)(a b:List α)(B:Nat)
end run
/-! ### Copies -/
def BH:Map:=Map.mk 0 [] [] [] []
/-! ### The kit's maps fit -/
section
variable {α:Type}{t:Int}{put:Edit→α→Edit}{A:List α→Map}
end
end Go.Abs.Roadsz
/-! Numbers as eight bytes, and back; strings as rows of bytes. -/
namespace Go.Abs
open Go
def Ka (L:List Int):Prop:= ∀b∈L,0≤b∧b<256
theorem Py:Ka []:=fun _ h=>by cases h
theorem Xo {b:Int}{L:List Int}:Ka (b::L)↔ (0≤b∧b<256)∧Ka L:=List.forall_mem_cons
theorem isB_append {L M:List Int}:Ka (L++M)↔Ka L∧Ka M:=List.forall_mem_append
theorem Xp {L:List Int}(h:Ka L)(n:Nat):Ka (L.drop n):=fun b hb=>h b (List.mem_of_mem_drop hb)
theorem Sy {L:List Int}(h:Ka L)(n:Nat):Ka (L.take n):=fun b hb=>h b (List.mem_of_mem_take hb)
/-- A byte of a number. -/
def R9 (n:Int)(k:Nat):Int:=n % 18446744073709551616 / 2^k % 256
def Xq (n:Int):List Int:= [R9 n 56,R9 n 48,R9 n 40,R9 n 32,R9 n 24,R9 n 16,R9 n 8,R9 n 0]
theorem BI (n:Int):(Xq n).length=8:=rfl
theorem ON (n:Int)(k:Nat):0≤R9 n k∧R9 n k<256:=by
  unfold R9
  omega
theorem IB (n:Int):Ka (Xq n):=by
  intro b hb
  simp only [Xq,lS,List.not_mem_nil,or_false]at hb
  rcases hb with h|h|h|h|h|h|h|h<;>rw [h]<;>exact ON _ _
def RS (L:List Int):Int:=L.foldl (fun a b=>a*256+b) 0
def VM (L:List Int):Int:=I4 (RS L)
theorem OO {L:List Int}(h:L.length=8): ∃a b c d e f g i,L= [a,b,c,d,e,f,g,i]:=by
  rcases L with _|⟨a,_|⟨b,_|⟨c,_|⟨d,_|⟨e,_|⟨f,_|⟨g,_|⟨i,_|⟨j,r⟩⟩⟩⟩⟩⟩⟩⟩⟩<;>simp at h
  exact ⟨a,b,c,d,e,f,g,i,rfl⟩
theorem VN {L:List Int}(h:L.length=8)(hb:Ka L):0≤RS L∧RS L<18446744073709551616:=by
  obtain ⟨a,b,c,d,e,f,g,i,rfl⟩:=OO h
  simp only [Xo]at hb
  obtain ⟨h1,h2,h3,h4,h5,h6,h7,h8,_⟩:=hb
  simp only [RS,List.foldl_cons,List.foldl_nil]
  omega
theorem EF (n:Int):I4 n % 18446744073709551616=n % 18446744073709551616:=by
  have h:I4 n=IntKind.wrap .i64 n:=rfl
  rw [h]
  unfold IntKind.wrap
  simp only [IntKind.bits,IntKind.signed,Bool.true_and,bB,show (2:Int)^64=18446744073709551616 from rfl]
  split<;>omega
theorem RU {L:List Int}(h:L.length=8)(hb:Ka L):Xq (RS L)=L:=by
  obtain ⟨a,b,c,d,e,f,g,i,rfl⟩:=OO h
  have hbd:=VN h hb
  simp only [Xo]at hb
  obtain ⟨h1,h2,h3,h4,h5,h6,h7,h8,_⟩:=hb
  unfold Xq R9
  rw [Int.emod_eq_of_lt hbd.1 hbd.2]
  simp only [RS,List.foldl_cons,List.foldl_nil]
  simp only [List.cons.injEq,and_true]
  refine ⟨?_,?_,?_,?_,?_,?_,?_,?_⟩<;>omega
theorem RW (n:Int):Xq (I4 n)=Xq n:=by unfold Xq R9;simp only [EF]
theorem RX {L:List Int}(h:L.length=8)(hb:Ka L):Xq (VM L)=L:=by rw [VM,RW,RU h hb]
theorem RY (n:Int):RS (Xq n)=n % 18446744073709551616:=by
  simp only [Xq,R9,RS,List.foldl_cons,List.foldl_nil]
  have h0:0≤n % 18446744073709551616∧n % 18446744073709551616<18446744073709551616:=by omega
  generalize n % 18446744073709551616=u at h0
  omega
theorem RZ {n:Int}(h:Ck n):VM (Xq n)=n:=by
  rw [VM,RY]
  have e:I4 (n % 18446744073709551616) % 18446744073709551616=n % 18446744073709551616:=by rw [EF];omega
  have:=Ze (n % 18446744073709551616)
  unfold Ck at h
  omega
theorem Zr (L:List Int):Ck (VM L):=Ze _
/-! ### Strings -/
theorem Y5 (L:List Int):(K5 L).size=L.length:=by unfold K5 ByteArray.size;simp
theorem Em (L:List Int):(K5 L).data.toList=L.map fun n=>UInt8.ofNat n.toNat:=by simp [K5]
theorem GQ (s:ByteArray):Ka (Z0 s):=by
  intro b hb
  unfold Z0 at hb
  obtain ⟨x,_,rfl⟩:=List.mem_map.1 hb
  have:=x.toNat_lt
  omega
theorem Hg {L:List Int}(h:Ka L):Z0 (K5 L)=L:=by
  unfold Z0
  rw [Em,List.map_map]
  conv=>rhs;rw [← List.map_id L]
  refine List.map_congr_left fun b hb=> ?_
  have:=h b hb
  simp only [Function.comp,UInt8.toNat_ofNat',id]
  omega
theorem Pz {a b:ByteArray}(h:a.data.toList=b.data.toList):a=b:=by
  cases a;cases b
  congr
  exact Array.toList_inj.1 h
theorem Yo (s:ByteArray):K5 (Z0 s)=s:=by
  refine Pz ?_
  rw [Em]
  unfold Z0
  rw [List.map_map]
  conv=>rhs;rw [← List.map_id s.data.toList]
  refine List.map_congr_left fun b _=> ?_
  simp [Function.comp]
theorem Yp (L M:List Int):K5 L++K5 M=K5 (L++M):=by
  refine Pz ?_
  rw [ByteArray.data_append,Array.toList_append,Em,Em,Em,List.map_append]
theorem Xr (L:List Int)(i j:Nat):(K5 L).extract i j=K5 ((L.take j).drop i):=by
  refine Pz ?_
  rw [ByteArray.data_extract,Array.toList_extract,Em,Em,List.extract_eq_take_drop,List.map_drop,List.map_take,List.drop_take]
theorem Rm {L M:List Int}(h1:Ka L)(h2:Ka M)(h:K5 L=K5 M):L=M:=by rw [← Hg h1,← Hg h2,h]
theorem OP {L M:List Int}(h:L.length+M.length≤1000000000):NN (K5 L) (K5 M)=some (K5 (L++M)):=by
  unfold NN
  rw [bE (by rw [Y5,Y5];exact h),Yp]
theorem Pn {L:List Int}{i j:Int}(h:0≤i∧i≤j∧j≤L.length):Ww (K5 L) i j=some (K5 ((L.take j.toNat).drop i.toNat)):=by
  unfold Ww
  rw [bE (by rw [Y5];exact h),Xr]
theorem toList_eq {L M:List Int}(h1:Ka L)(h2:Ka M):((K5 L).toList==(K5 M).toList)=(L==M):=by
  have e: ∀a b:ByteArray,(a.toList==b.toList)=(a.data.toList==b.data.toList):=fun a b=>by rw [ByteArray.toList_eq,ByteArray.toList_eq]
  rw [e,Bool.eq_iff_iff,bM,bM]
  constructor
  ·intro h;exact Rm h1 h2 (Pz h)
  ·rintro rfl;rfl
end Go.Abs
/-! Writing and reading numbers as eight bytes: the loops. -/
namespace Go.Abs
open Go
def Ad (ns:List Int):List Int:=ns.flatMap Xq
theorem Kz:Ad []= []:=rfl
theorem Da (n:Int)(r:List Int):Ad (n::r)=Xq n++Ad r:=rfl
theorem Y6 (a b:List Int):Ad (a++b)=Ad a++Ad b:=List.flatMap_append
theorem N3: ∀(ns:List Int),(Ad ns).length=8*ns.length
  | []=>rfl
  |n::r=>by rw [Da,lK,N3 r,BI,lJ];omega
theorem La: ∀(ns:List Int),Ka (Ad ns)
  | []=>Py
  |n::r=>isB_append.2 ⟨IB n,La r⟩
theorem Ci {α:Type}(l:List α)(f:α→List Int):Ad (l.flatMap f)=l.flatMap fun a=>Ad (f a):=by
  induction l with
  |nil=>rfl
  |cons a r ih=>rw [l7,l7,Y6,ih]
/-- A loop over a list that writes something for each element. -/
theorem Qr {α σ τ:Type}(l:List α)(enc:α→List Int)(mk:Int→List Int→σ)(fin:List Int→τ)(F:σ→Option (Stp σ τ))
    (hF: ∀(i:Nat) a b,l[i]? =some a→b.length+ (enc a).length≤1000000000→F (mk i b)=some (.go (mk ((i+1:Nat):Int) (b++enc a)))) (h0: ∀b,F (mk l.length b)=some (.out (fin b)))
    (b:List Int) (hb:b.length+ (l.flatMap enc).length≤1000000000):loop F (mk 0 b)=some (fin (b++l.flatMap enc)):=by
  have key: ∀(r:List α) (i:Nat) (b:List Int),l.drop i=r→i≤l.length→b.length+ (r.flatMap enc).length≤1000000000→loop F (mk i b)=some (fin (b++r.flatMap enc)):=by
    intro r
    induction r with
    |nil=>
     intro i b hd hi _
     have:i=l.length:=by have:=Kf hd;omega
     rw [this,M1 (h0 b),List.flatMap_nil,lN]
    |cons a r ih=>
     intro i b hd hi hb
     rw [l7,lK]at hb
     have hlt:=Jt hd
     have ha:l[i]? =some a:=by have:=congrArg (fun z=>z[0]?) hd;simpa using this
     rw [Bf (hF i a b ha (by omega)),ih (i+1) _ (Er hd) hlt (by rw [lK];omega),lM,l7]
  exact key l 0 b rfl (bS _) hb
theorem Po (n:Int):IntKind.wrap .u64 n=n % 18446744073709551616:=by
  unfold IntKind.wrap
  simp only [IntKind.bits,IntKind.signed,Bool.false_and,Bool.false_eq_true,if_false]
  rfl
theorem SA (n:Int):IntKind.wrap .u8 n=n % 256:=by
  unfold IntKind.wrap
  simp only [IntKind.bits,IntKind.signed,Bool.false_and,Bool.false_eq_true,if_false]
  rfl
theorem OQ (n:Int)(k:Nat)(hk:k<64): ∃v,Ma .u64 (IntKind.wrap .u64 n) (IntKind.wrap .u64 (k:Int))=some v∧IntKind.wrap .u8 v=R9 n k:=by
  have e:IntKind.wrap .u64 (k:Int)=(k:Int):=by rw [Po];omega
  refine ⟨_,by unfold Ma;rw [e,bF (by omega)],?_⟩
  rw [SA,Po]
  unfold R9
  simp only [bQ,IntKind.bits,Nat.min_eq_left (Nat.le_of_lt hk)]
  rw [Int.fdiv_eq_ediv_of_nonneg _ (by exact Int.le_of_lt (Int.pow_pos (by omega)))]
/-- Eight bytes, from the greatest down. -/
theorem KA {σ τ:Type}(n:Int)(mk:Int→List Int→σ)(fin:List Int→τ)(F:σ→Option (Stp σ τ))(c:Int)(d:Nat)
    (hF: ∀(k:Nat) b,k<8→b.length<1000000000→F (mk (c* (k:Int)) b)=some (.go (mk (c* ((k:Int) - 1)) (b++ [R9 n (8*k)])))) (h0: ∀b,F (mk (c* (-1)) b)=some (.out (fin b))) (b:List Int) (hb:b.length+8≤1000000000):
    loop F (mk (c*7) b)=some (fin (b++Xq n)):=by
  have s: ∀(k:Nat) (b:List Int),k<8→b.length<1000000000→loop F (mk (c* (k:Int)) b)=loop F (mk (c* ((k:Int) - 1)) (b++ [R9 n (8*k)])):=fun k b h1 h2=>Bf (hF k b h1 h2)
  have l1: ∀(b:List Int) x,(b++ [x]).length=b.length+1:=fun b x=>by simp
  have a7:=s 7 b (by omega) (by omega)
  have a6:=s 6 (b++ [R9 n 56]) (by omega) (by rw [l1];omega)
  have a5:=s 5 (b++ [R9 n 56]++ [R9 n 48]) (by omega) (by rw [l1,l1];omega)
  have a4:=s 4 (b++ [R9 n 56]++ [R9 n 48]++ [R9 n 40]) (by omega) (by rw [l1,l1,l1];omega)
  have a3:=s 3 (b++ [R9 n 56]++ [R9 n 48]++ [R9 n 40]++ [R9 n 32]) (by omega) (by rw [l1,l1,l1,l1];omega)
  have a2:=s 2 (b++ [R9 n 56]++ [R9 n 48]++ [R9 n 40]++ [R9 n 32]++ [R9 n 24]) (by omega) (by rw [l1,l1,l1,l1,l1];omega)
  have a1:=s 1 (b++ [R9 n 56]++ [R9 n 48]++ [R9 n 40]++ [R9 n 32]++ [R9 n 24]++ [R9 n 16]) (by omega) (by rw [l1,l1,l1,l1,l1,l1];omega)
  have a0:=s 0 (b++ [R9 n 56]++ [R9 n 48]++ [R9 n 40]++ [R9 n 32]++ [R9 n 24]++ [R9 n 16]++ [R9 n 8]) (by omega) (by rw [l1,l1,l1,l1,l1,l1,l1];omega)
  refine a7.trans (a6.trans (a5.trans (a4.trans (a3.trans (a2.trans (a1.trans (a0.trans ?_)))))))
  have e:((0:Nat):Int) - 1= -1:=by omega
  rw [e,M1 (h0 _)]
  simp [Xq]
/-- A byte more. -/
theorem OR {a b:Int}(ha:0≤a∧a<72057594037927936)(hb:0≤b∧b<256):
    IntKind.wrap .u64 (((BitVec.ofInt (IntKind.bits .u64) (IntKind.wrap .u64 (a*2^ (min (8:Int).toNat (IntKind.bits .u64))))|||(BitVec.ofInt (IntKind.bits .u64) (IntKind.wrap .u64 b))).toNat:Nat):Int)=a*256+b:=by
  obtain ⟨x,rfl⟩:=Int.eq_ofNat_of_zero_le ha.1
  obtain ⟨y,rfl⟩:=Int.eq_ofNat_of_zero_le hb.1
  have e1:IntKind.wrap .u64 ((x:Int)*2^ (min (8:Int).toNat (IntKind.bits .u64)))=((x*256:Nat):Int):=by
    rw [Po,show (2:Int)^ (min (8:Int).toNat (IntKind.bits .u64))=256 from rfl];omega
  have e2:IntKind.wrap .u64 (y:Int)=(y:Int):=by rw [Po];omega
  rw [e1,e2,BitVec.ofInt_natCast,BitVec.ofInt_natCast,BitVec.toNat_or,BitVec.toNat_ofNat,BitVec.toNat_ofNat]
  have h64:2^IntKind.bits .u64=18446744073709551616:=rfl
  rw [h64,Nat.mod_eq_of_lt (by omega),Nat.mod_eq_of_lt (by omega)]
  have:=Nat.two_pow_add_eq_or_of_lt (i:=8) (b:=y) (by omega) x
  rw [show x*256=2^8*x by omega,← this,Po]
  omega
/-- Eight bytes are read. -/
theorem OS {L:List Int}(h8:L.length=8)(hB:Ka L)(F:Int×Int→Option (Stp (Int×Int) Int))
    (hF: ∀(i:Nat) a b,i<8→L[i]? =some b→0≤b∧b<256→0≤a∧a<72057594037927936→F (a,i)=some (.go (a*256+b,((i+1:Nat):Int)))) (h0: ∀a,F (a,8)=some (.out a)):loop F (0,0)=some (RS L):=by
  obtain ⟨b0,b1,b2,b3,b4,b5,b6,b7,rfl⟩:=OO h8
  simp only [Xo]at hB
  obtain ⟨g0,g1,g2,g3,g4,g5,g6,g7,_⟩:=hB
  have s: ∀(i:Nat) a b,i<8→ [b0,b1,b2,b3,b4,b5,b6,b7][i]? =some b→0≤b∧b<256→0≤a∧a<72057594037927936→loop F (a,(i:Int))=loop F (a*256+b,((i+1:Nat):Int)):=fun i a b h1 h2 h3 h4=>Bf (hF i a b h1 h2 h3 h4)
  refine (s 0 0 b0 (by omega) rfl g0 (by omega)).trans ((s 1 _ b1 (by omega) rfl g1 (by omega)).trans ((s 2 _ b2 (by omega) rfl g2 (by omega)).trans ((s 3 _ b3 (by omega) rfl g3 (by omega)).trans ((s 4 _ b4 (by omega) rfl g4 (by omega)).trans ((s 5 _ b5 (by omega) rfl g5 (by omega)).trans
    ((s 6 _ b6 (by omega) rfl g6 (by omega)).trans ((s 7 _ b7 (by omega) rfl g7 (by omega)).trans ?_)))))))
  exact M1 (h0 _)
end Go.Abs
/-! Readers of numbers: what they read of bytes that are right, and that they end on all bytes. -/
namespace Go.Abs
open Go
/-- rs: the reader's state, by the bytes that are left and a mark. inv: nothing that is read without a mark is written in another way. -/
structure PR {R α:Type}(rs:List Int→Bool→R)(inv:Bool)(f:R→Option (α×R))(enc:α→List Int)(ok Q:α→Prop):Prop where
  tot: ∀L b,Ka L→L.length≤100000→∃a L' b',f (rs L b)=some (a,rs L' b')∧Ka L'∧L'.length≤L.length∧(L'.length<L.length∨b'=true)∧(b=true→b'=true)∧Q a∧(inv=true→b'=false→L=Ad (enc a)++L'∧ok a)
  fwd: ∀a L,ok a→Ka L→f (rs (Ad (enc a)++L) false)=some (a,rs L false)
section
variable {R α β:Type}{rs:List Int→Bool→R}{inv:Bool}
def Be (f:R→Option (α×R))(g:R→Option (β×R))(r:R):Option ((α×β)×R):=(f r).bind fun v=>(g v.2).bind fun w=>some ((v.1,w.1),w.2)
def Lh (φ:α→β)(f:R→Option (α×R))(r:R):Option (β×R):=(f r).bind fun v=>some (φ v.1,v.2)
def KB (f:R→Option (α×R)):Nat→R→Option (List α×R)
  |0,r=>some ([],r)
  |n+1,r=>(f r).bind fun v=>(KB f n v.2).bind fun w=>some (v.1::w.1,w.2)
def OT (c:R→Option (Int×R))(f:R→Option (α×R))(r:R):Option (List α×R):=(c r).bind fun v=>KB f v.1.toNat v.2
theorem BJ {b b':Bool}(h:b=true→b'=true)(h':b'=false):b=false:=by cases b<;>simp_all
theorem PR.pair {f:R→Option (α×R)}{g:R→Option (β×R)}{ef:α→List Int}{eg:β→List Int}{okf Qf:α→Prop}{okg Qg:β→Prop}(hf:PR rs inv f ef okf Qf)(hg:PR rs inv g eg okg Qg):
    PR rs inv (Be f g) (fun p=>ef p.1++eg p.2) (fun p=>okf p.1∧okg p.2) (fun p=>Qf p.1∧Qg p.2) where
  tot L b hB hL:=by
    obtain ⟨a,L1,b1,e1,B1,l1,s1,m1,q1,i1⟩:=hf.tot L b hB hL
    obtain ⟨c,L2,b2,e2,B2,l2,s2,m2,q2,i2⟩:=hg.tot L1 b1 B1 (by omega)
    refine ⟨(a,c),L2,b2,by unfold Be;rw [e1,lA];(try dsimp only);rw [e2];rfl,B2,by omega,?_,fun h=>m2 (m1 h),⟨q1,q2⟩,fun hi hb=> ?_⟩
    ·rcases s2 with h|h
     ·exact .inl (by omega)
     ·exact .inr h
    ·obtain ⟨h2,o2⟩:=i2 hi hb
     obtain ⟨h1,o1⟩:=i1 hi (BJ m2 hb)
     exact ⟨by rw [h1,h2,Y6,lM],o1,o2⟩
  fwd p L ho hB:=by
    have hB2:Ka (Ad (eg p.2)++L):=isB_append.2 ⟨La _,hB⟩
    unfold Be
    try dsimp only
    rw [Y6,lM,hf.fwd p.1 _ ho.1 hB2,lA]
    try dsimp only
    rw [hg.fwd p.2 L ho.2 hB];rfl
theorem PR.map {f:R→Option (α×R)}{ef:α→List Int}{okf Qf:α→Prop}(hf:PR rs inv f ef okf Qf)(φ:α→β)(ψ:β→α){ok Q:β→Prop}(h1: ∀b,φ (ψ b)=b)(h2: ∀a,ψ (φ a)=a)(ho: ∀b,ok b→okf (ψ b))(ho': ∀a,okf a→ok (φ a))(hq: ∀a,Qf a→Q (φ a)):
    PR rs inv (Lh φ f) (fun b=>ef (ψ b)) ok Q where
  tot L b hB hL:=by
    obtain ⟨a,L1,b1,e1,B1,l1,s1,m1,q1,i1⟩:=hf.tot L b hB hL
    refine ⟨φ a,L1,b1,by unfold Lh;rw [e1];rfl,B1,l1,s1,m1,hq a q1,fun hi hb=> ?_⟩
    obtain ⟨h,o⟩:=i1 hi hb
    exact ⟨by rw [h2];exact h,ho' a o⟩
  fwd c L hc hB:=by
    unfold Lh
    rw [hf.fwd (ψ c) L (ho c hc) hB,lA]
    try dsimp only
    rw [h1]
theorem PR.no {f:R→Option (α×R)}{ef:α→List Int}{ok Q:α→Prop}(h:PR rs true f ef ok Q):PR rs false f ef ok Q where
  tot L b hB hL:=by
    obtain ⟨a,L1,b1,e1,B1,l1,s1,m1,q1,i1⟩:=h.tot L b hB hL
    exact ⟨a,L1,b1,e1,B1,l1,s1,m1,q1,nofun⟩
  fwd:=h.fwd
theorem IC {f:R→Option (α×R)}{ef:α→List Int}{ok Q:α→Prop}(h:PR rs inv f ef ok Q): ∀(n:Nat) (L:List Int) (b:Bool),Ka L→L.length≤100000→
    ∃l L' b',KB f n (rs L b)=some (l,rs L' b')∧Ka L'∧L'.length≤L.length∧(b=true→b'=true)∧l.length=n∧(∀a∈l,Q a)∧(inv=true→b'=false→L=Ad (l.flatMap ef)++L'∧∀a∈l,ok a)
  |0,L,b,hB,_=>⟨[],L,b,rfl,hB,bR _,id,rfl,nofun,fun _ _=>⟨rfl,nofun⟩⟩
  |n+1,L,b,hB,hL=>by
   obtain ⟨a,L1,b1,e1,B1,l1,s1,m1,q1,i1⟩:=h.tot L b hB hL
   obtain ⟨l,L2,b2,e2,B2,l2,m2,n2,q2,i2⟩:=IC h n L1 b1 B1 (by omega)
   refine ⟨a::l,L2,b2,by rw [KB,e1,lA];(try dsimp only);rw [e2];rfl,B2,by omega,fun h=>m2 (m1 h),by rw [lJ,n2],fun x hx=> ?_,fun hi hb=> ?_⟩
   ·rcases lS.1 hx with rfl|hx
    ·exact q1
    ·exact q2 x hx
   ·obtain ⟨h2,o2⟩:=i2 hi hb
    obtain ⟨h1,o1⟩:=i1 hi (BJ m2 hb)
    refine ⟨by rw [h1,h2,l7,Y6,lM],fun x hx=> ?_⟩
    rcases lS.1 hx with rfl|hx
    ·exact o1
    ·exact o2 x hx
theorem ID {f:R→Option (α×R)}{ef:α→List Int}{ok Q:α→Prop}(h:PR rs inv f ef ok Q): ∀(l:List α) (L:List Int),(∀a∈l,ok a)→Ka L→KB f l.length (rs (Ad (l.flatMap ef)++L) false)=some (l,rs L false)
  | [],L,_,_=>rfl
  |a::r,L,ho,hB=>by
   have hB2:Ka (Ad (r.flatMap ef)++L):=isB_append.2 ⟨La _,hB⟩
   rw [lJ,KB,l7,Y6,lM,h.fwd a _ (ho a (List.mem_cons_self ..)) hB2,lA]
   try dsimp only
   rw [ID h r L (fun x hx=>ho x (List.mem_cons_of_mem _ hx)) hB];rfl
/-- How many rows, then the rows. -/
theorem PR.list {c:R→Option (Int×R)}{f:R→Option (α×R)}{ef:α→List Int}{ok Q:α→Prop}{cap:Nat}(hc:PR rs inv c (fun n=> [n]) (fun n=>0≤n∧n≤(cap:Int)) (fun n=>0≤n∧n≤(cap:Int)))(h:PR rs inv f ef ok Q):
    PR rs inv (OT c f) (fun l=>(l.length:Int)::l.flatMap ef) (fun l=>l.length≤cap∧∀a∈l,ok a) (fun l=>l.length≤cap∧∀a∈l,Q a) where
  tot L b hB hL:=by
    obtain ⟨n,L1,b1,e1,B1,l1,s1,m1,q1,i1⟩:=hc.tot L b hB hL
    obtain ⟨l,L2,b2,e2,B2,l2,m2,n2,q2,i2⟩:=IC h n.toNat L1 b1 B1 (by omega)
    refine ⟨l,L2,b2,by unfold OT;rw [e1,lA];(try dsimp only);rw [e2],B2,by omega,?_,fun h=>m2 (m1 h),⟨by omega,q2⟩,fun hi hb=> ?_⟩
    ·rcases s1 with h|h
     ·exact .inl (by omega)
     ·exact .inr (m2 h)
    ·obtain ⟨h2,o2⟩:=i2 hi hb
     obtain ⟨h1,o1⟩:=i1 hi (BJ m2 hb)
     have:(l.length:Int)=n:=by omega
     refine ⟨by rw [h1,h2,this,Da,Da,Kz,lN,lM],by omega,o2⟩
  fwd l L ho hB:=by
    have hB2:Ka (Ad (l.flatMap ef)++L):=isB_append.2 ⟨La _,hB⟩
    have:=hc.fwd (l.length:Int) _ ⟨by omega,by have:=ho.1;omega⟩ hB2
    rw [Da,Kz,lN]at this
    unfold OT
    rw [Da,lM,this,lA]
    try dsimp only
    rw [bQ,ID h l L ho.2 hB]
end
end Go.Abs
namespace Go.Abs
open Go
theorem PR.weakF {R α:Type}{rs:List Int→Bool→R}{f:R→Option (α×R)}{ef ef':α→List Int}{ok ok' Q Q':α→Prop}(h:PR rs false f ef ok Q)(he: ∀a,ef' a=ef a)(h1: ∀a,ok' a→ok a)(h2: ∀a,Q a→Q' a):PR rs false f ef' ok' Q' where
  tot L b hB hL:=by
    obtain ⟨a,L1,b1,e1,B1,l1,s1,m1,q1,_⟩:=h.tot L b hB hL
    exact ⟨a,L1,b1,e1,B1,l1,s1,m1,h2 a q1,nofun⟩
  fwd a L ha hB:=by rw [he];exact h.fwd a L (h1 a ha) hB
end Go.Abs
namespace Go.Abs
open Go
theorem PR.mapF {R α β:Type}{rs:List Int→Bool→R}{f:R→Option (α×R)}{ef:α→List Int}{okf Qf:α→Prop}(hf:PR rs false f ef okf Qf)(φ:α→β)(ψ:β→α){eb:β→List Int}{ok Q:β→Prop}(h1: ∀b,φ (ψ b)=b)(he: ∀b,eb b=ef (ψ b))(ho: ∀b,ok b→okf (ψ b))(hq: ∀a,Qf a→Q (φ a)):
    PR rs false (Lh φ f) eb ok Q where
  tot L b hB hL:=by
    obtain ⟨a,L1,b1,e1,B1,l1,s1,m1,q1,i1⟩:=hf.tot L b hB hL
    exact ⟨φ a,L1,b1,by unfold Lh;rw [e1];rfl,B1,l1,s1,m1,hq a q1,nofun⟩
  fwd c L hc hB:=by
    unfold Lh
    rw [he,hf.fwd (ψ c) L (ho c hc) hB,lA]
    try dsimp only
    rw [h1]
end Go.Abs
namespace Go.Abs
open Go
end Go.Abs
/-! The bytes of a road map. -/
namespace Go.Abs.Roadsz
open Go Go.Abs
noncomputable def SB (v:Int)(x:Int×RoadsWriter):Option (Stp (Int×RoadsWriter) RoadsWriter):=
  cond (decide (x.1≥0)) ((Ma .u64 (IntKind.wrap .u64 v) (IntKind.wrap .u64 x.1)).bind fun v2=>(Bx x.2.b [(IntKind.wrap .u8 v2)]).bind fun v3=>some (.go ((I4 (x.1 - 8)),(RoadsWriter.mk v3)))) (some (.out x.2))
noncomputable def SC (ns:List Int)(x:Int×RoadsWriter):Option (Stp (Int×RoadsWriter) RoadsWriter):=
  cond (decide (x.1< (ns.length:Int))) ((F6 ns x.1).bind fun v=>(loop (SB v) (56,x.2)).bind fun y=>some (.go ((I4 (x.1+1)),y))) (some (.out x.2))
noncomputable def EG (ns:List Int)(w:RoadsWriter):Option RoadsWriter:=(loop (SC ns) (0,w)).bind fun y=>some y
theorem SD (v:Int)(b:List Int)(hb:b.length+8≤1000000000):loop (SB v) (56,⟨b⟩)=some ⟨b++Xq v⟩:=
  KA v (fun k b=>(k,RoadsWriter.mk b)) (fun b=>RoadsWriter.mk b) (SB v) 8 1 (fun k b hk hb=>by
   obtain ⟨x,e1,e2⟩:=OQ v (8*k) (by omega)
   unfold SB
   rw [l9 (show (8:Int)* (k:Int)≥0 by omega),bC,show (8:Int)* (k:Int)=((8*k:Nat):Int) by omega,e1,lA,e2,Pu (by simp;omega),lA,W9 (by omega)]
   congr 4;omega) (fun b=>rfl) b hb
theorem Fs {ns:List Int}{b:List Int}(hn:ns.length≤1000000)(hb:b.length+8*ns.length≤1000000000):EG ns ⟨b⟩=some ⟨b++Ad ns⟩:=by
  have:=Qr ns Xq (fun i b=>(i,RoadsWriter.mk b)) (fun b=>(⟨b⟩:RoadsWriter)) (SC ns) (fun i a b ha hb=>by
    unfold SC
    rw [Ac (I9 ha),bC,F2 ha,lA,SD a b (by rw [BI]at hb;exact hb),lA,O2 (I9 ha) (by omega)]) (fun b=>by unfold SC;rw [U7];rfl) b (by rw [show ns.flatMap Xq=Ad ns from rfl,N3];exact hb)
  unfold EG
  rw [this];rfl
def Un (p:Spot):List Int:= [p.X,p.Y]
def Qs (l:List Int):List Int:=(l.length:Int)::l
def Qt (l:Lane):List Int:= [l.Kind,l.Half,l.Limit,(l.Curve_.Pts.length:Int)]++ (l.Curve_.Pts.flatMap Un++Qs l.Next)
def Uo (p:Part):List Int:= [p.Lane_,p.From,p.To,p.Rank]
def Sz (z:Zone):List Int:= [z.Signal_,(z.Parts.length:Int)]++z.Parts.flatMap Uo
def Nu (p:Phase):List Int:= [p.Ticks]++Qs p.Green
def BK (s:Signal):List Int:= [s.Offset,(s.Phases.length:Int)]++s.Phases.flatMap Nu
def Up (w:Work):List Int:= [w.Lane_,w.From,w.To,w.Begin,w.End,w.Limit]
def Qh (m:Map):List Int:= [m.Version,(m.Lanes.length:Int)]++ (m.Lanes.flatMap Qt++ ([(m.Zones.length:Int)]++ (m.Zones.flatMap Sz++ ([(m.Signals.length:Int)]++ (m.Signals.flatMap BK++ ([(m.Works.length:Int)]++m.Works.flatMap Up))))))
def mark4:List Int:= [107,98,109,49]
def Fe (m:Map):List Int:=mark4++Ad (Qh m)
theorem Lu (l:List Int):l.flatMap (fun n=>Ad [n])=Ad l:=by rw [show (fun n:Int=>Ad [n])=Xq from funext fun n=>lN _];rfl
theorem GR {α:Type}(l:List α)(f:α→List Int):(l.flatMap fun a=>Ad (f a)).length=8* (l.flatMap f).length:=by rw [← Ci,N3]
theorem OU (l:Lane)(b:List Int)(hl:l.Curve_.Pts.length≤1000000)(hb:b.length+8* (l.Curve_.Pts.flatMap Un).length≤1000000000):loop (Ay l) (0,⟨b⟩)=some ⟨b++Ad (l.Curve_.Pts.flatMap Un)⟩:=by
  rw [Ci]
  exact Qr l.Curve_.Pts (fun p=>Ad (Un p)) (fun i b=>(i,RoadsWriter.mk b)) (fun b=>RoadsWriter.mk b) (Ay l) (fun i a b ha hb=>by
    rw [N3]at hb
    unfold Ay
    rw [Ac (I9 ha),bC,F2 ha,lA,show Kj ((i:Int),⟨b⟩) a=EG (Un a) ⟨b⟩ from rfl,Fs (by simp [Un]) hb,lA,O2 (I9 ha) (by omega)]) (fun b=>by unfold Ay;rw [U7];rfl) b (by rw [GR];exact hb)
theorem KC (l:Lane)(b:List Int)(hl:l.Next.length≤1000000)(hb:b.length+8*l.Next.length≤1000000000):loop (Z9 l) (0,⟨b⟩)=some ⟨b++Ad l.Next⟩:=by
  rw [← Lu]
  exact Qr l.Next (fun p=>Ad [p]) (fun i b=>(i,RoadsWriter.mk b)) (fun b=>RoadsWriter.mk b) (Z9 l) (fun i a b ha hb=>by
    rw [N3]at hb
    unfold Z9
    rw [Ac (I9 ha),bC,F2 ha,lA,show Je ((i:Int),⟨b⟩) a=EG [a] ⟨b⟩ from rfl,Fs (by simp) hb,lA,O2 (I9 ha) (by omega)]) (fun b=>by unfold Z9;rw [U7];rfl) b (by rw [Lu,N3];exact hb)
theorem GS (l:Phase)(b:List Int)(hl:l.Green.length≤1000000)(hb:b.length+8*l.Green.length≤1000000000):loop (Z4 l) (0,⟨b⟩)=some ⟨b++Ad l.Green⟩:=by
  rw [← Lu]
  exact Qr l.Green (fun p=>Ad [p]) (fun i b=>(i,RoadsWriter.mk b)) (fun b=>RoadsWriter.mk b) (Z4 l) (fun i a b ha hb=>by
    rw [N3]at hb
    unfold Z4
    rw [Ac (I9 ha),bC,F2 ha,lA,show Ie ((i:Int),⟨b⟩) a=EG [a] ⟨b⟩ from rfl,Fs (by simp) hb,lA,O2 (I9 ha) (by omega)]) (fun b=>by unfold Z4;rw [U7];rfl) b (by rw [Lu,N3];exact hb)
theorem OV (m:Map)(B:BearM m)(b:List Int)(hb:b.length+8* (m.Lanes.flatMap Qt).length≤1000000000):loop (Az m) (0,⟨b⟩)=some ⟨b++Ad (m.Lanes.flatMap Qt)⟩:=by
  rw [Ci]
  refine Qr m.Lanes (fun p=>Ad (Qt p)) (fun i b=>(i,RoadsWriter.mk b)) (fun b=>RoadsWriter.mk b) (Az m) (fun i a b ha hb=> ?_) (fun b=>by unfold Az;rw [U7];rfl) b (by rw [GR];exact hb)
  obtain ⟨hp,hn⟩:=B.toBear.pts a (lF ha)
  have hlen:=B.lanes
  rw [N3]at hb
  simp only [Qt,Qs,lK,lJ,lL]at hb
  unfold Az
  rw [Ac (I9 ha),bC,F2 ha,lA,show Km ((i:Int),⟨b⟩) a=EG [a.Kind,a.Half,a.Limit,(a.Curve_.Pts.length:Int)] ⟨b⟩ from rfl,Fs (by simp) (by simp;omega),lA,
   OU a _ hp (by simp only [lK,N3,lJ,lL];omega),lA]
  unfold Ji
  rw [show Jh a _=EG [(a.Next.length:Int)] _ from rfl,Fs (by simp) (by simp only [lK,N3,lJ,lL];omega),lA,
   KC a _ hn (by simp only [lK,N3,lJ,lL];omega),lA,lA,O2 (I9 ha) (by omega)]
  simp only [Qt,Qs,Y6,lM,Da,Kz,lO,List.cons_append]
theorem OW (z:Zone)(b:List Int)(hl:z.Parts.length≤1000000)(hb:b.length+8* (z.Parts.flatMap Uo).length≤1000000000):loop (Z7 z) (0,⟨b⟩)=some ⟨b++Ad (z.Parts.flatMap Uo)⟩:=by
  rw [Ci]
  exact Qr z.Parts (fun p=>Ad (Uo p)) (fun i b=>(i,RoadsWriter.mk b)) (fun b=>RoadsWriter.mk b) (Z7 z) (fun i a b ha hb=>by
    rw [N3]at hb
    unfold Z7
    rw [Ac (I9 ha),bC,F2 ha,lA,show Iv ((i:Int),⟨b⟩) a=EG (Uo a) ⟨b⟩ from rfl,Fs (by simp [Uo]) hb,lA,O2 (I9 ha) (by omega)]) (fun b=>by unfold Z7;rw [U7];rfl) b (by rw [GR];exact hb)
theorem OX (m:Map)(B:BearM m)(b:List Int)(hb:b.length+8* (m.Zones.flatMap Sz).length≤1000000000):loop (Z8 m) (0,⟨b⟩)=some ⟨b++Ad (m.Zones.flatMap Sz)⟩:=by
  rw [Ci]
  refine Qr m.Zones (fun p=>Ad (Sz p)) (fun i b=>(i,RoadsWriter.mk b)) (fun b=>RoadsWriter.mk b) (Z8 m) (fun i a b ha hb=> ?_) (fun b=>by unfold Z8;rw [U7];rfl) b (by rw [GR];exact hb)
  have hp:=B.toBearZ.parts a (lF ha)
  have hlen:=B.toBearZ.many
  rw [N3]at hb
  simp only [Sz,lK,lJ,lL]at hb
  unfold Z8
  rw [Ac (I9 ha),bC,F2 ha,lA,show Iy ((i:Int),⟨b⟩) a=EG [a.Signal_,(a.Parts.length:Int)] ⟨b⟩ from rfl,Fs (by simp) (by simp;omega),lA,
   OW a _ hp (by simp only [lK,N3,lJ,lL];omega),lA,O2 (I9 ha) (by omega)]
  simp only [Sz,Y6,lM]
theorem KD (z:Signal)(b:List Int)(hl:z.Phases.length≤1000000)(hg: ∀p∈z.Phases,p.Green.length≤1000000)(hb:b.length+8* (z.Phases.flatMap Nu).length≤1000000000):loop (Z5 z) (0,⟨b⟩)=some ⟨b++Ad (z.Phases.flatMap Nu)⟩:=by
  rw [Ci]
  refine Qr z.Phases (fun p=>Ad (Nu p)) (fun i b=>(i,RoadsWriter.mk b)) (fun b=>RoadsWriter.mk b) (Z5 z) (fun i a b ha hb=> ?_) (fun b=>by unfold Z5;rw [U7];rfl) b (by rw [GR];exact hb)
  have hn:=hg a (lF ha)
  rw [N3]at hb
  simp only [Nu,Qs,lK,lJ,lL]at hb
  unfold Z5
  rw [Ac (I9 ha),bC,F2 ha,lA,show Il ((i:Int),⟨b⟩) a=EG [a.Ticks] ⟨b⟩ from rfl,Fs (by simp) (by simp;omega),lA]
  unfold Ii
  rw [show Ih a _=EG [(a.Green.length:Int)] _ from rfl,Fs (by simp) (by simp only [lK,N3,lJ,lL];omega),lA,
   GS a _ hn (by simp only [lK,N3,lJ,lL];omega),lA,lA,O2 (I9 ha) (by omega)]
  simp only [Nu,Qs,Y6,lM,Da,Kz,lO]
theorem GU (m:Map)(B:BearM m)(b:List Int)(hb:b.length+8* (m.Signals.flatMap BK).length≤1000000000):loop (Z6 m) (0,⟨b⟩)=some ⟨b++Ad (m.Signals.flatMap BK)⟩:=by
  rw [Ci]
  refine Qr m.Signals (fun p=>Ad (BK p)) (fun i b=>(i,RoadsWriter.mk b)) (fun b=>RoadsWriter.mk b) (Z6 m) (fun i a b ha hb=> ?_) (fun b=>by unfold Z6;rw [U7];rfl) b (by rw [GR];exact hb)
  obtain ⟨hp,hg⟩:=B.toBearS.phases a (lF ha)
  have hlen:=B.toBearS.many
  rw [N3]at hb
  simp only [BK,lK,lJ,lL]at hb
  unfold Z6
  rw [Ac (I9 ha),bC,F2 ha,lA,show Io ((i:Int),⟨b⟩) a=EG [a.Offset,(a.Phases.length:Int)] ⟨b⟩ from rfl,Fs (by simp) (by simp;omega),lA,
   KD a _ hp hg (by simp only [lK,N3,lJ,lL];omega),lA,O2 (I9 ha) (by omega)]
  simp only [BK,Y6,lM]
theorem OY (m:Map)(B:BearM m)(b:List Int)(hb:b.length+8* (m.Works.flatMap Up).length≤1000000000):loop (Z3 m) (0,⟨b⟩)=some ⟨b++Ad (m.Works.flatMap Up)⟩:=by
  have hlen:=B.toBearW.many
  rw [Ci]
  exact Qr m.Works (fun p=>Ad (Up p)) (fun i b=>(i,RoadsWriter.mk b)) (fun b=>RoadsWriter.mk b) (Z3 m) (fun i a b ha hb=>by
    rw [N3]at hb
    unfold Z3
    rw [Ac (I9 ha),bC,F2 ha,lA,show Hv ((i:Int),⟨b⟩) a=EG (Up a) ⟨b⟩ from rfl,Fs (by simp [Up]) hb,lA,O2 (I9 ha) (by omega)]) (fun b=>by unfold Z3;rw [U7];rfl) b (by rw [GR];exact hb)
noncomputable def Xs (m:Map):ByteArray×Int:=if Qe m=0 then (K5 (Fe m),0)else (K5 [],Qe m)
theorem OZ {m:Map}(B:BearM m)(hs:Qe m=0→(Qh m).length≤100000000):Cd m=some (Xs m):=by
  unfold Cd Xs
  rw [Ky B,lA]
  by_cases h:Qe m=0
  ·have hs:=hs h
   simp only [Qh,lK,lJ,lL]at hs
   rw [bE h,h,show ((0:Int) !=0)=false from rfl,bD,show Kp m=EG [m.Version,(m.Lanes.length:Int)] ⟨mark4⟩ from rfl,Fs (by simp) (by simp [mark4]),lA,
    OV m B _ (by simp only [lK,N3,lJ,lL,mark4];omega),lA,
    show Jb m _=EG [(m.Zones.length:Int)] _ from rfl,Fs (by simp) (by simp only [lK,N3,lJ,lL,mark4];omega),lA,
    OX m B _ (by simp only [lK,N3,lJ,lL,mark4];omega),lA,
    show Ir m _=EG [(m.Signals.length:Int)] _ from rfl,Fs (by simp) (by simp only [lK,N3,lJ,lL,mark4];omega),lA,
    GU m B _ (by simp only [lK,N3,lJ,lL,mark4];omega),lA,
    show Ia m _=EG [(m.Works.length:Int)] _ from rfl,Fs (by simp) (by simp only [lK,N3,lJ,lL,mark4];omega),lA,
    OY m B _ (by simp only [lK,N3,lJ,lL,mark4];omega),lA]
   simp only [Fe,Qh,Y6,lM]
  ·rw [bF h,show (Qe m !=0)=true by simpa using h];rfl
abbrev Ro (L:List Int)(b:Bool):RoadsReader:=⟨K5 L,b⟩
theorem TG {L:List Int}(h:8≤L.length):(L.take 8).length=8:=by rw [lT];omega
theorem GV {L:List Int}{b:Bool}(h:L.length<8):B0 (Ro L b)=some (0,Ro [] true):=by
  unfold B0
  rw [Y5,l9 (show (L.length:Int)<8 by omega)];rfl
theorem KE {L:List Int}{b:Bool}(hB:Ka L)(h:8≤L.length):B0 (Ro L b)=some (VM (L.take 8),Ro (L.drop 8) b):=by
  have hB8:=Sy hB 8
  have h8:=TG h
  unfold B0
  rw [Y5,bA (show ¬((L.length:Int)<8) by omega),bD,Pn (i:=0) (j:=8) (by omega),lA,
   show ((L.take (8:Int).toNat).drop (0:Int).toNat)=L.take 8 from rfl,
   OS h8 hB8 (S5 (K5 (L.take 8))) (fun i a x hi hx hb ha=>by
    unfold S5
    rw [Hg hB8,h8,Ac (n:=8) hi,bC,F2 hx,lA]
    try dsimp only
    rw [OR ha hb,O2 (n:=8) hi (by omega)]) (fun a=>by
    unfold S5
    rw [Hg hB8,h8];rfl),lA,Pn (i:=8) (j:=(L.length:Int)) (by omega),lA,
   show ((L.take (L.length:Int).toNat).drop (8:Int).toNat)=L.drop 8 by rw [bQ,List.take_length];rfl]
  rfl
theorem SE {R:Type}{rs:List Int→Bool→R}{f:R→Option (Int×R)}{z:List Int→List Int}(hz: ∀L,Ka L→L.length<8→Ka (z L)∧(z L).length≤L.length)(h1: ∀L b,L.length<8→f (rs L b)=some (0,rs (z L) true))(h2: ∀L b,Ka L→8≤L.length→f (rs L b)=some (VM (L.take 8),rs (L.drop 8) b)):
    PR rs true f (fun n=> [n]) Ck Ck where
  tot L b hB _:=by
    by_cases h:L.length<8
    ·obtain ⟨z1,z2⟩:=hz L hB h
     exact ⟨0,z L,true,h1 L b h,z1,z2, .inr rfl,fun _=>rfl,by unfold Ck;omega,fun _=>nofun⟩
    ·exact ⟨_,_,b,h2 L b hB (by omega),Xp hB 8,by rw [lU];omega, .inl (by rw [lU];omega),id,Zr _,fun _ _=>⟨by
       rw [Da,Kz,lN,RX (TG (by omega)) (Sy hB 8),List.take_append_drop],Zr _⟩⟩
  fwd n L hn hB:=by
    rw [Da,Kz,lN,h2 _ _ (isB_append.2 ⟨IB n,hB⟩) (by rw [lK,BI];omega)]
    rw [show (Xq n++L).take 8=Xq n from List.take_left' rfl,show (Xq n++L).drop 8=L from List.drop_left' rfl,RZ hn]
theorem next_pr:PR Ro true B0 (fun n=> [n]) Ck Ck:=SE (z:=fun _=> []) (fun _ _ _=>⟨Py,bS _⟩) (fun _ _ h=>GV h) (fun _ _ hB h=>KE hB h)
theorem int_pr:PR Ro true E8 (fun n=> [n]) Ck Ck:=by
  have:E8=B0:=funext fun r=>by
    unfold E8
    cases B0 r<;>rfl
  rw [this];exact next_pr
/-- Rows, as many as a number says, or till there is nothing left. -/
theorem Ho {α:Type}{f:RoadsReader→Option (α×RoadsReader)}{ef:α→List Int}{ok Q:α→Prop}(h:PR Ro false f ef ok Q)(F:List α×Int×RoadsReader→Option (Stp (List α×Int×RoadsReader) (List α×RoadsReader)))(T:RoadsReader→Option (List α×RoadsReader))
    (hF: ∀x,F x=cond ((decide (x.2.1>0))&& (!x.2.2.short)) ((f x.2.2).bind fun v2=>(Bx x.1 [v2.1]).bind fun v3=>some (.go (v3,(I4 (x.2.1 - 1)),v2.2))) (some (.out (x.1,x.2.2))))
    (hT: ∀r,T r=(B0 r).bind fun v1=>(loop F ([],v1.1,v1.2)).bind fun y1=>some (y1.1,y1.2)):
    PR Ro false T (fun l=>(l.length:Int)::l.flatMap ef) (fun l=>l.length≤1000000∧∀a∈l,ok a) (fun l=>l.length≤200000∧∀a∈l,Q a) where
  tot L b hB hL:=by
    have key: ∀(k:Nat) (out:List α) (n:Int) (L:List Int) (b:Bool),Ka L→L.length≤k→k≤100000→out.length+k≤100000→(∀a∈out,Q a)→∃out' L' b',loop F (out,n,Ro L b)=some (out',Ro L' b')∧Ka L'∧L'.length≤L.length∧(b=true→b'=true)∧out'.length≤200000∧∀a∈out',Q a:=by
      intro k
      induction k with
      |zero=>
       intro out n L b hB hk _ ho hQ
       by_cases hc:((decide (n>0))&& (!b))=true
       ·obtain ⟨a,L1,b1,e1,B1,l1,s1,m1,q1,_⟩:=h.tot L b hB (by omega)
        have hb1:b1=true:=by rcases s1 with h|h;omega;exact h
        subst hb1
        refine ⟨out++ [a],L1,true,?_,B1,l1,fun _=>rfl,by simp;omega,fun x hx=> ?_⟩
        ·rw [Lm,hF]
         try dsimp only
         rw [hc,bC,e1,lA,Pu (by simp;omega),lA]
         try dsimp only
         rw [M1 (by rw [hF];(try dsimp only);rw [bI,Bool.and_false];rfl)]
        ·rcases lR.1 hx with hx|hx
         ·exact hQ x hx
         ·rw [l8.1 hx];exact q1
       ·exact ⟨out,L,b,M1 (by rw [hF];(try dsimp only);rw [bK.2 hc];rfl),hB,bR _,id,by omega,hQ⟩
      |succ k ih=>
       intro out n L b hB hk hk6 ho hQ
       by_cases hc:((decide (n>0))&& (!b))=true
       ·obtain ⟨a,L1,b1,e1,B1,l1,s1,m1,q1,_⟩:=h.tot L b hB (by omega)
        have hst:loop F (out,n,Ro L b)=loop F (out++ [a],I4 (n - 1),Ro L1 b1):=by
          rw [Lm,hF]
          try dsimp only
          rw [hc,bC,e1,lA,Pu (by simp;omega),lA]
        have hQ': ∀x∈out++ [a],Q x:=fun x hx=>by
          rcases lR.1 hx with hx|hx
          ·exact hQ x hx
          ·rw [l8.1 hx];exact q1
        rcases s1 with hs|hs
        ·obtain ⟨o',L',b',g1,g2,g3,g4,g5,g6⟩:=ih (out++ [a]) (I4 (n - 1)) L1 b1 B1 (by omega) (by omega) (by simp;omega) hQ'
         exact ⟨o',L',b',hst.trans g1,g2,by omega,fun hb=>g4 (m1 hb),g5,g6⟩
        ·subst hs
         exact ⟨out++ [a],L1,true,hst.trans (M1 (by rw [hF];(try dsimp only);rw [bI,Bool.and_false];rfl)),B1,l1,fun _=>rfl,by simp;omega,hQ'⟩
       ·exact ⟨out,L,b,M1 (by rw [hF];(try dsimp only);rw [bK.2 hc];rfl),hB,bR _,id,by omega,hQ⟩
    obtain ⟨n,L1,b1,e1,B1,l1,s1,m1,_,_⟩:=next_pr.tot L b hB hL
    obtain ⟨o',L',b',g1,g2,g3,g4,g5,g6⟩:=key L1.length [] n L1 b1 B1 (bR _) (by omega) (by simp;omega) nofun
    refine ⟨o',L',b',by rw [hT,e1,lA];(try dsimp only);rw [g1];rfl,g2,by omega,?_,fun hb=>g4 (m1 hb),⟨g5,g6⟩,nofun⟩
    rcases s1 with h|h
    ·exact .inl (by omega)
    ·exact .inr (g4 h)
  fwd l L ho hB:=by
    have key: ∀(r:List α) (out:List α),out.length+r.length≤1000000→(∀a∈r,ok a)→loop F (out,(r.length:Int),Ro (Ad (r.flatMap ef)++L) false)=some (out++r,Ro L false):=by
      intro r
      induction r with
      |nil=>intro out _ _;rw [M1 (by rw [hF];rfl),lN];rfl
      |cons a r ih=>
       intro out hn ha
       have hB2:Ka (Ad (r.flatMap ef)++L):=isB_append.2 ⟨La _,hB⟩
       rw [lJ]at hn
       rw [Lm,hF]
       try dsimp only
       rw [lJ,l9 (show ((r.length+1:Nat):Int)>0 by omega),bJ,Bool.and_true,bC,l7,Y6,lM,h.fwd a _ (ha a (List.mem_cons_self ..)) hB2,lA,Pu (by simp;omega),lA]
       try dsimp only
       rw [W9 (by omega),show ((r.length+1:Nat):Int) - 1=(r.length:Int) by omega,ih _ (by simp;omega) (fun x hx=>ha x (List.mem_cons_of_mem _ hx))]
       simp
    have hB2:Ka (Ad (l.flatMap ef)++L):=isB_append.2 ⟨La _,hB⟩
    have hn:=next_pr.fwd (l.length:Int) _ (by have:=ho.1;unfold Ck;omega) hB2
    rw [Da,Kz,lN]at hn
    rw [hT,Da,lM,hn,lA]
    try dsimp only
    rw [key l [] (by simp;exact ho.1) ho.2];rfl
def GW (p:Spot):Prop:=Ck p.X∧Ck p.Y
def PA (l:Lane):Prop:=(0≤l.Kind∧l.Kind≤3)∧Ck l.Half∧Ck l.Limit∧(l.Curve_.Pts.length≤16∧∀p∈l.Curve_.Pts,GW p)∧(l.Next.length≤12∧∀n∈l.Next,0≤n∧n≤1099511627776)
def PB (p:Part):Prop:=(0≤p.Lane_∧p.Lane_≤12)∧Ck p.From∧Ck p.To∧(0≤p.Rank∧p.Rank≤100)
def PC (z:Zone):Prop:=(0≤z.Signal_∧z.Signal_≤4)∧(z.Parts.length≤6∧∀p∈z.Parts,PB p)
def IE (p:Phase):Prop:=Ck p.Ticks∧(p.Green.length≤12∧∀n∈p.Green,0≤n∧n≤1099511627776)
def TH (s:Signal):Prop:=Ck s.Offset∧(s.Phases.length≤6∧∀p∈s.Phases,IE p)
def PD (w:Work):Prop:=(0≤w.Lane_∧w.Lane_≤12)∧Ck w.From∧Ck w.To∧Ck w.Begin∧Ck w.End∧Ck w.Limit
def XN (m:Map):Prop:=Ck m.Version∧(m.Lanes.length≤12∧∀l∈m.Lanes,PA l)∧(m.Zones.length≤12∧∀z∈m.Zones,PC z)∧(m.Signals.length≤4∧∀s∈m.Signals,TH s)∧(m.Works.length≤8∧∀w∈m.Works,PD w)
theorem Mx {a b n:Int}(h:a≤n∧n≤b)(ha: -9223372036854775808≤a)(hb:b≤9223372036854775807):Ck n:=by unfold Ck;omega
/-! ### The program -/
theorem nx:PR Ro false B0 (fun n=> [n]) Ck Ck:=next_pr.no
theorem ix:PR Ro false E8 (fun n=> [n]) Ck Ck:=int_pr.no
theorem IF:PR Ro false H3 Qs (fun l=>l.length≤1000000∧∀n∈l,Ck n) (fun l=>l.length≤200000∧∀n∈l,Ck n):=
  (Ho ix _ _ (fun _=>rfl) (fun _=>rfl)).weakF (fun l=>by unfold Qs;congr 1;simp) (fun _ h=>h) (fun _ h=>h)
theorem SF:PR Ro false V8 Un GW (fun _=>True):=by
  have e:V8=Lh (fun p=>Spot.mk p.1 p.2) (Be B0 B0):=funext fun r=>by
    unfold V8;simp only [Lh,Be,Option.bind_assoc,lA]
  rw [e]
  exact (nx.pair nx).mapF (fun p=>Spot.mk p.1 p.2) (fun s=>(s.X,s.Y)) (fun _=>rfl) (fun _=>rfl) (fun b h=>(h:GW b)) (fun _ _=>trivial)
theorem IG {l:List Int}{b:Int}(hb:b≤9223372036854775807)(h: ∀n∈l,0≤n∧n≤b): ∀n∈l,Ck n:=fun n hn=>Mx (h n hn) (by omega) hb
theorem SG:PR Ro false V9 Qt PA (fun l=>l.Curve_.Pts.length≤200000∧l.Next.length≤200000):=by
  have e:V9=Lh (fun p=>Lane.mk p.1 (Curve.mk p.2.2.2.1) p.2.1 p.2.2.1 p.2.2.2.2) (Be E8 (Be B0 (Be B0 (Be N6 H3)))):=funext fun r=>by
    unfold V9;simp only [Lh,Be,Option.bind_assoc,lA]
  rw [e]
  exact (ix.pair (nx.pair (nx.pair ((Ho SF _ _ (fun _=>rfl) (fun _=>rfl)).pair IF)))).mapF _ (fun l=>(l.Kind,l.Half,l.Limit,l.Curve_.Pts,l.Next)) (fun _=>rfl) (fun l=>by simp [Qt])
    (fun l h=>⟨Mx h.1 (by omega) (by omega),h.2.1,h.2.2.1,⟨by have:=h.2.2.2.1.1;dsimp only;omega,h.2.2.2.1.2⟩,by have:=h.2.2.2.2.1;dsimp only;omega,IG (by omega) h.2.2.2.2.2⟩) (fun p h=>⟨h.2.2.2.1.1,h.2.2.2.2.1⟩)
theorem SH:PR Ro false W0 Uo PB (fun _=>True):=by
  have e:W0=Lh (fun p=>Part.mk p.1 p.2.1 p.2.2.1 p.2.2.2) (Be E8 (Be B0 (Be B0 E8))):=funext fun r=>by
    unfold W0;simp only [Lh,Be,Option.bind_assoc,lA]
  rw [e]
  exact (ix.pair (nx.pair (nx.pair ix))).mapF _ (fun l=>(l.Lane_,l.From,l.To,l.Rank)) (fun _=>rfl) (fun _=>rfl) (fun l h=>⟨Mx h.1 (by omega) (by omega),h.2.1,h.2.2.1,Mx h.2.2.2 (by omega) (by omega)⟩) (fun _ _=>trivial)
theorem SI:PR Ro false W1 Sz PC (fun z=>z.Parts.length≤200000):=by
  have e:W1=Lh (fun p=>Zone.mk p.2 p.1) (Be E8 N7):=funext fun r=>by
    unfold W1;simp only [Lh,Be,Option.bind_assoc,lA]
  rw [e]
  exact (ix.pair (Ho SH _ _ (fun _=>rfl) (fun _=>rfl))).mapF _ (fun z=>(z.Signal_,z.Parts)) (fun _=>rfl) (fun _=>rfl) (fun l h=>⟨Mx h.1 (by omega) (by omega),by have:=h.2.1;dsimp only;omega,h.2.2⟩) (fun _ h=>h.2.1)
theorem PE:PR Ro false U0 Nu IE (fun p=>p.Green.length≤200000):=by
  have e:U0=Lh (fun p=>Phase.mk p.1 p.2) (Be B0 H3):=funext fun r=>by
    unfold U0;simp only [Lh,Be,Option.bind_assoc,lA]
  rw [e]
  exact (nx.pair IF).mapF _ (fun z=>(z.Ticks,z.Green)) (fun _=>rfl) (fun _=>rfl) (fun l h=>⟨h.1,by have:=h.2.1;dsimp only;omega,IG (by omega) h.2.2⟩) (fun _ h=>h.2.1)
theorem KF:PR Ro false T3 BK TH (fun s=>s.Phases.length≤200000∧∀p∈s.Phases,p.Green.length≤200000):=by
  have e:T3=Lh (fun p=>Signal.mk p.1 p.2) (Be B0 M3):=funext fun r=>by
    unfold T3;simp only [Lh,Be,Option.bind_assoc,lA]
  rw [e]
  exact (nx.pair (Ho PE _ _ (fun _=>rfl) (fun _=>rfl))).mapF _ (fun z=>(z.Offset,z.Phases)) (fun _=>rfl) (fun _=>rfl) (fun l h=>⟨h.1,by have:=h.2.1;dsimp only;omega,h.2.2⟩) (fun _ h=>h.2)
theorem SJ:PR Ro false W2 Up PD (fun _=>True):=by
  have e:W2=Lh (fun p=>Work.mk p.1 p.2.1 p.2.2.1 p.2.2.2.1 p.2.2.2.2.1 p.2.2.2.2.2) (Be E8 (Be B0 (Be B0 (Be B0 (Be B0 B0))))):=funext fun r=>by
    unfold W2;simp only [Lh,Be,Option.bind_assoc,lA]
  rw [e]
  exact (ix.pair (nx.pair (nx.pair (nx.pair (nx.pair nx))))).mapF _ (fun w=>(w.Lane_,w.From,w.To,w.Begin,w.End,w.Limit)) (fun _=>rfl) (fun _=>rfl) (fun l h=>⟨Mx h.1 (by omega) (by omega),h.2⟩) (fun _ _=>trivial)
/-- What the program reads behind the mark. -/
noncomputable def IH:RoadsReader→Option (Map×RoadsReader):=Lh (fun p=>Map.mk p.1 p.2.1 p.2.2.1 p.2.2.2.1 p.2.2.2.2)
  (Be B0 (Be K8 (Be K9 (Be J7 L0))))
theorem prog_pr:PR Ro false IH Qh XN BearM:=
  (nx.pair ((Ho SG _ _ (fun _=>rfl) (fun _=>rfl)).pair ((Ho SI _ _ (fun _=>rfl) (fun _=>rfl)).pair ((Ho KF _ _ (fun _=>rfl) (fun _=>rfl)).pair (Ho SJ _ _ (fun _=>rfl) (fun _=>rfl)))))).mapF _
    (fun m=>(m.Version,m.Lanes,m.Zones,m.Signals,m.Works)) (fun _=>rfl) (fun m=>by simp [Qh])
    (fun m h=>⟨h.1,⟨by have:=h.2.1.1;dsimp only;omega,h.2.1.2⟩,⟨by have:=h.2.2.1.1;dsimp only;omega,h.2.2.1.2⟩,⟨by have:=h.2.2.2.1.1;dsimp only;omega,h.2.2.2.1.2⟩,by have:=h.2.2.2.2.1;dsimp only;omega,h.2.2.2.2.2⟩)
    (fun p h=>⟨⟨by have:=h.2.1.1;dsimp only;omega,fun l hl=>by have:=h.2.1.2 l hl;omega⟩,⟨by have:=h.2.2.2.1.1;dsimp only;omega,fun s hs=>⟨by have:=(h.2.2.2.1.2 s hs).1;omega,fun p hp=>by have:=(h.2.2.2.1.2 s hs).2 p hp;omega⟩⟩,⟨by have:=h.2.2.1.1;dsimp only;omega,fun z hz=>by have:=h.2.2.1.2 z hz;omega⟩,⟨by have:=h.2.2.2.2.1;dsimp only;omega⟩⟩)
theorem Zs {high:Int}: ∀{l:List Int} {low:Int},Fl high low l=true→l= []∨(l.length:Int)≤high - low
  | [],_,_=> .inl rfl
  |n::r,low,h=>by
   unfold Fl at h
   simp only [bG,bB]at h
   right
   rcases Zs h.2 with rfl|q
   ·simp;omega
   ·rw [lJ];omega
theorem inR_iff {n a b:Int}:Tw n a b=true↔a≤n∧n≤b:=by unfold Tw;rw [bG,bB,bB]
theorem II (k:Int):(Pl k).1≤2000:=by
  unfold Pl
  split
  ·exact Int.le_refl _
  ·split
   ·dsimp only;omega
   ·split<;>dsimp only<;>omega
theorem KG {k:Int}(h:(Pl k).1≠0):1≤k∧k≤3:=by
  unfold Pl at h
  split at h
  ·omega
  ·split at h
   ·omega
   ·split at h
    ·omega
    ·exact absurd rfl h
theorem Nv {m:Map}(V:ValR m):XN m:=by
  have hver:=V.ver
  have hla:=V.lanes
  have hsi:=V.signals
  refine ⟨Mx V.ver (by omega) (by omega),⟨V.lanes,fun l hl=> ?_⟩,⟨V.zones,fun z hz=> ?_⟩,⟨V.signals,fun s hs=> ?_⟩,⟨V.works,fun w hw=> ?_⟩⟩
  ·obtain ⟨i,hi,rfl⟩:=List.mem_iff_getElem.1 hl
   have O:=V.laneOK (lG hi)
   have hk:=KG O.kind
   have hc:=checkM_zero.1 O.curve
   have hh:=inR_iff.1 O.half
   have hm:=inR_iff.1 O.limit
   have ht:=II (m.Lanes[i]).Kind
   have hf:=O.few
   refine ⟨by omega,Mx hh (by omega) (by omega),Mx hm (by omega) (by omega),⟨hc.most,fun p hp=> ?_⟩,⟨by omega,fun n hn=> ?_⟩⟩
   ·have:=okS_iff.1 (lX.1 hc.ok p hp)
    exact ⟨Mx ⟨this.1,this.2.1⟩ (by omega) (by omega),Mx ⟨this.2.2.1,this.2.2.2⟩ (by omega) (by omega)⟩
   ·have:=Hd O.next n hn
    omega
  ·have O:=V.zoneOK hz
   have h6:=O.six
   have hs:=O.sig
   refine ⟨by omega,by omega,fun p hp=> ?_⟩
   have h1:=O.lane hp
   have h2:=O.part p hp
   have h3:=V.long h1.1 h1.2
   exact ⟨by omega,by unfold Ck;omega,by unfold Ck;omega,by omega⟩
  ·obtain ⟨i,hi,rfl⟩:=List.mem_iff_getElem.1 hs
   have:=firstE_none.1 V.signalE i _ (lG hi)
   unfold Roadsz.signalE at this
   split at this
   ·cases this
   ·split at this
    ·cases this
    ·rename_i h1 h2
     split at this
     ·cases this
     ·rename_i h3
      split at this
      ·cases this
      ·rename_i h4
       split at this
       ·cases this
       ·rename_i h5
        have h3:=inR_iff.1 (Bool.of_not_eq_false h3)
        rw [Bool.not_eq_true,List.any_eq_false]at h4 h5
        refine ⟨Mx h3 (by omega) (by omega),by omega,fun p hp=> ?_⟩
        have h4:=h4 p hp
        have h5:=h5 p hp
        rw [Bool.not_eq_true,Bool.not_eq_false']at h4 h5
        refine ⟨Mx (inR_iff.1 h4) (by omega) (by omega),?_,fun n hn=> ?_⟩
        ·rcases Zs h5 with q|q
         ·rw [q];exact bS _
         ·omega
        ·have:=Hd h5 n hn
         omega
  ·have h:=V.work hw
   have hl:=V.long h.1 h.2.1
   have hlim:0≤w.Limit∧w.Limit≤2000:=by
     obtain ⟨i,hi,rfl⟩:=List.mem_iff_getElem.1 hw
     have:=firstE_none.1 V.workE i _ (lG hi)
     unfold Roadsz.workE at this
     split at this
     ·cases this
     ·split at this
      ·cases this
      ·rename_i h2
       obtain ⟨l,e1,_⟩:=Vi h.1 h.2.1
       rw [e1]at h2
       simp only [bH,not_or,Bool.not_eq_true',bL,lE,Option.get!_some]at h2
       have h3:=inR_iff.1 h2.2
       have:=II l.Kind
       omega
   exact ⟨by omega,by unfold Ck;omega,by unfold Ck;omega,by unfold Ck;omega,by unfold Ck;omega,by unfold Ck;omega⟩
theorem Uq {α:Type}(f:α→List Int)(c:Nat): ∀(l:List α),(∀a∈l,(f a).length≤c)→(l.flatMap f).length≤l.length*c
  | [],_=>by simp
  |a::r,h=>by
   rw [l7,lK,lJ,bT]
   have:=Uq f c r fun x hx=>h x (List.mem_cons_of_mem _ hx)
   have:=h a (List.mem_cons_self ..)
   omega
theorem EH {m:Map}(h:XN m):(Qh m).length≤10000:=by
  have a:=Uq Qt 60 m.Lanes fun l hl=>by
    have h:=h.2.1.2 l hl
    have h1:=h.2.2.2.1.1
    have h2:=h.2.2.2.2.1
    have:=Uq Un 2 l.Curve_.Pts fun p _=>bR 2
    simp only [Qt,Qs,lK,lJ,lL]
    omega
  have b:=Uq Sz 30 m.Zones fun z hz=>by
    have h:=(h.2.2.1.2 z hz).2.1
    have:=Uq Uo 4 z.Parts fun p _=>bR 4
    simp only [Sz,lK,lJ,lL]
    omega
  have c:=Uq BK 100 m.Signals fun s hs=>by
    have h:=(h.2.2.2.1.2 s hs).2
    have:=Uq Nu 14 s.Phases fun p hp=>by
      have:=(h.2 p hp).2.1
      simp only [Nu,Qs,lK,lJ,lL]
      omega
    have:=h.1
    simp only [BK,lK,lJ,lL]
    omega
  have d:=Uq Up 6 m.Works fun w _=>bR 6
  have:=h.2.1.1
  have:=h.2.2.1.1
  have:=h.2.2.2.1.1
  have:=h.2.2.2.2.1
  simp only [Qh,lK,lJ,lL]
  omega
theorem PF {m:Map}(h:Qe m=0):(Qh m).length≤100000000:=by have:=EH (Nv (chkR_zero.1 h));omega
theorem EI {m:Map}(B:BearM m):Cd m=some (Xs m):=OZ B PF
theorem Rn (m:Map):Ka (Fe m):=isB_append.2 ⟨by intro b hb;simp only [mark4,lS,List.not_mem_nil,or_false]at hb;omega,La _⟩
/-! ### Reading a string -/
/-- What a string is the bytes of. -/
def Xt (L:List Int)(m:Map):Prop:=L=Fe m∧Qe m=0
theorem Vk {L1:List Int}{m:Map}(h:Ad (Qh m)=L1)(hc:Qe m=0):IH (Ro L1 false)=some (m,Ro [] false):=by
  have:=prog_pr.fwd m [] (Nv (chkR_zero.1 hc)) Py
  rw [lN,h]at this
  exact this
theorem KH {L:List Int}{m m':Map}(h:Xt L m)(h':Xt L m'):m=m':=by
  have e:Ad (Qh m)=Ad (Qh m'):=List.append_cancel_left (h.1.symm.trans h'.1)
  have h1:=Vk rfl h.2
  rw [e,Vk rfl h'.2]at h1
  exact (congrArg Prod.fst (lC h1)).symm
theorem KI:ByteArray.empty=K5 []:=rfl
theorem SK {L:List Int}(hB:Ka L):((K5 L).toList==ByteArray.empty.toList)=(L== []):=by rw [KI,toList_eq hB Py]
theorem VO {L:List Int}(hB:Ka L)(hl:L.length≤1000000):Ce (K5 L) (ByteArray.mk #[107,98,109,49])=some (if L.take 4=mark4 then (K5 (L.drop 4),true)else (K5 L,false)):=by
  have hm:Ka mark4:=by intro b hb;simp only [mark4,lS,List.not_mem_nil,or_false]at hb;omega
  have e0:ByteArray.mk #[107,98,109,49]=K5 mark4:=rfl
  have hp:P1 (K5 L) (K5 mark4)=some (decide (L.take 4=mark4)):=by
    unfold P1
    rw [Y5,Y5]
    by_cases h4:4≤L.length
    ·rw [show decide ((L.length:Int)≥(mark4.length:Int))=true by rw [bB];simp [mark4];omega,bC,Pn (i:=0) (j:=(mark4.length:Int)) (by simp [mark4];omega),lA,Bool.true_and,
     show ((L.take ((mark4.length:Nat):Int).toNat).drop (0:Int).toNat)=L.take 4 from rfl,toList_eq (Sy hB 4) hm]
     congr 1
     rw [Bool.eq_iff_iff,bM,bB]
    ·rw [show decide ((L.length:Int)≥(mark4.length:Int))=false by rw [bN];simp [mark4];omega,bD,lA,Bool.false_and]
     congr 1
     symm
     rw [bN]
     intro h
     have:=congrArg List.length h
     rw [lT]at this
     simp [mark4]at this
     omega
  unfold Ce S4
  rw [e0,hp,lA]
  by_cases h:L.take 4=mark4
  ·have h4:4≤L.length:=by
     have:=congrArg List.length h
     rw [lT]at this
     simp [mark4]at this
     omega
   rw [l9 h,bE h,bI,bD,Y5,Y5,Pn (by simp [mark4];omega),lA,lA,
    show ((L.take ((L.length:Nat):Int).toNat).drop ((mark4.length:Nat):Int).toNat)=L.drop 4 by rw [bQ,bQ,List.take_length];rfl]
  ·rw [bA h,bF h];rfl
theorem Xu {L:List Int}{m:Map}(h:Xt L m):L.take 4=mark4∧L.drop 4=Ad (Qh m):=by
  rw [h.1];exact ⟨List.take_left' rfl,List.drop_left' rfl⟩
theorem Xv {L:List Int}(hB:Ka L)(hl:L.length≤100000): ∃r,Ba (K5 L)=some r∧((r=(BH,3)∧¬∃m,Xt L m)∨∃m,Xt L m∧BearM m∧r=(m,0)):=by
  unfold Ba
  rw [VO hB (by omega),lA]
  by_cases h:L.take 4=mark4
  ·rw [bE h]
   dsimp only
   rw [bI,bD]
   obtain ⟨m,L',b',e,B',l1,s1,m1,Q,_⟩:=prog_pr.tot (L.drop 4) false (Xp hB 4) (by rw [lU];omega)
   have hne: ∀m',Xt L m'→m'=m∧L'= []∧b'=false:=by
     intro m' h'
     have:=Vk (Xu h').2.symm h'.2
     rw [e]at this
     have h1:=congrArg Prod.fst (lC this)
     have h2:=congrArg Prod.snd (lC this)
     dsimp only at h1 h2
     have h3:=congrArg RoadsReader.s h2
     have h4:=congrArg RoadsReader.short h2
     exact ⟨h1.symm,Rm B' Py h3,h4⟩
   have key: ∀(K:Map×RoadsReader→Option (Map×Int)),((B0 (RoadsReader.mk (K5 (L.drop 4)) false)).bind fun v2=>(K8 v2.2).bind fun v3=>(K9 v3.2).bind fun v4=>(J7 v4.2).bind fun v5=>(L0 v5.2).bind fun v6=>K (Map.mk v2.1 v3.1 v4.1 v5.1 v6.1,v6.2))=K (m,Ro L' b'):=by
     intro K
     have:(IH (Ro (L.drop 4) false)).bind K=K (m,Ro L' b'):=by rw [e];rfl
     rw [← this]
     unfold IH
     simp only [Lh,Be,Option.bind_assoc,lA]
   have:=key fun x=>((cond (!(x.2.short||(!(x.2.s.toList==ByteArray.empty.toList)))) (R6 x.1) (some default))).bind fun v7=>cond ((x.2.short||(!(x.2.s.toList==ByteArray.empty.toList)))||(v7 !=0)) (some ((Map.mk 0 [] [] [] []),3)) ((Cd x.1).bind fun v8=>cond (!(v8.1.toList==(K5 L).toList)) (some ((Map.mk 0 [] [] [] []),3)) (some (x.1,0)))
   dsimp only at this
   rw [this,SK B',Ky Q]
   by_cases hg:b'=false∧L'= []
   ·obtain ⟨rfl,rfl⟩:=hg
    rw [show (false|| !(([]:List Int)== []))=false from rfl,bJ,bC,lA,Bool.false_or]
    by_cases hc:Qe m=0
    ·rw [hc,show ((0:Int) !=0)=false from rfl,bD,EI Q,lA]
     unfold Xs
     rw [bE hc]
     dsimp only
     rw [toList_eq (Rn m) hB]
     by_cases hL:Fe m=L
     ·rw [show (Fe m==L)=true by simpa using hL]
      exact ⟨_,rfl, .inr ⟨m,⟨hL.symm,hc⟩,Q,rfl⟩⟩
     ·rw [show (Fe m==L)=false by simpa using hL]
      refine ⟨_,rfl, .inl ⟨rfl,fun ⟨m',h'⟩=> ?_⟩⟩
      obtain ⟨rfl,_⟩:=hne m' h'
      exact hL h'.1.symm
    ·rw [show (Qe m !=0)=true by simpa using hc]
     refine ⟨_,rfl, .inl ⟨rfl,fun ⟨m',h'⟩=> ?_⟩⟩
     obtain ⟨rfl,_⟩:=hne m' h'
     exact hc h'.2
   ·have hb:(b'|| !(L'== []))=true:=by
      cases b'
      ·rw [Bool.false_or,Bool.not_eq_true',beq_eq_false_iff_ne];intro q;exact hg ⟨rfl,q⟩
      ·rfl
    rw [hb]
    refine ⟨_,rfl, .inl ⟨rfl,fun ⟨m',h'⟩=> ?_⟩⟩
    obtain ⟨_,h2,h3⟩:=hne m' h'
    exact hg ⟨h3,h2⟩
  ·rw [bF h]
   exact ⟨_,rfl, .inl ⟨rfl,fun ⟨m',h'⟩=>h (Xu h').1⟩⟩
theorem TI (a b:Map):(((((a.Version==b.Version)&&eqB a.Lanes b.Lanes)&&eqB a.Zones b.Zones)&&eqB a.Signals b.Signals)&&eqB a.Works b.Works)=eqB a b:=by
  cases a;cases b;rw [Bool.eq_iff_iff,eqB_iff];simp [eqB_iff,and_assoc]
theorem VP {l l':List Work}(h:l.length≤1000000):An l l'=some (eqB l l'):=
  Nt l l' _ (fun i a b ha hb=>by
   unfold S8
   rw [Ac (I9 ha),bC,F2 ha,F2 hb,lA,lA,OI,O2 (I9 ha) (by omega)]
   cases eqB a b<;>rfl) (by unfold S8;rw [U7];rfl)
theorem VQ {l l':List Lane}(h:l.length≤1000000)(hp: ∀x∈l,x.Curve_.Pts.length≤1000000∧x.Next.length≤1000000):J4 l l'=some (eqB l l'):=
  Nt l l' _ (fun i a b ha hb=>by
   unfold G0
   rw [Ac (I9 ha),bC,F2 ha,F2 hb,lA,lA,EC (hp a (lF ha)).1 (hp a (lF ha)).2,lA,O2 (I9 ha) (by omega)]
   cases eqB a b<;>rfl) (by unfold G0;rw [U7];rfl)
theorem VR {l l':List Zone}(h:l.length≤1000000)(hp: ∀x∈l,x.Parts.length≤1000000):J5 l l'=some (eqB l l'):=
  Nt l l' _ (fun i a b ha hb=>by
   unfold G1
   rw [Ac (I9 ha),bC,F2 ha,F2 hb,lA,lA,ED (hp a (lF ha)),lA,O2 (I9 ha) (by omega)]
   cases eqB a b<;>rfl) (by unfold G1;rw [U7];rfl)
theorem PG {l l':List Signal}(h:l.length≤1000000)(hp: ∀x∈l,x.Phases.length≤1000000∧∀p∈x.Phases,p.Green.length≤1000000):H4 l l'=some (eqB l l'):=
  Nt l l' _ (fun i a b ha hb=>by
   unfold E5
   rw [Ac (I9 ha),bC,F2 ha,F2 hb,lA,lA,Yn (hp a (lF ha)).1 (hp a (lF ha)).2,lA,O2 (I9 ha) (by omega)]
   cases eqB a b<;>rfl) (by unfold E5;rw [U7];rfl)
theorem SL {a b:Map}(A:BearM a):Kq a b=some (eqB a b):=by
  unfold Kq
  rw [VQ A.toBear.lanes A.toBear.pts,VR A.toBearZ.many A.toBearZ.parts,PG A.toBearS.many A.toBearS.phases,VP A.toBearW.many,← TI a b]
  cases a.Version==b.Version
  ·rfl
  ·cases eqB a.Lanes b.Lanes
   ·rfl
   ·cases eqB a.Zones b.Zones
    ·rfl
    ·cases eqB a.Signals b.Signals<;>rfl
theorem SM {α:Type}{a b:Map}{t:Int}(l l':List α)(h1:Fq a t=some (l.length:Int))(h2:Fq b t=some (l'.length:Int))(hn:l.length≤1000000)(ht:t≤4)(hs: ∀(i:Nat) x y,l[i]? =some x→l'[i]? =some y→Ap a b t (i:Int)=some (eqB x y)):
    Fk a b t=some (cond (eqB l l') (.go (I4 (t+1))) (.out (.inr false))):=by
  unfold Fk
  rw [l9 ht,bC,h1,h2,lA,lA]
  by_cases q:l.length=l'.length
  ·rw [show ((l.length:Int) !=(l'.length:Int))=false by rw [q];simp,bD,← Vj l l',q,beq_self_eq_true,Bool.and_true]
   rw [HW (l.zip l') (fun q=> !eqB q.1 q.2) false (fun i p h=>by
    obtain ⟨g1,g2⟩:=BD h
    unfold Fj
    rw [h1,lA,Ac (I9 g1),bC,hs i _ _ g1 g2,lA,O2 (I9 g1) (by omega)]
    cases eqB p.1 p.2<;>rfl) (by unfold Fj;rw [h1,lA,List.length_zip,← q,Nat.min_self,U7];rfl)]
   cases (l.zip l').any fun q=> !eqB q.1 q.2<;>simp [thenS]
  ·rw [show ((l.length:Int) !=(l'.length:Int))=true by rw [bne_iff_ne];omega,bC,OF (fun h=>q (by rw [h]))];rfl
theorem PH {a b:Map}(A:BearM a):Kr a b=some (eqB a b):=by
  have r1:=SM (a:=a) (b:=b) (t:=1) a.Lanes b.Lanes rfl rfl A.toBear.lanes (by omega) (fun i x y hx hy=>by
    obtain ⟨p1,p2⟩:=A.toBear.pts x (lF hx)
    unfold Ap
    rw [show ((1:Int)==1)=true from rfl,bC,F2 hx,F2 hy,lA,lA,OL p1 p2];rfl)
  have r2:=SM (a:=a) (b:=b) (t:=2) a.Zones b.Zones rfl rfl A.toBearZ.many (by omega) (fun i x y hx hy=>by
    have p1:=A.toBearZ.parts x (lF hx)
    unfold Ap
    rw [show ((2:Int)==1)=false from rfl,show ((2:Int)==2)=true from rfl,bD,bC,F2 hx,F2 hy,lA,lA,OM p1];rfl)
  have r3:=SM (a:=a) (b:=b) (t:=3) a.Signals b.Signals rfl rfl A.toBearS.many (by omega) (fun i x y hx hy=>by
    obtain ⟨p1,p2⟩:=A.toBearS.phases x (lF hx)
    unfold Ap
    rw [show ((3:Int)==1)=false from rfl,show ((3:Int)==2)=false from rfl,show ((3:Int)==3)=true from rfl,bD,bD,bC,F2 hx,F2 hy,lA,lA,GP p1 p2];rfl)
  have r4:=SM (a:=a) (b:=b) (t:=4) a.Works b.Works rfl rfl A.toBearW.many (by omega) (fun i x y hx hy=>by
    unfold Ap
    rw [show ((4:Int)==1)=false from rfl,show ((4:Int)==2)=false from rfl,show ((4:Int)==3)=false from rfl,bD,bD,bD,F2 hx,F2 hy,lA,lA,OI])
  unfold Kr
  rw [← TI a b]
  cases q1:eqB a.Lanes b.Lanes
  ·rw [M1 (t:= .inr false) (by rw [r1,q1];rfl)]
   simp [thenS]
  rw [Bf (s':=2) (by rw [r1,q1];rfl)]
  cases q2:eqB a.Zones b.Zones
  ·rw [M1 (t:= .inr false) (by rw [r2,q2];rfl)]
   simp [thenS]
  rw [Bf (s':=3) (by rw [r2,q2];rfl)]
  cases q3:eqB a.Signals b.Signals
  ·rw [M1 (t:= .inr false) (by rw [r3,q3];rfl)]
   simp [thenS]
  rw [Bf (s':=4) (by rw [r3,q3];rfl)]
  cases q4:eqB a.Works b.Works
  ·rw [M1 (t:= .inr false) (by rw [r4,q4];rfl)]
   simp [thenS]
  rw [Bf (s':=5) (by rw [r4,q4];rfl),M1 (t:= .inl ()) rfl]
  simp [thenS]
theorem EJ {α:Type}(a:α):eqB a a=true:=eqB_iff.2 rfl
theorem KJ {m:Map}(B:BearM m)(V:ValR m): ∃L,Ka L∧L.length≤90000∧4≤L.length∧L=Fe m∧Cd m=some (K5 L,0)∧Ba (K5 L)=some (m,0):=by
  have hc:=chkR_zero.2 V
  have hn:=EH (Nv V)
  have hl:(Fe m).length=4+8* (Qh m).length:=by unfold Fe;rw [lK,N3];rfl
  refine ⟨Fe m,Rn m,by omega,by omega,rfl,by rw [EI B];unfold Xs;rw [bE hc],?_⟩
  obtain ⟨r,e,h⟩:=Xv (Rn m) (by omega)
  rcases h with ⟨_,n⟩|⟨m',h',_,rfl⟩
  ·exact absurd ⟨m,rfl,hc⟩ n
  ·obtain rfl:=KH ⟨rfl,hc⟩ h'
   exact e
theorem Xw {m m':Map}{R:List Int}(hB:Ka R)(hc:Qe m=0)(hc':Qe m'=0)(h:Fe m++R=Fe m'):R= []:=by
  have e:Ad (Qh m)++R=Ad (Qh m'):=by
    unfold Fe at h
    rw [lM]at h
    exact List.append_cancel_left h
  have h1:=prog_pr.fwd m R (Nv (chkR_zero.1 hc)) hB
  have h2:=Vk e.symm hc'
  rw [h1]at h2
  have h3:=congrArg RoadsReader.s (congrArg Prod.snd (lC h2))
  exact Rm hB Py h3
theorem EK {L:List Int}(hB:Ka L)(hl:L.length≤100000)(h: ¬∃m,Xt L m):Ba (K5 L)=some (BH,3):=by
  obtain ⟨r,e,h'⟩:=Xv hB hl
  rcases h' with ⟨rfl,_⟩|⟨m,q,_⟩
  ·exact e
  ·exact absurd ⟨m,q⟩ h
theorem Og (n cut more:Int):Fm n cut more=some true:=by
  obtain ⟨i,p,hi,hp,ha⟩:=GM n
  have V:=RQ hi hp
  have B:=NZ (k:=i) hp
  unfold Fm
  rw [ha,lA,NY]
  generalize Sx i p=m at*
  obtain ⟨L,hB,hl,h4,hL,e1,e2⟩:=KJ B V
  have hc:=chkR_zero.2 V
  have hM: ∃M,Ka M∧M.length=1∧K5 [more]=K5 M:=⟨Z0 (K5 [more]),GQ _,by rw [Ra,Y5];rfl,(Yo _).symm⟩
  obtain ⟨M,hMB,hM1,eM⟩:=hM
  have b1:Ba (K5 (L++M))=some (BH,3):=EK (isB_append.2 ⟨hB,hMB⟩) (by rw [lK];omega) (fun ⟨m',h1,h2⟩=>by
    rw [hL]at h1
    have:=Xw hMB hc h2 h1
    rw [this]at hM1;simp at hM1)
  have hpos:(0:Int)< (L.length:Int):=by omega
  have hk0:=Int.emod_nonneg cut (show (L.length:Int)≠0 by omega)
  have hk1:=Int.emod_lt_of_pos cut hpos
  have b2:Ba (K5 (L.take (cut % (L.length:Int)).toNat))=some (BH,3):=EK (Sy hB _) (by rw [lT];omega) (fun ⟨m',h1,h2⟩=>by
    have e:Fe m'++L.drop (cut % (L.length:Int)).toNat=Fe m:=by rw [← h1,List.take_append_drop,hL]
    have:=congrArg List.length (Xw (Xp hB _) h2 hc e)
    rw [lU]at this
    simp at this;omega)
  rw [e1,lA]
  dsimp only
  rw [e2,lA,Y5,show decide ((L.length:Int)<4)=false by rw [bN];omega,SL B,EJ,PH B,EJ,eM,OP (by rw [hM1];omega),lA]
  dsimp only
  rw [Xn hpos (by omega),b1]
  simp only [bne_self_eq_false,Bool.or_false,bJ,bC,lA,bI,bD]
  rw [Pn (i:=0) (by omega),lA,show ((L.take (cut % (L.length:Int)).toNat).drop (0:Int).toNat)=L.take (cut % (L.length:Int)).toNat from rfl,b2]
  rfl
end Go.Abs.Roadsz
