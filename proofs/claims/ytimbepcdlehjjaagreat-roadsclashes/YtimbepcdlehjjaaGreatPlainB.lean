/-
  Plain facts, second part: the law itself.
-/
import Derived.Test.YtimbepcdlehjjaaGreatPlain
set_option linter.all false
namespace Go.Abs.Roadsz
open Go Go.Abs
def BQ (m:Map):Bool:= !(decide (m.Lanes.length>14)||decide (m.Zones.length>14)||decide (m.Signals.length>6)||decide (m.Works.length>10))&& !(m.Lanes.any fun l=>decide (l.Curve_.Pts.length>18)||decide (l.Next.length>5))&& !(m.Zones.any fun z=>decide (z.Parts.length>8))&& !(m.Signals.any fun s=>decide (s.Phases.length>8)||s.Phases.any fun p=>decide (p.Green.length>14))
theorem RL (m:Map):Nw m=some (BQ m):=by
  unfold Nw BQ
  by_cases h:m.Lanes.length>14∨m.Zones.length>14∨m.Signals.length>6∨m.Works.length>10
  ·rw [show (((decide ((m.Lanes.length:Int)>14))||(decide ((m.Zones.length:Int)>14))||(decide ((m.Signals.length:Int)>6)))||(decide ((m.Works.length:Int)>10)))=true by simp;omega,show ((((decide (m.Lanes.length>14))||(decide (m.Zones.length>14)))||(decide (m.Signals.length>6)))||(decide (m.Works.length>10)))=true by simp;omega]
   rfl
  ·rw [show (((decide ((m.Lanes.length:Int)>14))||(decide ((m.Zones.length:Int)>14))||(decide ((m.Signals.length:Int)>6)))||(decide ((m.Works.length:Int)>10)))=false by simp;omega,show ((((decide (m.Lanes.length>14))||(decide (m.Zones.length>14)))||(decide (m.Signals.length>6)))||(decide (m.Works.length>10)))=false by simp;omega,l9]
   rw [Mn m.Lanes (fun l=>decide (l.Curve_.Pts.length>18)||decide (l.Next.length>5)) false (fun i l hl=>by
    have hi:=H3 hl
    unfold Jd
    rw [J5 hi,C4 hl,l8,lA,H4 hi (by omega)]
    by_cases h1:l.Curve_.Pts.length>18
    ·rw [show decide ((l.Curve_.Pts.length:Int)>18)=true from l5 (by omega),show decide (l.Curve_.Pts.length>18)=true from l5 h1];rfl
    ·rw [show decide ((l.Curve_.Pts.length:Int)>18)=false from l6 (by omega),show decide (l.Curve_.Pts.length>18)=false from l6 h1]
     simp only [bG,l8,lA,bH]
     by_cases h2:l.Next.length>5
     ·rw [show decide ((l.Next.length:Int)>5)=true from l5 (by omega),show decide (l.Next.length>5)=true from l5 h2];rfl
     ·rw [show decide ((l.Next.length:Int)>5)=false from l6 (by omega),show decide (l.Next.length>5)=false from l6 h2];rfl) (by unfold Jd;rw [H5];rfl)]
   cases m.Lanes.any fun l=>decide (l.Curve_.Pts.length>18)||decide (l.Next.length>5)
   ·simp only [Bool.false_eq_true,if_false,thenS,bG,bC]
    rw [Mn m.Zones (fun z=>decide (z.Parts.length>8)) false (fun i z hz=>by
     have hi:=H3 hz
     unfold Jc
     rw [J5 hi,C4 hz,l8,lA,H4 hi (by omega)]
     by_cases h1:z.Parts.length>8
     ·rw [show decide ((z.Parts.length:Int)>8)=true from l5 (by omega),show decide (z.Parts.length>8)=true from l5 h1];rfl
     ·rw [show decide ((z.Parts.length:Int)>8)=false from l6 (by omega),show decide (z.Parts.length>8)=false from l6 h1];rfl) (by unfold Jc;rw [H5];rfl)]
    cases m.Zones.any fun z=>decide (z.Parts.length>8)
    ·simp only [Bool.false_eq_true,if_false,bG,bC]
     rw [Mn m.Signals (fun s=>decide (s.Phases.length>8)||s.Phases.any fun p=>decide (p.Green.length>14)) false (fun i s hs=>by
      have hi:=H3 hs
      unfold Jb
      rw [J5 hi,C4 hs,l8,lA,H4 hi (by omega)]
      by_cases h1:s.Phases.length>8
      ·rw [show decide ((s.Phases.length:Int)>8)=true from l5 (by omega),show decide (s.Phases.length>8)=true from l5 h1];rfl
      ·rw [show decide ((s.Phases.length:Int)>8)=false from l6 (by omega),show decide (s.Phases.length>8)=false from l6 h1,l9,bH]
       rw [Mn s.Phases (fun p=>decide (p.Green.length>14)) false (fun j p hp=>by
        have hj:=H3 hp
        unfold Ja
        rw [C4 hs,lA,J5 hj,l8,lA,C4 hp,lA,H4 hj (by omega)]
        by_cases h1:p.Green.length>14
        ·rw [show decide ((p.Green.length:Int)>14)=true from l5 (by omega),show decide (p.Green.length>14)=true from l5 h1];rfl
        ·rw [show decide ((p.Green.length:Int)>14)=false from l6 (by omega),show decide (p.Green.length>14)=false from l6 h1];rfl) (by unfold Ja;rw [C4 hs,lA,H5];rfl)]
       cases s.Phases.any fun p=>decide (p.Green.length>14)<;>rfl) (by unfold Jb;rw [H5];rfl)]
     cases m.Signals.any fun s=>decide (s.Phases.length>8)||s.Phases.any fun p=>decide (p.Green.length>14)<;>rfl
    ·rfl
   ·rfl
theorem KM {m:Map}(h:BQ m=true):BearM m:=by
  unfold BQ at h
  simp only [bD,Bool.not_eq_true',Bool.or_eq_false_iff,decide_eq_false_iff_not,List.any_eq_false,bE,l7,not_or,Nat.not_lt,gt_iff_lt,List.any_eq_true,not_exists,not_and]at h
  obtain ⟨⟨⟨⟨⟨⟨h1,h2⟩,h3⟩,h4⟩,h5⟩,h6⟩,h7⟩:=h
  refine ⟨⟨by omega,fun l hl=> ?_⟩,⟨by omega,fun s hs=>⟨?_,fun p hp=> ?_⟩⟩,⟨by omega,fun z hz=> ?_⟩,⟨by omega⟩⟩
  ·have:=h5 l hl;omega
  ·have:=(h7 s hs).1;omega
  ·have:=(h7 s hs).2 p hp;omega
  ·have:=h6 z hz;omega
theorem RM:Ec=some true:=law03_awake_le _ (by decide+kernel)
noncomputable def Vo (p q:Spot):Int:=rt (D1 (N2 p q) (N2 p q))
theorem BR (p q:Spot)(r:List Spot):Jn (p::q::r)=Vo p q::Jn (q::r):=Ll p q r
theorem Nn (i:Nat)(s:Int)(p q:Spot)(r:List Spot):Dj i s (p::q::r)=((i:Int),⟨p,N2 p q,Vo p q,s⟩)::Dj (i+1) (C8 (s+Vo p q)) (q::r):=Pc i s p q r
theorem Good.inv {last:Option CurveVector}{p q:Spot}{r:List Spot}(h:Good last (p::q::r)):Vo p q*Vo p q=D1 (N2 p q) (N2 p q)∧1000≤Vo p q∧Vo p q≤1048576∧(∀u,last=some u→0<D1 u (N2 p q))∧Good (some (N2 p q)) (q::r):=by
  cases h with|cons _ _ _ _ h1 h2 h3 h4 h=>exact ⟨h1,h2,h3,h4,h⟩
theorem Wv: ∀(i:Nat) (l:List Spot),Jn (l.drop i)=(Jn l).drop i
  |0,_=>rfl
  |_+1,[]=>by simp [Jn]
  |_+1,[_]=>by simp [Jn]
  |i+1,p::q::r=>by rw [BR,List.drop_succ_cons,List.drop_succ_cons];exact Wv i (q::r)
theorem Ty {l:List Spot}(h:Valid l): ∃p q r,l=p::q::r:=by
  match l,h with
  |p::q::r,_=>exact ⟨p,q,r,rfl⟩
  | [p],h=>exact absurd h.two (by simp)
  | [],h=>exact absurd h.two (by simp)
theorem Rm {a b:Int}(hb:0<b)(ha:I5 a):Bd a b=some (a / b):=by
  unfold Bd PT PU
  rw [bB (by omega),bB (by omega)]
  simp only [lA]
  have hle:a.natAbs / b.natAbs≤a.natAbs:=Nat.div_le_self _ _
  have h1:=Int.tmod_lt_of_pos a hb
  have h3:=Int.tdiv_mul_add_tmod a b
  have h4:=Int.ediv_mul_add_emod a b
  have h5:=Int.emod_nonneg a (show b≠0 by omega)
  have h6:=Int.emod_lt_of_pos a hb
  have hq:= @Int.tdiv_eq_ediv a b
  have hm:= @Int.tmod_eq_emod a b
  unfold I5 at ha
  have hab: -9223372036854775808≤a / b∧a / b≤9223372036854775807:=by
    constructor
    ·have:=Int.le_ediv_of_mul_le hb (show -9223372036854775808*b≤a by
       have:=bT (show (1:Int)≤b by omega) (show (0:Int)≤9223372036854775808 by decide);omega)
     exact this
    ·have:=Int.ediv_le_of_le_mul hb (show a≤9223372036854775807*b by
       have:=bT (show (1:Int)≤b by omega) (show (0:Int)≤9223372036854775807 by decide);omega)
     exact this
  by_cases hc:0≤a∨b ∣ a
  ·rw [bA hc,Int.add_zero]at hq
   rw [bA hc,show ((0:Nat):Int)=0 from rfl,Int.sub_zero]at hm
   rw [hq,hm,show decide (a % b<0)=false from l6 (by omega),show IntKind.i64.wrap (a / b)=a / b from E0 hab];rfl
  ·rw [bB hc,Int.sign_eq_one_of_pos hb]at hq
   rw [bB hc,Int.natAbs_of_nonneg (by omega)]at hm
   have hneg:a / b<0:=by
     rcases Int.lt_or_le (a / b) 0 with q|q
     ·exact q
     ·have:=bU q (show 0≤b by omega)
      exact absurd (.inl (by omega)) hc
   rw [hq,hm,show decide (a % b - b<0)=true from l5 (by omega),show IntKind.i64.wrap (a / b+1)=a / b+1 from E0 (by omega),E0 (by omega)]
   simp only [l8]
   congr 1
   omega
def Rn (v w:CurveVector):Int:=v.x*w.y - v.y*w.x
theorem RN {v w:CurveVector}(hv:Yh v)(hw:Yh w): -2251799813685248≤Rn v w∧Rn v w≤2251799813685248∧(-1125899906842624≤v.x*w.y∧v.x*w.y≤1125899906842624)∧ -1125899906842624≤v.y*w.x∧v.y*w.x≤1125899906842624:=by
  obtain ⟨v1,v2,v3,v4⟩:=hv
  obtain ⟨w1,w2,w3,w4⟩:=hw
  have m1:=Z8 ⟨v1,v2⟩ ⟨w3,w4⟩
  have m2:=Z8 ⟨v3,v4⟩ ⟨w1,w2⟩
  unfold Rn
  omega
theorem Mq {v w:CurveVector}(hv:Yh v)(hw:Yh w):Gp (vs v) (vs w)=some (Rn v w):=by
  have:=RN hv hw
  unfold Rn at this
  unfold Gp Rn vs
  dsimp only
  rw [E0 (n:=v.x*w.y) (by omega),E0 (n:=v.y*w.x) (by omega),E0 (by omega)]
def Hh (x:Int):Int:=max x (-x)
theorem Vp {x:Int}(h: -2251799813685248≤x∧x≤2251799813685248):Lk x=some (Hh x):=by
  unfold Lk Hh
  rw [Ox,E0 (by omega),show 0 - x= -x by omega]
theorem Hi {x y:Int}(hy:0≤y)(h:x*x≤y*y): -y≤x∧x≤y:=by
  constructor
  ·refine Int.not_lt.1 fun q=> ?_
   have h1:=bT (show y≤ -x by omega) hy
   have h2:=Int.mul_lt_mul_of_pos_right (show y< -x by omega) (show 0< -x by omega)
   have h3: -x* -x=x*x:=by grind
   omega
  ·refine Int.not_lt.1 fun q=> ?_
   have h1:=bT (show y≤x by omega) hy
   have h2:=Int.mul_lt_mul_of_pos_right q (show 0<x by omega)
   omega
theorem RO {N l w E:Int}(hl:0<l):(w+ -(N / l)>E)↔ (l*w - N>E*l):=by
  have h:=Int.ediv_lt_iff_lt_mul (a:=N) (b:=w - E) hl
  have e:(w - E)*l=l*w - E*l:=by grind
  omega
theorem RP {N l w E:Int}(hl:0<l):(w+N / l<E)↔ (l*w+N<E*l):=by
  have h:=Int.ediv_lt_iff_lt_mul (a:=N) (b:=E - w) hl
  have e:(E - w)*l=E*l - l*w:=by grind
  omega
def G0 (v:CurveVector):CurveVector:=⟨-v.y,v.x⟩
/-- A corridor whose numbers are in range. -/
structure Cor (c:CurveCorridor):Prop where
  p:Na c.piece.p=true
  l1:1000≤c.piece.l
  l2:c.piece.l≤1048576
  sq:c.piece.l*c.piece.l=D1 c.piece.v c.piece.v
  x: -c.piece.l≤c.piece.v.x∧c.piece.v.x≤c.piece.l
  y: -c.piece.l≤c.piece.v.y∧c.piece.v.y≤c.piece.l
  h:0≤c.half∧c.half≤4000
  e1:0≤c.ends.1∧c.ends.1≤c.piece.l
  e2:0≤c.ends.2∧c.ends.2≤c.piece.l
/-- One axis: the first interval is E1 to E2, the second lies about w. -/
def FH (w k m h l e1 e2 E1 E2:Int):Bool:=decide (l*w+min (e1*k) (e2*k) - h*Hh m>E2*l)||decide (l*w+max (e1*k) (e2*k)+h*Hh m<E1*l)
def wv (c d:CurveCorridor):CurveVector:=N2 c.piece.p d.piece.p
def Ks (c d:CurveCorridor):Bool:=
  FH (D1 (wv c d) c.piece.v) (D1 d.piece.v c.piece.v) (D1 (G0 d.piece.v) c.piece.v) d.half d.piece.l d.ends.1 d.ends.2 (c.ends.1*c.piece.l) (c.ends.2*c.piece.l)||
  FH (D1 (wv c d) (G0 c.piece.v)) (D1 d.piece.v (G0 c.piece.v)) (D1 (G0 d.piece.v) (G0 c.piece.v)) d.half d.piece.l d.ends.1 d.ends.2 (-(c.half*c.piece.l)) (c.half*c.piece.l)
theorem Ss {v:CurveVector}(_: -1048576≤v.x∧v.x≤1048576)(h2: -1048576≤v.y∧v.y≤1048576):V5 v=some (G0 v):=by
  unfold V5 G0
  rw [E0 (by omega),show 0 - v.y= -v.y by omega]
theorem Iu {v w:CurveVector}(hx: -1048576≤v.x∧v.x≤1048576)(hy: -1048576≤v.y∧v.y≤1048576)(wx: -1048576≤w.x∧w.x≤1048576)(wy: -1048576≤w.y∧w.y≤1048576): -2199023255552≤D1 v w∧D1 v w≤2199023255552:=by
  have m1:=Z8 hx wx
  have m2:=Z8 hy wy
  unfold D1
  omega
theorem BS {w k m h l e1 e2:Int}(hw: -2251799813685248≤w∧w≤2251799813685248)(hk: -2199023255552≤k∧k≤2199023255552)(hm: -2199023255552≤m∧m≤2199023255552)(hh:0≤h∧h≤4000)(hl:1000≤l∧l≤1048576)(he1:0≤e1∧e1≤l)(he2:0≤e2∧e2≤l):
    ∃f g,Bd (C8 (C8 (h*Hh m) - Sj false (C8 (e1*k)) (C8 (e2*k)))) l=some f∧Bd (C8 (Sj true (C8 (e1*k)) (C8 (e2*k))+C8 (h*Hh m))) l=some g∧
     ∀E1 E2:Int,(decide (C8 (w+C8 (0 - f))>E2)||decide (C8 (w+g)<E1))=FH w k m h l e1 e2 E1 E2:=by
  have ha:0≤Hh m∧Hh m≤2199023255552:=by unfold Hh;omega
  have m1:=Z8 (show -1048576≤e1∧e1≤1048576 by omega) hk
  have m2:=Z8 (show -1048576≤e2∧e2≤1048576 by omega) hk
  have m3:=Z8 (show -4000≤h∧h≤4000 by omega) (show -2199023255552≤Hh m∧Hh m≤2199023255552 by omega)
  rw [E0 (n:=h*Hh m) (by omega),E0 (n:=e1*k) (by omega),E0 (n:=e2*k) (by omega),Ox,Ry,E0 (n:=h*Hh m - _) (by omega),E0 (n:=max _ _+_) (by omega)]
  rw [Rm (by omega) (by unfold I5;omega),Rm (by omega) (by unfold I5;omega)]
  have hd: ∀N:Int, -2400000000000000000≤N→N≤2400000000000000000→ -2400000000000000≤N / l∧N / l≤2400000000000000:=by
    intro N n1 n2
    constructor
    ·exact Int.le_ediv_of_mul_le (by omega) (by omega)
    ·exact Int.ediv_le_of_le_mul (by omega) (by omega)
  have d1:=hd (h*Hh m - min (e1*k) (e2*k)) (by omega) (by omega)
  have d2:=hd (max (e1*k) (e2*k)+h*Hh m) (by omega) (by omega)
  refine ⟨_,_,rfl,rfl,?_⟩
  intro E1 E2
  rw [E0 (n:=0 - _) (by omega),E0 (n:=w+ (0 - _)) (by omega),E0 (n:=w+_ / l) (by omega),Int.zero_sub]
  unfold FH
  congr 1
  ·exact decide_eq_decide.2 ((RO (by omega)).trans (by omega))
  ·exact decide_eq_decide.2 ((RP (by omega)).trans (by omega))
theorem Ro {c d:CurveCorridor}(C:Cor c)(D:Cor d):U6 c d=some (Ks c d):=by
  have c1:=C.l1
  have c2:=C.l2
  have d1:=D.l1
  have d2:=D.l2
  obtain ⟨cx1,cx2⟩:=C.x
  obtain ⟨cy1,cy2⟩:=C.y
  obtain ⟨dx1,dx2⟩:=D.x
  obtain ⟨dy1,dy2⟩:=D.y
  have ch:=C.h
  have ce1:=C.e1
  have ce2:=C.e2
  have hcv:Yh c.piece.v:=⟨by omega,by omega,by omega,by omega⟩
  have hdv:Yh d.piece.v:=⟨by omega,by omega,by omega,by omega⟩
  have hcl:Yh (G0 c.piece.v):=⟨by unfold G0;dsimp only;omega,by unfold G0;dsimp only;omega,by unfold G0;dsimp only;omega,by unfold G0;dsimp only;omega⟩
  have hdl:Yh (G0 d.piece.v):=⟨by unfold G0;dsimp only;omega,by unfold G0;dsimp only;omega,by unfold G0;dsimp only;omega,by unfold G0;dsimp only;omega⟩
  have hw:=Nb C.p D.p
  have lx:(G0 c.piece.v).x= -c.piece.v.y∧(G0 c.piece.v).y=c.piece.v.x:=⟨rfl,rfl⟩
  have ly:(G0 d.piece.v).x= -d.piece.v.y∧(G0 d.piece.v).y=d.piece.v.x:=⟨rfl,rfl⟩
  have k1:=Iu (v:=d.piece.v) (w:=c.piece.v) (by omega) (by omega) (by omega) (by omega)
  have k2:=Iu (v:=G0 d.piece.v) (w:=c.piece.v) (by omega) (by omega) (by omega) (by omega)
  have k3:=Iu (v:=d.piece.v) (w:=G0 c.piece.v) (by omega) (by omega) (by omega) (by omega)
  have k4:=Iu (v:=G0 d.piece.v) (w:=G0 c.piece.v) (by omega) (by omega) (by omega) (by omega)
  have w1:=BB hw hcv
  have w2:=BB hw hcl
  have q1:=Z8 (show -1048576≤c.ends.1∧c.ends.1≤1048576 by omega) (show -1048576≤c.piece.l∧c.piece.l≤1048576 by omega)
  have q2:=Z8 (show -1048576≤c.ends.2∧c.ends.2≤1048576 by omega) (show -1048576≤c.piece.l∧c.piece.l≤1048576 by omega)
  have q3:=Z8 (show -4000≤c.half∧c.half≤4000 by omega) (show -1048576≤c.piece.l∧c.piece.l≤1048576 by omega)
  have q4:(0 - c.half)*c.piece.l= -(c.half*c.piece.l):=by grind
  obtain ⟨f1,g1,h1,h2,h3⟩:=BS (w:=D1 (wv c d) c.piece.v) (by unfold wv;omega) k1 k2 D.h ⟨d1,d2⟩ D.e1 D.e2
  obtain ⟨f2,g2,h4,h5,h6⟩:=BS (w:=D1 (wv c d) (G0 c.piece.v)) (by unfold wv;omega) k3 k4 D.h ⟨d1,d2⟩ D.e1 D.e2
  unfold U6 Ks
  simp only [Nm C.p D.p,Ss (v:=c.piece.v) (by omega) (by omega),Ss (v:=d.piece.v) (by omega) (by omega),lA,Ay hdv hcv,Ay hdl hcv,Ay hw hcv,Ay hdv hcl,Ay hdl hcl,Ay hw hcl,
    Vp (x:=D1 (G0 d.piece.v) c.piece.v) (by omega),Vp (x:=D1 (G0 d.piece.v) (G0 c.piece.v)) (by omega),h1,h2,h4,h5]
  rw [E0 (n:=c.ends.2*c.piece.l) (by omega),E0 (n:=c.ends.1*c.piece.l) (by omega),E0 (n:=c.half*c.piece.l) (by omega),E0 (n:=0 - c.half) (by omega),E0 (n:=(0 - c.half)*c.piece.l) (by omega),q4]
  have r1:=h3 (c.ends.1*c.piece.l) (c.ends.2*c.piece.l)
  have r2:=h6 (-(c.half*c.piece.l)) (c.half*c.piece.l)
  unfold wv at r1 r2 ⊢
  rw [r1,r2]
  cases FH (D1 (N2 c.piece.p d.piece.p) c.piece.v) (D1 d.piece.v c.piece.v) (D1 (G0 d.piece.v) c.piece.v) d.half d.piece.l d.ends.1 d.ends.2 (c.ends.1*c.piece.l) (c.ends.2*c.piece.l)
  ·cases FH (D1 (N2 c.piece.p d.piece.p) (G0 c.piece.v)) (D1 d.piece.v (G0 c.piece.v)) (D1 (G0 d.piece.v) (G0 c.piece.v)) d.half d.piece.l d.ends.1 d.ends.2 (-(c.half*c.piece.l)) (c.half*c.piece.l)<;>rfl
  ·rfl
def Fo (c:CurveCorridor):Ref01Stripe:=⟨c.piece.p,vs c.piece.v,c.piece.l,c.half,c.ends.1,c.ends.2⟩
theorem KN (v w:CurveVector):Rn v w=D1 w (G0 v):=by unfold Rn D1 G0;dsimp only;grind
theorem NI {lc ld hc hd K M L W1 W2 N:Int}(lc0:0≤lc)(ld0:0≤ld)(hc0:0≤hc)(hd0:0≤hd)(L0:0<L)(hKM:K*K+M*M=L*L)
    (b1: -(lc*L+ (ld*K+hd*M))≤ld*W1∧ld*W1≤lc*L+ (ld*K+hd*M)) (b2: -(hc*L+ (ld*M+hd*K))≤ld*W2∧ld*W2≤hc*L+ (ld*M+hd*K))
    (hN:W1*W1+W2*W2=N* (lc*lc)) (hL:L=lc*ld):N≤(lc+ld+hc+hd)* (lc+ld+hc+hd):=by
  have k0:=Af K
  have m0:=Af M
  have kL:=(Hi (x:=K) (y:=L) (by omega) (by omega)).2
  have mL:=(Hi (x:=M) (y:=L) (by omega) (by omega)).2
  have p1:=bT kL ld0
  have p2:=bT mL hd0
  have p3:=bT mL ld0
  have p4:=bT kL hd0
  have s1:=DD b1.1 b1.2
  have s2:=DD b2.1 b2.2
  have d:=Af (K - M)
  have d2:(K - M)* (K - M)=K*K+M*M - 2* (K*M):=by grind
  have x1:=bT (show 2* (K*M)≤L*L by omega) (bU ld0 hd0)
  have e1:(ld*K+hd*M)* (ld*K+hd*M)+ (ld*M+hd*K)* (ld*M+hd*K)=(ld*ld+hd*hd)* (L*L)+2* (ld*hd* (2* (K*M))):=by grind
  have e2:(ld+hd)* (ld+hd)* (L*L)=(ld*ld+hd*hd)* (L*L)+2* (ld*hd* (L*L)):=by grind
  have x2:=bT (show ld*K+hd*M≤(ld+hd)*L by rw [Int.add_mul];omega) (bU lc0 (show 0≤L by omega))
  have x3:=bT (show ld*M+hd*K≤(ld+hd)*L by rw [Int.add_mul];omega) (bU hc0 (show 0≤L by omega))
  have x4:=bU (bU lc0 hc0) (bU (show 0≤L by omega) (show 0≤L by omega))
  have e3:(lc*L+ (ld*K+hd*M))* (lc*L+ (ld*K+hd*M))=lc*lc* (L*L)+2* (lc*L* (ld*K+hd*M))+ (ld*K+hd*M)* (ld*K+hd*M):=by grind
  have e4:(hc*L+ (ld*M+hd*K))* (hc*L+ (ld*M+hd*K))=hc*hc* (L*L)+2* (hc*L* (ld*M+hd*K))+ (ld*M+hd*K)* (ld*M+hd*K):=by grind
  have e5:L*L* ((lc+ld+hc+hd)* (lc+ld+hc+hd))=lc*lc* (L*L)+hc*hc* (L*L)+2* (lc*hc* (L*L))+2* (lc*L* ((ld+hd)*L))+2* (hc*L* ((ld+hd)*L))+ (ld+hd)* (ld+hd)* (L*L):=by grind
  have e6:ld*W1* (ld*W1)+ld*W2* (ld*W2)=L*L*N:=by
    have:ld*W1* (ld*W1)+ld*W2* (ld*W2)=ld*ld* (W1*W1+W2*W2):=by grind
    rw [this,hN,hL];grind
  exact Int.le_of_mul_le_mul_left (show L*L*N≤L*L* ((lc+ld+hc+hd)* (lc+ld+hc+hd)) by omega) (Int.mul_pos L0 L0)
def R2 (c d:CurveCorridor):Int:=(c.piece.l+d.piece.l+c.half+d.half)* (c.piece.l+d.piece.l+c.half+d.half)
theorem BT (v w:CurveVector):D1 w v*D1 w v+D1 w (G0 v)*D1 w (G0 v)=D1 w w*D1 v v:=by unfold D1 G0;dsimp only;grind
theorem UO {e1 e2 k l:Int}(he1:0≤e1∧e1≤l)(he2:0≤e2∧e2≤l): -(l*Hh k)≤min (e1*k) (e2*k)∧max (e1*k) (e2*k)≤l*Hh k:=by
  have ha: -(Hh k)≤k∧k≤Hh k:=by unfold Hh;omega
  have m1:=Z8 (show -l≤e1∧e1≤l by omega) ha
  have m2:=Z8 (show -l≤e2∧e2≤l by omega) ha
  omega
theorem LQ (k:Int):Hh k*Hh k=k*k:=by
  unfold Hh
  rcases Int.le_total 0 k with h|h
  ·rw [Int.max_eq_left (by omega)]
  ·rw [Int.max_eq_right (by omega)];grind
theorem BU {w k m h l e1 e2 E1 E2:Int}(he1:0≤e1∧e1≤l)(he2:0≤e2∧e2≤l)(ha:FH w k m h l e1 e2 E1 E2=false):E1*l - (l*Hh k+h*Hh m)≤l*w∧l*w≤E2*l+ (l*Hh k+h*Hh m):=by
  have hb:=UO (k:=k) he1 he2
  unfold FH at ha
  simp only [Bool.or_eq_false_iff,decide_eq_false_iff_not]at ha
  omega
/-- Corridors that one pair of axes does not part lie near each other. -/
theorem CN {c d:CurveCorridor}(C:Cor c)(D:Cor d)(h:Ks c d=false):D1 (wv c d) (wv c d)≤R2 c d:=by
  unfold Ks at h
  rw [Bool.or_eq_false_iff]at h
  obtain ⟨a1,a2⟩:=BU D.e1 D.e2 h.1
  obtain ⟨a3,a4⟩:=BU D.e1 D.e2 h.2
  have c1:=C.l1
  have d1:=D.l1
  have ce1:=C.e1
  have ce2:=C.e2
  have ch:=C.h
  have dh:=D.h
  have i1:D1 d.piece.v (G0 c.piece.v)= -(D1 (G0 d.piece.v) c.piece.v):=by unfold D1 G0;dsimp only;grind
  have i2:D1 (G0 d.piece.v) (G0 c.piece.v)=D1 d.piece.v c.piece.v:=by unfold D1 G0;dsimp only;grind
  have i3:Hh (-(D1 (G0 d.piece.v) c.piece.v))=Hh (D1 (G0 d.piece.v) c.piece.v):=by unfold Hh;omega
  rw [i1,i2,i3]at a3 a4
  have g1:=BT c.piece.v d.piece.v
  have g2:=BT c.piece.v (wv c d)
  rw [← C.sq,← D.sq,i1,Int.neg_mul_neg,← LQ,← LQ (D1 (G0 d.piece.v) c.piece.v)]at g1
  rw [← C.sq]at g2
  have L0:=Int.mul_pos (show 0<c.piece.l by omega) (show 0<d.piece.l by omega)
  have q1:=Int.mul_le_mul_of_nonneg_right ce2.2 (Int.le_of_lt L0)
  have q2:=bU ce1.1 (Int.le_of_lt L0)
  have q3:c.ends.2*c.piece.l*d.piece.l=c.ends.2* (c.piece.l*d.piece.l):=by grind
  have q4:c.ends.1*c.piece.l*d.piece.l=c.ends.1* (c.piece.l*d.piece.l):=by grind
  have q5:c.half*c.piece.l*d.piece.l=c.half* (c.piece.l*d.piece.l):=by grind
  have q6: -(c.half*c.piece.l)*d.piece.l= -(c.half* (c.piece.l*d.piece.l)):=by grind
  have q7:=bU (show 0≤c.piece.l by omega) (Int.le_of_lt L0)
  unfold R2
  exact NI (lc:=c.piece.l) (ld:=d.piece.l) (hc:=c.half) (hd:=d.half) (K:=Hh (D1 d.piece.v c.piece.v)) (M:=Hh (D1 (G0 d.piece.v) c.piece.v)) (L:=c.piece.l*d.piece.l) (W1:=D1 (wv c d) c.piece.v) (W2:=D1 (wv c d) (G0 c.piece.v))
    (by omega) (by omega) ch.1 dh.1 L0 (by rw [g1];grind) (by omega) (by omega) (by rw [g2]) rfl
theorem ZF {c d:CurveCorridor}(C:Cor c)(D:Cor d)(h:D1 (wv c d) (wv c d)≤R2 c d):(-2207412060160≤D1 (wv c d) c.piece.v∧D1 (wv c d) c.piece.v≤2207412060160)∧ -2207412060160≤D1 (wv c d) (G0 c.piece.v)∧D1 (wv c d) (G0 c.piece.v)≤2207412060160:=by
  have c1:=C.l1
  have c2:=C.l2
  have d1:=D.l1
  have d2:=D.l2
  have ch:=C.h
  have dh:=D.h
  have g2:=BT c.piece.v (wv c d)
  rw [← C.sq]at g2
  have s1:=Af (D1 (wv c d) c.piece.v)
  have s2:=Af (D1 (wv c d) (G0 c.piece.v))
  have k:=Int.mul_le_mul_of_nonneg_right h (Af c.piece.l)
  have k2:R2 c d* (c.piece.l*c.piece.l)=((c.piece.l+d.piece.l+c.half+d.half)*c.piece.l)* ((c.piece.l+d.piece.l+c.half+d.half)*c.piece.l):=by unfold R2;grind
  have b:=Z8 (show -2105152≤c.piece.l+d.piece.l+c.half+d.half∧c.piece.l+d.piece.l+c.half+d.half≤2105152 by omega) (show -1048576≤c.piece.l∧c.piece.l≤1048576 by omega)
  have b0:=bU (show 0≤c.piece.l+d.piece.l+c.half+d.half by omega) (show 0≤c.piece.l by omega)
  have r1:=Hi (x:=D1 (wv c d) c.piece.v) b0 (by omega)
  have r2:=Hi (x:=D1 (wv c d) (G0 c.piece.v)) b0 (by omega)
  omega
/-- The value of a corner. -/
def cv (w k m l y z:Int):Int:=l*w+y*k+z*m
theorem Ld {c d:CurveCorridor}(C:Cor c)(D:Cor d)(h:D1 (wv c d) (wv c d)≤R2 c d)(i y z:Int)(a0 a1 a2 a3 b0 b1 b2 b3:Int)
    (hi:0≤i∧i<4) (hy:cond ((i.tmod 2)==1) (some d.ends.2) (some d.ends.1)=some y) (hz:cond (decide (i≥2)) (some (C8 (0 - d.half))) (some d.half)=some z)
    (yb:0≤y∧y≤1048576) (zb: -4000≤z∧z≤4000)
    (hb:cond (i==0) (cv (D1 (wv c d) c.piece.v) (D1 d.piece.v c.piece.v) (D1 (G0 d.piece.v) c.piece.v) d.piece.l y z,cv (D1 (wv c d) c.piece.v) (D1 d.piece.v c.piece.v) (D1 (G0 d.piece.v) c.piece.v) d.piece.l y z,cv (D1 (wv c d) (G0 c.piece.v)) (D1 d.piece.v (G0 c.piece.v)) (D1 (G0 d.piece.v) (G0 c.piece.v)) d.piece.l y z,cv (D1 (wv c d) (G0 c.piece.v)) (D1 d.piece.v (G0 c.piece.v)) (D1 (G0 d.piece.v) (G0 c.piece.v)) d.piece.l y z) (a0,a1,a2,a3)=(b0,b1,b2,b3)):
    Bk (Fo c) (Fo d) (vs (wv c d)) (a0,a1,a2,a3,i)=some (.go (
     min b0 (cv (D1 (wv c d) c.piece.v) (D1 d.piece.v c.piece.v) (D1 (G0 d.piece.v) c.piece.v) d.piece.l y z),
     max b1 (cv (D1 (wv c d) c.piece.v) (D1 d.piece.v c.piece.v) (D1 (G0 d.piece.v) c.piece.v) d.piece.l y z),
     min b2 (cv (D1 (wv c d) (G0 c.piece.v)) (D1 d.piece.v (G0 c.piece.v)) (D1 (G0 d.piece.v) (G0 c.piece.v)) d.piece.l y z),
     max b3 (cv (D1 (wv c d) (G0 c.piece.v)) (D1 d.piece.v (G0 c.piece.v)) (D1 (G0 d.piece.v) (G0 c.piece.v)) d.piece.l y z),i+1)):=by
  have c1:=C.l1
  have c2:=C.l2
  have d1:=D.l1
  have d2:=D.l2
  obtain ⟨cx1,cx2⟩:=C.x
  obtain ⟨cy1,cy2⟩:=C.y
  obtain ⟨dx1,dx2⟩:=D.x
  obtain ⟨dy1,dy2⟩:=D.y
  obtain ⟨w1,w2⟩:=ZF C D h
  have hcv:Yh c.piece.v:=⟨by omega,by omega,by omega,by omega⟩
  have hdv:Yh d.piece.v:=⟨by omega,by omega,by omega,by omega⟩
  have hdl:Yh (G0 d.piece.v):=⟨by unfold G0;dsimp only;omega,by unfold G0;dsimp only;omega,by unfold G0;dsimp only;omega,by unfold G0;dsimp only;omega⟩
  have hw:Yh (wv c d):=Nb C.p D.p
  have lx:(G0 c.piece.v).x= -c.piece.v.y∧(G0 c.piece.v).y=c.piece.v.x:=⟨rfl,rfl⟩
  have ly:(G0 d.piece.v).x= -d.piece.v.y∧(G0 d.piece.v).y=d.piece.v.x:=⟨rfl,rfl⟩
  have k1:=Iu (v:=d.piece.v) (w:=c.piece.v) (by omega) (by omega) (by omega) (by omega)
  have k2:=Iu (v:=G0 d.piece.v) (w:=c.piece.v) (by omega) (by omega) (by omega) (by omega)
  have k3:=Iu (v:=d.piece.v) (w:=G0 c.piece.v) (by omega) (by omega) (by omega) (by omega)
  have k4:=Iu (v:=G0 d.piece.v) (w:=G0 c.piece.v) (by omega) (by omega) (by omega) (by omega)
  have hl:(⟨C8 (0 - (Fo d).v.Y),(Fo d).v.X⟩:Spot)=vs (G0 d.piece.v):=by
    unfold Fo vs G0
    dsimp only
    rw [E0 (by omega),Int.zero_sub]
  have m1:=Z8 (show -1048576≤d.piece.l∧d.piece.l≤1048576 by omega) w1
  have m2:=Z8 (show -1048576≤d.piece.l∧d.piece.l≤1048576 by omega) w2
  have m3:=Z8 (show -1048576≤y∧y≤1048576 by omega) k1
  have m4:=Z8 (show -1048576≤y∧y≤1048576 by omega) k3
  have m5:=Z8 zb k2
  have m6:=Z8 zb k4
  unfold Bk
  dsimp only
  rw [show decide (i<4)=true from l5 (by omega),l8]
  rw [show (Fo d).t=d.ends.2 from rfl,show (Fo d).s=d.ends.1 from rfl,show (Fo d).h=d.half from rfl,hy,lA,hz,lA,hl]
  rw [show (Fo c).v=vs c.piece.v from rfl,show (Fo d).v=vs d.piece.v from rfl,show (Fo d).l=d.piece.l from rfl]
  simp only [Ek hw hcv,Ek hdv hcv,Ek hdl hcv,Mq hcv hw,Mq hcv hdv,Mq hcv hdl,lA,KN]
  rw [E0 (n:=d.piece.l*D1 (wv c d) c.piece.v) (by omega),E0 (n:=y*D1 d.piece.v c.piece.v) (by omega),E0 (n:=z*D1 (G0 d.piece.v) c.piece.v) (by omega),E0 (n:=d.piece.l*D1 (wv c d) c.piece.v+y*D1 d.piece.v c.piece.v) (by omega),E0 (n:=d.piece.l*D1 (wv c d) c.piece.v+y*D1 d.piece.v c.piece.v+_) (by omega)]
  rw [E0 (n:=d.piece.l*D1 (wv c d) (G0 c.piece.v)) (by omega),E0 (n:=y*D1 d.piece.v (G0 c.piece.v)) (by omega),E0 (n:=z*D1 (G0 d.piece.v) (G0 c.piece.v)) (by omega),E0 (n:=d.piece.l*D1 (wv c d) (G0 c.piece.v)+y*D1 d.piece.v (G0 c.piece.v)) (by omega),E0 (n:=d.piece.l*D1 (wv c d) (G0 c.piece.v)+y*D1 d.piece.v (G0 c.piece.v)+_) (by omega),E0 (n:=i+1) (by omega)]
  unfold cv at hb ⊢
  have hb2:(cond (i==0) (some (d.piece.l*D1 (wv c d) c.piece.v+y*D1 d.piece.v c.piece.v+z*D1 (G0 d.piece.v) c.piece.v,d.piece.l*D1 (wv c d) c.piece.v+y*D1 d.piece.v c.piece.v+z*D1 (G0 d.piece.v) c.piece.v,d.piece.l*D1 (wv c d) (G0 c.piece.v)+y*D1 d.piece.v (G0 c.piece.v)+z*D1 (G0 d.piece.v) (G0 c.piece.v),d.piece.l*D1 (wv c d) (G0 c.piece.v)+y*D1 d.piece.v (G0 c.piece.v)+z*D1 (G0 d.piece.v) (G0 c.piece.v))) (some (a0,a1,a2,a3)):Option (Int×Int×Int×Int))=some (b0,b1,b2,b3):=by
    rw [← hb];cases (i==0)<;>rfl
  rw [hb2]
  simp only [lA,Ox,Ry]
theorem VO {h m:Int}(hh:0≤h):h*Hh m=max (h*m) (-(h*m)):=by
  unfold Hh
  rcases Int.le_total 0 m with q|q
  ·have:=bU hh q
   rw [Int.max_eq_left (by omega),Int.max_eq_left (by omega)]
  ·have:=bU hh (show 0≤ -m by omega)
   rw [Int.mul_neg]at this
   rw [Int.max_eq_right (by omega),Int.mul_neg,Int.max_eq_right (by omega)]
theorem BV {c d:CurveCorridor}(C:Cor c)(D:Cor d)(h:D1 (wv c d) (wv c d)≤R2 c d):Fm (Fo c) (Fo d)=some (Ks c d):=by
  have c1:=C.l1
  have c2:=C.l2
  have d1:=D.l1
  have d2:=D.l2
  have ch:=C.h
  have dh:=D.h
  have ce1:=C.e1
  have ce2:=C.e2
  have de1:=D.e1
  have de2:=D.e2
  have hz:C8 (0 - d.half)= -d.half:=by rw [E0 (by omega),Int.zero_sub]
  have s0:=Ld C D h 0 d.ends.1 d.half 0 0 0 0 _ _ _ _ (by decide) rfl rfl (by omega) (by omega) rfl
  have s1:=fun a b e f=>Ld C D h 1 d.ends.2 d.half a b e f a b e f (by decide) rfl rfl (by omega) (by omega) rfl
  have s2:=fun a b e f=>Ld C D h 2 d.ends.1 (-d.half) a b e f a b e f (by decide) rfl (by rw [← hz];rfl) (by omega) (by omega) rfl
  have s3:=fun a b e f=>Ld C D h 3 d.ends.2 (-d.half) a b e f a b e f (by decide) rfl (by rw [← hz];rfl) (by omega) (by omega) rfl
  have s4: ∀a b e f:Int,Bk (Fo c) (Fo d) (vs (wv c d)) (a,b,e,f,4)=some (.out (a,b,e,f)):=fun _ _ _ _=>rfl
  unfold Fm
  rw [show X2 (Fo d).p (Fo c).p=some (vs (wv c d)) from Du C.p D.p,lA]
  rw [M5 s0,show (0:Int)+1=1 from rfl,M5 (s1 _ _ _ _),show (1:Int)+1=2 from rfl,M5 (s2 _ _ _ _),show (2:Int)+1=3 from rfl,M5 (s3 _ _ _ _),show (3:Int)+1=4 from rfl,G7 (s4 _ _ _ _),lA]
  have L:=Z8 (show -1048576≤c.piece.l∧c.piece.l≤1048576 by omega) (show -1048576≤d.piece.l∧d.piece.l≤1048576 by omega)
  have q1:=Z8 (show -1048576≤c.ends.1∧c.ends.1≤1048576 by omega) L
  have q2:=Z8 (show -1048576≤c.ends.2∧c.ends.2≤1048576 by omega) L
  have q3:=Z8 (show -4000≤c.half∧c.half≤4000 by omega) L
  have q4:(0 - c.half)* (c.piece.l*d.piece.l)= -(c.half* (c.piece.l*d.piece.l)):=by grind
  rw [show (Fo c).l=c.piece.l from rfl,show (Fo d).l=d.piece.l from rfl,show (Fo c).s=c.ends.1 from rfl,show (Fo c).t=c.ends.2 from rfl,show (Fo c).h=c.half from rfl]
  rw [E0 (n:=c.piece.l*d.piece.l) (by omega),E0 (n:=c.ends.1*_) (by omega),E0 (n:=c.ends.2*_) (by omega),E0 (n:=c.half*_) (by omega),E0 (n:=0 - c.half) (by omega),E0 (n:=(0 - c.half)*_) (by omega),q4]
  congr 1
  unfold Ks FH cv
  rw [VO dh.1,VO dh.1]
  rw [show c.ends.2*c.piece.l*d.piece.l=c.ends.2* (c.piece.l*d.piece.l) by grind,show c.ends.1*c.piece.l*d.piece.l=c.ends.1* (c.piece.l*d.piece.l) by grind,show c.half*c.piece.l*d.piece.l=c.half* (c.piece.l*d.piece.l) by grind,show -(c.half*c.piece.l)*d.piece.l= -(c.half* (c.piece.l*d.piece.l)) by grind,Int.neg_mul,Int.neg_mul]
  generalize c.ends.2* (c.piece.l*d.piece.l)=A at*
  generalize c.ends.1* (c.piece.l*d.piece.l)=B at*
  generalize c.half* (c.piece.l*d.piece.l)=H at*
  generalize d.piece.l*D1 (wv c d) c.piece.v=x1
  generalize d.piece.l*D1 (wv c d) (G0 c.piece.v)=x2
  generalize d.ends.1*D1 d.piece.v c.piece.v=y1
  generalize d.ends.2*D1 d.piece.v c.piece.v=y2
  generalize d.ends.1*D1 d.piece.v (G0 c.piece.v)=y3
  generalize d.ends.2*D1 d.piece.v (G0 c.piece.v)=y4
  generalize d.half*D1 (G0 d.piece.v) c.piece.v=z1
  generalize d.half*D1 (G0 d.piece.v) (G0 c.piece.v)=z2
  rw [Bool.eq_iff_iff]
  simp only [bE,l7]
  have n1:min (min (min (min (x1+y1+z1) (x1+y1+z1)) (x1+y2+z1)) (x1+y1+ -z1)) (x1+y2+ -z1)=x1+min y1 y2 - max z1 (-z1):=by omega
  have n2:max (max (max (max (x1+y1+z1) (x1+y1+z1)) (x1+y2+z1)) (x1+y1+ -z1)) (x1+y2+ -z1)=x1+max y1 y2+max z1 (-z1):=by omega
  have n3:min (min (min (min (x2+y3+z2) (x2+y3+z2)) (x2+y4+z2)) (x2+y3+ -z2)) (x2+y4+ -z2)=x2+min y3 y4 - max z2 (-z2):=by omega
  have n4:max (max (max (max (x2+y3+z2) (x2+y3+z2)) (x2+y4+z2)) (x2+y3+ -z2)) (x2+y4+ -z2)=x2+max y3 y4+max z2 (-z2):=by omega
  rw [n1,n2,n3,n4]
  omega
/-- Two corridors meet. -/
def Jo (c d:CurveCorridor):Bool:= !(Ks c d)&& !(Ks d c)
theorem Mr {c d:CurveCorridor}(C:Cor c)(D:Cor d):R8 c d=some (Jo c d):=by
  unfold R8 Jo
  simp only [Ro C D,Ro D C,lA]
  cases Ks c d<;>rfl
theorem UP (c d:CurveCorridor):D1 (wv d c) (wv d c)=D1 (wv c d) (wv c d):=by unfold wv N2 D1;dsimp only;grind
theorem UQ (c d:CurveCorridor):R2 d c=R2 c d:=by unfold R2;rw [show d.piece.l+c.piece.l+d.half+c.half=c.piece.l+d.piece.l+c.half+d.half by omega]
theorem Rp {c d:CurveCorridor}(C:Cor c)(D:Cor d):Ih (Fo c) (Fo d)=some (Jo c d):=by
  have c1:=C.l1
  have c2:=C.l2
  have d1:=D.l1
  have d2:=D.l2
  have ch:=C.h
  have dh:=D.h
  have hw:Yh (wv c d):=Nb C.p D.p
  unfold Ih Jo
  rw [show X2 (Fo d).p (Fo c).p=some (vs (wv c d)) from Du C.p D.p,lA,Ek hw hw,lA]
  rw [show (Fo c).l=c.piece.l from rfl,show (Fo d).l=d.piece.l from rfl,show (Fo c).h=c.half from rfl,show (Fo d).h=d.half from rfl]
  have b:=Z8 (show -2105152≤c.piece.l+d.piece.l+c.half+d.half∧c.piece.l+d.piece.l+c.half+d.half≤2105152 by omega) (show -2105152≤c.piece.l+d.piece.l+c.half+d.half∧c.piece.l+d.piece.l+c.half+d.half≤2105152 by omega)
  rw [E0 (n:=c.piece.l+d.piece.l) (by omega),E0 (n:=c.piece.l+d.piece.l+c.half) (by omega),E0 (n:=c.piece.l+d.piece.l+c.half+d.half) (by omega),E0 (n:=(c.piece.l+d.piece.l+c.half+d.half)*_) (by omega)]
  rw [show (c.piece.l+d.piece.l+c.half+d.half)* (c.piece.l+d.piece.l+c.half+d.half)=R2 c d from rfl]
  by_cases h:D1 (wv c d) (wv c d)≤R2 c d
  ·simp only [h,decide_true,l8,bC,BV C D h,BV D C (by rw [UP,UQ];exact h),lA]
   cases Ks c d<;>rfl
  ·have:Ks c d=true:=by
     cases ha:Ks c d with
     |true=>rfl
     |false=>exact absurd (CN C D ha) h
   rw [this]
   simp only [h,decide_false]
   rfl
def Ww (f:Int→Bool):Nat→Int→Int→Int
  |0,lo,_=>lo
  |n+1,lo,hi=>if lo<hi then (if f ((lo+hi) / 2)=true then Ww f n lo ((lo+hi) / 2)else Ww f n ((lo+hi) / 2+1) hi)else lo
def Wx (f:Int→Bool):Nat→Int→Int→Int
  |0,lo,_=>lo
  |n+1,lo,hi=>if lo<hi then (if f ((lo+hi+1) / 2)=true then Wx f n ((lo+hi+1) / 2) hi else Wx f n lo ((lo+hi+1) / 2 - 1))else lo
theorem FI (f:Int→Bool): ∀(n:Nat) (lo hi:Int),lo≤hi→lo≤Ww f n lo hi∧Ww f n lo hi≤hi:=by
  intro n
  induction n with
  |zero=>intro lo hi h;exact ⟨Int.le_refl _,h⟩
  |succ n ih=>
   intro lo hi h
   rw [Ww]
   split
   ·split
    ·have:=ih lo ((lo+hi) / 2) (by omega);omega
    ·have:=ih ((lo+hi) / 2+1) hi (by omega);omega
   ·omega
theorem FJ (f:Int→Bool): ∀(n:Nat) (lo hi:Int),lo≤hi→lo≤Wx f n lo hi∧Wx f n lo hi≤hi:=by
  intro n
  induction n with
  |zero=>intro lo hi h;exact ⟨Int.le_refl _,h⟩
  |succ n ih=>
   intro lo hi h
   rw [Wx]
   split
   ·split
    ·have:=ih ((lo+hi+1) / 2) hi (by omega);omega
    ·have:=ih lo ((lo+hi+1) / 2 - 1) (by omega);omega
   ·omega
def wend (c:CurveCorridor)(a b:Int):CurveCorridor:=⟨c.piece,c.half,(a,b)⟩
theorem Cor.wend {c:CurveCorridor}(C:Cor c){a b:Int}(ha:0≤a∧a≤c.piece.l)(hb:0≤b∧b≤c.piece.l):Cor (wend c a b):=⟨C.p,C.l1,C.l2,C.sq,C.x,C.y,C.h,ha,hb⟩
def NP (c d:CurveCorridor)(e:Int):Bool:=Jo (wend c 0 e) d
def NQ (c d:CurveCorridor)(e:Int):Bool:=Jo (wend c e c.piece.l) d
theorem VP {x:Int}(h:0≤x):x.tdiv 2=x / 2:=Int.tdiv_eq_ediv_of_nonneg h
theorem VQ {c d:CurveCorridor}(C:Cor c)(D:Cor d): ∀(n:Nat) (lo hi e:Int),hi - lo≤n→0≤lo→lo≤hi→hi≤c.piece.l→
    loop (P0 d) (lo,hi,wend c 0 e)=some (Ww (NP c d) n lo hi)∧∃e',loop (X5 (Fo d)) (lo,hi,Fo (wend c 0 e))=some (Ww (NP c d) n lo hi,Fo (wend c 0 e')):=by
  intro n
  have c2:=C.l2
  induction n with
  |zero=>
   intro lo hi e hn h0 h1 h2
   have hd:decide (lo<hi)=false:=l6 (by omega)
   refine ⟨G7 ?_,e,G7 ?_⟩
   ·unfold P0;dsimp only;rw [hd];rfl
   ·unfold X5;dsimp only;rw [hd];rfl
  |succ n ih=>
   intro lo hi e hn h0 h1 h2
   by_cases hlt:lo<hi
   ·have hd:decide (lo<hi)=true:=l5 hlt
    have hm:C8 ((C8 (lo+hi)).tdiv 2)=(lo+hi) / 2:=by
      rw [E0 (n:=lo+hi) (by omega),VP (by omega),E0 (by omega)]
    have CW:=C.wend (a:=0) (b:=(lo+hi) / 2) (by omega) (by omega)
    have m1:=Mr CW D
    have m2:=Rp CW D
    have k1:P0 d (lo,hi,wend c 0 e)=if NP c d ((lo+hi) / 2)=true then some (.go (lo,(lo+hi) / 2,wend c 0 ((lo+hi) / 2)))else some (.go ((lo+hi) / 2+1,hi,wend c 0 ((lo+hi) / 2))):=by
      unfold P0
      dsimp only
      rw [hd,l8,hm,show (CurveCorridor.mk (wend c 0 e).piece (wend c 0 e).half ((wend c 0 e).ends.1,(lo+hi) / 2))=wend c 0 ((lo+hi) / 2) from rfl,m1,lA,E0 (n:=(lo+hi) / 2+1) (by omega)]
      unfold NP
      cases Jo (wend c 0 ((lo+hi) / 2)) d<;>rfl
    have k2:X5 (Fo d) (lo,hi,Fo (wend c 0 e))=if NP c d ((lo+hi) / 2)=true then some (.go (lo,(lo+hi) / 2,Fo (wend c 0 ((lo+hi) / 2))))else some (.go ((lo+hi) / 2+1,hi,Fo (wend c 0 ((lo+hi) / 2)))):=by
      unfold X5
      dsimp only
      rw [hd,l8,hm,show (Ref01Stripe.mk (Fo (wend c 0 e)).p (Fo (wend c 0 e)).v (Fo (wend c 0 e)).l (Fo (wend c 0 e)).h 0 ((lo+hi) / 2))=Fo (wend c 0 ((lo+hi) / 2)) from rfl,m2,lA,E0 (n:=(lo+hi) / 2+1) (by omega)]
      unfold NP
      cases Jo (wend c 0 ((lo+hi) / 2)) d<;>rfl
    rw [Ww,bA hlt]
    by_cases hf:NP c d ((lo+hi) / 2)=true
    ·rw [bA hf]at k1 k2 ⊢
     rw [M5 k1,M5 k2]
     exact ih _ _ _ (by omega) (by omega) (by omega) (by omega)
    ·rw [bB hf]at k1 k2 ⊢
     rw [M5 k1,M5 k2]
     exact ih _ _ _ (by omega) (by omega) (by omega) (by omega)
   ·have hd:decide (lo<hi)=false:=l6 hlt
    rw [Ww,bB hlt]
    refine ⟨G7 ?_,e,G7 ?_⟩
    ·unfold P0;dsimp only;rw [hd];rfl
    ·unfold X5;dsimp only;rw [hd];rfl
theorem VR {c d:CurveCorridor}(C:Cor c)(D:Cor d): ∀(n:Nat) (lo hi e a b:Int),hi - lo≤n→0≤lo→lo≤hi→hi≤c.piece.l→
    loop (O9 d) (lo,hi,wend c e c.piece.l)=some (Wx (NQ c d) n lo hi)∧∃a' b',loop (X4 (Fo d)) (lo,hi,Fo (wend c a b))=some (Wx (NQ c d) n lo hi,Fo (wend c a' b')):=by
  intro n
  have c1:=C.l1
  have c2:=C.l2
  induction n with
  |zero=>
   intro lo hi e a b hn h0 h1 h2
   have hd:decide (lo<hi)=false:=l6 (by omega)
   refine ⟨G7 ?_,a,b,G7 ?_⟩
   ·unfold O9;dsimp only;rw [hd];rfl
   ·unfold X4;dsimp only;rw [hd];rfl
  |succ n ih=>
   intro lo hi e a b hn h0 h1 h2
   by_cases hlt:lo<hi
   ·have hd:decide (lo<hi)=true:=l5 hlt
    have hm:C8 ((C8 (C8 (lo+hi)+1)).tdiv 2)=(lo+hi+1) / 2:=by
      rw [E0 (n:=lo+hi) (by omega),E0 (n:=lo+hi+1) (by omega),VP (by omega),E0 (by omega)]
    have CW:=C.wend (a:=(lo+hi+1) / 2) (b:=c.piece.l) (by omega) (by omega)
    have m1:=Mr CW D
    have m2:=Rp CW D
    have k1:O9 d (lo,hi,wend c e c.piece.l)=if NQ c d ((lo+hi+1) / 2)=true then some (.go ((lo+hi+1) / 2,hi,wend c ((lo+hi+1) / 2) c.piece.l))else some (.go (lo,(lo+hi+1) / 2 - 1,wend c ((lo+hi+1) / 2) c.piece.l)):=by
      unfold O9
      dsimp only
      rw [hd,l8,hm,show (CurveCorridor.mk (wend c e c.piece.l).piece (wend c e c.piece.l).half ((lo+hi+1) / 2,(wend c e c.piece.l).ends.2))=wend c ((lo+hi+1) / 2) c.piece.l from rfl,m1,lA,E0 (n:=(lo+hi+1) / 2 - 1) (by omega)]
      unfold NQ
      cases Jo (wend c ((lo+hi+1) / 2) c.piece.l) d<;>rfl
    have k2:X4 (Fo d) (lo,hi,Fo (wend c a b))=if NQ c d ((lo+hi+1) / 2)=true then some (.go ((lo+hi+1) / 2,hi,Fo (wend c ((lo+hi+1) / 2) c.piece.l)))else some (.go (lo,(lo+hi+1) / 2 - 1,Fo (wend c ((lo+hi+1) / 2) c.piece.l))):=by
      unfold X4
      dsimp only
      rw [hd,l8,hm,show (Ref01Stripe.mk (Fo (wend c a b)).p (Fo (wend c a b)).v (Fo (wend c a b)).l (Fo (wend c a b)).h ((lo+hi+1) / 2) (Fo (wend c a b)).l)=Fo (wend c ((lo+hi+1) / 2) c.piece.l) from rfl,m2,lA,E0 (n:=(lo+hi+1) / 2 - 1) (by omega)]
      unfold NQ
      cases Jo (wend c ((lo+hi+1) / 2) c.piece.l) d<;>rfl
    rw [Wx,bA hlt]
    by_cases hf:NQ c d ((lo+hi+1) / 2)=true
    ·rw [bA hf]at k1 k2 ⊢
     rw [M5 k1,M5 k2]
     exact ih _ _ _ _ _ (by omega) (by omega) (by omega) (by omega)
    ·rw [bB hf]at k1 k2 ⊢
     rw [M5 k1,M5 k2]
     exact ih _ _ _ _ _ (by omega) (by omega) (by omega) (by omega)
   ·have hd:decide (lo<hi)=false:=l6 hlt
    rw [Wx,bB hlt]
    refine ⟨G7 ?_,a,b,G7 ?_⟩
    ·unfold O9;dsimp only;rw [hd];rfl
    ·unfold X4;dsimp only;rw [hd];rfl
/-- Where the corridor d meets c: from, to, on c's own piece. -/
noncomputable def Nf (c d:CurveCorridor):Int×Int:=(max 0 (Ww (NP c d) 1048576 0 c.piece.l - 1),min c.piece.l (Wx (NQ c d) 1048576 0 c.piece.l+1))
theorem BW {c d:CurveCorridor}(C:Cor c):(0≤(Nf c d).1∧(Nf c d).1≤c.piece.l)∧0≤(Nf c d).2∧(Nf c d).2≤c.piece.l:=by
  have c1:=C.l1
  have h1:=FI (NP c d) 1048576 0 c.piece.l (by omega)
  have h2:=FJ (NQ c d) 1048576 0 c.piece.l (by omega)
  unfold Nf
  dsimp only
  omega
theorem Su {c d:CurveCorridor}(C:Cor c)(D:Cor d)(he:c.ends=(0,c.piece.l))(hs:0≤c.piece.start∧c.piece.start≤1000000000):W0 c d=some (c.piece.start+ (Nf c d).1,c.piece.start+ (Nf c d).2):=by
  have c1:=C.l1
  have c2:=C.l2
  have hc:c=wend c 0 c.piece.l:=by unfold wend;rw [← he]
  have h1:=FI (NP c d) 1048576 0 c.piece.l (by omega)
  have h2:=FJ (NQ c d) 1048576 0 c.piece.l (by omega)
  have s1:=(VQ C D 1048576 0 c.piece.l c.piece.l (by omega) (by omega) (by omega) (by omega)).1
  have s2:=(VR C D 1048576 0 c.piece.l 0 0 0 (by omega) (by omega) (by omega) (by omega)).1
  rw [← hc]at s1 s2
  have hb:=BW (d:=d) C
  unfold W0
  rw [s1,lA,s2,lA,E0 (n:=Ww _ _ _ _ - 1) (by omega),E0 (n:=Wx _ _ _ _+1) (by omega),Ox,Ry]
  rw [show max 0 (Ww (NP c d) 1048576 0 c.piece.l - 1)=(Nf c d).1 from rfl,show min c.piece.l (Wx (NQ c d) 1048576 0 c.piece.l+1)=(Nf c d).2 from rfl,E0 (by omega),E0 (by omega)]
theorem Sv {c d:CurveCorridor}(C:Cor c)(D:Cor d)(he:c.ends=(0,c.piece.l)):Hg (Fo c) (Fo d)=some (Nf c d):=by
  have c1:=C.l1
  have c2:=C.l2
  have hc:c=wend c 0 c.piece.l:=by unfold wend;rw [← he]
  have h1:=FI (NP c d) 1048576 0 c.piece.l (by omega)
  have h2:=FJ (NQ c d) 1048576 0 c.piece.l (by omega)
  obtain ⟨e',s1⟩:=(VQ C D 1048576 0 c.piece.l c.piece.l (by omega) (by omega) (by omega) (by omega)).2
  obtain ⟨a',b',s2⟩:=(VR C D 1048576 0 c.piece.l 0 0 e' (by omega) (by omega) (by omega) (by omega)).2
  rw [← hc]at s1
  unfold Hg
  rw [show (Fo c).l=c.piece.l from rfl,s1,lA]
  dsimp only
  rw [show (Fo (wend c 0 e')).l=c.piece.l from rfl,s2,lA]
  dsimp only
  rw [E0 (n:=Ww _ _ _ _ - 1) (by omega),E0 (n:=Wx _ _ _ _+1) (by omega),Ox,Ry]
  rfl
def cr (h:Int)(a:CurvePiece):CurveCorridor:=⟨a,h,(0,a.l)⟩
structure POK (a:CurvePiece):Prop where
  p:Na a.p=true
  l1:1000≤a.l
  l2:a.l≤1048576
  sq:a.l*a.l=D1 a.v a.v
  x: -a.l≤a.v.x∧a.v.x≤a.l
  y: -a.l≤a.v.y∧a.v.y≤a.l
  st:0≤a.start∧a.start≤1000000000
theorem POK.cor {a:CurvePiece}(A:POK a){h:Int}(hh:0≤h∧h≤4000):Cor (cr h a):=by
  have:=A.l1
  exact ⟨A.p,A.l1,A.l2,A.sq,A.x,A.y,hh,⟨Int.le_refl _,by show (0:Int)≤a.l;omega⟩,⟨by show (0:Int)≤a.l;omega,Int.le_refl _⟩⟩
theorem XF {p q:Spot}{l:Int}(hl:0≤l)(h:l*l=D1 (N2 p q) (N2 p q)):(-l≤(N2 p q).x∧(N2 p q).x≤l)∧ -l≤(N2 p q).y∧(N2 p q).y≤l:=by
  have h1:=Af (N2 p q).x
  have h2:=Af (N2 p q).y
  unfold D1 at h
  exact ⟨Hi hl (by omega),Hi hl (by omega)⟩
theorem RQ {p q:Spot}{r:List Spot}{last:Option CurveVector}(hok:(p::q::r).all Na=true)(hg:Good last (p::q::r)){st:Int}(h0:0≤st∧st≤1000000000):POK ⟨p,N2 p q,Vo p q,st⟩:=by
  obtain ⟨h1,h2,h3,_,_⟩:=hg.inv
  simp only [l3,bD]at hok
  have hv:=XF (show 0≤Vo p q by omega) h1
  exact ⟨hok.1,h2,h3,h1,hv.1,hv.2,h0⟩
noncomputable def Rr (h k:Int)(a b:CurvePiece):List Cross:=cond (Jo (cr h a) (cr k b)) [⟨a.start+ (Nf (cr h a) (cr k b)).1,a.start+ (Nf (cr h a) (cr k b)).2,b.start+ (Nf (cr k b) (cr h a)).1,b.start+ (Nf (cr k b) (cr h a)).2⟩] []
noncomputable def Vq (h k:Int)(a:CurvePiece)(P:List (Int×CurvePiece)):List Cross:=P.flatMap fun b=>Rr h k a b.2
noncomputable def Gs (h k:Int)(P Q:List (Int×CurvePiece)):List Cross:=P.flatMap fun a=>Vq h k a.2 Q
theorem Wy (h k:Int)(a b:CurvePiece):(Rr h k a b).length≤1:=by unfold Rr;cases Jo (cr h a) (cr k b)<;>simp
theorem Wz (h k:Int)(a:CurvePiece)(b:Int×CurvePiece)(P:List (Int×CurvePiece)):Vq h k a (b::P)=Rr h k a b.2++Vq h k a P:=by unfold Vq;rw [lZ]
theorem No (h k:Int)(a:Int×CurvePiece)(P Q:List (Int×CurvePiece)):Gs h k (a::P) Q=Vq h k a.2 Q++Gs h k P Q:=by unfold Gs;rw [lZ]
theorem Yv (h k:Int)(a:CurvePiece): ∀P:List (Int×CurvePiece),(Vq h k a P).length≤P.length
  | []=>by simp [Vq]
  |b::P=>by
   have:=Wy h k a b.2
   have:=Yv h k a P
   rw [Wz,lK,lJ];omega
theorem Xq (h k:Int)(Q:List (Int×CurvePiece)): ∀P:List (Int×CurvePiece),(Gs h k P Q).length≤P.length*Q.length
  | []=>by simp [Gs]
  |a::P=>by
   have:=Yv h k a.2 Q
   have:=Xq h k Q P
   rw [No,lK,lJ,Nat.succ_mul];omega
theorem Xr: ∀(r:List Spot) (p:Spot) (i:Nat) (st:Int) (last:Option CurveVector),(p::r).all Na=true→Good last (p::r)→0≤st→st+1048576*r.length≤1000000000→(∀x∈Dj i st (p::r),POK x.2)∧(Dj i st (p::r)).length=r.length
  | [],p,i,st,last,_,_,_,_=>by simp [Dj]
  |q::r,p,i,st,last,hok,hg,h0,hb=>by
   obtain ⟨h1,h2,h3,h4,hg'⟩:=hg.inv
   have hP:=RQ hok hg (st:=st) (by omega)
   simp only [l3,bD]at hok
   simp only [lJ]at hb
   have ih:=Xr r q (i+1) (st+Vo p q) _ (by simp only [l3,bD];exact hok.2) hg' (by omega) (by omega)
   rw [Nn,E0 (by omega)]
   refine ⟨fun x hx=> ?_,by rw [lJ,lJ,ih.2]⟩
   rw [lQ]at hx
   rcases hx with rfl|hx
   ·exact hP
   ·exact ih.1 x hx
theorem KO {h k:Int}(hh:0≤h∧h≤4000)(hk:0≤k∧k≤4000){a b:Int×CurvePiece}(A:POK a.2)(B:POK b.2){out:List Cross}(ho:out.length≤1000000):Y3 h k a out b=some (.go (out++Rr h k a.2 b.2)):=by
  have C:=A.cor hh
  have D:=B.cor hk
  unfold Y3 Rr
  rw [show (CurveCorridor.mk a.2 h (0,a.2.l))=cr h a.2 from rfl,show (CurveCorridor.mk b.2 k (0,b.2.l))=cr k b.2 from rfl,Mr C D,lA]
  cases hm:Jo (cr h a.2) (cr k b.2)
  ·simp
  ·simp only [bF,l9,l8]
   rw [Su C D rfl A.st,lA,Su D C rfl B.st,lA,V0 (by simp;omega),lA]
   rfl
theorem RR {h k:Int}(hh:0≤h∧h≤4000)(hk:0≤k∧k≤4000){a:Int×CurvePiece}(A:POK a.2): ∀(Q:List (Int×CurvePiece)) (out:List Cross),(∀x∈Q,POK x.2)→out.length+Q.length≤1000000→loopL (Y3 h k a) (fun x=>x) Q out=some (out++Vq h k a.2 Q):=by
  intro Q
  induction Q with
  |nil=>intro out _ _;simp [loopL,Vq]
  |cons b Q ih=>
   intro out hQ ho
   simp only [lJ]at ho
   have:=Wy h k a.2 b.2
   rw [loopL,KO hh hk A (hQ b (by simp)) (by omega)]
   dsimp only
   rw [ih _ (fun x hx=>hQ x (by simp [hx])) (by rw [lK];omega),Wz,lL]
theorem FK {h k:Int}(hh:0≤h∧h≤4000)(hk:0≤k∧k≤4000){d:Curve}{Q:List (Int×CurvePiece)}(hd:Ha d.Pts=some Q)(hQ: ∀x∈Q,POK x.2)(hQl:Q.length≤20): ∀(P:List (Int×CurvePiece)) (out:List Cross),(∀x∈P,POK x.2)→out.length+P.length*20≤900000→loopL (Y4 h d k) (fun x=>x) P out=some (out++Gs h k P Q):=by
  intro P
  induction P with
  |nil=>intro out _ _;simp [loopL,Gs]
  |cons a P ih=>
   intro out hP ho
   simp only [lJ]at ho
   have hr:=Yv h k a.2 Q
   have hs:Y4 h d k out a=some (.go (out++Vq h k a.2 Q)):=by
     unfold Y4
     rw [hd,lA,RR hh hk (hP a (by simp)) Q out hQ (by omega)]
     rfl
   rw [loopL,hs]
   dsimp only
   rw [ih _ (fun x hx=>hP x (by simp [hx])) (by rw [lK];omega),No,lL]
noncomputable def PL (c:Curve):List (Int×CurvePiece):=if U3 c.Pts=0 then Dj 0 0 c.Pts else []
theorem DU (c:Curve):(∀x∈PL c,POK x.2)∧(PL c).length≤20:=by
  unfold PL
  split
  ·rename_i h
   have V:=checkM_zero.1 h
   obtain ⟨p,q,r,hp⟩:=Ty V
   have hm:=V.most
   have ho:=V.ok
   have hg:=V.good
   rw [hp]at hm ho hg ⊢
   simp only [lJ]at hm
   have:=Xr (q::r) p 0 0 none ho hg (by omega) (by simp only [lJ];omega)
   refine ⟨this.1,?_⟩
   rw [this.2,lJ];omega
  ·simp
/-- What Corridors answers. -/
noncomputable def Pv (c:Curve)(h:Int)(d:Curve)(k:Int):List Cross:=if (0≤h∧h≤4000)∧0≤k∧k≤4000 then Gs h k (PL c) (PL d)else []
theorem HX (c:Curve)(h:Int)(d:Curve)(k:Int):(Pv c h d k).length≤400:=by
  unfold Pv
  split
  ·have h1:=Xq h k (PL d) (PL c)
   have h2:=(DU c).2
   have h3:=(DU d).2
   have:=Nat.mul_le_mul h2 h3
   omega
  ·simp
theorem Tz (c d:Curve)(hc:c.Pts.length≤1000000)(hd:d.Pts.length≤1000000)(h k:Int):Er c h d k=some (Pv c h d k):=by
  unfold Er Pv
  rw [Jm c hc,lA]
  by_cases hz:U3 c.Pts=0
  ·rw [hz]
   simp only [bne_self_eq_false,bG,l8,Jm d hd,lA,bH,Ox,Ry]
   by_cases hz2:U3 d.Pts=0
   ·rw [hz2]
    by_cases hr:(0≤h∧h≤4000)∧0≤k∧k≤4000
    ·rw [bA hr,show decide (min h k<0)=false from l6 (by omega),show decide (max h k>4000)=false from l6 (by omega)]
     have P:=DU c
     have Q:=DU d
     have e1:Ha c.Pts=some (PL c):=by rw [Tt (checkM_zero.1 hz)];unfold PL;rw [bA hz]
     have e2:Ha d.Pts=some (PL d):=by rw [Tt (checkM_zero.1 hz2)];unfold PL;rw [bA hz2]
     simp only [bne_self_eq_false,Bool.or_self,l9,e1,lA]
     rw [FK hr.1 hr.2 e2 Q.1 Q.2 (PL c) [] P.1 (by have:=P.2;simp;omega)]
     rfl
    ·have hx:(decide (min h k<0)||decide (max h k>4000))=true:=by
       simp only [bE,l7];omega
     rw [bB hr,Bool.or_assoc,hx,Bool.or_true]
     rfl
   ·rw [show (U3 d.Pts !=0)=true from bne_iff_ne.2 hz2]
    have:PL d= []:=bB hz2
    rw [this]
    split
    ·simp [Gs,Vq]
    ·rfl
  ·rw [show (U3 c.Pts !=0)=true from bne_iff_ne.2 hz]
   have:PL c= []:=bB hz
   rw [this]
   split<;>rfl
theorem FL (c:Curve)(hlen:c.Pts.length≤1000000)(h:Int): ∀(r:List Spot) (p:Spot) (j:Nat) (st:Int) (out:List Ref01Stripe) (last:Option CurveVector),c.Pts.drop j=p::r→(p::r).all Na=true→Good last (p::r)→out.length+r.length≤1000000→
    loop (U7 c h (Jn c.Pts)) (out,(j:Int))=some (out++ (Dj j st (p::r)).map fun x=>Fo (cr h x.2)):=by
  intro r
  induction r with
  |nil=>
   intro p j st out last hd _ _ _
   have h1:(Jn c.Pts).drop j= []:=by rw [← Wv,hd];rfl
   have h2:=S8 h1
   refine G7 ?_
   unfold U7
   dsimp only
   rw [show decide ((j:Int)< ((Jn c.Pts).length:Int))=false from l6 (by omega)]
   simp [Dj]
  |cons q r ih=>
   intro p j st out last hd hok hg ho
   obtain ⟨_,_,_,_,hg⟩:=hg.inv
   simp only [l3,bD]at hok
   simp only [lJ]at ho
   have hlt:=Q7 (M1 hd)
   have g1:=S5 hd
   have g2:E5 c.Pts ((j:Int)+1)=some q:=by have:=S5 (M1 hd);simpa using this
   have hdl:(Jn c.Pts).drop j=Vo p q::Jn (q::r):=by rw [← Wv,hd,BR]
   have g3:=S5 hdl
   have hlt2:=Q7 hdl
   have hs:U7 c h (Jn c.Pts) (out,(j:Int))=some (.go (out++ [Fo (cr h ⟨p,N2 p q,Vo p q,st⟩)],((j+1:Nat):Int))):=by
     unfold U7
     dsimp only
     rw [show decide ((j:Int)< ((Jn c.Pts).length:Int))=true from l5 (by omega),E0 (n:=(j:Int)+1) (by omega)]
     simp only [l8,g1,g2,g3,Du hok.1 hok.2.1,lA]
     rw [V0 (by simp;omega)]
     rfl
   rw [M5 hs,ih q (j+1) (C8 (st+Vo p q)) _ _ (M1 hd) (by simp only [l3,bD];exact hok.2) hg (by rw [lK];simp;omega),Nn,lN,lL]
   rfl
theorem Rs (c:Curve)(hl:c.Pts.length≤1000000)(h:Int):Fl c h=some ((PL c).map fun x=>Fo (cr h x.2)):=by
  unfold Fl PL
  rw [Pt c hl,lA]
  by_cases hz:U3 c.Pts=0
  ·have V:=checkM_zero.1 hz
   obtain ⟨p,q,r,hp⟩:=Ty V
   have ho:=V.ok
   have hg:=V.good
   rw [bA hz,bA hz]
   rw [hp]at ho hg
   have:=FL c hl h (q::r) p 0 0 [] none (by rw [hp];rfl) ho hg (by rw [hp]at hl;simp at hl ⊢;omega)
   rw [show ((0:Nat):Int)=0 from rfl]at this
   rw [this,hp]
   rfl
  ·rw [bB hz,bB hz]
   have:loop (U7 c h []) ([],0)=some []:=G7 rfl
   rw [this];rfl
/-- Pieces that follow one another. -/
inductive Chn:Int→List (Int×CurvePiece)→Prop
  |nil (s:Int):Chn s []
  |cons (s:Int) (a:Int×CurvePiece) (l:List (Int×CurvePiece)):a.2.start=s→Chn (s+a.2.l) l→Chn s (a::l)
theorem Xs: ∀(r:List Spot) (p:Spot) (i:Nat) (st:Int) (last:Option CurveVector),Good last (p::r)→0≤st→st+1048576*r.length≤1000000000→Chn st (Dj i st (p::r))
  | [],p,i,st,last,_,_,_=>Chn.nil _
  |q::r,p,i,st,last,hg,h0,hb=>by
   obtain ⟨h1,h2,h3,h4,hg'⟩:=hg.inv
   simp only [lJ]at hb
   rw [Nn,E0 (by omega)]
   exact Chn.cons _ _ _ rfl (Xs r q (i+1) (st+Vo p q) _ hg' (by omega) (by omega))
theorem RS (c:Curve):Chn 0 (PL c):=by
  unfold PL
  split
  ·rename_i h
   have V:=checkM_zero.1 h
   obtain ⟨p,q,r,hp⟩:=Ty V
   have hm:=V.most
   have hg:=V.good
   rw [hp]at hm hg ⊢
   simp only [lJ]at hm
   exact Xs (q::r) p 0 0 none hg (by omega) (by simp only [lJ];omega)
  ·exact Chn.nil _
theorem FM {h k:Int}(hh:0≤h∧h≤4000)(hk:0≤k∧k≤4000){a:Int×CurvePiece}(A:POK a.2){v1 v2:List Ref01Stripe}{i:Nat}{x:List Cross}(h1:E5 v1 (i:Int)=some (Fo (cr h a.2))): ∀(Q:List (Int×CurvePiece)) (j:Nat) (s:Int) (out:List Cross),v2.drop j=Q.map (fun x=>Fo (cr k x.2))→v2.length≤1000→(∀x∈Q,POK x.2)→Chn s Q→out.length+Q.length≤1000000→
    loop (U1 v1 v2 (x,a.2.start,(i:Int))) (out,s,(j:Int))=some (out++Vq h k a.2 Q):=by
  intro Q
  induction Q with
  |nil=>
   intro j s out hd _ _ _ _
   have h2:=S8 hd
   refine G7 ?_
   unfold U1
   dsimp only
   rw [show decide ((j:Int)< (v2.length:Int))=false from l6 (by omega)]
   simp [Vq]
  |cons b Q ih=>
   intro j s out hd hv hQ hc ho
   simp only [lJ]at ho
   rw [lN]at hd
   have hlt:=Q7 hd
   have g:=S5 hd
   have B:=hQ b (by simp)
   have C:=A.cor hh
   have D:=B.cor hk
   have hl1:=B.l1
   have hl2:=B.l2
   cases hc with
   |cons _ _ _ hst hc=>
    have hs0:=B.st
    have hx:=Wy h k a.2 b.2
    have hA:=BW (c:=cr h a.2) (d:=cr k b.2) C
    have hB:=BW (c:=cr k b.2) (d:=cr h a.2) D
    have hAst:=A.st
    have hal:=A.l2
    rw [show (cr h a.2).piece.l=a.2.l from rfl]at hA
    rw [show (cr k b.2).piece.l=b.2.l from rfl]at hB
    have hs:U1 v1 v2 (x,a.2.start,(i:Int)) (out,s,(j:Int))=some (.go (out++Rr h k a.2 b.2,s+b.2.l,((j+1:Nat):Int))):=by
      unfold U1
      dsimp only
      rw [show decide ((j:Int)< (v2.length:Int))=true from l5 (by omega)]
      simp only [l8,h1,g,lA,Rp C D,Sv C D rfl,Sv D C rfl]
      rw [show (Fo (cr k b.2)).l=b.2.l from rfl,E0 (n:=s+b.2.l) (by omega),E0 (n:=(j:Int)+1) (by omega),E0 (n:=a.2.start+_) (by omega),E0 (n:=a.2.start+_) (by omega),E0 (n:=s+_) (by omega),E0 (n:=s+_) (by omega),V0 (by simp;omega),lA]
      unfold Rr
      rw [hst]
      cases Jo (cr h a.2) (cr k b.2)
      ·simp
      ·rfl
    rw [M5 hs,ih (j+1) _ _ (M1 hd) hv (fun x hx=>hQ x (by simp [hx])) hc (by rw [lK];omega),Wz,lL]
theorem Xa {h k:Int}(hh:0≤h∧h≤4000)(hk:0≤k∧k≤4000){v1 v2:List Ref01Stripe}{Q:List (Int×CurvePiece)}(h2:v2=Q.map fun x=>Fo (cr k x.2))(hQ: ∀x∈Q,POK x.2)(hQc:Chn 0 Q)(hQl:Q.length≤20): ∀(P:List (Int×CurvePiece)) (i:Nat) (s:Int) (out:List Cross),v1.drop i=P.map (fun x=>Fo (cr h x.2))→v1.length≤1000→(∀x∈P,POK x.2)→Chn s P→out.length+P.length*20≤900000→
    loop (U2 v1 v2) (out,s,(i:Int))=some (out++Gs h k P Q):=by
  intro P
  induction P with
  |nil=>
   intro i s out hd _ _ _ _
   have h2:=S8 hd
   refine G7 ?_
   unfold U2
   dsimp only
   rw [show decide ((i:Int)< (v1.length:Int))=false from l6 (by omega)]
   simp [Gs]
  |cons a P ih=>
   intro i s out hd hv hP hc ho
   simp only [lJ]at ho
   rw [lN]at hd
   have hlt:=Q7 hd
   have g:=S5 hd
   have A:=hP a (by simp)
   have hl2:=A.l2
   have hl1:=A.l1
   cases hc with
   |cons _ _ _ hst hc=>
    have hs0:=A.st
    have hr:=Yv h k a.2 Q
    have hrow:=FM (v2:=v2) (x:=out) hh hk A g Q 0 0 out (by rw [h2];rfl) (by rw [h2,lO];omega) hQ hQc (by omega)
    rw [show ((0:Nat):Int)=0 from rfl,hst]at hrow
    have hs:U2 v1 v2 (out,s,(i:Int))=some (.go (out++Vq h k a.2 Q,s+a.2.l,((i+1:Nat):Int))):=by
      unfold U2
      dsimp only
      rw [show decide ((i:Int)< (v1.length:Int))=true from l5 (by omega),hrow]
      simp only [l8,g,lA]
      rw [show (Fo (cr h a.2)).l=a.2.l from rfl,E0 (n:=s+a.2.l) (by omega),E0 (n:=(i:Int)+1) (by omega)]
      rfl
    rw [M5 hs,ih (i+1) _ _ (M1 hd) hv (fun x hx=>hP x (by simp [hx])) hc (by rw [lK];omega),No,lL]
theorem Ua (c d:Curve)(hc:c.Pts.length≤1000000)(hd:d.Pts.length≤1000000)(h k:Int):Fc c h d k=some (Pv c h d k):=by
  unfold Fc Pv
  by_cases hr:(0≤h∧h≤4000)∧0≤k∧k≤4000
  ·rw [bA hr,show decide (h<0)=false from l6 (by omega),show decide (h>4000)=false from l6 (by omega),show decide (k<0)=false from l6 (by omega),show decide (k>4000)=false from l6 (by omega)]
   simp only [Bool.or_self,l9,Rs c hc,Rs d hd,lA]
   have P:=DU c
   have Q:=DU d
   have:=Xa (v1:=(PL c).map fun x=>Fo (cr h x.2)) hr.1 hr.2 rfl Q.1 (RS d) Q.2 (PL c) 0 0 [] rfl (by rw [lO];have:=P.2;omega) P.1 (RS c) (by have:=P.2;simp;omega)
   rw [show ((0:Nat):Int)=0 from rfl]at this
   rw [this]
   rfl
  ·have hx:(((decide (h<0))||(decide (h>4000))||(decide (k<0)))||(decide (k>4000)))=true:=by
     simp only [bE,l7];omega
   rw [bB hr,hx]
   rfl
theorem Pg (m:Map)(k:Int):(P9 m k).length≤m.Lanes.length:=Bl _ _ _
end Go.Abs.Roadsz
namespace Go.Abs
theorem DV {α β:Type}{g:Nat→α→Option β}{x:β}: ∀{l:List α} {i:Nat},x∈Aq g i l↔∃j a,l[j]? =some a∧g (i+j) a=some x
  | [],i=>by simp [Aq]
  |a::r,i=>by
   unfold Aq
   have ih:=DV (g:=g) (x:=x) (l:=r) (i:=i+1)
   have sh:(∃j b,(a::r)[j]? =some b∧g (i+j) b=some x)↔g i a=some x∨∃j b,r[j]? =some b∧g (i+1+j) b=some x:=by
     constructor
     ·rintro ⟨j,b,h1,h2⟩
      cases j with
      |zero=>simp at h1;subst h1;exact .inl h2
      |succ j=>exact .inr ⟨j,b,by simpa using h1,by rwa [show i+1+j=i+ (j+1) by omega]⟩
     ·rintro (h|⟨j,b,h1,h2⟩)
      ·exact ⟨0,a,rfl,h⟩
      ·exact ⟨j+1,b,by simpa using h1,by rwa [show i+ (j+1)=i+1+j by omega]⟩
   rw [sh,← ih]
   cases h:g i a with
   |none=>simp
   |some b=>simp [eq_comm]
end Go.Abs
namespace Go.Abs.Roadsz
open Go Go.Abs
theorem mem_before {m:Map}{k x:Int}:x∈P9 m k↔∃(i:Nat) (l:Lane),m.Lanes[i]? =some l∧k∈l.Next∧x=(i:Int):=by
  unfold P9
  rw [DV]
  refine exists_congr fun i=>exists_congr fun l=>and_congr_right fun _=> ?_
  rw [bQ]
  by_cases h:l.Next.contains k=true
  ·rw [bA h]
   simp only [Option.some.injEq]
   exact ⟨fun e=>⟨by simpa using h,e.symm⟩,fun e=>e.2.symm⟩
  ·rw [bB h]
   simp only [reduceCtorEq,false_iff,not_and]
   intro hk
   exact absurd (by simpa using hk) h
theorem Sw {α:Type}(p:α→Bool): ∀(l:List α) (i:Nat) (b:Bool),Oe (fun _ b a=>b||p a) i b l=(b||l.any p)
  | [],_,b=>by simp [Oe]
  |a::r,i,b=>by rw [Oe,Sw p r,List.any_cons,Bool.or_assoc]
/-! ### How long lanes are -/
theorem RU: ∀(l:List Int) (s:Int),(∀x∈l,0≤x∧x≤1048576)→0≤s→s+1048576*l.length≤9000000000000000000→s≤Tu s l∧Tu s l≤s+1048576*l.length
  | [],s,_,_,_=>by simp [Tu]
  |a::r,s,h,h0,h1=>by
   have ha:=h a (by simp)
   simp only [lJ]at h1 ⊢
   rw [Tu,E0 (by omega)]
   have:=RU r (s+a) (fun x hx=>h x (by simp [hx])) (by omega) (by omega)
   omega
theorem RW: ∀{l:List Spot} {last:Option CurveVector},Good last l→∀x∈Jn l,1000≤x∧x≤1048576:=by
  intro l last h
  induction h with
  |one last p=>intro x hx;simp [Jn]at hx
  |cons last p q r h1 h2 h3 h4 h ih=>
   intro x hx
   rw [Ll,lQ]at hx
   rcases hx with rfl|hx
   ·exact ⟨h2,h3⟩
   ·exact ih x hx
theorem UR {c:Curve}(h:U3 c.Pts=0):1000≤QW c∧QW c≤16777216:=by
  have V:=checkM_zero.1 h
  unfold QW Ib
  rw [bA h]
  have h16:=V.most
  have h2:=V.two
  have hm:=RW V.good
  cases hp:c.Pts with
  |nil=>rw [hp]at h2;simp at h2
  |cons p r=>
   rw [hp]at hm h16 h2
   cases r with
   |nil=>simp at h2
   |cons q r=>
    simp only [lJ]at h16
    rw [Ll]at hm ⊢
    have ha:=hm _ (List.mem_cons_self)
    have hl:=Nc r q
    rw [Tu,E0 (by omega),Int.zero_add]
    have:=RU (Jn (q::r)) (rt (D1 (N2 p q) (N2 p q))) (fun x hx=>by have:=hm x (List.mem_cons_of_mem _ hx);omega) (by omega) (by rw [hl];omega)
    rw [hl]at this
    omega
theorem ValR.long {m:Map}(V:ValR m){k:Int}(h0:0≤k)(h1:k<m.Lanes.length):1000≤X8 m k∧X8 m k≤16777216:=by
  obtain ⟨l,e1,e2⟩:=Vm h0 h1
  unfold X8
  rw [e1]
  exact UR (V.laneOK e1).curve
/-! ### Routes -/
end Go.Abs.Roadsz
namespace Go.Abs
open Go
section
variable {α β σ τ:Type}
/-- Gathering goes on behind what is there. -/
theorem KP {F:List β×Int→Option (Stp (List β×Int) τ)}(l:List α)(g:Nat→α→Option β)(fin:List β→τ)(s0:List β)(B:Nat)(hB:s0.length+l.length≤B)
    (hF: ∀(i:Nat) a (s:List β),l[i]? =some a→s.length+1≤B→F (s,(i:Int))=some (.go ((match g i a with|some b=>s++ [b]|none=>s),((i+1:Nat):Int))))
    (h0: ∀s,F (s,(l.length:Int))=some (.out (fin s))):loop F (s0,0)=some (fin (s0++Aq g 0 l)):=by
  have:=HT (F:=F) (fun i s=>(s,(i:Int))) l (fun i s=>s.length≤s0.length+i) (fun i s a=>match g i a with|some b=>s++ [b]|none=>s) fin (s0:=s0) (S0:=(s0,0)) rfl (by simp) (fun i a s h hs=>hF i a s h (by have:=(lH.1 h).1;omega)) (fun i a s _ hs=>by
    cases g i a<;>simp<;>omega) (fun s _=>h0 s)
  exact this.trans (congrArg (fun x=>some (fin x)) (Pe g l 0 s0))
/-- What rounds put one behind the other. -/
def Og (g:Nat→α→List β):Nat→List α→List β
  |_,[]=> []
  |i,a::r=>g i a++Og g (i+1) r
theorem Sd (g:Nat→α→List β)(C:Nat): ∀(l:List α) (i:Nat),(∀(j:Nat) a,l[j]? =some a→(g (i+j) a).length≤C)→(Og g i l).length≤l.length*C
  | [],_,_=>by simp [Og]
  |a::r,i,h=>by
   have h1:=h 0 a rfl
   have h2:=Sd g C r (i+1) (fun j b hb=>by have:=h (j+1) b (by simpa using hb);rwa [show i+1+j=i+ (j+1) by omega])
   rw [Og,lK,lJ,Nat.succ_mul]
   rw [Nat.add_zero]at h1
   omega
theorem Xt {F:List β×Int→Option (Stp (List β×Int) τ)}(l:List α)(g:Nat→α→List β)(fin:List β→τ)(s0:List β)(C B:Nat)(hB:s0.length+l.length*C≤B)(hC: ∀(i:Nat) a,l[i]? =some a→(g i a).length≤C)
    (hF: ∀(i:Nat) a (s:List β),l[i]? =some a→s.length+C≤B→F (s,(i:Int))=some (.go (s++g i a,((i+1:Nat):Int))))
    (h0: ∀s,F (s,(l.length:Int))=some (.out (fin s))):loop F (s0,0)=some (fin (s0++Og g 0 l)):=by
  have key: ∀(r:List α) (i:Nat) (s:List β),Oe (fun i s a=>s++g i a) i s r=s++Og g i r:=by
    intro r
    induction r with
    |nil=>intro i s;simp [Oe,Og]
    |cons a r ih=>intro i s;rw [Oe,ih,Og,lL]
  have:=HT (F:=F) (fun i s=>(s,(i:Int))) l (fun i s=>i≤l.length→s.length≤s0.length+i*C) (fun i s a=>s++g i a) fin (s0:=s0) (S0:=(s0,0)) rfl (by simp) (fun i a s h hs=>by
    have hi:=(lH.1 h).1
    have:=hs (by omega)
    have e:i*C+C≤l.length*C:=by rw [← Nat.succ_mul];exact Nat.mul_le_mul_right _ hi
    exact hF i a s h (by omega)) (fun i a s h hs=>by
    intro hi
    have:=hs (by omega)
    have:=hC i a h
    rw [lK,Nat.succ_mul];omega) (fun s _=>h0 s)
  rw [this,key]
/-- From a place on. -/
theorem XG {F:List β×Int→Option (Stp (List β×Int) τ)}(l:List α)(k:Nat)(hk:k≤l.length)(g:α→Option β)(fin:List β→τ)(s0:List β)(B:Nat)(hB:s0.length+l.length≤B)
    (hF: ∀(i:Nat) a (s:List β),k≤i→l[i]? =some a→s.length+1≤B→F (s,(i:Int))=some (.go ((match g a with|some b=>s++ [b]|none=>s),((i+1:Nat):Int))))
    (h0: ∀s,F (s,(l.length:Int))=some (.out (fin s))):loop F (s0,(k:Int))=some (fin (s0++Aq (fun _ a=>g a) 0 (l.drop k))):=by
  have:=HT (F:=F) (fun i s=>(s,((k+i:Nat):Int))) (l.drop k) (fun i s=>s.length≤s0.length+i) (fun _ s a=>match g a with|some b=>s++ [b]|none=>s) fin (s0:=s0) (S0:=(s0,(k:Int))) rfl (by simp) (fun i a s h hs=>by
    rw [lX]at h
    have:=(lH.1 h).1
    rw [hF (k+i) a s (by omega) h (by omega),Nat.add_assoc]) (fun i a s _ hs=>by
    cases g a<;>simp<;>omega) (fun s _=>by
    have e:k+ (l.drop k).length=l.length:=by rw [lS];omega
    rw [e];exact h0 s)
  exact this.trans (congrArg (fun x=>some (fin x)) (Pe (fun _ a=>g a) (l.drop k) 0 s0))
/-- What pairs of a list give. -/
def Vr (f:α→α→Option β):List α→List β
  | []=> []
  |a::r=>Aq (fun _ b=>f a b) 0 r++Vr f r
theorem Ub (f:α→α→Option β)(l:List α): ∀(r:List α) (i:Nat),l.drop i=r→Og (fun i a=>Aq (fun _ b=>f a b) 0 (l.drop (i+1))) i r=Vr f r
  | [],i,_=>rfl
  |a::r,i,h=>by
   have h1:l.drop (i+1)=r:=by have:=congrArg (List.drop 1) h;simpa using this
   rw [Og,Vr,h1,Ub f l r (i+1) h1]
end
end Go.Abs
namespace Go.Abs.Roadsz
open Go Go.Abs
theorem Oh {z:Zone}(hl:z.Parts.length≤1000000)(k:Int):Ei z k=some (M2 z k):=by
  have key: ∀(r:List Part) (i:Nat),z.Parts.drop i=r→i≤z.Parts.length→thenS (loop (Dd z k) (i:Int)) (fun _=>some ((⟨0,0,0,0⟩:Part),false)) (fun r=>some r)=some (match r.find? (fun p=>p.Lane_==k)with|some p=>(p,true)|none=>(⟨0,0,0,0⟩,false)):=by
    intro r
    induction r with
    |nil=>
     intro i hi hil
     have:=S8 hi
     obtain rfl:i=z.Parts.length:=by omega
     rw [G7 (t:= .inl ()) (by unfold Dd;rw [H5];rfl)];rfl
    |cons p r ih=>
     intro i hi hil
     have hlt:=Q7 hi
     have hp:=Kl hi
     rw [List.find?_cons]
     cases q:p.Lane_==k
     ·rw [M5 (s':=((i+1:Nat):Int)) (by unfold Dd;rw [J5 hlt,C4 hp,l8,lA,q,H4 hlt (by omega)];rfl)]
      exact ih (i+1) (M1 hi) (by omega)
     ·rw [G7 (t:= .inr (p,true)) (by unfold Dd;rw [J5 hlt,C4 hp,l8,lA,q,l8,lA])];rfl
  exact key z.Parts 0 rfl (by omega)
/-- Parts from 0 on, and up to the ends of all that come before. -/
noncomputable def Fw (m:Map)(z:Zone)(a:Int):Bool:=(M2 z a).2&& (M2 z a).1.From==0&& !((P9 m a).any fun k=> !(M2 z k).2||(M2 z k).1.To !=X8 m k)
theorem Rt {m:Map}{k x:Int}(h:x∈P9 m k):0≤x∧x<m.Lanes.length:=by
  obtain ⟨i,l,h1,_,rfl⟩:=mem_before.1 h
  have:=H3 h1
  omega
theorem DW {m:Map}(B:BearM m){z:Zone}(hz:z.Parts.length≤1000000)(a:Int):Ar m z a=some (Fw m z a):=by
  have hb:=B.lanes
  have hl:=Pg m a
  unfold Ar Fw
  rw [Sc hz,lA]
  cases (M2 z a).2
  ·rfl
  ·cases q:(M2 z a).1.From !=0
   ·rw [show ((M2 z a).1.From==0)=true by simpa using q]
    simp only [bF,Bool.or_self,l9,bC]
    rw [DT B,lA,Mn (P9 m a) (fun k=> !(M2 z k).2||(M2 z k).1.To !=X8 m k) false (fun i k hk=>by
     have hi:=H3 hk
     have hm:=Rt (lF hk)
     unfold W8
     rw [J5 hi,C4 hk,l8,lA,Sc hz,lA,H4 hi (by omega)]
     cases (M2 z k).2
     ·rfl
     ·simp only [bF,bG,l8,bH]
      rw [FG B.toBear hm.1 hm.2,lA]
      cases (M2 z k).1.To !=X8 m k<;>rfl) (by unfold W8;rw [H5];rfl)]
    cases (P9 m a).any fun k=> !(M2 z k).2||(M2 z k).1.To !=X8 m k<;>rfl
   ·rw [show ((M2 z a).1.From==0)=false by simpa using q];rfl
theorem HY {m:Map}(B:BearM m){z:Zone}(hz:z.Parts.length≤1000000)(a:Int):Gh m z a=some (Fw m z a):=by
  have hb:=B.lanes
  have hl:=Pg m a
  unfold Gh Fw
  rw [Oh hz,lA]
  cases (M2 z a).2
  ·rfl
  ·cases q:(M2 z a).1.From !=0
   ·rw [show ((M2 z a).1.From==0)=true by simpa using q]
    simp only [bF,Bool.or_self,l9,bC]
    rw [Tx B,lA,Mn (P9 m a) (fun k=> !(M2 z k).2||(M2 z k).1.To !=X8 m k) false (fun i k hk=>by
     have hi:=H3 hk
     have hm:=Rt (lF hk)
     unfold Gg
     rw [J5 hi,C4 hk,l8,lA,Oh hz,lA,H4 hi (by omega)]
     cases (M2 z k).2
     ·rfl
     ·simp only [bF,bG,l8,bH,lA]
      rw [Yn B hm.1 hm.2,lA]
      cases (M2 z k).1.To !=X8 m k<;>rfl) (by unfold Gg;rw [H5];rfl)]
    cases (P9 m a).any fun k=> !(M2 z k).2||(M2 z k).1.To !=X8 m k<;>rfl
   ·rw [show ((M2 z a).1.From==0)=false by simpa using q];rfl
noncomputable def Np (m:Map)(a:Int)(z:Zone):Bool:=Fw m z a&& !((P9 m a).any fun k=> !Az m z k)
noncomputable def Ng (m:Map):List Clash:=Aq (fun i (_:Lane)=>if 1< (P9 m (i:Int)).length∧(m.Zones.any (Np m (i:Int)))=false then some ⟨1, -1,(i:Int), -1⟩else none) 0 m.Lanes
theorem NJ {m:Map}(B:BearM m)(V:ValR m)(a:Int):E9 m.Zones m a (P9 m a)=some (m.Zones.any (Np m a)):=by
  have hb:=B.lanes
  have hl:=Pg m a
  have h12:=V.lanes
  have hz:=V.zones
  unfold E9 G2
  rw [Ff m.Zones (Np m a) (by omega) (fun i z h=>by
   have hi:=H3 h
   have O:=V.zoneOK (lF h)
   have h6:=O.six
   unfold E8 R6 Np
   rw [J5 hi,C4 h,l8,lA,DW B (by omega),lA]
   cases Fw m z a
   ·rfl
   ·simp only [l8,bC]
    unfold F9 G5
    rw [Ff (P9 m a) (fun k=> !Az m z k) (by omega) (fun j k hk=>by
     have hj:=H3 hk
     have hm:=Rt (lF hk)
     unfold F0 R5
     rw [J5 hj,C4 hk,l8,lA,BP V O hm.1 (by omega),lA,lA]
     cases Az m z k<;>rfl) (by unfold F0;rw [H5];rfl)]
    rw [lA,Gr,lA,lA]
    cases (P9 m a).any fun k=> !Az m z k<;>rfl) (by unfold E8;rw [H5];rfl)]
  rw [lA,Gr]
theorem NK {m:Map}(B:BearM m)(V:ValR m):As m=some (Ng m):=by
  have h12:=V.lanes
  unfold As Ng
  rw [Wr m.Lanes (fun i (_:Lane)=>if 1< (P9 m (i:Int)).length∧(m.Zones.any (Np m (i:Int)))=false then some (⟨1, -1,(i:Int), -1⟩:Clash)else none) id (fun i l s h hs=>by
   have hi:=H3 h
   unfold W9
   dsimp only
   rw [J5 hi,l8,DT B,lA,NJ B V,lA,V0 (by simp;omega),lA,H4 hi (by omega)]
   by_cases q:1< (P9 m (i:Int)).length
   ·rw [show decide (((P9 m (i:Int)).length:Int)>1)=true from l5 (by omega)]
    cases m.Zones.any (Np m (i:Int))
    ·rw [bA ⟨q,rfl⟩];rfl
    ·rw [bB (by simp)];rfl
   ·rw [show decide (((P9 m (i:Int)).length:Int)>1)=false from l6 (by omega),bB (fun x=>q x.1)];rfl) (fun s=>by unfold W9;rw [H5];rfl)]
  rfl
theorem RX {m:Map}(B:BearM m)(V:ValR m){z:Zone}(O:ZoneOK m z)(a:Int):Ir m z a=some (!((P9 m a).any fun k=> !Az m z k)):=by
  have hl:=Pg m a
  have h12:=V.lanes
  unfold Ir
  rw [Tx B,lA,Mn (P9 m a) (fun k=> !Az m z k) false (fun j k hk=>by
   have hj:=H3 hk
   unfold Gk
   rw [J5 hj,C4 hk,l8,lA,Wu V O,lA,H4 hj (by omega)]
   cases Az m z k<;>rfl) (by unfold Gk;rw [H5];rfl)]
  cases (P9 m a).any fun k=> !Az m z k<;>rfl
theorem KQ {m:Map}(B:BearM m)(V:ValR m):Lc m=some (Ng m):=by
  have h12:=V.lanes
  have hz:=V.zones
  unfold Lc Ng
  rw [Wr m.Lanes (fun i (_:Lane)=>if 1< (P9 m (i:Int)).length∧(m.Zones.any (Np m (i:Int)))=false then some (⟨1, -1,(i:Int), -1⟩:Clash)else none) id (fun i l s h hs=>by
   have hi:=H3 h
   unfold Ez
   dsimp only
   rw [J5 hi,l8,Tx B,lA,H4 hi (by omega)]
   rw [XE m.Zones (fun _ b z=>b||Np m (i:Int) z) id (decide (((P9 m (i:Int)).length:Int)<2)) (fun j z b hzj=>by
    have hj:=H3 hzj
    have O:=V.zoneOK (lF hzj)
    have h6:=O.six
    unfold Ey Np
    dsimp only
    rw [J5 hj,C4 hzj,l8,H4 hj (by omega)]
    cases b
    ·simp only [bG,l8,lA,bC,bH]
     rw [HY B (by omega),lA]
     cases Fw m z (i:Int)
     ·rfl
     ·simp only [l8,lA,bC]
      rw [RX B V O,lA]
    ·rfl) (fun s=>by unfold Ey;rw [H5];rfl)]
   rw [Sw,lA,V0 (by simp;omega),lA]
   by_cases q:1< (P9 m (i:Int)).length
   ·rw [show decide (((P9 m (i:Int)).length:Int)<2)=false from l6 (by omega)]
    cases m.Zones.any (Np m (i:Int))
    ·rw [bA ⟨q,rfl⟩];rfl
    ·rw [bB (by simp)];rfl
   ·rw [show decide (((P9 m (i:Int)).length:Int)<2)=true from l5 (by omega),bB (fun x=>q x.1)];rfl) (fun s=>by unfold Ez;rw [H5];rfl)]
  rfl
noncomputable def Ph (m:Map):List Clash:=Og (fun i (z:Zone)=>Aq (fun _ (p:Part)=>if !Az m z p.Lane_&& !Fw m z p.Lane_ then some ⟨2,(i:Int),p.Lane_, -1⟩else none) 0 z.Parts) 0 m.Zones
theorem NL {m:Map}(B:BearM m)(V:ValR m):Au m=some (Ph m):=by
  have h12:=V.lanes
  have hz:=V.zones
  unfold Au Ph
  rw [Xt m.Zones (fun i (z:Zone)=>Aq (fun _ (p:Part)=>if !Az m z p.Lane_&& !Fw m z p.Lane_ then some (⟨2,(i:Int),p.Lane_, -1⟩:Clash)else none) 0 z.Parts) id [] 6 1000 (by simp;omega) (fun i z h=>bR (Bl _ _ _) (V.zoneOK (lF h)).six) (fun i z s h hs=>by
   have hi:=H3 h
   have O:=V.zoneOK (lF h)
   have h6:=O.six
   unfold X1
   dsimp only
   rw [J5 hi,C4 h,l8,lA,H4 hi (by omega)]
   rw [KP z.Parts (fun _ (p:Part)=>if !Az m z p.Lane_&& !Fw m z p.Lane_ then some (⟨2,(i:Int),p.Lane_, -1⟩:Clash)else none) id s 2000 (by omega) (fun j p s h hs=>by
    have hj:=H3 h
    have hk:=O.lane (lF h)
    unfold X0
    dsimp only
    rw [J5 hj,C4 h,l8,lA,BP V O hk.1 (by omega),lA,DW B (by omega),V0 (by simp;omega),lA,H4 hj (by omega)]
    cases Az m z p.Lane_
    ·cases Fw m z p.Lane_<;>rfl
    ·rfl) (fun s=>by unfold X0;rw [H5];rfl)]
   rfl) (fun s=>by unfold X1;rw [H5];rfl)]
  rfl
theorem KR {m:Map}(B:BearM m)(V:ValR m):Jl m=some (Ph m):=by
  have h12:=V.lanes
  have hz:=V.zones
  unfold Jl Ph
  rw [Xt m.Zones (fun i (z:Zone)=>Aq (fun _ (p:Part)=>if !Az m z p.Lane_&& !Fw m z p.Lane_ then some (⟨2,(i:Int),p.Lane_, -1⟩:Clash)else none) 0 z.Parts) id [] 6 1000 (by simp;omega) (fun i z h=>bR (Bl _ _ _) (V.zoneOK (lF h)).six) (fun i z s h hs=>by
   have hi:=H3 h
   have O:=V.zoneOK (lF h)
   have h6:=O.six
   unfold Fb
   dsimp only
   rw [J5 hi,C4 h,l8,lA,H4 hi (by omega)]
   rw [KP z.Parts (fun _ (p:Part)=>if !Az m z p.Lane_&& !Fw m z p.Lane_ then some (⟨2,(i:Int),p.Lane_, -1⟩:Clash)else none) id s 2000 (by omega) (fun j p s h hs=>by
    have hj:=H3 h
    unfold Fa
    dsimp only
    rw [J5 hj,C4 h,l8,lA,Wu V O,lA,HY B (by omega),V0 (by simp;omega),lA,H4 hj (by omega)]
    cases Az m z p.Lane_
    ·cases Fw m z p.Lane_<;>rfl
    ·rfl) (fun s=>by unfold Fa;rw [H5];rfl)]
   rfl) (fun s=>by unfold Fb;rw [H5];rfl)]
  rfl
def Vs (z:Zone)(a b:Int):Bool:=z.Signal_==0&& (M2 z a).1.Rank==(M2 z b).1.Rank
def RY (s:Signal)(a b:Int):Bool:=s.Phases.any fun p=>p.Green.contains a&&p.Green.contains b
def Kt (m:Map)(z:Zone)(a b:Int):Bool:=decide (z.Signal_>0)&& (match m.Signals[(z.Signal_ - 1).toNat]? with|some s=>RY s a b|none=>false)
def Ii (m:Map)(kind:Int)(bad:Zone→Int→Int→Bool):List Clash:=Og (fun i (z:Zone)=>Vr (fun a b=>if bad z a b then some ⟨kind,(i:Int),a,b⟩else none) (P6 m z)) 0 m.Zones
theorem DX {α β:Type}(f:α→α→Option β): ∀(l:List α),(Vr f l).length≤l.length*l.length
  | []=>bN _
  |a::r=>by
   have h1:=Bl (fun (_:Nat) b=>f a b) r 0
   have h2:=DX f r
   rw [Vr,lK,lJ,Nat.succ_mul,Nat.mul_succ]
   omega
theorem Pi (m:Map)(z:Zone):(P6 m z).length≤z.Parts.length:=Bl _ _ _
theorem KS {β:Type}(f:Int→Int→Option β){m:Map}{z:Zone}(O:ZoneOK m z):(Vr f (P6 m z)).length≤36:=by
  have:=DX f (P6 m z)
  have h1:=bR (Pi m z) O.six
  exact bR this (bR (Nat.mul_le_mul h1 h1) (by decide))
/-- The three loops of the program. -/
theorem DY {m:Map}(V:ValR m)(kind:Int)(bad:Zone→Int→Int→Bool)(L1:List Clash×Int→Option (Stp (List Clash×Int) (List Clash)))
    (L2:List Clash×Int→Zone→List Int→List Clash×Int→Option (Stp (List Clash×Int) (List Clash))) (L3:List Clash×Int→Zone→Int→List Int→List Clash×Int→Option (Stp (List Clash×Int) (List Clash)))
    (h1: ∀x,L1 x=cond (decide (x.2< (m.Zones.length:Int))) ((E5 m.Zones x.2).bind fun v1=>(T8 m v1).bind fun v2=>(loop (L2 x v1 v2) (x.1,0)).bind fun y2=>some (.go (y2,(C8 (x.2+1))))) (some (.out x.1)))
    (h2: ∀x v1 v2 y,L2 x v1 v2 y=cond (decide (y.2< (v2.length:Int))) ((E5 v2 y.2).bind fun v3=>(AB v2 (C8 (y.2+1)) (v2.length:Int)).bind fun v4=>(loop (L3 x v1 v3 v4) (y.1,0)).bind fun y3=>some (.go (y3,(C8 (y.2+1))))) (some (.out y.1)))
    (h3: ∀(x:List Clash×Int) v1 v3 v4 (s:List Clash) (j:Nat) (b:Int),v1∈m.Zones→v4[j]? =some b→v4.length≤6→s.length+1≤2000→L3 x v1 v3 v4 (s,(j:Int))=some (.go ((if bad v1 v3 b then s++ [⟨kind,x.2,v3,b⟩]else s),((j+1:Nat):Int))))
    (h4: ∀x v1 v3 v4 s,L3 x v1 v3 v4 (s,(v4.length:Int))=some (.out s)):loop L1 ([],0)=some (Ii m kind bad):=by
  have hz:=V.zones
  unfold Ii
  rw [Xt m.Zones (fun i (z:Zone)=>Vr (fun a b=>if bad z a b then some (⟨kind,(i:Int),a,b⟩:Clash)else none) (P6 m z)) id [] 36 1000 (by simp;omega) (fun i z h=>KS _ (V.zoneOK (lF h))) (fun i z s h hs=>by
   have hi:=H3 h
   have O:=V.zoneOK (lF h)
   have he:=bR (Pi m z) O.six
   rw [h1]
   dsimp only
   rw [J5 hi,C4 h,l8,lA,KL V O,lA,H4 hi (by omega)]
   rw [Xt (P6 m z) (fun j a=>Aq (fun _ b=>if bad z a b then some (⟨kind,(i:Int),a,b⟩:Clash)else none) 0 ((P6 m z).drop (j+1))) id s 6 1100 (by omega) (fun j a h=>bR (Bl _ _ _) (by rw [lS];omega)) (fun j a t ha ht=>by
    have hj:=H3 ha
    have hd:((P6 m z).drop (j+1)).length≤6:=by rw [lS];omega
    rw [h2]
    dsimp only
    rw [J5 hj,C4 ha,l8,lA,H4 hj (by omega)]
    have:AB (P6 m z) ((j+1:Nat):Int) ((P6 m z).length:Int)=some ((P6 m z).drop (j+1)):=by
      unfold AB
      rw [bA (by omega),bM,bM,List.take_length]
    rw [this,lA]
    rw [KP ((P6 m z).drop (j+1)) (fun _ b=>if bad z a b then some (⟨kind,(i:Int),a,b⟩:Clash)else none) id t 1200 (by omega) (fun g b q hb hq=>by
     rw [h3 _ _ _ _ _ _ _ (lF h) hb hd (by omega)]
     cases bad z a b<;>rfl) (fun q=>h4 _ _ _ _ q)]
    rfl) (fun q=>by rw [h2,H5];rfl)]
   rw [Ub _ (P6 m z) (P6 m z) 0 rfl];rfl) (fun s=>by rw [h1,H5];rfl)]
  rfl
theorem RZ {m:Map}(V:ValR m):Co m=some (Ii m 3 Vs):=by
  unfold Co N8
  rw [DY V 3 Vs (M4 m 3) (fun x v1 v2 y=>M3 3 x v1 v2 y) (fun x v1 v3 v4 y=>I8 3 x v1 v3 v4 y) (fun _=>rfl) (fun _ _ _ _=>rfl) (fun x v1 v3 v4 s j b hz hb h6 hs=>by
   have hj:=H3 hb
   have O:=V.zoneOK hz
   have h6':=O.six
   unfold I8 Db
   dsimp only
   rw [J5 hj,C4 hb,l8,lA,Sc (by omega),Sc (by omega),lA,lA,lA,V0 (by simp;omega),lA,H4 hj (by omega)]
   unfold Vs
   cases (v1.Signal_==0&& (M2 v1 v3).1.Rank==(M2 v1 b).1.Rank)<;>rfl) (fun x v1 v3 v4 s=>by unfold I8;rw [H5];rfl)]
  rfl
theorem SA {l:List Phase}(hl:l.length≤1000000)(hg: ∀p∈l,p.Green.length≤1000000)(a b:Int):E4 l a b=some (l.any fun p=>p.Green.contains a&&p.Green.contains b):=by
  unfold E4 F7
  rw [Ff l (fun p=>p.Green.contains a&&p.Green.contains b) (by omega) (fun i p h=>by
   have hi:=H3 h
   have hp:=hg p (lF h)
   unfold E3 R7
   rw [J5 hi,C4 h,l8,lA,Ed _ hp,Ed _ hp,lA]
   cases p.Green.contains a
   ·rfl
   ·cases p.Green.contains b<;>rfl) (by unfold E3;rw [H5];rfl)]
  rw [lA,Gr]
theorem SB {m:Map}{k:Int}(h0:0≤k)(h1:k<m.Signals.length): ∃s,m.Signals[k.toNat]? =some s∧E5 m.Signals k=some s:=by
  have hlt:k.toNat<m.Signals.length:=by omega
  refine ⟨m.Signals[k.toNat],lG hlt,?_⟩
  unfold E5
  rw [bA h0,lG hlt]
theorem NM {m:Map}(B:BearM m)(V:ValR m){z:Zone}(hz:z∈m.Zones)(a b:Int):S7 z a b m=some (Kt m z a b):=by
  have O:=V.zoneOK hz
  have hs:=O.sig
  have h4:=V.signals
  unfold S7 Kt
  by_cases q:z.Signal_>0
  ·obtain ⟨s,s1,s2⟩:=SB (m:=m) (k:=z.Signal_ - 1) (by omega) (by omega)
   obtain ⟨p1,p2⟩:=B.toBearS.phases s (lF s1)
   rw [l5 q,HP (n:=z.Signal_ - 1) (by omega),l8,s2,lA,l8,SA p1 p2,s1];rfl
  ·rw [l6 q];rfl
theorem NN {m:Map}(B:BearM m)(V:ValR m):Av m=some (Ii m 4 (Kt m)):=by
  unfold Av N1
  rw [DY V 4 (Kt m) (L4 m 4 m) (fun x v1 v2 y=>K9 4 m x v1 v2 y) (fun x v1 v3 v4 y=>I4 4 m x v1 v3 v4 y) (fun _=>rfl) (fun _ _ _ _=>rfl) (fun x v1 v3 v4 s j b hz hb h6 hs=>by
   have hj:=H3 hb
   unfold I4
   dsimp only
   rw [J5 hj,C4 hb,l8,lA,NM B V hz,lA,V0 (by simp;omega),lA,H4 hj (by omega)]
   cases Kt m v1 v3 b<;>rfl) (fun x v1 v3 v4 s=>by unfold I4;rw [H5];rfl)]
  rfl
theorem SC {s:Signal}(hl:s.Phases.length≤1000000)(hg: ∀p∈s.Phases,p.Green.length≤1000000)(a b:Int):Ka s a b=some (RY s a b):=by
  unfold Ka RY
  rw [Mn s.Phases (fun p=>p.Green.contains a&&p.Green.contains b) true (fun i p h=>by
   have hi:=H3 h
   have hp:=hg p (lF h)
   unfold Hu
   rw [J5 hi,C4 h,l8,lA,Mp _ hp,lA,H4 hi (by omega)]
   cases p.Green.contains a
   ·rfl
   ·simp only [l8,lA]
    rw [Mp _ hp,lA]
    cases p.Green.contains b<;>rfl) (by unfold Hu;rw [H5];rfl)]
  cases s.Phases.any fun p=>p.Green.contains a&&p.Green.contains b<;>rfl
def FN (m:Map)(kind:Int)(z:Zone)(a b:Int):Bool:=if kind=4 then Kt m z a b else Vs z a b
theorem DZ {m:Map}(B:BearM m)(V:ValR m)(kind:Int):Is m kind=some (Ii m kind (FN m kind)):=by
  have hz:=V.zones
  unfold Is Ii
  rw [Xt m.Zones (fun i (z:Zone)=>Vr (fun a b=>if FN m kind z a b then some (⟨kind,(i:Int),a,b⟩:Clash)else none) (P6 m z)) id [] 36 1000 (by simp;omega) (fun i z h=>KS _ (V.zoneOK (lF h))) (fun i z s h hs=>by
   have hi:=H3 h
   have O:=V.zoneOK (lF h)
   have he:=bR (Pi m z) O.six
   have h6:=O.six
   unfold Gn
   dsimp only
   rw [J5 hi,C4 h,l8,lA,HW V O,lA,H4 hi (by omega)]
   rw [Xt (P6 m z) (fun j a=>Aq (fun _ b=>if FN m kind z a b then some (⟨kind,(i:Int),a,b⟩:Clash)else none) 0 ((P6 m z).drop (j+1))) id s 6 1100 (by omega) (fun j a h=>bR (Bl _ _ _) (by rw [lS];omega)) (fun j a t ha ht=>by
    have hj:=H3 ha
    unfold Gm
    dsimp only
    rw [J5 hj,l8,H4 hj (by omega)]
    rw [XG (P6 m z) (j+1) hj (fun b=>if FN m kind z a b then some (⟨kind,(i:Int),a,b⟩:Clash)else none) id t 1200 (by omega) (fun g b q hg hb hq=>by
     have hlg:=H3 hb
     have hs:=O.sig
     have h4:=V.signals
     have hbad:(cond (kind==4) (((cond (decide (z.Signal_>0)) (E5 m.Signals (C8 (z.Signal_ - 1))) (some default))).bind fun v7=>((cond (decide (z.Signal_>0)) (E5 (P6 m z) (j:Int)) (some default))).bind fun v8=>((cond (decide (z.Signal_>0)) (E5 (P6 m z) (g:Int)) (some default))).bind fun v9=>((cond (decide (z.Signal_>0)) (Ka v7 v8 v9) (some default))).bind fun v10=>some ((decide (z.Signal_>0))&&v10)) (some ((z.Signal_==0)&& ((M2 z a).1.Rank==(M2 z b).1.Rank))))=some (FN m kind z a b):=by
       unfold FN
       by_cases hk:kind=4
       ·rw [bA hk,hk,show ((4:Int)==4)=true from rfl,l8]
        unfold Kt
        by_cases q:z.Signal_>0
        ·obtain ⟨s,s1,s2⟩:=SB (m:=m) (k:=z.Signal_ - 1) (by omega) (by omega)
         obtain ⟨p1,p2⟩:=B.toBearS.phases s (lF s1)
         rw [l5 q,HP (n:=z.Signal_ - 1) (by omega),l8,s2,lA,l8,C4 ha,lA,l8,C4 hb,lA,l8,SC p1 p2,s1];rfl
        ·rw [l6 q];rfl
       ·rw [bB hk,show (kind==4)=false by simpa using hk];rfl
     unfold Gl
     dsimp only
     rw [J5 hlg,l8,C4 ha,lA,Oh (by omega),lA,C4 hb,lA,Oh (by omega),lA]
     rw [C4 ha,C4 hb]at hbad
     rw [hbad,lA,lA,lA,V0 (by simp;omega),lA,H4 hlg (by omega)]
     cases FN m kind z a b<;>rfl) (fun q=>by unfold Gl;rw [H5];rfl)]
    rfl) (fun q=>by unfold Gm;rw [H5];rfl)]
   rw [Ub _ (P6 m z) (P6 m z) 0 rfl];rfl) (fun s=>by unfold Gn;rw [H5];rfl)]
  rfl
theorem Pj {m:Map}(V:ValR m)(k:Int)(bad:Zone→Int→Int→Bool):(Ii m k bad).length≤1000:=by
  have hz:=V.zones
  refine bR (Sd _ 36 _ _ (fun j z h=>KS _ (V.zoneOK (lF h)))) (by omega)
theorem Xu {m:Map}(V:ValR m):(Ph m).length≤1000:=by
  have hz:=V.zones
  refine bR (Sd _ 6 _ _ (fun j z h=>bR (Bl _ _ _) (V.zoneOK (lF h)).six)) (by omega)
theorem Xv {m:Map}(V:ValR m):(Ng m).length≤1000:=bR (Bl _ _ _) (by have:=V.lanes;omega)
end Go.Abs.Roadsz
namespace Go.Abs
open Go
end Go.Abs
namespace Go.Abs.Roadsz
open Go Go.Abs
/-- Lists one behind the other. -/
theorem SD {α:Type}(l:List (List α))(F:Int×Int→Option (Stp (Int×Int) Int))(hF: ∀(s:Int) (i:Nat) (x:List α),l[i]? =some x→F (s,(i:Int))=cond (decide ((C8 (s+ (x.length:Int)))<0)) none (some (.go ((C8 (s+ (x.length:Int))),(C8 ((i:Int)+1))))))(h0: ∀s,F (s,(l.length:Int))=some (.out s))(hl:l.length≤1000)(hs:l.flatten.length≤1000000):
    loop F (0,0)=some (l.flatten.length:Int):=by
  have key: ∀(r:List (List α)) (i:Nat) (s:Nat),l.drop i=r→i≤l.length→s+r.flatten.length≤1000000→loop F ((s:Int),(i:Int))=some ((s+r.flatten.length:Nat):Int):=by
    intro r
    induction r with
    |nil=>
     intro i s hi hil _
     have:=S8 hi
     obtain rfl:i=l.length:=by omega
     rw [G7 (h0 _)];simp
    |cons x r ih=>
     intro i s hi hil hb
     have hlt:=Q7 hi
     rw [List.flatten_cons,lK]at hb ⊢
     have h:=hF (s:Int) i x (Kl hi)
     rw [E0 (by omega),l6 (by omega),l9,H4 hlt (by omega)]at h
     rw [M5 h,show (s:Int)+ (x.length:Int)=((s+x.length:Nat):Int) by omega,ih (i+1) (s+x.length) (M1 hi) hlt (by omega)]
     congr 2;omega
  have:=key l 0 0 rfl (by omega) (by omega)
  rw [bQ]at this
  exact this
theorem SE {α:Type}(l:List (List α))(F:List α×Int→Option (Stp (List α×Int) (List α)))(hF: ∀(s:List α) (i:Nat) (x:List α),l[i]? =some x→F (s,(i:Int))=(Cj s x).bind fun v=>some (.go (v,(C8 ((i:Int)+1)))))(h0: ∀s,F (s,(l.length:Int))=some (.out s))(hl:l.length≤1000)(hs:l.flatten.length≤1000000):
    loop F ([],0)=some l.flatten:=by
  have key: ∀(r:List (List α)) (i:Nat) (s:List α),l.drop i=r→i≤l.length→s.length+r.flatten.length≤1000000→loop F (s,(i:Int))=some (s++r.flatten):=by
    intro r
    induction r with
    |nil=>
     intro i s hi hil _
     have:=S8 hi
     obtain rfl:i=l.length:=by omega
     rw [G7 (h0 _)];simp
    |cons x r ih=>
     intro i s hi hil hb
     have hlt:=Q7 hi
     rw [List.flatten_cons,lK]at hb
     have h:=hF s i x (Kl hi)
     rw [V0 (by omega),lA,H4 hlt (by omega)]at h
     rw [M5 h,ih (i+1) _ (M1 hi) hlt (by rw [lK];omega)]
     simp
  have:=key l 0 [] rfl (by omega) (by simpa using hs)
  rw [lM]at this
  exact this
theorem SF {n:Nat}(h:n≤1000000):HJ (n:Int)=some ():=bA (by omega)
theorem KT {l:List (List Clash)}(hl:l.length≤1000)(hs:l.flatten.length≤1000000):S9 l=some l.flatten:=by
  unfold S9
  rw [SD l (O1 l) (fun s i x h=>by
      unfold O1
      rw [J5 (H3 h),l8,C4 h];rfl) (fun s=>by unfold O1;rw [H5];rfl) hl hs,lA,SF hs,lA,
   SE l (O0 l) (fun s i x h=>by
    unfold O0
    rw [J5 (H3 h),l8,C4 h];rfl) (fun s=>by unfold O0;rw [H5];rfl) hl hs]
  rfl
/-- Are two lanes akin? -/
def BX (m:Map)(a b:Int)(x y:Lane):Bool:=((x.Next.contains b||y.Next.contains a)||x.Next.any fun k=>y.Next.contains k)||m.Lanes.any fun l=>l.Next.contains a&&l.Next.contains b
theorem US {m:Map}(B:BearM m){a b:Int}{x y:Lane}(hx:E5 m.Lanes a=some x)(hy:E5 m.Lanes b=some y)(hxm:x∈m.Lanes)(hym:y∈m.Lanes):Mh m a b=some (BX m a b x y):=by
  have hn: ∀l∈m.Lanes,l.Next.length≤1000000:=fun l hl=>(B.toBear.pts l hl).2
  have hl:=B.lanes
  unfold Mh BX
  rw [hx,hy,lA,lA,Ed _ (hn x hxm),lA,Ed _ (hn y hym)]
  have e1:K1 x.Next y.Next=some (x.Next.any fun k=>y.Next.contains k):=by
    unfold K1 O8
    rw [Ff x.Next (fun k=>y.Next.contains k) (by have:=hn x hxm;omega) (fun i k hk=>by
     unfold K0 Jg
     rw [J5 (H3 hk),C4 hk,l8,lA,Ed _ (hn y hym),lA,lA]
     cases y.Next.contains k<;>rfl) (by unfold K0;rw [H5];rfl),lA,Gr]
  have e2:G4 m.Lanes a b=some (m.Lanes.any fun l=>l.Next.contains a&&l.Next.contains b):=by
    unfold G4 I9
    rw [Ff m.Lanes (fun l=>l.Next.contains a&&l.Next.contains b) (by omega) (fun i l h=>by
     have hlm:=hn l (lF h)
     unfold G3 T9 Hd
     rw [J5 (H3 h),C4 h,l8,lA,Ed _ hlm,lA,Ed _ hlm]
     cases l.Next.contains a
     ·rfl
     ·simp only [l8,lA,bC]
      cases l.Next.contains b<;>rfl) (by unfold G3;rw [H5];rfl),lA,Gr]
  rw [e1,e2]
  cases x.Next.contains b
  ·cases y.Next.contains a
   ·cases x.Next.any fun k=>y.Next.contains k
    ·simp
    ·rfl
   ·rfl
  ·rfl
theorem UT {m:Map}(B:BearM m)(V:ValR m){i j:Nat}{x y:Lane}(hx:m.Lanes[i]? =some x)(hy:m.Lanes[j]? =some y):Mk m (i:Int) (j:Int)=some (BX m (i:Int) (j:Int) x y):=by
  have hn: ∀l∈m.Lanes,l.Next.length≤1000000:=fun l hl=>(B.toBear.pts l hl).2
  have hl:=B.lanes
  have hxm:=lF hx
  have hym:=lF hy
  unfold Mk
  rw [C4 hx,lA,Mp _ (hn x hxm),lA,C4 hy]
  have e:loop (De m (i:Int) (j:Int)) 0=some (if (m.Lanes.zipIdx.any fun p=>(x.Next.contains (p.2:Int)&&y.Next.contains (p.2:Int))||(p.1.Next.contains (i:Int)&&p.1.Next.contains (j:Int)))=true then .inr true else .inl ()):=by
    have h:=Mn (F:=De m (i:Int) (j:Int)) m.Lanes.zipIdx (fun p=>(x.Next.contains (p.2:Int)&&y.Next.contains (p.2:Int))||(p.1.Next.contains (i:Int)&&p.1.Next.contains (j:Int))) true (fun k p hp=>by
      have hk:m.Lanes[k]? =some p.1∧p.2=k:=by
        rw [List.getElem?_zipIdx]at hp
        cases hq:m.Lanes[k]? with
        |none=>rw [hq]at hp;cases hp
        |some z=>rw [hq]at hp;cases hp;exact ⟨rfl,by simp⟩
      obtain ⟨hk,hk2⟩:=hk
      have hlm:=hn p.1 (lF hk)
      unfold De
      rw [J5 (H3 hk),l8,C4 hx,lA,Mp _ (hn x hxm),lA,C4 hy,C4 hk,hk2,H4 (H3 hk) (by omega)]
      cases x.Next.contains (k:Int)
      ·simp only [l9,lA,Bool.false_and,bG,l8,Mp _ hlm,bC,bH]
       cases p.1.Next.contains (i:Int)
       ·rfl
       ·simp only [l8,lA,bC,Mp _ hlm]
        cases p.1.Next.contains (j:Int)<;>rfl
      ·simp only [l8,lA,bC,Mp _ (hn y hym)]
       cases y.Next.contains (k:Int)
       ·simp only [bG,l8,lA,Mp _ hlm,bC,bH]
        cases p.1.Next.contains (i:Int)
        ·rfl
        ·simp only [l8,lA,bC,Mp _ hlm]
         cases p.1.Next.contains (j:Int)<;>rfl
       ·rfl) (by rw [List.length_zipIdx];unfold De;rw [H5];rfl)
    exact h
  rw [e]
  have ea:(m.Lanes.zipIdx.any fun p=>(x.Next.contains (p.2:Int)&&y.Next.contains (p.2:Int))||(p.1.Next.contains (i:Int)&&p.1.Next.contains (j:Int)))=((x.Next.any fun k=>y.Next.contains k)||m.Lanes.any fun l=>l.Next.contains (i:Int)&&l.Next.contains (j:Int)):=by
    rw [Bool.eq_iff_iff]
    simp only [List.any_eq_true,bE,bD]
    constructor
    ·rintro ⟨p,hp,h|h⟩
     ·exact .inl ⟨_,List.contains_iff_mem.1 h.1,h.2⟩
     ·exact .inr ⟨p.1,(List.fst_mem_of_mem_zipIdx hp),h⟩
    ·rintro (⟨k,h1,h2⟩|⟨l,h1,h2⟩)
     ·have hk:=V.next hx h1
      have hkl:m.Lanes[k.toNat]? =some m.Lanes[k.toNat]:=lG (by omega)
      refine ⟨(m.Lanes[k.toNat],k.toNat),?_, .inl ?_⟩
      ·rw [List.mem_iff_getElem?]
       exact ⟨k.toNat,by rw [List.getElem?_zipIdx,hkl];simp⟩
      ·dsimp only
       rw [Int.toNat_of_nonneg (by omega)]
       exact ⟨List.contains_iff_mem.2 h1,h2⟩
     ·obtain ⟨k,hk⟩:=List.getElem?_of_mem h1
      refine ⟨(l,k),?_, .inr h2⟩
      rw [List.mem_iff_getElem?]
      exact ⟨k,by rw [List.getElem?_zipIdx,hk];simp⟩
  rw [ea]
  unfold BX
  cases x.Next.contains (j:Int)
  ·simp only [bG,l8,lA,Mp _ (hn y hym),bH]
   cases y.Next.contains (i:Int)
   ·simp only [l9,bH]
    cases (x.Next.any fun k=>y.Next.contains k)||m.Lanes.any fun l=>l.Next.contains (i:Int)&&l.Next.contains (j:Int)<;>rfl
   ·rfl
  ·rfl
/-- Is there a zone that contains a common part? -/
def Kb (m:Map)(a b:Int)(c:Cross):Bool:=m.Zones.any fun z=>(((((M2 z a).2&& (M2 z b).2)&&decide ((M2 z a).1.From≤c.FromA))&&decide (c.ToA≤(M2 z a).1.To))&&decide ((M2 z b).1.From≤c.FromB))&&decide (c.ToB≤(M2 z b).1.To)
theorem UU {m:Map}(B:BearM m)(a b:Int)(c:Cross):V6 c m a b=some (!Kb m a b c):=by
  have hz:=B.toBearZ.many
  unfold V6 J4 K4 Kb
  rw [Ff m.Zones (fun z=>(((((M2 z a).2&& (M2 z b).2)&&decide ((M2 z a).1.From≤c.FromA))&&decide (c.ToA≤(M2 z a).1.To))&&decide ((M2 z b).1.From≤c.FromB))&&decide (c.ToB≤(M2 z b).1.To)) (by omega) (fun i z h=>by
   have hp:=B.toBearZ.parts z (lF h)
   unfold H6 Z6
   rw [J5 (H3 h),C4 h,l8,lA,Sc hp,lA,Sc hp,lA,lA]
   cases (((((M2 z a).2&& (M2 z b).2)&&decide ((M2 z a).1.From≤c.FromA))&&decide (c.ToA≤(M2 z a).1.To))&&decide ((M2 z b).1.From≤c.FromB))&&decide (c.ToB≤(M2 z b).1.To)<;>rfl) (by unfold H6;rw [H5];rfl),lA,Gr,lA]
theorem KU {m:Map}(B:BearM m)(a b:Int)(c:Cross):Hv m a b c=some (Kb m a b c):=by
  have hz:=B.toBearZ.many
  unfold Hv Kb
  rw [Mn m.Zones (fun z=>(((((M2 z a).2&& (M2 z b).2)&&decide ((M2 z a).1.From≤c.FromA))&&decide (c.ToA≤(M2 z a).1.To))&&decide ((M2 z b).1.From≤c.FromB))&&decide (c.ToB≤(M2 z b).1.To)) true (fun i z h=>by
   have hp:=B.toBearZ.parts z (lF h)
   unfold Dt
   rw [J5 (H3 h),C4 h,l8,lA,Oh hp,lA,lA,Oh hp,lA,H4 (H3 h) (by omega)]
   cases (((((M2 z a).2&& (M2 z b).2)&&decide ((M2 z a).1.From≤c.FromA))&&decide (c.ToA≤(M2 z a).1.To))&&decide ((M2 z b).1.From≤c.FromB))&&decide (c.ToB≤(M2 z b).1.To)<;>rfl) (by unfold Dt;rw [H5];rfl)]
  cases m.Zones.any fun z=>(((((M2 z a).2&& (M2 z b).2)&&decide ((M2 z a).1.From≤c.FromA))&&decide (c.ToA≤(M2 z a).1.To))&&decide ((M2 z b).1.From≤c.FromB))&&decide (c.ToB≤(M2 z b).1.To)<;>rfl
noncomputable def Ru (m:Map)(a:Int)(x:Lane)(b:Nat)(y:Lane):Option Clash:=if (!BX m a (b:Int) x y&& (Pv x.Curve_ x.Half y.Curve_ y.Half).any fun c=> !Kb m a (b:Int) c)=true then some ⟨5, -1,a,(b:Int)⟩else none
noncomputable def Iv (m:Map):List Clash:=Og (fun i x=>Aq (Ru m (i:Int) x) (i+1) (m.Lanes.drop (i+1))) 0 m.Lanes
theorem SG {α β τ:Type}{F:List β×Int→Option (Stp (List β×Int) τ)}(l:List α)(g:Nat→α→Option β)(fin:List β→τ)(B:Nat)
    (hF: ∀(i:Nat) a (s:List β),l[i]? =some a→s.length+1≤B→F (s,(i:Int))=some (.go ((match g i a with|some b=>s++ [b]|none=>s),((i+1:Nat):Int))))
    (h0: ∀s,F (s,(l.length:Int))=some (.out (fin s))): ∀(r:List α) (i:Nat) (s:List β),l.drop i=r→i≤l.length→s.length+r.length≤B→loop F (s,(i:Int))=some (fin (s++Aq g i r)):=by
  intro r
  induction r with
  |nil=>
   intro i s hi hil _
   have:=S8 hi
   obtain rfl:i=l.length:=by omega
   rw [G7 (h0 _),Aq,List.append_nil]
  |cons a r ih=>
   intro i s hi hil hb
   rw [lJ]at hb
   have hlt:=Q7 hi
   have h:=hF i a s (Kl hi) (by omega)
   rw [Aq]
   cases hg:g i a with
   |none=>rw [hg]at h;rw [M5 h,ih (i+1) s (M1 hi) hlt (by omega)]
   |some b=>rw [hg]at h;rw [M5 h,ih (i+1) _ (M1 hi) hlt (by rw [lK];simp;omega)];simp
theorem HZ {α:Type}(l:List α)(p:α→Bool):(l.any fun c=> !p c)= !l.all p:=by
  induction l with
  |nil=>rfl
  |cons a l ih=>rw [List.any_cons,l3,ih,Bool.not_and]
theorem IA {m:Map}(B:BearM m)(V:ValR m):Gd m=some (Iv m):=by
  have hl:=V.lanes
  have hc: ∀l∈m.Lanes,l.Curve_.Pts.length≤1000000:=fun l hl=>(B.toBear.pts l hl).1
  unfold Gd Iv
  rw [Xt m.Lanes (fun i x=>Aq (Ru m (i:Int) x) (i+1) (m.Lanes.drop (i+1))) id [] 12 1000 (by simp;omega) (fun i x _=>by have:=Bl (Ru m (i:Int) x) (m.Lanes.drop (i+1)) (i+1);rw [lS]at this;omega) (fun i x s hx hs=>by
   have hi:=H3 hx
   unfold Cp
   dsimp only
   rw [J5 hi,l8,C4 hx,lA,H4 hi (by omega)]
   rw [SG (F:=Ah m (s,(i:Int)) x) m.Lanes (Ru m (i:Int) x) id 1000 (fun j y t hy ht=>by
    have hj:=H3 hy
    unfold Ah Ru
    dsimp only
    rw [J5 hj,l8,C4 hy,lA,US B (C4 hx) (C4 hy) (lF hx) (lF hy),lA,H4 hj (by omega)]
    cases BX m (i:Int) (j:Int) x y
    ·rw [l9,Tz _ _ (hc x (lF hx)) (hc y (lF hy)),lA]
     have h4:=HX x.Curve_ x.Half y.Curve_ y.Half
     have e:H8 (Pv x.Curve_ x.Half y.Curve_ y.Half) m (i:Int) (j:Int)=some ((Pv x.Curve_ x.Half y.Curve_ y.Half).any fun c=> !Kb m (i:Int) (j:Int) c):=by
       unfold H8 K5
       rw [Ff (Pv x.Curve_ x.Half y.Curve_ y.Half) (fun c=> !Kb m (i:Int) (j:Int) c) (by omega) (fun k c hk=>by
        unfold H7
        rw [J5 (H3 hk),C4 hk,l8,lA,UU B,lA]
        cases Kb m (i:Int) (j:Int) c<;>rfl) (by unfold H7;rw [H5];rfl),lA,Gr]
     rw [e,lA]
     cases (Pv x.Curve_ x.Half y.Curve_ y.Half).any fun c=> !Kb m (i:Int) (j:Int) c
     ·rfl
     ·rw [l8,V0 (by simp;omega)];rfl
    ·rfl) (fun t=>by unfold Ah;dsimp only;rw [H5];rfl) (m.Lanes.drop (i+1)) (i+1) s rfl hi (by rw [lS];omega)]
   rfl) (fun s=>by unfold Cp;dsimp only;rw [H5];rfl)]
  rfl
theorem FO {m:Map}(B:BearM m)(V:ValR m):Gq m=some (Iv m):=by
  have hl:=V.lanes
  have hc: ∀l∈m.Lanes,l.Curve_.Pts.length≤1000000:=fun l hl=>(B.toBear.pts l hl).1
  unfold Gq Iv
  rw [Xt m.Lanes (fun i x=>Aq (Ru m (i:Int) x) (i+1) (m.Lanes.drop (i+1))) id [] 12 1000 (by simp;omega) (fun i x _=>by have:=Bl (Ru m (i:Int) x) (m.Lanes.drop (i+1)) (i+1);rw [lS]at this;omega) (fun i x s hx hs=>by
   have hi:=H3 hx
   unfold Cu
   dsimp only
   rw [J5 hi,l8,H4 hi (by omega)]
   rw [SG (F:=Ai m (s,(i:Int))) m.Lanes (Ru m (i:Int) x) id 1000 (fun j y t hy ht=>by
    have hj:=H3 hy
    unfold Ai Ru
    dsimp only
    rw [J5 hj,l8,UT B V hx hy,lA,H4 hj (by omega)]
    cases BX m (i:Int) (j:Int) x y
    ·rw [l9,C4 hx,C4 hy]
     simp only [lA]
     rw [Ua _ _ (hc x (lF hx)) (hc y (lF hy)),lA]
     have h4:=HX x.Curve_ x.Half y.Curve_ y.Half
     have e: ∀(L:List Cross),L.length≤1000→loop (V7 m (s,(i:Int)) (t,(j:Int)) L) (true,0)=some (L.all fun c=>Kb m (i:Int) (j:Int) c):=by
       intro L hL
       have key: ∀(r:List Cross) (k:Nat) (b:Bool),L.drop k=r→k≤L.length→loop (V7 m (s,(i:Int)) (t,(j:Int)) L) (b,(k:Int))=some (b&&r.all fun c=>Kb m (i:Int) (j:Int) c):=by
         intro r
         induction r with
         |nil=>
          intro k b hk hkl
          have:=S8 hk
          obtain rfl:k=L.length:=by omega
          rw [G7 (t:=b) (by unfold V7;dsimp only;rw [H5];rfl)];simp
         |cons c r ih=>
          intro k b hk hkl
          have hlt:=Q7 hk
          rw [M5 (s':=((b&&Kb m (i:Int) (j:Int) c),((k+1:Nat):Int))),ih (k+1) _ (M1 hk) hlt,l3,Bool.and_assoc]
          unfold V7
          dsimp only
          rw [J5 hlt,l8,C4 (Kl hk),H4 hlt (by omega)]
          cases b
          ·rfl
          ·simp only [l8,lA,KU B]
       have:=key L 0 true rfl (by omega)
       rw [bC]at this
       exact this
     rw [e _ (by omega),lA,HZ]
     cases (Pv x.Curve_ x.Half y.Curve_ y.Half).all fun c=>Kb m (i:Int) (j:Int) c
     ·simp only [bG,l8,bC,if_true]
      rw [V0 (by simp;omega)];rfl
     ·rfl
    ·rfl) (fun t=>by unfold Ai;dsimp only;rw [H5];rfl) (m.Lanes.drop (i+1)) (i+1) s rfl hi (by rw [lS];omega)]
   rfl) (fun s=>by unfold Cu;dsimp only;rw [H5];rfl)]
  rfl
theorem Sx {m:Map}(V:ValR m):(Iv m).length≤1000:=by
  have hl:=V.lanes
  have:=Sd (fun (i:Nat) x=>Aq (Ru m (i:Int) x) (i+1) (m.Lanes.drop (i+1))) 12 m.Lanes 0 (fun j a _=>by
    have:=Bl (Ru m ((0+j:Nat):Int) a) (m.Lanes.drop (0+j+1)) (0+j+1)
    rw [lS]at this;omega)
  unfold Iv
  omega
noncomputable def Ms (m:Map):List Clash:=Ng m++ (Ph m++ (Ii m 3 Vs++ (Ii m 4 (Kt m)++Iv m)))
theorem Xw {m:Map}(V:ValR m):(Ms m).length≤5000:=by
  have h1:=Xv V
  have h2:=Xu V
  have h3:=Pj V 3 Vs
  have h4:=Pj V 4 (Kt m)
  have h5:=Sx V
  unfold Ms
  simp only [lK]
  omega
theorem KV {m:Map}(B:BearM m):Hp m=some (if Ws m=0 then Ms m else []):=by
  unfold Hp
  rw [BN B,lA]
  by_cases q:Ws m=0
  ·have V:=chkR_zero.1 q
   have hlen:=Xw V
   rw [bA q,q,show ((0:Int) !=0)=false from rfl,l9,NK B V,lA,NL B V,lA,RZ V,lA,NN B V,lA,IA B V,lA]
   have e: [Ng m,Ph m,Ii m 3 Vs,Ii m 4 (Kt m),Iv m].flatten=Ms m:=by simp [Ms]
   rw [KT (by simp) (by rw [e];omega),e];rfl
  ·rw [bB q,show (Ws m !=0)=true by simpa using q];rfl
theorem IB {m:Map}(B:BearM m):Hy m=some (if Ws m=0 then Ms m else []):=by
  unfold Hy
  rw [BM B,lA]
  by_cases q:Ws m=0
  ·have V:=chkR_zero.1 q
   have h1:=Xv V
   have h2:=Xu V
   have h3:=Pj V 3 Vs
   have h4:=Pj V 4 (Kt m)
   have h5:=Sx V
   have em:Ia m=some (Ng m):=KQ B V
   rw [bA q,q,show ((0:Int) !=0)=false from rfl,l9,em,lA,KR B V,lA,V0 (by omega),lA,DZ B V,lA]
   have e3:Ii m 3 (FN m 3)=Ii m 3 Vs:=rfl
   have e4:Ii m 4 (FN m 4)=Ii m 4 (Kt m):=rfl
   rw [e3,V0 (by rw [lK];omega),lA,DZ B V,lA,e4,V0 (by simp only [lK];omega),lA,FO B V,lA,V0 (by simp only [lK];omega),lA]
   unfold Ms
   simp only [lL]
  ·rw [bB q,show (Ws m !=0)=true by simpa using q];rfl
theorem Oi (l:List Clash)(h:l.length≤1000000):Fd l l=some true:=by
  unfold Fd
  rw [Dv l (Y9 l l) (fun _ _=>(none:Option Bool)) (fun i x hx=>by
   unfold Y9
   rw [J5 (H3 hx),Bool.and_self,l8,C4 hx,lA,lA,show (x.Kind==x.Kind&& (x.Zone_==x.Zone_&& (x.A==x.A&& (x.B==x.B&&true))))=true by simp,H4 (H3 hx) (by omega)];rfl) (by unfold Y9;rw [H5];rfl),firstE_none.2 fun _ _ _=>rfl]
  show some _=_
  rw [beq_self_eq_true]
theorem Nq (m:Map):Ej m=some true:=by
  unfold Ej
  rw [RL,lA,RM]
  cases h:BQ m
  ·rfl
  ·have B:=KM h
   rw [bF,l9,KV B,IB B,lA,lA]
   by_cases q:Ws m=0
   ·have:=Xw (chkR_zero.1 q)
    rw [bA q,Oi _ (by omega)];rfl
   ·rw [bB q,Oi _ (by simp)];rfl
end Go.Abs.Roadsz
