/-
  Plain facts, second part: the law itself.
-/
import Derived.Test.YtgjdiioennhoeaaGreatPlain
set_option linter.all false
/-! How the passes are sorted. -/
namespace Go.Abs.World
noncomputable section
open Go Go.Abs
def CT (x y:Int):Int:=if x<y then -1 else if x>y then 1 else 0
def gL (a b:Pass):Int:=if CT a.From b.From≠0 then CT a.From b.From else CT a.Zone_ b.Zone_
def Uz (a b:Pass):Bool:=decide (a.From<b.From∨a.From=b.From∧a.Zone_<b.Zone_)
theorem ltP_ok:LtOK Uz:=⟨fun a b h=>by simp only [Uz,bM,wC]at h ⊢;omega,fun a b c h1 h2=>by simp only [Uz,wC]at h1 h2 ⊢;omega⟩
theorem gM (a b:Pass):decide (gL a b<0)=Uz a b:=by
  unfold gL Uz CT
  rw [decide_eq_decide]
  split<;>(repeat' split)<;>omega
theorem mW (x y:Int):At [x,y]=some (if x≠0 then x else y):=by
  have f0:Y5 [x,y] 0=some (if x≠0 then .out (.inr x)else .go 1):=by
    by_cases h:x=0
    ·subst h;rfl
    ·have hb:(x !=0)=true:=by simp [h]
     unfold Y5
     simp [B8,h,hb]
  have f1:Y5 [x,y] 1=some (if y≠0 then .out (.inr y)else .go 2):=by
    by_cases h:y=0
    ·subst h;rfl
    ·have hb:(y !=0)=true:=by simp [h]
     unfold Y5
     simp [B8,h,hb]
  have f2:Y5 [x,y] 2=some (.out (.inl ())):=rfl
  unfold At
  by_cases hx:x=0
  ·by_cases hy:y=0
   ·rw [K3 (by rw [f0,bR (by simp [hx])]),K3 (by rw [f1,bR (by simp [hy])]),C5 f2]
    subst hx hy;rfl
   ·rw [K3 (by rw [f0,bR (by simp [hx])]),C5 (by rw [f1,bQ hy]),bR (by simp [hx])];rfl
  ·rw [C5 (by rw [f0,bQ hx]),bQ hx];rfl
theorem Uk (a b:Int):Z6 a b=some (CT a b):=by
  have h: ∀x:Int,V7 x=some false:=fun x=>by unfold V7;simp
  unfold Z6 CT
  rw [h,h]
  simp only [lB,bP,VC]
  split<;>(repeat' split)<;>rfl
theorem Qm (a b:Int):W7 a b=some (CT a b):=by
  have h: ∀x:Int,Ig x=some false:=fun x=>by unfold Ig;simp
  unfold W7 CT
  rw [h,h]
  simp only [lB,bP,VC]
  split<;>(repeat' split)<;>rfl
theorem gN (a b:Pass):Bm a b=some (gL a b):=by
  unfold Bm gL
  rw [Uk,lB,Qm,lB,mW];rfl
theorem TW (P T:List Pass)(x:Pass)(Q:List Pass)(hs:Srt Uz Q)(hN:(P++Q++x::T).length≤1000000):
    ∃Q',loop (C4 (P.length:Int)) (((P.length+Q.length:Nat):Int),P++Q++x::T)=some (P++Q'++T)∧Q'.Perm (x::Q)∧Srt Uz Q':=by
  have hstop: ∀xs,C4 (P.length:Int) ((P.length:Int),xs)=some (.out xs):=fun xs=>by
    unfold C4
    simp only [show decide ((P.length:Int)>(P.length:Int))=false from bK (by omega),bP,bT,lB]
  have hF: ∀(U V:List Pass) (q y:Pass),P.length≤U.length→(U++q::y::V).length=(P++Q++x::T).length→C4 (P.length:Int) (((U.length:Int)+1),U++q::y::V)=some (if Uz y q then .go ((U.length:Int),U++y::q::V)else .out (U++q::y::V)):=fun U V q y hP hl=>by
    unfold C4
    have hb:U.length+2≤1000000:=by rw [← hl]at hN;simp at hN;omega
    have e1:D2 ((U.length:Int)+1 - 1)=(U.length:Int):=by rw [E1 (by omega)];omega
    have g1:B8 (U++q::y::V) ((U.length:Int)+1)=some y:=by rw [XJ];exact Km _ _ _ _ (by simp)
    have g2:B8 (U++q::y::V) (U.length:Int)=some q:=Km _ _ _ _ rfl
    have s1:Kd (U++q::y::V) ((U.length:Int)+1) q=U++q::q::V:=by rw [XJ,Ta _ _ _ _ _ (by simp)];simp
    have g3:B8 (U++q::q::V) (U.length:Int)=some q:=Km _ _ _ _ rfl
    have s2:Kd (U++q::q::V) (U.length:Int) y=U++y::q::V:=Ta _ _ _ _ _ rfl
    simp only [show decide (((U.length:Int)+1)>(P.length:Int))=true from bJ (by omega),bO,bS,e1,g1,g2,s1,g3,s2,lB,gN,gM]
    cases Uz y q<;>rfl
  obtain ⟨Q',h1,h2,h3⟩:=DT ltP_ok (P:=P) (T:=T) (P++Q++x::T).length hstop hF x Q.length Q [] rfl (by simpa using hs) (by simp) (by simp)
  refine ⟨Q',?_,by simpa using h2,h3⟩
  rw [← h1];congr 1;simp
theorem NS (P A S:List Pass)(hN:(P++A++S).length≤1000000):
    ∃A',C8 (P++A++S) (P.length:Int) ((P.length+A.length:Nat):Int)=some (P++A'++S)∧A'.Perm A∧Srt Uz A':=by
  unfold C8
  have hend: ∀(xs:List Pass) (i:Nat),P.length+A.length≤i→D0 (P.length:Int) ((P.length+A.length:Nat):Int) ((i:Int),xs)=some (.out xs):=fun xs i hi=>by
    unfold D0
    rw [show decide ((i:Int)< ((P.length+A.length:Nat):Int))=false from bK (by omega)];rfl
  simp only [lM]at hN
  have hw:D2 ((P.length:Int)+1)=((P.length+1:Nat):Int):=by rw [E1 (by omega)];omega
  cases A with
  |nil=>
   refine ⟨[],?_,by simp,List.Pairwise.nil⟩
   rw [hw,C5 (hend _ _ (by simp))]
  |cons a A=>
   have hF: ∀(Q R:List Pass) (x:Pass),(P++Q++x::R++S).length=(P++a::A++S).length→P.length+Q.length<P.length+ (a::A).length→Srt Uz Q→∃Q',D0 (P.length:Int) ((P.length+ (a::A).length:Nat):Int) (((P.length+Q.length:Nat):Int),P++Q++x::R++S)=some (.go (((P.length+Q.length+1:Nat):Int),P++Q'++R++S))∧Q'.Perm (x::Q)∧Srt Uz Q':=fun Q R x hl hb hs=>by
     obtain ⟨Q',k1,k2,k3⟩:=TW P (R++S) x Q hs (by simp only [lM,lL]at hl hN ⊢;omega)
     refine ⟨Q',?_,k2,k3⟩
     unfold D0
     have e1:P++Q++x::R++S=P++Q++x::(R++S):=by simp
     rw [show decide (((P.length+Q.length:Nat):Int)< ((P.length+ (a::A).length:Nat):Int))=true from bJ (by omega),bO]
     simp only [e1,k1,lB]
     rw [E1 (by simp only [lL]at hN hb;omega)]
     simp
   obtain ⟨A',h1,h2,h3⟩:=LP (lt:=Uz) (P:=P) (S:=S) (P++a::A++S).length (P.length+ (a::A).length) hend hF A [a] (by simp) (by simp;omega) (List.pairwise_singleton _ _)
   refine ⟨A',?_,h2,h3⟩
   rw [hw,← h1];congr 1;simp
theorem gO (x y:Nat)(h:x+y≤4000000):D2 ((IntKind.wrap .u64 (D2 ((x:Int)+ (y:Int)))).fdiv (2^ (min (1:Int).toNat (IntKind.bits .u64))))=(((x+y) / 2:Nat):Int):=by
  rw [E1 (n:=(x:Int)+ (y:Int)) (by omega)]
  have e:IntKind.wrap .u64 ((x:Int)+ (y:Int))=(x:Int)+ (y:Int):=by
    unfold IntKind.wrap
    simp only [IntKind.signed,IntKind.bits,bT,Bool.false_eq_true,if_false]
    omega
  rw [e,show (2:Int)^ (min (1:Int).toNat (IntKind.bits .u64))=2 from rfl,Int.fdiv_eq_ediv_of_nonneg _ (by omega),E1 (by omega)]
  omega
def BlkS (w:Nat)(l:List Pass):Prop:= ∀i,Srt Uz ((l.drop (i*w)).take w)
theorem BlkS.cons {w:Nat}{M R:List Pass}(hM:M.length=w)(h1:Srt Uz M)(h2:BlkS w R):BlkS w (M++R):=by
  intro i
  cases i with
  |zero=>rw [Nat.zero_mul,List.drop_zero,List.take_append_of_le_length (by omega),List.take_of_length_le (by omega)];exact h1
  |succ i=>
   have:=h2 i
   rw [wJ,Nat.one_mul,List.drop_append,List.drop_eq_nil_of_le (by omega),lQ,show i*w+w - M.length=i*w by omega]
   exact this
theorem BlkS.last {w:Nat}{M:List Pass}(hM:M.length≤w)(h1:Srt Uz M):BlkS w M:=by
  intro i
  exact h1.sublist ((List.take_sublist _ _).trans (List.drop_sublist _ _))
theorem BlkS.drop {w:Nat}{R:List Pass}(h:BlkS w R):BlkS w (R.drop w):=by
  intro i
  have:=h (i+1)
  rwa [wJ,Nat.one_mul,Nat.add_comm,← List.drop_drop]at this
theorem BlkS.head {w:Nat}{R:List Pass}(h:BlkS w R):Srt Uz (R.take w):=by
  have:=h 0
  rwa [Nat.zero_mul,List.drop_zero]at this
theorem mX (n:Nat)(hn:n≤100): ∀(k:Nat) (R D:List Pass),R.length≤k→D.length+R.length=n→
    ∃y R',loop (D1 (n:Int)) ((D.length:Int),((D.length+20:Nat):Int),D++R)=some y∧C8 y.2 y.1 (n:Int)=some (D++R')∧BlkS 20 R'∧R'.Perm R:=by
  intro k
  induction k with
  |zero=>
   intro R D hk hl
   obtain rfl:=List.length_eq_zero_iff.1 (show R.length=0 by omega)
   obtain ⟨A',g1,g2,g3⟩:=NS D [] [] (by simp;omega)
   simp only [lP,lN,Nat.add_zero]at g1 hl ⊢
   refine ⟨_,A',C5 (t:=((D.length:Int),D)) ?_,by rw [← hl];exact g1, .last (by rw [g2.length_eq];simp) g3,g2⟩
   unfold D1
   rw [show decide (((D.length+20:Nat):Int)≤(n:Int))=false from bK (by omega)];rfl
  |succ k ih=>
   intro R D hk hl
   by_cases h20:20≤R.length
   ·have eR:=List.take_append_drop 20 R
    have l1:(R.take 20).length=20:=by rw [lV];omega
    obtain ⟨A',g1,g2,g3⟩:=NS D (R.take 20) (R.drop 20) (by rw [lO,eR];simp;omega)
    have lA:A'.length=20:=by rw [g2.length_eq];exact l1
    rw [l1,lO,eR]at g1
    obtain ⟨y,R',k1,k2,k3,k4⟩:=ih (R.drop 20) (D++A') (by rw [List.length_drop];omega) (by rw [lM,List.length_drop];omega)
    refine ⟨y,A'++R',?_,by rw [k2,lO], .cons lA g3 k3,?_⟩
    ·rw [← k1,show (D++A').length=D.length+20 by rw [lM,lA]]
     refine K3 ?_
     unfold D1
     simp only [show decide (((D.length+20:Nat):Int)≤(n:Int))=true from bJ (by omega),bO,g1,lB]
     rw [E1 (n:=((D.length+20:Nat):Int)+20) (by omega)]
     simp
    ·exact (g2.append k4).trans (by rw [eR])
   ·obtain ⟨A',g1,g2,g3⟩:=NS D R [] (by simp;omega)
    simp only [lP]at g1
    rw [hl]at g1
    refine ⟨_,A',C5 (t:=((D.length:Int),D++R)) ?_,g1, .last (by rw [g2.length_eq];omega) g3,g2⟩
    unfold D1
    rw [show decide (((D.length+20:Nat):Int)≤(n:Int))=false from bK (by omega)];rfl
theorem XM (xs:List Pass)(h:xs.length≤19): ∃ys,F0 xs=some ys∧ys.Perm xs∧Srt Uz ys:=by
  obtain ⟨y,R,k1,k2,k3,k4⟩:=mX xs.length (by omega) xs.length xs [] (wH _) (by simp)
  refine ⟨R,?_,k4,?_⟩
  ·unfold F0 J6
   have k1':loop (D1 (xs.length:Int)) (0,20,xs)=some y:=k1
   have k2':C8 y.2 y.1 (xs.length:Int)=some R:=k2
   have g1':loop (G1 (xs.length:Int) R) 20=some R:=by
     refine C5 ?_
     unfold G1
     rw [show decide ((20:Int)< (xs.length:Int))=false from bK (by omega)];rfl
   simp only [k1',lB,k2',g1']
  ·have:=k3.head
   rwa [List.take_of_length_le (by rw [k4.length_eq];omega)]at this
theorem IT:F1=some ():=by
  have i0:D6 0 0=some ():=by
    unfold D6
    exact C5 rfl
  have h1:loop (I7 0) (0,20)=some 0:=C5 rfl
  have h2:loop (I6 0) 20=some ():=C5 rfl
  unfold F1 J7
  simp only [h1,lB,i0,h2]
theorem Ul (m:Map): ∀(r:List Int) (s:Int),Dq m s r=s+Dq m 0 r
  | [],s=>by simp [Dq]
  |a::r,s=>by rw [Dq,Dq,Ul m r (s+P5 m a),Ul m r (0+P5 m a)];omega
theorem Lj (m:Map): ∀(r:List Int) (s:Int) (i:Nat),i<r.length→(O9 m s r)[i]? =some (s+Dq m 0 (r.take i))
  | [],_,_,h=>absurd h (by simp)
  |a::r,s,0,_=>by simp [O9,Dq]
  |a::r,s,i+1,h=>by
   rw [O9,List.getElem?_cons_succ,Lj m r _ i (by simpa using h),List.take_succ_cons,Dq,Ul m _ (0+P5 m a)]
   congr 1;omega
def Nl (m:Map)(r:List Int)(i:Nat):Int:=Dq m 0 (r.take i)
theorem Xk (m:Map)(r:List Int):Nl m r 0=0:=rfl
theorem EV (m:Map)(x:Int): ∀(l:List Int) (s:Int),Dq m s (l++ [x])=Dq m s l+P5 m x
  | [],s=>rfl
  |a::l,s=>by rw [List.cons_append,Dq,Dq,EV m x l]
theorem Qn {m:Map}{r:List Int}{i:Nat}{a:Int}(h:r[i]? =some a):Nl m r (i+1)=Nl m r i+P5 m a:=by
  unfold Nl
  rw [List.take_add_one,h]
  exact EV m a _ _
theorem gP (m:Map)(r:List Int):Nl m r r.length=Dq m 0 r:=by rw [Nl,List.take_length]
theorem RouteOK.len {m:Map}{a:Int}{t:List Int}(R:RouteOK m a t){i:Nat}{x:Int}(h:(a::t)[i]? =some x):1000≤P5 m x∧P5 m x≤16777216:=by
  have:=R.mem (lG h)
  exact R.val.long this.1 this.2
theorem RouteOK.mono {m:Map}{a:Int}{t:List Int}(R:RouteOK m a t): ∀(j i:Nat),i+j≤(a::t).length→Nl m (a::t) i+1000*j≤Nl m (a::t) (i+j)∧Nl m (a::t) (i+j)≤Nl m (a::t) i+16777216*j
  |0,i,_=>by simp
  |j+1,i,h=>by
   have:=R.mono j i (by omega)
   have e:(a::t)[i+j]? =some (a::t)[i+j]:=lH (by omega)
   have hl:=R.len e
   rw [← Nat.add_assoc,Qn e]
   omega
theorem RouteOK.lt {m:Map}{a:Int}{t:List Int}(R:RouteOK m a t){i j:Nat}(hij:i<j)(hj:j≤(a::t).length):Nl m (a::t) i+1000≤Nl m (a::t) j:=by
  have:=(R.mono (j - i) i (by omega)).1
  rw [show i+ (j - i)=j by omega]at this
  omega
theorem RouteOK.bd {m:Map}{a:Int}{t:List Int}(R:RouteOK m a t){i:Nat}(hi:i≤(a::t).length):0≤Nl m (a::t) i∧Nl m (a::t) i≤134217728:=by
  have:=R.mono i 0 (by omega)
  have h7:=R.most
  simp only [lL]at hi
  rw [wK,Xk]at this
  omega
theorem RouteOK.follow {m:Map}{a:Int}{t:List Int}(R:RouteOK m a t):Bh m (a::t)=⟨m,a::t,O9 m 0 (a::t),Nl m (a::t) (a::t).length⟩:=by
  unfold Bh
  rw [bQ (chkRoute_zero.2 ⟨a,t,rfl,R⟩),gP]
theorem RouteOK.starts {m:Map}{a:Int}{t:List Int}{i:Nat}(hi:i< (a::t).length):B8 (O9 m 0 (a::t)) (i:Int)=some (Nl m (a::t) i):=by
  rw [B9 (Lj m _ 0 i hi),Int.zero_add];rfl
def Mu (lane s:Int)(zi:Nat):Nat→List Part→List Pass
  |_,[]=> []
  |k,p::r=>(if p.Lane_==lane then [⟨(zi:Int),(k:Int),s+p.From,s+p.To⟩]else [])++Mu lane s zi (k+1) r
def Ow (lane s:Int):Nat→List Zone→List Pass
  |_,[]=> []
  |zi,z::r=>Mu lane s zi 0 z.Parts++Ow lane s (zi+1) r
def Jw (m:Map):Int→List Int→List Pass
  |_,[]=> []
  |s,a::r=>Ow a s 0 m.Zones++Jw m (s+P5 m a) r
theorem Yb (lane s:Int)(zi:Nat): ∀(l:List Part) (k:Nat),(l.map (·.Lane_)).Pairwise (· < ·)→(Mu lane s zi k l).length≤1
  | [],_,_=>by simp [Mu]
  |p::r,k,h=>by
   obtain ⟨h1,h2⟩:=bB.1 h
   have nil: ∀(r:List Part) (k:Nat),(∀q∈r,q.Lane_≠lane)→Mu lane s zi k r= []:=by
     intro r
     induction r with
     |nil=>intro k _;rfl
     |cons q r ih=>
      intro k hq
      rw [Mu,ih (k+1) (fun y hy=>hq y (List.mem_cons_of_mem _ hy)),show (q.Lane_==lane)=false by simp [hq q (by simp)]]
      rfl
   rw [Mu]
   by_cases e:p.Lane_=lane
   ·rw [nil r (k+1) (fun q hq=>by
    have:p.Lane_<q.Lane_:=h1 q.Lane_ (List.mem_map_of_mem hq)
    omega)]
    simp [e]
   ·rw [show (p.Lane_==lane)=false by simp [e]]
    exact Yb lane s zi r (k+1) h2
theorem Yc {m:Map}(lane s:Int): ∀(l:List Zone) (zi:Nat),(∀z∈l,ZoneOK m z)→(Ow lane s zi l).length≤l.length
  | [],_,_=>by simp [Ow]
  |z::r,zi,h=>by
   have:=Yb lane s zi z.Parts 0 (Ky (h z (by simp)).rise)
   have:=Yc lane s r (zi+1) fun y hy=>h y (List.mem_cons_of_mem _ hy)
   rw [Ow,lM,lL]
   omega
theorem LV (lane s:Int)(zi:Nat): ∀(l:List Part) (k:Nat) (x:Pass),x∈Mu lane s zi k l→∃(j:Nat) (p:Part),l[j]? =some p∧p.Lane_=lane∧x=⟨(zi:Int),((k+j:Nat):Int),s+p.From,s+p.To⟩
  | [],_,x,h=>by simp [Mu]at h
  |p::r,k,x,h=>by
   rw [Mu,lT]at h
   rcases h with h|h
   ·by_cases e:p.Lane_=lane
    ·rw [bQ (by simp [e]),bI]at h
     exact ⟨0,p,rfl,e,h⟩
    ·rw [bR (by simp [e])]at h;simp at h
   ·obtain ⟨j,q,h1,h2,h3⟩:=LV lane s zi r (k+1) x h
    exact ⟨j+1,q,by simpa using h1,h2,by rw [h3];congr 1;omega⟩
theorem LW (lane s:Int): ∀(l:List Zone) (zi:Nat) (x:Pass),x∈Ow lane s zi l→∃(j:Nat) (z:Zone) (k:Nat) (p:Part),l[j]? =some z∧z.Parts[k]? =some p∧p.Lane_=lane∧x=⟨((zi+j:Nat):Int),(k:Int),s+p.From,s+p.To⟩
  | [],_,x,h=>by simp [Ow]at h
  |z::r,zi,x,h=>by
   rw [Ow,lT]at h
   rcases h with h|h
   ·obtain ⟨k,p,h1,h2,h3⟩:=LV lane s zi z.Parts 0 x h
    exact ⟨0,z,k,p,rfl,h1,h2,by rw [h3,wK];rfl⟩
   ·obtain ⟨j,y,k,p,h0,h1,h2,h3⟩:=LW lane s r (zi+1) x h
    exact ⟨j+1,y,k,p,by simpa using h0,h1,h2,by rw [h3];congr 1;omega⟩
theorem DV (m:Map): ∀(r:List Int) (s:Int) (x:Pass),x∈Jw m s r→∃(i:Nat) (lane:Int) (j:Nat) (z:Zone) (k:Nat) (p:Part),r[i]? =some lane∧m.Zones[j]? =some z∧z.Parts[k]? =some p∧p.Lane_=lane∧x=⟨(j:Int),(k:Int),s+Dq m 0 (r.take i)+p.From,s+Dq m 0 (r.take i)+p.To⟩
  | [],_,x,h=>by simp [Jw]at h
  |a::r,s,x,h=>by
   rw [Jw,lT]at h
   rcases h with h|h
   ·obtain ⟨j,z,k,p,h1,h2,h3,h4⟩:=LW a s m.Zones 0 x h
    exact ⟨0,a,j,z,k,p,rfl,h1,h2,h3,by rw [h4];simp [Dq]⟩
   ·obtain ⟨i,lane,j,z,k,p,h0,h1,h2,h3,h4⟩:=DV m r _ x h
    refine ⟨i+1,lane,j,z,k,p,by simpa using h0,h1,h2,h3,?_⟩
    rw [h4,List.take_succ_cons,Dq,Ul m _ (0+P5 m a)]
    congr 1<;>omega
section
variable {m:Map}{a:Int}{t:List Int}
theorem gQ (B:BearM m)(R:RouteOK m a t){i:Nat}{lane:Int}(hi:i< (a::t).length)(zi:Nat){z:Zone}(hz:m.Zones[zi]? =some z)(o1 o2:List Pass):
    ∀(r:List Part) (k:Nat) (out:List Pass),z.Parts.drop k=r→k≤z.Parts.length→out.length+r.length≤1000→
     loop (Ag (Bh m (a::t)) (o1,(i:Int)) lane (o2,(zi:Int)) z) (out,(k:Int))=some (out++Mu lane (Nl m (a::t) i) zi k r):=by
  have Z:=R.val.zoneOK (lG hz)
  have h6:=Z.six
  intro r
  induction r with
  |nil=>
   intro k out hk hkl hl
   have:=N1 hk
   obtain rfl:k=z.Parts.length:=by omega
   refine C5 ?_
   unfold Ag
   rw [J4];simp [Mu]
  |cons p r ih=>
   intro k out hk hkl hl
   have hlt:=M3 hk
   have hp:=T4 hk
   have hpm:=lG hp
   have hpt:=Z.part p hpm
   have hln:=Jo Z.rise p.Lane_ (List.mem_map_of_mem hpm)
   have hll:=R.val.long hln.1 hln.2
   have hb:=R.bd (Nat.le_of_lt hi)
   simp only [lL]at hl
   have hs:Ag (Bh m (a::t)) (o1,(i:Int)) lane (o2,(zi:Int)) z (out,(k:Int))=some (.go (out++ (if p.Lane_==lane then [⟨(zi:Int),(k:Int),Nl m (a::t) i+p.From,Nl m (a::t) i+p.To⟩]else []),((k+1:Nat):Int))):=by
     unfold Ag
     dsimp only
     rw [K4 hlt,B9 hp,bO,lB,I0 hlt (by omega)]
     cases p.Lane_==lane
     ·simp
     ·rw [R.follow]
      dsimp only
      rw [bO,RouteOK.starts hi,lB,lB,E1 (by omega),E1 (by omega),En (by simp;omega)]
      rfl
   rw [K3 hs,ih (k+1) _ (K2 hk) (by omega) (by rw [lM];split<;>simp<;>omega),Mu,lO]
theorem gR (B:BearM m)(R:RouteOK m a t){i:Nat}{lane:Int}(hi:i< (a::t).length)(o1:List Pass):
    ∀(r:List Zone) (zi:Nat) (out:List Pass),m.Zones.drop zi=r→zi≤m.Zones.length→out.length+r.length≤500→
     loop (T1 m (Bh m (a::t)) (o1,(i:Int)) lane) (out,(zi:Int))=some (out++Ow lane (Nl m (a::t) i) zi r):=by
  intro r
  induction r with
  |nil=>
   intro zi out hk hkl hl
   have:=N1 hk
   obtain rfl:zi=m.Zones.length:=by omega
   refine C5 ?_
   unfold T1
   rw [J4];simp [Ow]
  |cons z r ih=>
   intro zi out hk hkl hl
   have hlt:=M3 hk
   have hz:=T4 hk
   have Z:=R.val.zoneOK (lG hz)
   have h6:=Z.six
   have hnz:=R.val.zones
   simp only [lL]at hl
   have h1:=Yb lane (Nl m (a::t) i) zi z.Parts 0 (Ky Z.rise)
   have h3:loop (Ag (Bh m (a::t)) (o1,(i:Int)) lane (out,(zi:Int)) z) (out,0)=_:=gQ B R hi zi hz o1 out z.Parts 0 out rfl (by omega) (by omega)
   have hs:T1 m (Bh m (a::t)) (o1,(i:Int)) lane (out,(zi:Int))=some (.go (out++Mu lane (Nl m (a::t) i) zi 0 z.Parts,((zi+1:Nat):Int))):=by
     unfold T1
     dsimp only
     rw [K4 hlt,B9 hz,bO,lB,h3,lB,I0 hlt (by omega)]
   rw [K3 hs,ih (zi+1) _ (K2 hk) (by omega) (by rw [lM];omega),Ow,lO]
theorem gS (B:BearM m)(R:RouteOK m a t):
    ∀(r:List Int) (i:Nat) (out:List Pass),(a::t).drop i=r→i≤(a::t).length→out.length+12*r.length≤200→
     loop (P7 m (Bh m (a::t))) (out,(i:Int))=some (out++Jw m (Nl m (a::t) i) r):=by
  have hl:(Bh m (a::t)).lanes=a::t:=by rw [R.follow]
  intro r
  induction r with
  |nil=>
   intro i out hk hkl hle
   have:=N1 hk
   obtain rfl:i=(a::t).length:=by omega
   refine C5 ?_
   unfold P7
   dsimp only
   rw [hl,J4];simp [Jw]
  |cons x r ih=>
   intro i out hk hkl hle
   have hlt:=M3 hk
   have hx:=T4 hk
   have hm7:=R.most
   have hnz:=R.val.zones
   simp only [lL]at hle hlt
   have h2:loop (T1 m (Bh m (a::t)) (out,(i:Int)) x) (out,0)=_:=gR B R (lane:=x) (M3 hk) out m.Zones 0 out rfl (by omega) (by omega)
   have hs:P7 m (Bh m (a::t)) (out,(i:Int))=some (.go (out++Ow x (Nl m (a::t) i) 0 m.Zones,((i+1:Nat):Int))):=by
     unfold P7
     dsimp only
     rw [hl,K4 (M3 hk),B9 hx,bO,lB,h2,lB,I0 (M3 hk) (by simp only [lL];omega)]
   have:=Yc (m:=m) x (Nl m (a::t) i) m.Zones 0 fun z hz=>R.val.zoneOK hz
   rw [K3 hs,ih (i+1) _ (K2 hk) (by simp only [lL];omega) (by rw [lM];omega),Qn hx,Jw,lO]
/-- A map with so few zones as the kit's. -/
structure BearK (m:Map):Prop extends BearM m where
  zones2:m.Zones.length≤2
theorem IU {m:Map}(V:ValR m): ∀(r:List Int) (s:Int),(Jw m s r).length≤m.Zones.length*r.length
  | [],s=>by simp [Jw]
  |a::r,s=>by
   have h1:=Yc (m:=m) a s m.Zones 0 fun z hz=>V.zoneOK hz
   have h2:=IU V r (s+P5 m a)
   rw [Jw,lM,lL,Nat.mul_add,Nat.mul_one];omega
/-- The passes: sorted, and those that there are. -/
theorem XN (B:BearK m)(R:RouteOK m a t): ∃ps,W8 m (a::t)=some ps∧ps.Perm (Jw m 0 (a::t))∧Srt Uz ps∧ps.length≤16:=by
  have hm7:=R.most
  have hlen:(Jw m 0 (a::t)).length≤16:=by
    have:=IU R.val (a::t) 0
    have h2:m.Zones.length* (a::t).length≤2*8:=Nat.mul_le_mul B.zones2 (by simp only [lL];omega)
    omega
  have h1:loop (P7 m (Bh m (a::t))) ([],0)=some (Jw m 0 (a::t)):=by
    have:=gS B.toBearM R (a::t) 0 [] rfl (by omega) (by simp;omega)
    rw [lQ,Xk]at this
    exact this
  unfold W8
  rw [Sy B.toBearM _ (by simp;omega),lB,h1,lB]
  cases q:Jw m 0 (a::t)with
  |nil=>exact ⟨[],by rw [IT];rfl, .refl _,List.Pairwise.nil,by simp⟩
  |cons x l=>
   rw [q]at hlen
   obtain ⟨ys,g1,g2,g3⟩:=XM (x::l) (by omega)
   exact ⟨ys,by rw [show List.isEmpty (x::l)=false from rfl,bP,g1];rfl,g2,g3,by rw [g2.length_eq];exact hlen⟩
end
theorem QR {m:Map}(B:BearM m)(V:ValR m)(l:List Int)(hl:l.length≤1000000): ∀(r:List Int) (i:Nat) (a:Int),l.drop (i+1)=r→l[i]? =some a→0≤a→a<m.Lanes.length→thenS (loop (W0 m l) ((i+1:Nat):Int)) (fun _=>some 0) (fun r=>some r)=some (if Ka m a r=true then 0 else 13):=by
  intro r
  induction r with
  |nil=>
   intro i a hi ha h0 h1
   have h2:=N1 hi
   have h3:=(lI.1 ha).1
   have h4:i+1=l.length:=by omega
   rw [C5 (t:= .inl ())]
   ·rfl
   ·unfold W0
    rw [show decide (((i+1:Nat):Int)< (l.length:Int))=false from bK (by omega)];rfl
  |cons b r ih=>
   intro i a hi ha h0 h1
   have hlt:=M3 hi
   have hb:=T4 hi
   obtain ⟨ln,e1,e2⟩:=Rk h0 h1
   have hw:D2 (((i+1:Nat):Int) - 1)=(i:Int):=by rw [E1 (by omega)];omega
   have hs:W0 m l ((i+1:Nat):Int)=some (if ln.Next.contains b=true then .go (((i+1+1:Nat):Int))else .out (.inr 13)):=by
     unfold W0
     rw [K4 hlt,bO,hw,B9 ha,lB,e2,lB,B9 hb,lB,TN _ (B.toBear.pts _ (lG e1)).2,lB,I0 hlt (by omega)]
     cases ln.Next.contains b<;>rfl
   have hn:nextOf m a.toNat=ln.Next:=by unfold nextOf;rw [e1];rfl
   rw [Ka,hn]
   cases q:ln.Next.contains b
   ·rw [q]at hs;rw [C5 hs];rfl
   ·rw [q]at hs
    have hbm:=V.next e1 (List.contains_iff_mem.1 q)
    rw [K3 hs,ih (i+1) b (K2 hi) hb (by omega) (by omega),bS]
theorem Mm {m:Map}(B:BearM m)(r:List Int)(hr:r.length≤1000000):Y1 m r=some (P2 m r):=by
  unfold Y1 P2
  rw [Qi B,lB]
  by_cases q:Sw m=0
  ·have V:=chkR_zero.1 q
   rw [bR (by simpa using q),show (Sw m !=0)=false by simpa using q,bP]
   cases r with
   |nil=>rfl
   |cons a t=>
    dsimp only
    simp only [lL]at hr ⊢
    by_cases h8:7<t.length
    ·rw [bQ (.inl h8),show ((((t.length+1:Nat):Int)==0)||(decide (((t.length+1:Nat):Int)>8)))=true by simp;omega];rfl
    ·rw [show ((((t.length+1:Nat):Int)==0)||(decide (((t.length+1:Nat):Int)>8)))=false by simp;omega]
     rw [show B8 (a::t) 0=some a from rfl]
     simp only [bX,bO,lB,bY]
     by_cases h0:a<0
     ·rw [bQ (.inr (.inl h0)),bJ h0];rfl
     ·rw [bK h0]
      simp only [bX,bO,lB,bY]
      by_cases h1:(m.Lanes.length:Int)≤a
      ·rw [bQ (.inr (.inr (.inl h1))),show decide (a≥(m.Lanes.length:Int))=true from bJ h1];rfl
      ·rw [show decide (a≥(m.Lanes.length:Int))=false from bK (by omega)]
       simp only [bX,bO,bY]
       rw [lB,IP B,lB]
       by_cases hb:Bu m a= []
       ·rw [hb,show decide ((([]:List Int).length:Int)>0)=false from rfl,bP]
        have:=QR B V (a::t) (by simpa using hr) t 0 a rfl rfl (by omega) (by omega)
        rw [show ((0+1:Nat):Int)=1 from rfl]at this
        rw [this]
        by_cases hc:Ka m a t=true
        ·rw [bQ hc,bR (by rw [hc];simp;omega)]
        ·rw [bR hc,bQ (.inr (.inr (.inr (.inr (by simpa using hc)))))]
       ·rw [bQ (.inr (.inr (.inr (.inl hb)))),show decide (((Bu m a).length:Int)>0)=true from bJ (by have:=List.length_pos_iff.2 hb;omega)];rfl
  ·rw [bQ q,show (Sw m !=0)=true by simpa using q];rfl
theorem LX {m:Map}(B:BearM m){a:Int}{t:List Int}(R:RouteOK m a t):Jk m (a::t)=some (O9 m 0 (a::t),Nl m (a::t) (a::t).length):=by
  have hm7:=R.most
  have key: ∀(l:List Int) (i:Nat) (st:List Int),(a::t).drop i=l→i≤(a::t).length→st.length=i→loop (Bx m (a::t)) (st,Nl m (a::t) i,(i:Int))=some (st++O9 m (Nl m (a::t) i) l,Nl m (a::t) (a::t).length):=by
    intro l
    induction l with
    |nil=>
     intro i st hi hil _
     have:=N1 hi
     obtain rfl:i=(a::t).length:=by omega
     refine C5 ?_
     unfold Bx
     dsimp only
     rw [J4,O9,lP];rfl
    |cons x l ih=>
     intro i st hi hil h2
     have hlt:=M3 hi
     have hx:=T4 hi
     have hm:=R.mem (lG hx)
     have hl:=R.len hx
     have hb:=R.bd (Nat.le_of_lt hlt)
     simp only [lL]at hlt
     rw [K3 (s':=(st++ [Nl m (a::t) i],Nl m (a::t) (i+1),((i+1:Nat):Int)))]
     ·rw [ih (i+1) _ (K2 hi) (by simp;omega) (by simp [h2]),O9,Qn hx,lO];rfl
     ·unfold Bx
      dsimp only
      rw [K4 (by simpa using hlt),En (by simp;omega),bO,lB,B9 hx,lB,Ux B hm.1 hm.2,lB,I0 hlt (by omega),E1 (by omega),Qn hx]
  have:=key (a::t) 0 [] rfl (by omega) rfl
  rw [Xk]at this
  have this':loop (Bx m (a::t)) ([],0,0)=_:=this
  unfold Jk
  rw [this',lB,lQ]
def StartsM (m:Map)(r:List Int):List Int:=(Bh m r).starts
def LongM (m:Map)(r:List Int):Int:=(Bh m r).length
theorem DW {m:Map}(B:BearM m)(r:List Int)(hr:r.length≤1000000):Az m r=some (StartsM m r):=by
  unfold Az StartsM
  rw [Sy B r hr];rfl
theorem VQ {m:Map}(B:BearM m)(r:List Int)(hr:r.length≤1000000):U2 m r=some (LongM m r):=by
  unfold U2 LongM
  rw [Sy B r hr];rfl
theorem Um {m:Map}{r:List Int}(q:P2 m r≠0):Bh m r=⟨⟨0,[],[],[],[]⟩,[],[],0⟩:=by unfold Bh;rw [bR q]
theorem Un {m:Map}(B:BearM m)(r:List Int)(hr:r.length≤1000000):Mh m r=some (StartsM m r):=by
  unfold Mh
  rw [Mm B r hr,lB]
  by_cases q:P2 m r=0
  ·obtain ⟨a,t,rfl,R⟩:=chkRoute_zero.1 q
   rw [q,show ((0:Int) !=0)=false from rfl,bP,LX B R,lB,StartsM,R.follow]
  ·rw [show (P2 m r !=0)=true by simpa using q,bO,StartsM,Um q]
theorem IV {m:Map}(B:BearM m)(r:List Int)(hr:r.length≤1000000):Z0 m r=some (LongM m r):=by
  unfold Z0
  rw [Mm B r hr,lB]
  by_cases q:P2 m r=0
  ·obtain ⟨a,t,rfl,R⟩:=chkRoute_zero.1 q
   rw [q,show ((0:Int) !=0)=false from rfl,bP,LX B R,lB,LongM,R.follow]
  ·rw [show (P2 m r !=0)=true by simpa using q,bO,LongM,Um q]
theorem XO {m:Map}(B:BearM m)(r:List Int)(hr:r.length≤1000000)(k:Int):Wz m r k=some (Hl m r k):=by
  unfold Wz Hl
  rw [Mm B r hr,lB]
  by_cases h:k<0∨(m.Zones.length:Int)≤k
  ·have e:(((P2 m r !=0)||(decide (k<0)))||(decide (k≥(m.Zones.length:Int))))=true:=by
     rcases h with h|h
     ·rw [bJ h];simp
     ·rw [show decide (k≥(m.Zones.length:Int))=true from bJ h];simp
   rw [e,bO]
   cases hz:m.Zones[k.toNat]? with
   |none=>rfl
   |some z=>
    have:=H8 hz
    dsimp only
    rw [bR (fun x=>by have:=x.1;omega)]
  ·obtain ⟨z,z1,z2⟩:=VL (m:=m) (k:=k) (by omega) (by omega)
   rw [show decide (k<0)=false from bK (by omega),show decide (k≥(m.Zones.length:Int))=false from bK (by omega),Bool.or_false,Bool.or_false,z1]
   dsimp only
   have hp:=B.toBearZ.parts z (lG z1)
   by_cases q:P2 m r=0
   ·rw [bQ ⟨by omega,q⟩,q,show ((0:Int) !=0)=false from rfl,bP]
    exact Oa r (fun l=>(Lh z l).2) (by omega) (fun i a h=>by
      have hi:=H8 h
      unfold Qd
      rw [K4 hi,z2,bO,lB,B9 h,lB,QQ hp,lB]
      cases (Lh z a).2<;>rfl) (by unfold Qd;rw [J4];rfl)
   ·rw [bR (fun x=>q x.2),show (P2 m r !=0)=true by simpa using q];rfl
def kW {α τ:Type}:Stp (List α×Int) τ→Stp (Int×List α) τ
  | .go x=> .go (x.2,x.1)
  | .out t=> .out t
theorem XP {α τ:Type}(F:List α×Int→Option (Stp (List α×Int) τ))(l:List α)(i:Int)(t:τ)(h:loop (fun s:Int×List α=>(F (s.2,s.1)).map kW) (i,l)=some t):loop F (l,i)=some t:=by
  obtain ⟨n,hn⟩:=loop_some.1 h
  refine loop_some.2 ⟨n,?_⟩
  clear h
  induction n generalizing l i with
  |zero=>cases hn
  |succ n ih=>
   rw [loopN]at hn ⊢
   dsimp only at hn
   cases hf:F (l,i)with
   |none=>rw [hf]at hn;cases hn
   |some x=>
    rw [hf]at hn
    cases x with
    |go s=>exact ih s.1 s.2 hn
    |out t'=>exact hn
theorem QS: ∀{l l':List Pass},Srt Uz l→Srt Uz l'→l.Perm l'→(∀x∈l,∀y∈l,Uz x y=false→Uz y x=false→x=y)→l=l'
  | [],l',_,_,h,_=>(List.Perm.nil_eq h)
  |a::l,[],_,_,h,_=>absurd h.length_eq (by simp)
  |a::l,b::l',h1,h2,h,hk=>by
   obtain ⟨a1,a2⟩:=bB.1 h1
   obtain ⟨b1,b2⟩:=bB.1 h2
   have hbl:b∈a::l:=h.mem_iff.2 (by simp)
   have hal:a∈b::l':=h.mem_iff.1 (by simp)
   have e1:Uz b a=false:=by
     rcases lU.1 hbl with e|e
     ·rw [e];exact ltP_ok.irr a
     ·exact a1 b e
   have e2:Uz a b=false:=by
     rcases lU.1 hal with e|e
     ·rw [e];exact ltP_ok.irr b
     ·exact b1 a e
   have hab:=hk a (by simp) b hbl e2 e1
   subst hab
   congr 1
   exact QS a2 b2 (List.Perm.cons_inv h) fun x hx y hy=>hk x (List.mem_cons_of_mem _ hx) y (List.mem_cons_of_mem _ hy)
section
variable {m:Map}{a:Int}{t:List Int}
theorem XQ (R:RouteOK m a t): ∀x∈Jw m 0 (a::t),∀y∈Jw m 0 (a::t),Uz x y=false→Uz y x=false→x=y:=by
  intro x hx y hy h1 h2
  obtain ⟨i,l,j,z,k,p,e1,e2,e3,e4,e5⟩:=DV m _ 0 x hx
  obtain ⟨i',l',j',z',k',p',f1,f2,f3,f4,f5⟩:=DV m _ 0 y hy
  subst e4 f4
  have hx1:x.From=Nl m (a::t) i+p.From:=by rw [e5];show 0+Nl m (a::t) i+p.From=_;omega
  have hy1:y.From=Nl m (a::t) i'+p'.From:=by rw [f5];show 0+Nl m (a::t) i'+p'.From=_;omega
  have hx2:x.Zone_=(j:Int):=by rw [e5]
  have hy2:y.Zone_=(j':Int):=by rw [f5]
  simp only [Uz,wC]at h1 h2
  have hj:j=j':=by omega
  subst hj
  rw [e2]at f2
  obtain rfl:=lD f2
  have Z:=R.val.zoneOK (lG e2)
  have g1:=Z.part p (lG e3)
  have g2:=Z.part p' (lG f3)
  have n1:=Qn (m:=m) e1
  have n2:=Qn (m:=m) f1
  have hil:=(lI.1 e1).1
  have hil':=(lI.1 f1).1
  have hii:i=i':=by
    rcases Nat.lt_trichotomy i i' with h|h|h
    ·exfalso
     have:Nl m (a::t) (i+1)≤Nl m (a::t) i':=by
       rcases Nat.lt_or_ge (i+1) i' with h'|h'
       ·have:=R.lt h' (Nat.le_of_lt hil');omega
       ·rw [show i'=i+1 by omega];omega
     omega
    ·exact h
    ·exfalso
     have:Nl m (a::t) (i'+1)≤Nl m (a::t) i:=by
       rcases Nat.lt_or_ge (i'+1) i with h'|h'
       ·have:=R.lt h' (Nat.le_of_lt hil);omega
       ·rw [show i=i'+1 by omega];omega
     omega
  subst hii
  rw [e1]at f1
  have hlane:=lD f1
  have hkk:k=k':=by
    have hp:=Ky Z.rise
    have hk1:=(lI.1 e3).1
    have hk2:=(lI.1 f3).1
    have q1:z.Parts[k]=p:=(lI.1 e3).2
    have q2:z.Parts[k']=p':=(lI.1 f3).2
    have hpi:=bD.1 hp
    rcases Nat.lt_trichotomy k k' with h|h|h
    ·have:=hpi k k' (by simpa using hk1) (by simpa using hk2) h
     simp only [List.getElem_map,q1,q2]at this;omega
    ·exact h
    ·have:=hpi k' k (by simpa using hk2) (by simpa using hk1) h
     simp only [List.getElem_map,q1,q2]at this;omega
  subst hkk
  rw [e3]at f3
  obtain rfl:=lD f3
  rw [e5,f5]
theorem mY (B:BearM m)(R:RouteOK m a t){i:Nat}{lane:Int}(hx:(a::t)[i]? =some lane)(zi:Nat){z:Zone}(hz:m.Zones[zi]? =some z)(o1 o2:List Pass):
    ∀(r:List Part) (k:Nat) (out:List Pass),z.Parts.drop k=r→k≤z.Parts.length→out.length+r.length≤1000→
     loop (Eh m (a::t) (O9 m 0 (a::t)) (o1,(i:Int)) (o2,(zi:Int))) (out,(k:Int))=some (out++Mu lane (Nl m (a::t) i) zi k r):=by
  have Z:=R.val.zoneOK (lG hz)
  have h6:=Z.six
  have hi:i< (a::t).length:=(lI.1 hx).1
  intro r
  induction r with
  |nil=>
   intro k out hk hkl hl
   have:=N1 hk
   obtain rfl:k=z.Parts.length:=by omega
   refine C5 ?_
   unfold Eh
   dsimp only
   rw [B9 hz,lB,J4];simp [Mu]
  |cons p r ih=>
   intro k out hk hkl hl
   have hlt:=M3 hk
   have hp:=T4 hk
   have hpm:=lG hp
   have hpt:=Z.part p hpm
   have hln:=Jo Z.rise p.Lane_ (List.mem_map_of_mem hpm)
   have hll:=R.val.long hln.1 hln.2
   have hb:=R.bd (Nat.le_of_lt hi)
   simp only [lL]at hl
   have hs:Eh m (a::t) (O9 m 0 (a::t)) (o1,(i:Int)) (o2,(zi:Int)) (out,(k:Int))=some (.go (out++ (if p.Lane_==lane then [⟨(zi:Int),(k:Int),Nl m (a::t) i+p.From,Nl m (a::t) i+p.To⟩]else []),((k+1:Nat):Int))):=by
     unfold Eh
     dsimp only
     rw [B9 hz,lB,K4 hlt,bO,lB,B9 hp,lB,B9 hx,lB,I0 hlt (by omega)]
     cases p.Lane_==lane
     ·simp
     ·rw [bO,RouteOK.starts hi,lB,lB,E1 (by omega),E1 (by omega),En (by simp;omega)]
      rfl
   rw [K3 hs,ih (k+1) _ (K2 hk) (by omega) (by rw [lM];split<;>simp<;>omega),Mu,lO]
theorem mZ (B:BearM m)(R:RouteOK m a t){i:Nat}{lane:Int}(hx:(a::t)[i]? =some lane)(o1:List Pass):
    ∀(r:List Zone) (zi:Nat) (out:List Pass),m.Zones.drop zi=r→zi≤m.Zones.length→out.length+r.length≤500→
     loop (Ei m (a::t) (O9 m 0 (a::t)) (o1,(i:Int))) (out,(zi:Int))=some (out++Ow lane (Nl m (a::t) i) zi r):=by
  intro r
  induction r with
  |nil=>
   intro zi out hk hkl hl
   have:=N1 hk
   obtain rfl:zi=m.Zones.length:=by omega
   refine C5 ?_
   unfold Ei
   rw [J4];simp [Ow]
  |cons z r ih=>
   intro zi out hk hkl hl
   have hlt:=M3 hk
   have hz:=T4 hk
   have Z:=R.val.zoneOK (lG hz)
   have h6:=Z.six
   have hnz:=R.val.zones
   simp only [lL]at hl
   have h1:=Yb lane (Nl m (a::t) i) zi z.Parts 0 (Ky Z.rise)
   have h3:loop (Eh m (a::t) (O9 m 0 (a::t)) (o1,(i:Int)) (out,(zi:Int))) (out,0)=_:=mY B R hx zi hz o1 out z.Parts 0 out rfl (by omega) (by omega)
   have hs:Ei m (a::t) (O9 m 0 (a::t)) (o1,(i:Int)) (out,(zi:Int))=some (.go (out++Mu lane (Nl m (a::t) i) zi 0 z.Parts,((zi+1:Nat):Int))):=by
     unfold Ei
     dsimp only
     rw [K4 hlt,bO,h3,lB,I0 hlt (by omega)]
   rw [K3 hs,ih (zi+1) _ (K2 hk) (by omega) (by rw [lM];omega),Ow,lO]
theorem nA (B:BearM m)(R:RouteOK m a t):
    ∀(r:List Int) (i:Nat) (out:List Pass),(a::t).drop i=r→i≤(a::t).length→out.length+12*r.length≤200→
     loop (Cb m (a::t) (O9 m 0 (a::t))) (out,(i:Int))=some (out++Jw m (Nl m (a::t) i) r):=by
  have hlen:(O9 m 0 (a::t)).length=(a::t).length:=Li _ _ _
  intro r
  induction r with
  |nil=>
   intro i out hk hkl hle
   have:=N1 hk
   have hii:i=(a::t).length:=by omega
   refine C5 ?_
   unfold Cb
   dsimp only
   rw [hlen,hii,J4];simp [Jw]
  |cons x r ih=>
   intro i out hk hkl hle
   have hlt:=M3 hk
   have hx:=T4 hk
   have hm7:=R.most
   have hnz:=R.val.zones
   simp only [lL]at hle hlt
   have h2:loop (Ei m (a::t) (O9 m 0 (a::t)) (out,(i:Int))) (out,0)=_:=mZ B R hx out m.Zones 0 out rfl (by omega) (by omega)
   have hs:Cb m (a::t) (O9 m 0 (a::t)) (out,(i:Int))=some (.go (out++Ow x (Nl m (a::t) i) 0 m.Zones,((i+1:Nat):Int))):=by
     unfold Cb
     dsimp only
     rw [hlen,K4 (M3 hk),bO,h2,lB,I0 (M3 hk) (by simp only [lL];omega)]
   have:=Yc (m:=m) x (Nl m (a::t) i) m.Zones 0 fun z hz=>R.val.zoneOK hz
   rw [K3 hs,ih (i+1) _ (K2 hk) (by simp only [lL];omega) (by rw [lM];omega),Qn hx,Jw,lO]
end
/-- The document's insertion sort. -/
theorem dH (T:List Pass)(x:Pass)(Q:List Pass)(hs:Srt Uz Q)(hN:(Q++x::T).length≤1000000):
    ∃Q',loop X0 (Q++x::T,(Q.length:Int))=some (Q'++T)∧Q'.Perm (x::Q)∧Srt Uz Q':=by
  have hstop: ∀xs:List Pass,(fun s:Int×List Pass=>(X0 (s.2,s.1)).map kW) ((([]:List Pass).length:Int),xs)=some (.out xs):=fun xs=>by
    show (X0 (xs,0)).map kW=_
    unfold X0
    rfl
  have hF: ∀(U V:List Pass) (q y:Pass),([]:List Pass).length≤U.length→(U++q::y::V).length=(Q++x::T).length→(fun s:Int×List Pass=>(X0 (s.2,s.1)).map kW) (((U.length:Int)+1),U++q::y::V)=some (if Uz y q then .go ((U.length:Int),U++y::q::V)else .out (U++q::y::V)):=fun U V q y _ hl=>by
    show (X0 (U++q::y::V,(U.length:Int)+1)).map kW=_
    unfold X0
    have hb:U.length+2≤1000000:=by rw [← hl]at hN;simp at hN;omega
    have e1:D2 ((U.length:Int)+1 - 1)=(U.length:Int):=by rw [E1 (by omega)];omega
    have g1:B8 (U++q::y::V) ((U.length:Int)+1)=some y:=by rw [XJ];exact Km _ _ _ _ (by simp)
    have g2:B8 (U++q::y::V) (U.length:Int)=some q:=Km _ _ _ _ rfl
    have s1:Kd (U++q::y::V) ((U.length:Int)+1) q=U++q::q::V:=by rw [XJ,Ta _ _ _ _ _ (by simp)];simp
    have g3:B8 (U++q::q::V) (U.length:Int)=some q:=Km _ _ _ _ rfl
    have s2:Kd (U++q::q::V) (U.length:Int) y=U++y::q::V:=Ta _ _ _ _ _ rfl
    simp only [show decide (((U.length:Int)+1)>0)=true from bJ (by omega),bO,bS,e1,g1,g2,s1,g3,s2,lB]
    by_cases h1:y.From<q.From
    ·rw [bJ h1,show Uz y q=true from bJ (.inl h1)];rfl
    ·rw [bK h1]
     simp only [bX,bO,lB,bS,bY]
     by_cases h2:y.From=q.From
     ·rw [show (y.From==q.From)=true by simp [h2]]
      simp only [bO,lB,bS]
      by_cases h3:y.Zone_<q.Zone_
      ·rw [bJ h3,show Uz y q=true from bJ (.inr ⟨h2,h3⟩)];rfl
      ·rw [bK h3,show Uz y q=false from bK (by omega)];rfl
     ·rw [show (y.From==q.From)=false by simp [h2],show Uz y q=false from bK (by omega)];rfl
  obtain ⟨Q',h1,h2,h3⟩:=DT ltP_ok (F:=fun s:Int×List Pass=>(X0 (s.2,s.1)).map kW) (P:= []) (T:=T) (Q++x::T).length hstop hF x Q.length Q [] rfl (by simpa using hs) (by simp) (by simp)
  refine ⟨Q',XP _ _ _ _ ?_,by simpa using h2,h3⟩
  have e:(((([]:List Pass).length+Q.length:Nat):Int),[]++Q++ [x]++T)=((Q.length:Int),Q++x::T):=by simp
  rw [e]at h1
  rw [h1];rfl
theorem iX (A:List Pass)(hN:A.length≤1000000): ∃A',loop Eg (A,1)=some A'∧A'.Perm A∧Srt Uz A':=by
  have hend: ∀(xs:List Pass) (i:Nat),xs.length≤i→Eg (xs,(i:Int))=some (.out xs):=fun xs i hi=>by
    unfold Eg
    rw [show decide ((i:Int)< (xs.length:Int))=false from bK (by omega)];rfl
  have key: ∀(R Q:List Pass),(Q++R).length≤1000000→Srt Uz Q→∃A',loop Eg (Q++R,(Q.length:Int))=some A'∧A'.Perm (Q++R)∧Srt Uz A':=by
    intro R
    induction R with
    |nil=>
     intro Q hl hs
     exact ⟨Q,by rw [lP];exact C5 (hend _ _ (wH _)),by simp,hs⟩
    |cons x R ih=>
     intro Q hl hs
     obtain ⟨Q',k1,k2,k3⟩:=dH R x Q hs hl
     have hlq:Q'.length=Q.length+1:=by rw [k2.length_eq];simp
     simp only [lM,lL]at hl
     obtain ⟨A',g1,g2,g3⟩:=ih Q' (by rw [lM];omega) k3
     refine ⟨A',?_,g2.trans ((k2.append_right R).trans (List.perm_middle (a:=x) (l₁:=Q) (l₂:=R)).symm),g3⟩
     rw [← g1,hlq]
     refine K3 ?_
     unfold Eg
     dsimp only
     rw [show decide ((Q.length:Int)< ((Q++x::R).length:Int))=true from bJ (by simp;omega),bO,k1,lB,E1 (by omega)]
     congr 2
  cases A with
  |nil=>exact ⟨[],C5 (hend [] 1 (by simp)), .refl _,List.Pairwise.nil⟩
  |cons a A=>
   obtain ⟨A',g1,g2,g3⟩:=key A [a] (by simpa using hN) (List.pairwise_singleton _ _)
   exact ⟨A',g1,g2,g3⟩
theorem TX {m:Map}(B:BearK m)(r:List Int)(hr:r.length≤1000000): ∃ps,W8 m r=some ps∧Jm m r=some ps∧ps.length≤16:=by
  by_cases q:P2 m r=0
  ·obtain ⟨a,t,rfl,R⟩:=chkRoute_zero.1 q
   obtain ⟨ps,p1,p2,p3,p4⟩:=XN B R
   refine ⟨ps,p1,?_,p4⟩
   have hm7:=R.most
   have hlen:(Jw m 0 (a::t)).length≤16:=by rw [← p2.length_eq];exact p4
   have h1:loop (Cb m (a::t) (O9 m 0 (a::t))) ([],0)=some (Jw m 0 (a::t)):=by
     have:=nA B.toBearM R (a::t) 0 [] rfl (by omega) (by simp;omega)
     rw [lQ,Xk]at this
     exact this
   obtain ⟨A',g1,g2,g3⟩:=iX (Jw m 0 (a::t)) (by omega)
   have:ps=A':=QS p3 g3 (p2.trans g2.symm) fun x hx y hy=>XQ R x (p2.mem_iff.1 hx) y (p2.mem_iff.1 hy)
   unfold Jm
   rw [Un B.toBearM _ hr,lB,show StartsM m (a::t)=O9 m 0 (a::t) by unfold StartsM;rw [R.follow],h1,lB,g1,this];rfl
  ·refine ⟨[],?_,?_,by simp⟩
   ·have h1:loop (P7 m (Bh m r)) ([],0)=some []:=by
      refine C5 ?_
      unfold P7
      rw [Um q];rfl
    unfold W8
    rw [Sy B.toBearM r hr,lB,h1,lB,IT];rfl
   ·have h1:loop (Cb m r []) ([],0)=some []:=C5 rfl
    obtain ⟨A',g1,g2,_⟩:=iX [] (by simp)
    obtain rfl:A'= []:=List.length_eq_zero_iff.1 g2.length_eq
    unfold Jm
    rw [Un B.toBearM r hr,lB,StartsM,Um q]
    dsimp only
    rw [h1,lB,g1];rfl
/-- How far it is to stop, by its sum. -/
def Va (b:Int):Nat→Int→Int
  |0,_=>0
  |n+1,v=>if v≤b then 0 else (v - b)+Va b n (v - b)
def Mv (v b:Int):Int:=Va b v.toNat v
theorem IW {b:Int}(hb:0<b): ∀(n m:Nat) (v:Int),v≤n→v≤m→Va b n v=Va b m v
  |0,0,_,_,_=>rfl
  |0,m+1,v,h,_=>by rw [Va,Va,bQ (by omega)]
  |n+1,0,v,_,h=>by rw [Va,Va,bQ (by omega)]
  |n+1,m+1,v,h1,h2=>by
   rw [Va,Va]
   by_cases h:v≤b
   ·rw [bQ h,bQ h]
   ·rw [bR h,bR h,IW hb n m _ (by omega) (by omega)]
theorem Ob {v b:Int}(h:v≤b):Mv v b=0:=by
  unfold Mv
  cases v.toNat with
  |zero=>rfl
  |succ n=>rw [Va,bQ h]
theorem Yd {v b:Int}(hb:0<b)(h:b<v):Mv v b=(v - b)+Mv (v - b) b:=by
  unfold Mv
  obtain ⟨n,hn⟩: ∃n,v.toNat=n+1:=⟨v.toNat - 1,by omega⟩
  rw [hn,Va,bR (by omega),IW hb n (v - b).toNat _ (by omega) (by omega)]
theorem CU {P:Int→Prop}{b:Int}(hb:0<b)(h0: ∀v,v≤b→P v)(h1: ∀v,b<v→P (v - b)→P v)(v:Int):P v:=by
  have key: ∀(n:Nat) (v:Int),v≤n→P v:=by
    intro n
    induction n with
    |zero=>intro v hv;exact h0 v (by omega)
    |succ n ih=>
     intro v hv
     by_cases h:v≤b
     ·exact h0 v h
     ·exact h1 v (by omega) (ih _ (by omega))
  exact key v.toNat v (by omega)
theorem CV {b:Int}(hb:0<b)(v:Int):0≤Mv v b:=by
  refine CU (P:=fun v=>0≤Mv v b) hb (fun v h=>by rw [Ob h];exact Int.le_refl _) (fun v h ih=> ?_) v
  rw [Yd hb h];omega
/-- The closed form. -/
theorem dI (n:Int):(n* (n+1)) % 2=0:=by
  rcases (show n % 2=0∨n % 2=1 by omega)with h|h
  ·rw [Int.mul_emod,h];simp
  ·rw [Int.mul_emod,Int.add_emod,h];simp
theorem TY {b:Int}(hb:0<b)(v:Int)(hv:1≤v):2*Mv v b=2* ((v - 1) / b*v) - b* ((v - 1) / b* ((v - 1) / b+1)):=by
  revert hv
  refine CU (P:=fun v=>1≤v→2*Mv v b=2* ((v - 1) / b*v) - b* ((v - 1) / b* ((v - 1) / b+1))) hb (fun v h hv=> ?_) (fun v h ih hv=> ?_) v
  ·have:(v - 1) / b=0:=Int.ediv_eq_zero_of_lt (by omega) (by omega)
   rw [Ob h,this];simp
  ·have ih:=ih (by omega)
   have e:(v - 1) / b=(v - b - 1) / b+1:=by
     rw [show v - 1=(v - b - 1)+b*1 by omega,Int.add_mul_ediv_left _ _ (by omega)]
   rw [Yd hb h,e]
   generalize (v - b - 1) / b=n at ih ⊢
   rw [Int.mul_add,ih]
   have a1:(n+1)*v=n*v+v:=by rw [Int.add_mul,Int.one_mul]
   have a2:n* (v - b)=n*v - n*b:=Int.mul_sub ..
   have a3:b* ((n+1)* (n+1+1))=b* (n* (n+1))+2* (n*b)+2*b:=by
     rw [show (n+1)* (n+1+1)=n* (n+1)+2*n+2 by
      rw [Int.add_mul,Int.mul_add n,Int.one_mul];omega,Int.mul_add,Int.mul_add,Int.mul_left_comm b 2 n,Int.mul_comm b n,Int.mul_comm b 2]
   rw [a1,a2,a3];omega
def Tb (v b:Int):Int:=if v<1∨b<1 then 0 else Mv (min v 1000000) (min b 1000000)
theorem dJ {b:Int}(hb:0<b){v:Int}(h1:v≤1000000):0≤Mv v b∧Mv v b≤1000000000000:=by
  refine ⟨CV hb v,?_⟩
  have key: ∀v:Int,0≤v→Mv v b≤v*v:=by
    intro v
    refine CU (P:=fun v=>0≤v→Mv v b≤v*v) hb (fun v h hv=>by rw [Ob h];exact wN hv hv) (fun v h ih hv=> ?_) v
    have ih:=ih (by omega)
    rw [Yd hb h]
    have h1:(v - b)* (v - b)≤(v - 1)* (v - b):=Int.mul_le_mul_of_nonneg_right (by omega) (by omega)
    have h2:(v - 1)* (v - b)≤(v - 1)*v:=Int.mul_le_mul_of_nonneg_left (by omega) (by omega)
    have h3:(v - 1)*v=v*v - v:=by rw [Int.sub_mul,Int.one_mul]
    omega
  by_cases h0:0≤v
  ·have:=key v h0
   have:v*v≤1000000*1000000:=Int.mul_le_mul h1 h1 h0 (by omega)
   omega
  ·rw [Ob (by omega)];omega
theorem VR (v b:Int):Kw v b=some (Tb v b):=by
  unfold Kw Tb
  rw [Cf,Cf]
  by_cases h:v<1∨b<1
  ·rw [bQ h,show (decide (v<1)||decide (b<1))=true by simpa using h];rfl
  ·rw [bR h,show (decide (v<1)||decide (b<1))=false by simpa using h,bP]
   have hV:1≤min v 1000000∧min v 1000000≤1000000:=by omega
   have hB:1≤min b 1000000∧min b 1000000≤1000000:=by omega
   generalize min v 1000000=V at hV ⊢
   generalize min b 1000000=B at hB ⊢
   have hq0:0≤(V - 1) / B:=Int.ediv_nonneg (by omega) (by omega)
   have hq1:(V - 1) / B≤V - 1:=Int.ediv_le_self _ (by omega)
   have hq2:B* ((V - 1) / B)≤V - 1:=Int.mul_ediv_self_le (by omega)
   have hf:=TY (b:=B) (by omega) V hV.1
   unfold NC
   rw [E1 (by omega),bR (by omega),lB,wO (by omega)]
   generalize (V - 1) / B=n at hq0 hq1 hq2 hf ⊢
   have e0:IntKind.i64.wrap n=n:=E1 (by omega)
   rw [e0]
   have b1:0≤n*V∧n*V≤1000000*1000000:=⟨wN hq0 (by omega),Int.mul_le_mul (by omega) hV.2 (by omega) (by omega)⟩
   have b2:0≤n* (n+1)∧n* (n+1)≤1000000*1000000:=⟨wN hq0 (by omega),Int.mul_le_mul (by omega) (by omega) (by omega) (by omega)⟩
   have b3:0≤B* (n* (n+1))∧B* (n* (n+1))≤1000000*1000000:=by
     refine ⟨wN (by omega) b2.1,?_⟩
     rw [← Int.mul_assoc]
     exact Int.mul_le_mul (by omega) (by omega) (by omega) (by omega)
   have he:=dI n
   have b4:B* (n* (n+1))=2* (B* (n* (n+1) / 2)):=by
     rw [Int.mul_left_comm 2 B,Int.mul_ediv_cancel' (Int.dvd_of_emod_eq_zero he)]
   rw [E1 (n:=n+1) (by omega),E1 (n:=n* (n+1)) (by omega),E1 (n:=n*V) (by omega),wO b2.1,E1 (n:=n* (n+1) / 2) (by omega),E1 (n:=B* (n* (n+1) / 2)) (by omega)]
   congr 1
   rw [E1 (by omega)]
   omega
theorem XR {b:Int}(hb:1≤b)(hb2:Ln false b 1000000=b)(v:Int): ∀a:Int,v≤1000000→0≤a→a+Mv v b≤4000000000000→loop (Cw b) (v,a)=some (a+Mv v b):=by
  refine CU (P:=fun v=> ∀a:Int,v≤1000000→0≤a→a+Mv v b≤4000000000000→loop (Cw b) (v,a)=some (a+Mv v b)) (b:=b) (by omega) (fun v h a _ _ _=> ?_) (fun v h ih a h1 h2 h3=> ?_) v
  ·rw [C5 (t:=a) (by unfold Cw;rw [hb2];simp [show ¬v>b by omega]),Ob h,Int.add_zero]
  ·have hr:=Yd (by omega) h
   have hn:=CV (b:=b) (by omega) (v - b)
   rw [K3 (s':=(v - b,a+ (v - b))) (by
    unfold Cw;rw [hb2]
    dsimp only
    rw [E1 (n:=v - b) (by omega),E1 (n:=a+ (v - b)) (by omega),bJ (show v>b by omega)];rfl),ih _ (by omega) (by omega) (by omega)]
   congr 1;omega
theorem QT (v b:Int):Ub v b=some (Tb v b):=by
  unfold Ub Tb
  rw [Cf,Cf]
  by_cases h:v<1∨b<1
  ·rw [bQ h,show (decide (min v 1000000<1)||decide (min b 1000000<1))=true by simp only [bV,bM];omega];rfl
  ·rw [bR h,show (decide (min v 1000000<1)||decide (min b 1000000<1))=false by simp only [wA,wC];omega,bP]
   have hB:1≤min b 1000000∧min b 1000000≤1000000:=by omega
   have hbd:=dJ (b:=min b 1000000) (by omega) (v:=min v 1000000) (by omega)
   have e:Cw b=Cw (min b 1000000):=by
     funext x;unfold Cw;rw [Cf,Cf,show min (min b 1000000) 1000000=min b 1000000 by omega]
   rw [e,XR hB.1 (by rw [Cf];omega) _ 0 (by omega) (by omega) (by omega)]
   show some (0+_)=_
   rw [Int.zero_add]
structure SmallS (s:State):Prop where
  agents:s.Agents.length≤10
  ins:s.In.length≤20
  routes: ∀a∈s.Agents,a.Route.length≤10
/-! ### Copies -/
theorem IX {α:Type}{l:List α}(h:l.length≤1000000):Bj ([]:List α) l=some l:=by
  rw [En (by simp;omega),lQ]
structure SizeS (s:State):Prop where
  agents:s.Agents.length≤1000
  ins:s.In.length≤1000000
  routes: ∀a∈s.Agents,a.Route.length≤1000
theorem SmallS.size {s:State}(h:SmallS s):SizeS s:=⟨by have:=h.agents;omega,by have:=h.ins;omega,fun a ha=>by have:=h.routes a ha;omega⟩
theorem XS (F:Int×State→Option (Stp (Int×State) State))(s:State)(h:SizeS s)(l0:List Stay)
    (hF: ∀(i:Nat) (a:Agent) (t:State),s.Agents[i]? =some a→F ((i:Int),t)=(Bj t.Agents [a]).bind fun v=>some (.go (D2 ((i:Int)+1),⟨t.Tick,v,t.In⟩))) (h0: ∀t:State,F ((s.Agents.length:Int),t)=some (.out t)):
    loop F (0,⟨s.Tick,[],l0⟩)=some ⟨s.Tick,s.Agents,l0⟩:=by
  have key: ∀(r:List Agent) (i:Nat),s.Agents.drop i=r→i≤s.Agents.length→loop F ((i:Int),⟨s.Tick,s.Agents.take i,l0⟩)=some ⟨s.Tick,s.Agents,l0⟩:=by
    intro r
    induction r with
    |nil=>
     intro i hi hil
     have:=N1 hi
     obtain rfl:i=s.Agents.length:=by omega
     rw [C5 (h0 _),List.take_length]
    |cons a r ih=>
     intro i hi hil
     have hlt:=M3 hi
     have ha:=T4 hi
     have hh:=h.agents
     rw [K3 (s':=(((i+1:Nat):Int),⟨s.Tick,s.Agents.take (i+1),l0⟩)),ih (i+1) (K2 hi) hlt]
     rw [hF i a _ ha,En (by rw [lV];simp;omega),lB,I0 hlt (by omega),List.take_add_one,ha];rfl
  exact key s.Agents 0 rfl (by omega)
theorem XT {l:List Int}(h:l.length≤1000000):Iv l=some l:=IX h
theorem EW {a:Agent}(h:a.Route.length≤1000):Dk a=some a:=by
  unfold Dk
  rw [XT (by omega),lB]
theorem NT {s:State}(h:SizeS s):Hb s=some s:=by
  unfold Hb
  rw [show Z1 s.In=some s.In from IX h.ins,lB,XS (Ic s) s h s.In (fun i a t ha=> ?_) (fun t=>by unfold Ic;dsimp only;rw [J4];rfl)]
  ·rfl
  ·unfold Ic
   dsimp only
   rw [K4 (H8 ha),B9 ha,bO,lB,EW (h.routes a (lG ha)),lB]
/-! ### Equal states -/
/-- The last place up to a number. -/
def Qo (S:Int):Nat→Nat→List Int→Nat
  |_,b,[]=>b
  |i,b,x::r=>Qo S (i+1) (if x≤S then i else b) r
theorem QU (st:List Int)(S:Int): ∀(r:List Int) (i b:Nat),st.drop i=r→i≤st.length→(i=0→b=0)→(0<i→b<i∧(∃y,st[b]? =some y∧y≤S)∧∀(j:Nat) y,b<j→j<i→st[j]? =some y→S<y)→(∃y,st[0]? =some y∧y≤S)→
    (∃y,st[Qo S i b r]? =some y∧y≤S)∧∀(j:Nat) y,Qo S i b r<j→st[j]? =some y→S<y:=by
  intro r
  induction r with
  |nil=>
   intro i b hi hil h0 h1 hne
   have:=N1 hi
   obtain ⟨y0,g0,_⟩:=hne
   have:=H8 g0
   obtain ⟨q1,q2,q3⟩:=h1 (by omega)
   exact ⟨q2,fun j y hj hy=>q3 j y hj (by have:=H8 hy;omega) hy⟩
  |cons x r ih=>
   intro i b hi hil h0 h1 hne
   have hx:=T4 hi
   have hlt:=M3 hi
   unfold Qo
   refine ih (i+1) _ (K2 hi) hlt (by omega) (fun _=> ?_) hne
   by_cases q:x≤S
   ·rw [bQ q]
    exact ⟨by omega,⟨x,hx,q⟩,fun j y h2 h3=>by omega⟩
   ·rw [bR q]
    by_cases z:i=0
    ·subst z
     obtain ⟨y0,g0,g1⟩:=hne
     rw [hx]at g0;cases g0;exact absurd g1 q
    ·obtain ⟨q1,q2,q3⟩:=h1 (by omega)
     refine ⟨by omega,q2,fun j y h2 h3 hy=> ?_⟩
     by_cases e:j=i
     ·subst e;rw [hx]at hy;cases hy;omega
     ·exact q3 j y h2 (by omega) hy
theorem XU {st:List Int}{S:Int}(hne: ∃y,st[0]? =some y∧y≤S):(∃y,st[Qo S 0 0 st]? =some y∧y≤S)∧∀(j:Nat) y,Qo S 0 0 st<j→st[j]? =some y→S<y:=
  QU st S st 0 0 rfl (by omega) (fun _=>rfl) (fun h=>by omega) hne
theorem gT (g:Agent)(st:List Int)(hl:st.length≤1000000): ∀(r:List Int) (i b:Nat),st.drop i=r→i≤st.length→loop (Kj g st) ((b:Int),(i:Int))=some ((Qo g.S i b r:Nat):Int):=by
  intro r
  induction r with
  |nil=>
   intro i b hi hil
   have:=N1 hi
   obtain rfl:i=st.length:=by omega
   exact C5 (by unfold Kj;dsimp only;rw [J4];rfl)
  |cons x r ih=>
   intro i b hi hil
   have hx:=T4 hi
   have hlt:=M3 hi
   unfold Qo
   by_cases q:x≤g.S
   ·rw [bQ q,K3 (s':=((i:Int),((i+1:Nat):Int))),ih (i+1) i (K2 hi) hlt]
    unfold Kj;dsimp only
    rw [K4 hlt,B9 hx,bO,lB,bJ q,bO,I0 hlt (by omega)]
   ·rw [bR q,K3 (s':=((b:Int),((i+1:Nat):Int))),ih (i+1) b (K2 hi) hlt]
    unfold Kj;dsimp only
    rw [K4 hlt,B9 hx,bO,lB,bK q,bP,I0 hlt (by omega)]
theorem XV (g:Agent)(st:List Int)(hl:st.length≤1000000)(k:Nat)(hk: ∃y,st[k]? =some y∧y≤g.S)(hj: ∀(j:Nat) y,k<j→st[j]? =some y→g.S<y): ∀(n i:Nat),i=k+n→i<st.length→loop (Ie g st) (i:Int)=some (k:Int):=by
  intro n
  induction n with
  |zero=>
   intro i hi hil
   obtain ⟨y,h1,h2⟩:=hk
   obtain rfl:i=k:=by omega
   exact C5 (by unfold Ie;rw [B9 h1,lB,bK (show ¬y>g.S by omega)];rfl)
  |succ n ih=>
   intro i hi hil
   have h1:st[i]? =some st[i]:=lH hil
   have h2:=hj i _ (by omega) h1
   rw [K3 (s':=((i - 1:Nat):Int)) (by unfold Ie;rw [B9 h1,lB,bJ (show st[i]>g.S by omega),bO,E1 (by omega)];congr 2;omega)]
   exact ih (i - 1) (by omega) (by omega)
def KG (m:Map)(g:Agent):Nat:=Qo g.S 0 0 (StartsM m g.Route)
/-- The lane of an agent, and its offset. -/
def Cx (m:Map)(g:Agent):Int×Int:=(g.Route.getD (KG m g) 0,g.S - (StartsM m g.Route).getD (KG m g) 0)
theorem RouteOK.StartsM {m:Map}{a:Int}{t:List Int}(R:RouteOK m a t):StartsM m (a::t)=O9 m 0 (a::t):=by unfold World.StartsM;rw [R.follow]
theorem RouteOK.LongM {m:Map}{a:Int}{t:List Int}(R:RouteOK m a t):LongM m (a::t)=Nl m (a::t) (a::t).length:=by unfold World.LongM;rw [R.follow]
theorem DX {m:Map}{a:Int}{t:List Int}(R:RouteOK m a t){g:Agent}(hg:g.Route=a::t)(h0:0≤g.S):
    ∃x,KG m g< (a::t).length∧(a::t)[KG m g]? =some x∧Cx m g=(x,g.S - Nl m (a::t) (KG m g))∧Nl m (a::t) (KG m g)≤g.S∧(∀j,KG m g<j→j< (a::t).length→g.S<Nl m (a::t) j):=by
  have hl:=Li m (a::t) 0
  have h00:(O9 m 0 (a::t))[0]? =some 0:=by rw [O9];rfl
  obtain ⟨⟨y,y1,y2⟩,y3⟩:=XU (st:=O9 m 0 (a::t)) (S:=g.S) ⟨0,h00,h0⟩
  have e:KG m g=Qo g.S 0 0 (O9 m 0 (a::t)):=by unfold KG;rw [hg,R.StartsM]
  rw [← e]at y1 y3
  have hlt:=H8 y1
  rw [hl]at hlt
  have hy:y=Nl m (a::t) (KG m g):=by
    have:=Lj m (a::t) 0 (KG m g) hlt
    rw [y1,Int.zero_add]at this
    exact lD this
  refine ⟨(a::t)[KG m g],hlt,lH hlt,?_,by omega,fun j hj hjl=> ?_⟩
  ·unfold Cx
   rw [hg,R.StartsM,List.getD,List.getD,lH hlt,y1,hy];rfl
  ·have:=Lj m (a::t) 0 j hjl
   rw [Int.zero_add]at this
   exact y3 j _ hj this
theorem QV {m:Map}(B:BearM m){a:Int}{t:List Int}(R:RouteOK m a t){g:Agent}(hg:g.Route=a::t)(h0:0≤g.S)(h1:g.S≤9223372036854775807):Hc m g=some (Cx m g)∧Tz m g=some (Cx m g):=by
  obtain ⟨x,q1,q2,q3,q4,q5⟩:=DX R hg h0
  have hm7:=R.most
  have hr:g.Route.length≤1000000:=by rw [hg];simp;omega
  have hl:=Li m (a::t) 0
  have hbd:=R.bd (i:=KG m g) (by omega)
  have hs:B8 (O9 m 0 (a::t)) ((KG m g:Nat):Int)=some (Nl m (a::t) (KG m g)):=RouteOK.starts q1
  have hk:(O9 m 0 (a::t))[KG m g]? =some (Nl m (a::t) (KG m g)):=by rw [Lj m _ 0 _ q1,Int.zero_add];rfl
  constructor
  ·unfold Hc
   rw [DW B _ hr,lB,hg,R.StartsM]
   have hn:D2 (((O9 m 0 (a::t)).length:Int) - 1)=((t.length:Nat):Int):=by rw [hl,E1 (by simp;omega)];simp
   rw [hn,XV g _ (by rw [hl];simp;omega) (KG m g) ⟨_,hk,q4⟩ (fun j y hj hy=>by
    have hjl:=H8 hy
    rw [hl]at hjl
    have:=Lj m (a::t) 0 j hjl
    rw [hy,Int.zero_add]at this
    cases this
    exact q5 j hj hjl) (t.length - KG m g) t.length (by simp only [lL]at q1;omega) (by rw [hl];simp),lB,B9 q2,lB,hs,lB,q3,E1 (by omega)]
  ·unfold Tz
   rw [Un B _ hr,lB,hg,R.StartsM]
   have:=gT g (O9 m 0 (a::t)) (by rw [hl];simp;omega) (O9 m 0 (a::t)) 0 0 rfl (by omega)
   have e:KG m g=Qo g.S 0 0 (O9 m 0 (a::t)):=by unfold KG;rw [hg,R.StartsM]
   rw [← e]at this
   rw [show ((0:Int),(0:Int))=(((0:Nat):Int),((0:Nat):Int)) from rfl,this,lB,B9 q2,lB,hs,lB,q3,E1 (by omega)]
def Ah (m:Map)(x:Int):Int:=((m.Lanes[x.toNat]?).map (·.Kind)).getD 0
/-- The greatest speed, acceleration and braking where an agent is. -/
def Fy (m:Map)(g:Agent):Int×Int×Int:=T6 (Ah m (Cx m g).1)
def Tc (m:Map)(g:Agent):Bool:=decide (D2 (g.S - g.Len)>LongM m g.Route)
def NU (g:Agent):Bool:=(((decide (g.Len<300)||decide (g.Len>20000))||decide (g.Begin<0))||decide (g.Begin>1099511627776))||decide (g.S<0)
/-- The error of an agent of a state. -/
def Dr (m:Map)(s:State)(i:Int)(g:Agent):Int:=
  if P2 m g.Route=0 then
   if NU g=true∨g.S>LongM m g.Route+g.Len+2000 then 2
   else if g.V<0∨g.V>(Fy m g).1 then 2
   else if g.Gone≠Tc m g∨(g.Begin>s.Tick∧g.S≠0)∨(i=0∧g.Begin≠0)then 10 else 0
  else 13
theorem Mn {m:Map}{a:Int}{t:List Int}(R:RouteOK m a t):1000≤LongM m (a::t)∧LongM m (a::t)≤134217728:=by
  have h1:=R.bd (wH _)
  have h2:=R.lt (i:=0) (j:=(a::t).length) (by simp) (wH _)
  rw [Xk]at h2
  rw [R.LongM];omega
theorem NV {m:Map}(B:BearM m){g:Agent}(hr:g.Route.length≤1000000):Fj m g=some (Tc m g)∧Qb m g=some (Tc m g):=by
  constructor
  ·unfold Fj Z3
   rw [lB,VQ B _ hr];rfl
  ·unfold Qb
   rw [IV B _ hr];rfl
theorem LY {m:Map}{a:Int}{t:List Int}(R:RouteOK m a t){g:Agent}(hg:g.Route=a::t)(h0:0≤g.S): ∃l,B8 m.Lanes (Cx m g).1=some l∧Ah m (Cx m g).1=l.Kind∧m.Lanes[(Cx m g).1.toNat]? =some l:=by
  obtain ⟨x,q1,q2,q3,_⟩:=DX R hg h0
  have hx:=R.mem (lG q2)
  have hl:m.Lanes[x.toNat]? =some m.Lanes[x.toNat]:=lH (by omega)
  have hg:=B9 hl
  rw [wG hx.1]at hg
  refine ⟨_,by rw [q3];exact hg,?_,by rw [q3];exact hl⟩
  rw [q3];unfold Ah
  dsimp only
  rw [hl];rfl
theorem IY {g:Agent}(h:NU g=false):300≤g.Len∧g.Len≤20000∧0≤g.Begin∧g.Begin≤1099511627776∧0≤g.S:=by
  unfold NU at h
  simp only [wA,wC]at h
  omega
theorem QW {m:Map}(B:BearM m)(s:State){i:Int}{g:Agent}(hi:B8 s.Agents i=some g)(hr:g.Route.length≤1000)(hS:g.S≤9223372036854775807):
    Y2 m s i=some (Dr m s i g)∧Nj m s i=some (Dr m s i g):=by
  have hr':g.Route.length≤1000000:=by omega
  unfold Y2 Nj Dr
  rw [hi,lB,lB,Zh B _ hr',Mm B _ hr',lB,lB]
  by_cases q:P2 m g.Route=0
  case neg=>
    rw [bR q,show (P2 m g.Route !=0)=true by simpa using q]
    exact ⟨rfl,rfl⟩
  rw [bQ q,q,show ((0:Int) !=0)=false from rfl,bP,bP]
  obtain ⟨a,t,ht,R⟩:=chkRoute_zero.1 q
  have hL:=Mn R
  rw [← ht]at hL
  rw [VQ B _ hr',IV B _ hr']
  have e:((((decide (g.Len<300)||decide (g.Len>20000))||decide (g.Begin<0))||decide (g.Begin>1099511627776))||decide (g.S<0))=NU g:=rfl
  rw [e]
  by_cases o:NU g=true
  ·rw [bQ (.inl o),o];exact ⟨rfl,rfl⟩
  have o':NU g=false:=by simpa using o
  obtain ⟨o1,o2,o3,o4,o5⟩:=IY o'
  rw [o',bX,bO,lB,lB,bY,E1 (n:=LongM m g.Route+g.Len) (by omega),E1 (n:=LongM m g.Route+g.Len+2000) (by omega)]
  by_cases l:g.S>LongM m g.Route+g.Len+2000
  ·rw [bQ (.inr l),bJ l];exact ⟨rfl,rfl⟩
  rw [bR (fun h=>h.elim (fun h=>by cases h) l),bK l,bP,bP]
  obtain ⟨l1,l2⟩:=QV B R ht o5 hS
  obtain ⟨ln,k1,k2,_⟩:=LY R ht o5
  rw [l1,l2,lB,lB,k1,lB,lB,Su,Nk,lB,lB]
  have ev:(Fy m g).1=(T6 ln.Kind).1:=by unfold Fy;rw [k2]
  rw [ev]
  by_cases v:g.V<0∨g.V>(T6 ln.Kind).1
  ·rw [bQ v,show (decide (g.V<0)||decide (g.V>(T6 ln.Kind).1))=true by simpa using v];exact ⟨rfl,rfl⟩
  rw [bR v,show (decide (g.V<0)||decide (g.V>(T6 ln.Kind).1))=false by rw [bZ];simpa using v,bP,bP,(NV B hr').1,(NV B hr').2,lB,lB]
  have hb: ∀b:Bool,(b=true↔g.Gone≠Tc m g∨(g.Begin>s.Tick∧g.S≠0)∨(i=0∧g.Begin≠0))→cond b (some (10:Int)) (some 0)=some (if g.Gone≠Tc m g∨(g.Begin>s.Tick∧g.S≠0)∨(i=0∧g.Begin≠0)then 10 else 0):=by
    intro b hb
    by_cases h:g.Gone≠Tc m g∨(g.Begin>s.Tick∧g.S≠0)∨(i=0∧g.Begin≠0)
    ·rw [bQ h,hb.2 h];rfl
    ·rw [bR h]
     cases b
     ·rfl
     ·exact absurd (hb.1 rfl) h
  exact ⟨hb _ (by simp),hb _ (by simp [or_assoc])⟩
/-! ### The whole check -/
def Fv (a b:Stay):Bool:=decide (a.Agent_<b.Agent_)||(a.Agent_==b.Agent_&&decide (a.Zone_<b.Zone_))
theorem TZ (a b:Int):At [a,b]=some (if a≠0 then a else b):=by
  unfold At
  by_cases h:a=0
  ·subst h
   rw [K3 (s':=1) rfl,bR (by simp)]
   by_cases h:b=0
   ·subst h;rw [K3 (s':=2) rfl,C5 (t:= .inl ()) rfl];rfl
   ·rw [C5 (t:= .inr b) (by unfold Y5;rw [show B8 [(0:Int),b] 1=some b from rfl,lB,show (b !=0)=true by simpa using h];rfl)];rfl
  ·rw [C5 (t:= .inr a) (by unfold Y5;rw [show B8 [a,b] 0=some a from rfl,lB,show (a !=0)=true by simpa using h];rfl),bQ h];rfl
/-- What the order of two stays is. -/
def KH (a b:Stay):Int:=if CT a.Agent_ b.Agent_≠0 then CT a.Agent_ b.Agent_ else CT a.Zone_ b.Zone_
theorem IZ (a b:Stay):Cs a b=some (KH a b):=by
  unfold Cs KH
  rw [Qm,lB,Qm,lB,TZ,lB]
theorem QX (a b:Stay):decide (KH a b≥0)= !Fv a b:=by
  unfold KH Fv CT
  by_cases h1:a.Agent_<b.Agent_
  ·simp [h1]
  ·by_cases h2:a.Agent_>b.Agent_
   ·have:a.Agent_≠b.Agent_:=by omega
    simp [h1,h2,this]
   ·have:a.Agent_=b.Agent_:=by omega
    by_cases h3:a.Zone_<b.Zone_
    ·simp [this,h3]
    ·by_cases h4:a.Zone_>b.Zone_
     ·simp [this,h3,h4]
     ·simp [this,h3,h4]
def Vb (m:Map)(s:State)(x:Stay):Bool:=((decide (x.Agent_<0)||decide (x.Agent_≥(s.Agents.length:Int)))||decide (x.Zone_<0))||decide (x.Zone_≥(m.Zones.length:Int))
def YK (m:Map)(s:State)(i:Nat)(x:Stay):Option Int:=if Vb m s x=true∨(0<i∧∃y,s.In[i - 1]? =some y∧Fv y x=false)then some 11 else none
def Qv (s:State)(x:Stay):Bool:=((decide (x.Since<0)||decide (x.Since>s.Tick))||decide (x.Rank<0))||decide (x.Rank>100)
def Oc (m:Map)(s:State):Int:=
  if Sw m=0 then
   if s.Tick<0∨s.Tick>1099511627776 then 2 else if s.Agents.length=0 then 6 else if 8<s.Agents.length then 8
   else match H9 (fun i g=>if Dr m s (i:Int) g=0 then none else some (Dr m s (i:Int) g)) 0 s.Agents with
     |some e=>e
     |none=>match H9 (YK m s) 0 s.In with
      |some e=>e
      |none=>if s.In.any (Qv s)=true then 2 else 0
  else Sw m
theorem QY {m:Map}(B:BearM m){s:State}(h:SizeS s)(hw: ∀g∈s.Agents,g.S≤9223372036854775807):
    loop (Z5 m s) 0=some (CO (H9 (fun i g=>if Dr m s (i:Int) g=0 then none else some (Dr m s (i:Int) g)) 0 s.Agents))∧
    loop (Mk m s) 0=some (CO (H9 (fun i g=>if Dr m s (i:Int) g=0 then none else some (Dr m s (i:Int) g)) 0 s.Agents)):=by
  have hh:=h.agents
  constructor
  ·refine W3 s.Agents _ _ (fun i g hg=> ?_) (by unfold Z5;rw [J4];rfl)
   have hm:=lG hg
   unfold Z5
   rw [K4 (H8 hg),bO,(QW B s (B9 hg) (h.routes g hm) (hw g hm)).1,lB]
   by_cases q:Dr m s (i:Int) g=0
   ·rw [bQ q,q,show ((0:Int) !=0)=false from rfl,bP,I0 (H8 hg) (by omega)]
   ·rw [bR q,show (Dr m s (i:Int) g !=0)=true by simpa using q];rfl
  ·refine W3 s.Agents _ _ (fun i g hg=> ?_) (by unfold Mk;rw [J4];rfl)
   have hm:=lG hg
   unfold Mk
   rw [K4 (H8 hg),bO,(QW B s (B9 hg) (h.routes g hm) (hw g hm)).2,lB]
   by_cases q:Dr m s (i:Int) g=0
   ·rw [bQ q,q,show ((0:Int) !=0)=false from rfl,bP,I0 (H8 hg) (by omega)]
   ·rw [bR q,show (Dr m s (i:Int) g !=0)=true by simpa using q];rfl
theorem QZ {α:Type}{l:List α}{i:Nat}{a:α}(h:l[i]? =some a)(h0:0<i): ∃y,l[i - 1]? =some y∧B8 l (D2 ((i:Int) - 1))=some y∨1000000000000<i:=by
  by_cases hb:1000000000000<i
  ·exact ⟨a, .inr hb⟩
  ·have:=H8 h
   have e:l[i - 1]? =some l[i - 1]:=lH (by omega)
   refine ⟨_, .inl ⟨e,?_⟩⟩
   rw [E1 (by omega),show (i:Int) - 1=((i - 1:Nat):Int) by omega]
   exact B9 e
theorem dK (m:Map){s:State}(h:SizeS s):
    loop (Z4 m s) 0=some (CO (H9 (YK m s) 0 s.In))∧loop (Mj m s) 0=some (CO (H9 (YK m s) 0 s.In)):=by
  have hh:=h.ins
  constructor
  ·refine W3 s.In _ _ (fun i x hx=> ?_) (by unfold Z4;rw [J4];rfl)
   have hi:=H8 hx
   unfold Z4
   rw [K4 hi,bO,B9 hx,lB]
   have e:(((decide (x.Agent_<0)||decide (x.Agent_≥(s.Agents.length:Int)))||decide (x.Zone_<0))||decide (x.Zone_≥(m.Zones.length:Int)))=Vb m s x:=rfl
   rw [e]
   unfold YK
   by_cases hb:Vb m s x=true
   ·rw [hb,bQ (.inl rfl)];rfl
   have hb':Vb m s x=false:=by simpa using hb
   rw [hb',bX,bS]
   by_cases h0:0<i
   ·obtain ⟨y,hy⟩:=QZ hx h0
    rcases hy with ⟨y1,y2⟩|hy
    ·rw [bJ (show (i:Int)>0 by omega),bO,y2,lB,bO,IZ,lB,bY,bS,QX]
     by_cases q:Fv y x=true
     ·rw [q,bR (by rintro (h|⟨_,z,z1,z2⟩);exact (by cases h);rw [y1]at z1;cases z1;rw [q]at z2;cases z2),bW,bP,I0 hi (by omega)]
     ·have q':Fv y x=false:=by simpa using q
      rw [q',bQ (.inr ⟨h0,y,y1,q'⟩)];rfl
    ·omega
   ·rw [bK (show ¬(i:Int)>0 by omega),bP,lB,bP,lB,bY,bT,bP,bR (by rintro (h|⟨h,_⟩);exact (by cases h);exact h0 h),I0 hi (by omega)]
  ·refine W3 s.In _ _ (fun i x hx=> ?_) (by unfold Mj;rw [J4];rfl)
   have hi:=H8 hx
   unfold Mj
   rw [K4 hi,bO,B9 hx,lB]
   have e:(((decide (x.Agent_<0)||decide (x.Agent_≥(s.Agents.length:Int)))||decide (x.Zone_<0))||decide (x.Zone_≥(m.Zones.length:Int)))=Vb m s x:=rfl
   rw [e]
   unfold YK
   by_cases hb:Vb m s x=true
   ·rw [hb,bQ (.inl rfl)];rfl
   have hb':Vb m s x=false:=by simpa using hb
   rw [hb',bP]
   by_cases h0:0<i
   ·obtain ⟨y,hy⟩:=QZ hx h0
    rcases hy with ⟨y1,y2⟩|hy
    ·rw [bJ (show (i:Int)>0 by omega),bO,y2,lB,bS]
     have hc: ∀b:Bool,(cond b (some y) (some default)).bind (fun v=>some v)=some (cond b y default):=by intro b;cases b<;>rfl
     by_cases q1:x.Agent_<y.Agent_
     ·rw [bJ q1,bQ (.inr ⟨h0,y,y1,by unfold Fv;simp;omega⟩)];rfl
     ·rw [bK q1,bX,bO,lB,bS]
      by_cases q2:x.Agent_=y.Agent_
      ·rw [show (x.Agent_==y.Agent_)=true by simpa using q2,bO,lB,bY,bS,bS]
       by_cases q3:x.Zone_≤y.Zone_
       ·rw [bJ q3,bQ (.inr ⟨h0,y,y1,by unfold Fv;simp;omega⟩)];rfl
       ·rw [bK q3,bR (by rintro (h|⟨_,z,z1,z2⟩);exact (by cases h);rw [y1]at z1;cases z1;unfold Fv at z2;simp at z2;omega),bP,I0 hi (by omega)]
      ·rw [show (x.Agent_==y.Agent_)=false by simpa using q2,bP,lB,bY,bS,bT,bP,bR (by rintro (h|⟨_,z,z1,z2⟩);exact (by cases h);rw [y1]at z1;cases z1;unfold Fv at z2;simp at z2;omega),I0 hi (by omega)]
    ·omega
   ·rw [bK (show ¬(i:Int)>0 by omega),bP,lB]
    simp only [bT,bP,lB]
    rw [bR (by rintro (h|⟨h,_⟩);exact (by cases h);exact h0 h),I0 hi (by omega)]
theorem Jp {α:Type}(l:List α)(P:α→Bool)(F:Int→Option (Stp Int (Sum Unit Int)))(hl:l.length≤1000000000)(hF: ∀(i:Nat) a,l[i]? =some a→F (i:Int)=some (if P a then .out (.inr (i:Int))else .go (D2 ((i:Int)+1))))(h0:F (l.length:Int)=some (.out (.inl ()))):
    (thenS (loop F 0) (fun _=>some (-1)) (fun r=>some r)).bind (fun v=>some (decide (v≥0)))=some (l.any P):=by
  rw [II l P hl hF h0]
  have:=Xh P l
  unfold CP at this
  cases hq:l.findIdx? P with
  |some i=>rw [hq]at this;show some _=_;rw [← this]
  |none=>rw [hq]at this;show some _=_;rw [← this]
theorem gU {s:State}(h:SizeS s):E9 s.In s=some (s.In.any (Qv s)):=by
  have hh:=h.ins
  unfold E9 J8
  refine Jp s.In (Qv s) _ (by omega) (fun i x hx=> ?_) (by unfold L5;rw [J4];rfl)
  unfold L5 Kq
  rw [K4 (H8 hx),B9 hx,bO,lB,lB]
  have e:(((decide (x.Since<0)||decide (x.Since>s.Tick))||decide (x.Rank<0))||decide (x.Rank>100))=Qv s x:=rfl
  rw [e]
  cases Qv s x<;>rfl
theorem dL {s:State}(h:SizeS s):thenS (loop (Mi s) 0) (fun _=>some 0) (fun r=>some r)=some (if s.In.any (Qv s)=true then 2 else 0):=by
  have hh:=h.ins
  rw [W3 s.In _ (fun _ x=>if Qv s x=true then some 2 else none) (fun i x hx=> ?_) (by unfold Mi;rw [J4];rfl)]
  ·by_cases q:s.In.any (Qv s)=true
   ·rw [bQ q]
    cases hf:H9 (fun _ x=>if Qv s x=true then some (2:Int)else none) 0 s.In with
    |some e=>
     have: ∀(l:List Stay) (i:Nat),H9 (fun _ x=>if Qv s x=true then some (2:Int)else none) i l=some e→e=2:=by
       intro l
       induction l with
       |nil=>intro i h;cases h
       |cons a l ih=>
        intro i h
        unfold H9 at h
        by_cases z:Qv s a=true
        ·rw [bQ z]at h;cases h;rfl
        ·rw [bR z]at h;exact ih _ h
     rw [this _ _ hf];rfl
    |none=>
     obtain ⟨x,x1,x2⟩:=lZ.1 q
     obtain ⟨j,hj⟩:=bG x1
     have:=firstE_none.1 hf j x hj
     rw [bQ x2]at this;cases this
   ·rw [bR q,firstE_none.2 fun j x hj=> ?_]
    ·rfl
    ·by_cases z:Qv s x=true
     ·exact absurd (lZ.2 ⟨x,lG hj,z⟩) q
     ·rw [bR z]
  ·unfold Mi
   rw [K4 (H8 hx),B9 hx,bO,lB]
   have e:(((decide (x.Since<0)||decide (x.Since>s.Tick))||decide (x.Rank<0))||decide (x.Rank>100))=Qv s x:=rfl
   rw [e]
   by_cases z:Qv s x=true
   ·rw [bQ z,z];rfl
   ·rw [bR z,show Qv s x=false by simpa using z,bP,I0 (H8 hx) (by omega)]
theorem JA {m:Map}(B:BearM m){s:State}(h:SizeS s)(hw: ∀g∈s.Agents,g.S≤9223372036854775807):Ct m s=some (Oc m s)∧Wx m s=some (Oc m s):=by
  obtain ⟨a1,a2⟩:=QY B h hw
  obtain ⟨i1,i2⟩:=dK m h
  unfold Ct Wx Oc
  rw [Ml B,Qi B,lB,lB]
  by_cases q:Sw m=0
  case neg=>rw [bR q,show (Sw m !=0)=true by simpa using q];exact ⟨rfl,rfl⟩
  rw [bQ q,q,show ((0:Int) !=0)=false from rfl,bP,bP]
  by_cases t:s.Tick<0∨s.Tick>1099511627776
  ·rw [bQ t,show (decide (s.Tick<0)||decide (s.Tick>1099511627776))=true by simpa using t];exact ⟨rfl,rfl⟩
  rw [bR t,show (decide (s.Tick<0)||decide (s.Tick>1099511627776))=false by rw [bZ];simpa using t,bP,bP]
  by_cases n0:s.Agents.length=0
  ·rw [bQ n0,show (((s.Agents.length:Nat):Int)==0)=true by rw [n0];rfl];exact ⟨rfl,rfl⟩
  rw [bR n0,show (((s.Agents.length:Nat):Int)==0)=false by simpa using (show ((s.Agents.length:Nat):Int)≠0 by omega),bP,bP]
  by_cases n8:8<s.Agents.length
  ·rw [bQ n8,bJ (show (s.Agents.length:Int)>8 by omega)];exact ⟨rfl,rfl⟩
  rw [bR n8,bK (show ¬(s.Agents.length:Int)>8 by omega),bP,bP,a1,a2]
  cases H9 (fun i g=>if Dr m s (i:Int) g=0 then none else some (Dr m s (i:Int) g)) 0 s.Agents with
  |some e=>exact ⟨rfl,rfl⟩
  |none=>
   show thenS _ _ _=_∧thenS _ _ _=_
   rw [i1,i2]
   cases H9 (YK m s) 0 s.In with
   |some e=>exact ⟨rfl,rfl⟩
   |none=>
    refine ⟨?_,dL h⟩
    show (E9 s.In s).bind _=_
    rw [gU h,lB]
    cases s.In.any (Qv s)<;>rfl
/-- A map of the kit. -/
structure KitM (m:Map):Prop extends BearK m where
  val:ValR m
theorem gV (n:Int): ∃m,Xy n=some m∧KitM m∧∃k p,k<8∧ParOK p∧m=CS k p:=by
  obtain ⟨k,p,hk,hp,hm⟩:=TP n
  exact ⟨_,hm,⟨⟨cW hp,(ER k p.r).1⟩,gC hk hp⟩,k,p,hk,hp,rfl⟩
theorem KitM.chk {m:Map}(K:KitM m):Sw m=0:=chkR_zero.2 K.val
/-- Who is there. -/
def W1 (s:State)(i:Int):Bool:=match B8 s.Agents i with
  |some g=> !g.Gone&&decide (g.Begin≤s.Tick)
  |none=>false
theorem DY {α:Type}{l:List α}{i:Int}(h: ¬(0≤i∧i<l.length)):B8 l i=none:=by
  unfold B8
  by_cases h0:0≤i
  ·rw [bQ h0]
   exact lJ (by omega)
  ·rw [bR h0]
theorem Pl {α:Type}{l:List α}{i:Int}(h0:0≤i)(h1:i<l.length): ∃a,B8 l i=some a∧l[i.toNat]? =some a:=by
  have:l[i.toNat]? =some l[i.toNat]:=lH (by omega)
  exact ⟨_,by unfold B8;rw [bQ h0];exact this,this⟩
theorem CW (s:State)(i:Int):Gu s i=some (W1 s i)∧Wy s i=some (W1 s i):=by
  unfold Gu Wy W1
  by_cases h:0≤i∧i<s.Agents.length
  ·obtain ⟨g,hg,_⟩:=Pl h.1 h.2
   rw [show (decide (i≥0)&&decide (i< (s.Agents.length:Int)))=true by simp only [bU,bM];exact h,bO,hg,lB,lB]
   simp only [bO,lB,bS]
   constructor
   ·cases g.Gone<;>simp
   ·by_cases q:g.Begin≤s.Tick<;>simp [q]
  ·rw [show (decide (i≥0)&&decide (i< (s.Agents.length:Int)))=false by rw [bZ];simp only [ne_eq,bU,bM];exact h,DY h]
   exact ⟨rfl,rfl⟩
/-- A red line before which an agent could stop, and then cannot. -/
def Jq (f v nxt b line:Int):Bool:=(decide (line>f)&&decide (D2 (f+Tb v b)<line))&&decide (D2 (D2 (f+nxt)+Tb nxt b)≥line)
def On (R:List Int)(f v nxt b:Int):Bool:= !R.any (Jq f v nxt b)
theorem RA (R:List Int)(hR:R.length≤1000)(f v nxt b:Int):Gx R f v nxt b=some (On R f v nxt b):=by
  unfold Gx G7 I4
  rw [Jp R (Jq f v nxt b) _ (by omega) (fun i x hx=> ?_) (by unfold K6;rw [J4];rfl)]
  ·rfl
  ·unfold K6 Du
   rw [K4 (H8 hx),B9 hx,bO,lB,VR,VR]
   have e:((cond (decide (x>f)) (some (Tb v b)) (some default)).bind fun v1=>(cond (decide (x>f)&&decide (D2 (f+v1)<x)) (some (Tb nxt b)) (some default)).bind fun v2=>some ((decide (x>f)&&decide (D2 (f+v1)<x))&&decide (D2 (D2 (f+nxt)+v2)≥x)))=some (Jq f v nxt b x):=by
     unfold Jq
     cases decide (x>f)
     ·rfl
     ·simp only [bO,lB,bS]
      cases decide (D2 (f+Tb v b)<x)<;>rfl
   rw [e,lB]
   cases Jq f v nxt b x<;>rfl
theorem RB (R:List Int)(hR:R.length≤1000)(f v nxt b:Int):Xc R f v nxt b=some (On R f v nxt b):=by
  unfold Xc On
  rw [W3 R _ (fun _ x=>if Jq f v nxt b x=true then some false else none) (fun i x hx=> ?_) (by unfold Qf;rw [J4];rfl)]
  ·have key: ∀(l:List Int) (i:Nat),thenS (some (CO (H9 (fun _ x=>if Jq f v nxt b x=true then some false else none) i l))) (fun _=>some true) (fun r=>some r)=some (!l.any (Jq f v nxt b)):=by
     intro l
     induction l with
     |nil=>intro i;rfl
     |cons x l ih=>
      intro i
      unfold H9
      by_cases z:Jq f v nxt b x=true
      ·rw [bQ z,bH,z];rfl
      ·rw [bR z,bH,show Jq f v nxt b x=false by simpa using z,bY]
       exact ih _
   exact key R 0
  ·unfold Qf
   rw [K4 (H8 hx),B9 hx,bO,lB,QT,QT]
   have e:((cond (decide (x>f)) (some (Tb v b)) (some default)).bind fun v2=>(cond (decide (x>f)) (some x) (some default)).bind fun v3=>(cond (decide (x>f)&&decide (D2 (f+v2)<v3)) (some (Tb nxt b)) (some default)).bind fun v4=>(cond (decide (x>f)&&decide (D2 (f+v2)<v3)) (some x) (some default)).bind fun v5=>cond ((decide (x>f)&&decide (D2 (f+v2)<v3))&&decide (D2 (D2 (f+nxt)+v4)≥v5)) (some (Stp.out (Sum.inr false))) (some (Stp.go (D2 ((i:Int)+1)))))=(some (if Jq f v nxt b x=true then Stp.out (Sum.inr false)else Stp.go (D2 ((i:Int)+1))):Option (Stp Int (Sum Unit Bool))):=by
     unfold Jq
     cases decide (x>f)
     ·rfl
     ·simp only [bO,lB,bS]
      cases decide (D2 (f+Tb v b)<x)
      ·rfl
      ·simp only [bO,lB,bS]
       cases decide (D2 (D2 (f+nxt)+Tb nxt b)≥x)<;>rfl
   rw [e]
   by_cases z:Jq f v nxt b x=true
   ·rw [bQ z,bQ z]
   ·rw [bR z,bR z,I0 (H8 hx) (by omega)]
/-- The red lines of a lane. -/
def UA (m:Map)(lane tick:Int):List Int:=(Ef m lane tick).getD []
theorem kK {m:Map}(B:BearM m)(lane tick:Int):Ef m lane tick=some (UA m lane tick)∧Sr m lane tick=some (UA m lane tick)∧(UA m lane tick).length≤1000:=by
  obtain ⟨R,h1,h2,h3⟩:=gK B lane tick
  unfold UA
  rw [h1,h2]
  exact ⟨rfl,rfl,h3⟩
def Ai (g:Agent)(most act:Int):Int:=max 0 (min (D2 (g.V+act)) most)
/-- The acceleration, made less as long as it has to be. -/
def Td (K:Int→Bool)(low:Int):Nat→Int→Int
  |0,act=>act
  |n+1,act=>if act>low∧K act=false then Td K low n (act - 1)else act
theorem VS {K:Int→Bool}{low:Int}: ∀(n:Nat) (act:Int),low≤act→low≤Td K low n act∧Td K low n act≤act
  |0,act,h=>by rw [Td];omega
  |n+1,act,h=>by
   rw [Td]
   split
   ·rename_i q
    have:=VS (K:=K) (low:=low) n (act - 1) (by omega);omega
   ·omega
/-- An agent that is there, after a tick. -/
def Gn (m:Map)(g:Agent)(tick act:Int):Int:=
  let L:=Cx m g;let t:=Fy m g;let act0:=max (-t.2.2) (min act t.2.1)
  if g.Obey=true∧L.2≤Co m L.1 then Ai g t.1 (Td (fun x=>On (UA m L.1 tick) L.2 g.V (Ai g t.1 x) t.2.2) (-t.2.2) (act0+t.2.2).toNat act0)else Ai g t.1 act0
def EX (m:Map)(g:Agent)(tick act:Int):Agent:=
  {g with V:=Gn m g tick act,S:=D2 (g.S+Gn m g tick act),Gone:=Tc m {g with V:=Gn m g tick act,S:=D2 (g.S+Gn m g tick act)}}
theorem Ye (k:Int):0≤(T6 k).1∧(T6 k).1≤2000∧0≤(T6 k).2.1∧(T6 k).2.1≤100∧0≤(T6 k).2.2∧(T6 k).2.2≤300:=by
  unfold T6
  repeat' split
  all_goals simp
theorem XW {g:Agent}{L:Int×Int}{t:Int×Int×Int}{R:List Int}(hR:R.length≤1000)(ht:0≤t.2.2∧t.2.2≤300): ∀(n:Nat) (act:Int), -t.2.2≤act→act≤100→(act+t.2.2).toNat≤n→
    loop (V8 g L t R) act=some (Td (fun x=>On R L.2 g.V (Ai g t.1 x) t.2.2) (-t.2.2) n act):=by
  intro n
  induction n with
  |zero=>
   intro act h1 h2 h3
   rw [Td]
   refine C5 ?_
   unfold V8
   rw [E1 (n:=0 - t.2.2) (by omega),bK (show ¬act>0 - t.2.2 by omega)];rfl
  |succ n ih=>
   intro act h1 h2 h3
   rw [Td]
   by_cases q:act> -t.2.2
   ·have hs:Y3 act g t.1=some (Ai g t.1 act):=by unfold Y3 Ai;rw [Kn,Cf]
    by_cases k:On R L.2 g.V (Ai g t.1 act) t.2.2=false
    ·rw [bQ ⟨q,k⟩,← ih (act - 1) (by omega) (by omega) (by omega)]
     refine K3 ?_
     unfold V8
     rw [E1 (n:=0 - t.2.2) (by omega),bJ (show act>0 - t.2.2 by omega),bO,hs,lB,bO,RA R hR,lB,k,E1 (by omega)];rfl
    ·rw [bR (fun x=>k x.2)]
     refine C5 ?_
     unfold V8
     rw [E1 (n:=0 - t.2.2) (by omega),bJ (show act>0 - t.2.2 by omega),bO,hs,lB,bO,RA R hR,lB,show On R L.2 g.V (Ai g t.1 act) t.2.2=true by simpa using k];rfl
   ·rw [bR (fun x=>q x.1)]
    refine C5 ?_
    unfold V8
    rw [E1 (n:=0 - t.2.2) (by omega),bK (show ¬act>0 - t.2.2 by omega)];rfl
theorem UB {g:Agent}{L:Int×Int}{t:Int×Int×Int}{R:List Int}(hR:R.length≤1000)(ht:0≤t.2.2∧t.2.2≤300): ∀(n:Nat) (act:Int), -t.2.2≤act→act≤100→(act+t.2.2).toNat≤n→
    loop (Ii g L t R) (act,Ai g t.1 act)=some (Ai g t.1 (Td (fun x=>On R L.2 g.V (Ai g t.1 x) t.2.2) (-t.2.2) n act)):=by
  intro n
  induction n with
  |zero=>
   intro act h1 h2 h3
   rw [Td]
   refine C5 ?_
   unfold Ii
   dsimp only
   rw [E1 (n:=0 - t.2.2) (by omega),bK (show ¬act>0 - t.2.2 by omega)];rfl
  |succ n ih=>
   intro act h1 h2 h3
   rw [Td]
   by_cases q:act> -t.2.2
   ·by_cases k:On R L.2 g.V (Ai g t.1 act) t.2.2=false
    ·rw [bQ ⟨q,k⟩,← ih (act - 1) (by omega) (by omega) (by omega)]
     refine K3 ?_
     unfold Ii
     dsimp only
     rw [E1 (n:=0 - t.2.2) (by omega),bJ (show act>0 - t.2.2 by omega),bO,RB R hR,lB,k,E1 (n:=act - 1) (by omega),Kn,Cf];rfl
    ·rw [bR (fun x=>k x.2)]
     refine C5 ?_
     unfold Ii
     dsimp only
     rw [E1 (n:=0 - t.2.2) (by omega),bJ (show act>0 - t.2.2 by omega),bO,RB R hR,lB,show On R L.2 g.V (Ai g t.1 act) t.2.2=true by simpa using k];rfl
   ·rw [bR (fun x=>q x.1)]
    refine C5 ?_
    unfold Ii
    dsimp only
    rw [E1 (n:=0 - t.2.2) (by omega),bK (show ¬act>0 - t.2.2 by omega)];rfl
/-- What is known of an agent of a valid state. -/
structure AgentOK (m:Map)(s:State)(i:Int)(g:Agent):Prop where
  route: ∃a t,g.Route=a::t∧RouteOK m a t
  len:300≤g.Len∧g.Len≤20000
  begin:0≤g.Begin∧g.Begin≤1099511627776
  S:0≤g.S∧g.S≤LongM m g.Route+g.Len+2000
  V:0≤g.V∧g.V≤(Fy m g).1
  gone:g.Gone=Tc m g
  late: ¬(g.Begin>s.Tick∧g.S≠0)
  first:i=0→g.Begin=0
theorem agentM_zero {m:Map}{s:State}{i:Int}{g:Agent}:Dr m s i g=0↔AgentOK m s i g:=by
  unfold Dr
  constructor
  ·intro h
   by_cases q:P2 m g.Route=0
   ·rw [bQ q]at h
    by_cases o:NU g=true∨g.S>LongM m g.Route+g.Len+2000
    ·rw [bQ o]at h;cases h
    ·rw [bR o]at h
     by_cases v:g.V<0∨g.V>(Fy m g).1
     ·rw [bQ v]at h;cases h
     ·rw [bR v]at h
      by_cases z:g.Gone≠Tc m g∨(g.Begin>s.Tick∧g.S≠0)∨(i=0∧g.Begin≠0)
      ·rw [bQ z]at h;cases h
      ·obtain ⟨o1,o2,o3,o4,o5⟩:=IY (g:=g) (by cases hq:NU g<;>simp_all)
       refine ⟨chkRoute_zero.1 q,⟨o1,o2⟩,⟨o3,o4⟩,⟨o5,?_⟩,?_,?_,fun h=>z (.inr (.inl h)),fun h=> ?_⟩
       ·exact Int.not_lt.1 fun h=>o (.inr h)
       ·omega
       ·exact Classical.byContradiction fun h=>z (.inl h)
       ·exact Classical.byContradiction fun h'=>z (.inr (.inr ⟨h,h'⟩))
   ·rw [bR q]at h;cases h
  ·intro A
   have l:=A.len;have b:=A.begin;have S:=A.S;have V:=A.V
   rw [bQ (chkRoute_zero.2 A.route),bR,bR,bR]
   ·rintro (h|h|h)
    ·exact h A.gone
    ·exact A.late h
    ·exact h.2 (A.first h.1)
   ·omega
   ·rintro (h|h)
    ·unfold NU at h
     simp only [bV,bM]at h
     omega
    ·omega
structure StateOK (m:Map)(s:State):Prop where
  tick:0≤s.Tick∧s.Tick≤1099511627776
  num:0<s.Agents.length∧s.Agents.length≤8
  agent: ∀(i:Nat) g,s.Agents[i]? =some g→AgentOK m s (i:Int) g
  ins: ∀(i:Nat) x,s.In[i]? =some x→Vb m s x=false
  sorted: ∀(i:Nat) x y,s.In[i]? =some x→s.In[i+1]? =some y→Fv x y=true
  rank: ∀x∈s.In,Qv s x=false
theorem Jr {m:Map}(K:KitM m){s:State}:Oc m s=0↔StateOK m s:=by
  unfold Oc
  rw [bQ K.chk]
  constructor
  ·intro h
   by_cases t:s.Tick<0∨s.Tick>1099511627776
   ·rw [bQ t]at h;cases h
   rw [bR t]at h
   by_cases n0:s.Agents.length=0
   ·rw [bQ n0]at h;cases h
   rw [bR n0]at h
   by_cases n8:8<s.Agents.length
   ·rw [bQ n8]at h;cases h
   rw [bR n8]at h
   cases ha:H9 (fun i g=>if Dr m s (i:Int) g=0 then none else some (Dr m s (i:Int) g)) 0 s.Agents with
   |some e=>
    rw [ha]at h
    have: ∀(l:List Agent) (i:Nat),H9 (fun i g=>if Dr m s (i:Int) g=0 then none else some (Dr m s (i:Int) g)) i l=some e→e≠0:=by
      intro l
      induction l with
      |nil=>intro i h;cases h
      |cons a l ih=>
       intro i h
       unfold H9 at h
       by_cases z:Dr m s (i:Int) a=0
       ·rw [bQ z]at h;exact ih _ h
       ·rw [bR z]at h;cases h;exact z
    exact absurd h (this _ _ ha)
   |none=>
    rw [ha]at h
    cases hi:H9 (YK m s) 0 s.In with
    |some e=>
     rw [hi]at h
     have: ∀(l:List Stay) (i:Nat),H9 (YK m s) i l=some e→e≠0:=by
       intro l
       induction l with
       |nil=>intro i h;cases h
       |cons a l ih=>
        intro i h
        unfold H9 at h
        cases z:YK m s i a with
        |none=>rw [z]at h;exact ih _ h
        |some e'=>
         rw [z]at h;cases h
         unfold YK at z
         split at z
         ·cases z;decide
         ·cases z
     exact absurd h (this _ _ hi)
    |none=>
     rw [hi]at h
     have ha':=firstE_none.1 ha
     have hi':=firstE_none.1 hi
     simp only [wK]at ha' hi'
     have hin: ∀(i:Nat) x,s.In[i]? =some x→¬(Vb m s x=true∨(0<i∧∃y,s.In[i - 1]? =some y∧Fv y x=false)):=by
       intro i x hx q
       have:=hi' i x hx
       unfold YK at this
       rw [bQ q]at this;cases this
     have hr:s.In.any (Qv s)=false:=by
       cases q:s.In.any (Qv s)with
       |false=>rfl
       |true=>rw [q]at h;cases h
     refine ⟨by omega,by omega,fun i g hg=>agentM_zero.1 ?_,fun i x hx=> ?_,fun i x y hx hy=> ?_,fun x hx=> ?_⟩
     ·have:=ha' i g hg
      by_cases z:Dr m s (i:Int) g=0
      ·exact z
      ·rw [bR z]at this;cases this
     ·have:=hin i x hx
      cases q:Vb m s x with
      |false=>rfl
      |true=>exact absurd (.inl q) this
     ·have:=hin (i+1) y hy
      cases q:Fv x y with
      |true=>rfl
      |false=>exact absurd (.inr ⟨by omega,x,hx,q⟩) this
     ·have:=List.any_eq_false.1 hr x hx
      simpa using this
  ·intro O
   have t:=O.tick;have n:=O.num
   rw [bR (by omega),bR (by omega),bR (by omega)]
   rw [firstE_none.2 fun i g hg=>by rw [wK,bQ (agentM_zero.2 (O.agent i g hg))]]
   rw [firstE_none.2 fun i x hx=> ?_]
   ·dsimp only
    rw [bR]
    intro h
    obtain ⟨x,x1,x2⟩:=lZ.1 h
    rw [O.rank x x1]at x2;cases x2
   ·rw [wK]
    unfold YK
    rw [bR]
    rintro (h|⟨h0,y,y1,y2⟩)
    ·rw [O.ins i x hx]at h;cases h
    ·have:=O.sorted (i - 1) y x y1 (by rw [show i - 1+1=i by omega];exact hx)
     rw [this]at y2;cases y2
theorem AgentOK.bd {m:Map}{s:State}{i:Int}{g:Agent}(A:AgentOK m s i g):1000≤LongM m g.Route∧LongM m g.Route≤134217728:=by
  obtain ⟨a,t,h,R⟩:=A.route
  rw [h];exact Mn R
theorem dM {g:Agent}{most act:Int}(h:0≤g.V∧g.V≤2000)(ha: -1000≤act∧act≤1000):Ai g most act=max 0 (min (g.V+act) most):=by
  unfold Ai;rw [E1 (by omega)]
theorem gX {m:Map}(B:BearM m){s:State}{i:Int}{g:Agent}(A:AgentOK m s i g)(hr:g.Route.length≤1000)(tick act:Int):Fm m g tick act=some (EX m g tick act)∧Uc m g tick act=some (EX m g tick act):=by
  obtain ⟨a,t,ht,R⟩:=A.route
  have hL:=A.bd;have hS:=A.S;have hl:=A.len;have hV:=A.V
  obtain ⟨l1,l2⟩:=QV B R ht hS.1 (by omega)
  obtain ⟨ln,k1,k2,_⟩:=LY R ht hS.1
  have ev:Fy m g=T6 ln.Kind:=by unfold Fy;rw [k2]
  have htb:=Ye ln.Kind
  obtain ⟨r1,r2,r3⟩:=kK B (Cx m g).1 tick
  have hlow:D2 (0 - (T6 ln.Kind).2.2)= -(T6 ln.Kind).2.2:=by rw [E1 (by omega)];omega
  have hact: -(T6 ln.Kind).2.2≤max (-(T6 ln.Kind).2.2) (min act (T6 ln.Kind).2.1)∧max (-(T6 ln.Kind).2.2) (min act (T6 ln.Kind).2.1)≤100:=by omega
  have hg: ∀g':Agent,g'.Route=g.Route→Fj m g'=some (Tc m g')∧Qb m g'=some (Tc m g'):=fun g' h=>NV B (by rw [h];omega)
  have hmv: ∀x,Y3 x g (T6 ln.Kind).1=some (Ai g (T6 ln.Kind).1 x):=by intro x;unfold Y3 Ai;rw [Kn,Cf]
  have hlow': ∀X,(Ln true 0 (Ln false (D2 (g.V+X)) (T6 ln.Kind).1))=Ai g (T6 ln.Kind).1 X:=by intro X;unfold Ai;rw [Kn,Cf]
  by_cases q:g.Obey=true∧(Cx m g).2≤Co m (Cx m g).1
  ·have hN:Gn m g tick act=Ai g (T6 ln.Kind).1 (Td (fun x=>On (UA m (Cx m g).1 tick) (Cx m g).2 g.V (Ai g (T6 ln.Kind).1 x) (T6 ln.Kind).2.2) (-(T6 ln.Kind).2.2) (max (-(T6 ln.Kind).2.2) (min act (T6 ln.Kind).2.1)+ (T6 ln.Kind).2.2).toNat (max (-(T6 ln.Kind).2.2) (min act (T6 ln.Kind).2.1))):=by
     unfold Gn;rw [ev];exact bQ q
   constructor
   ·unfold Fm EX
    rw [l1,lB,k1,lB,Su,lB,q.1,bO,Ia B,lB,bS,bJ q.2,bO,r1,lB,Kn,Cf,hlow,XW r3 ⟨htb.2.2.2.2.1,htb.2.2.2.2.2⟩ _ _ hact.1 hact.2 (wH _)]
    simp only [lB]
    rw [hmv,lB,← hN,(hg ⟨g.Route,D2 (g.S+Gn m g tick act),Gn m g tick act,g.Len,g.Begin,true,g.Gone⟩ rfl).1]
    simp only [lB,q.1]
   ·unfold Uc EX
    rw [l2,lB,k1,lB,Nk,lB,q.1,bO,Om B,lB,bS,bJ q.2,bO,r2,lB,hlow',Kn,Cf,hlow,UB r3 ⟨htb.2.2.2.2.1,htb.2.2.2.2.2⟩ _ _ hact.1 hact.2 (wH _)]
    simp only [lB]
    rw [← hN,(hg ⟨g.Route,D2 (g.S+Gn m g tick act),Gn m g tick act,g.Len,g.Begin,true,g.Gone⟩ rfl).2]
    simp only [lB,q.1]
  ·have hN:Gn m g tick act=Ai g (T6 ln.Kind).1 (max (-(T6 ln.Kind).2.2) (min act (T6 ln.Kind).2.1)):=by
     unfold Gn;rw [ev];exact bR q
   have hc: ∀{α:Type} (o:Bool) (x y:α),(cond o (some (Co m (Cx m g).1)) (some default)).bind (fun v4=>some (cond (o&&decide ((Cx m g).2≤v4)) x y))=some (cond (o&&decide ((Cx m g).2≤Co m (Cx m g).1)) x y):=by intro α o x y;cases o<;>rfl
   have hf:(g.Obey&&decide ((Cx m g).2≤Co m (Cx m g).1))=false:=by
     rw [bZ];simpa using q
   constructor
   ·unfold Fm EX
    rw [l1,lB,k1,lB,Su,lB,Ia B]
    have e: ∀F:Int→Option Agent,((cond g.Obey (some (Co m (Cx m g).1)) (some default)).bind fun v4=>(cond (g.Obey&&decide ((Cx m g).2≤v4)) ((Ef m (Cx m g).1 tick).bind fun v5=>(loop (V8 g (Cx m g) (T6 ln.Kind) v5) (Ln true (D2 (0 - (T6 ln.Kind).2.2)) (Ln false act (T6 ln.Kind).2.1))).bind fun y2=>some y2) (some (Ln true (D2 (0 - (T6 ln.Kind).2.2)) (Ln false act (T6 ln.Kind).2.1)))).bind F)=F (Ln true (D2 (0 - (T6 ln.Kind).2.2)) (Ln false act (T6 ln.Kind).2.1)):=by
      intro F
      cases ho:g.Obey
      ·rfl
      ·rw [ho]at hf
       rw [bO,lB,hf];rfl
    rw [e,hmv,Kn,Cf,hlow,← hN,lB,(hg ⟨g.Route,D2 (g.S+Gn m g tick act),Gn m g tick act,g.Len,g.Begin,g.Obey,g.Gone⟩ rfl).1]
    rfl
   ·unfold Uc EX
    rw [l2,lB,k1,lB,Nk,lB,Om B]
    have e: ∀(F:Int→Option Agent) (Y:List Int→Option Int) (X:Int),((cond g.Obey (some (Co m (Cx m g).1)) (some default)).bind fun v4=>(cond (g.Obey&&decide ((Cx m g).2≤v4)) ((Sr m (Cx m g).1 tick).bind Y) (some X)).bind F)=F X:=by
      intro F Y X
      cases ho:g.Obey
      ·rfl
      ·rw [ho]at hf
       rw [bO,lB,hf];rfl
    rw [e,hlow',Kn,Cf,hlow,← hN,(hg ⟨g.Route,D2 (g.S+Gn m g tick act),Gn m g tick act,g.Len,g.Begin,g.Obey,g.Gone⟩ rfl).2]
    rfl
def gY:Agent:=⟨[],0,0,0,0,false,false⟩
def Fd (m:Map)(s:State)(i act:Int):Agent:=match B8 s.Agents i with
  |none=>gY
  |some g=>if W1 s i=true∧Oc m s=0 then EX m g s.Tick act else g
theorem gZ {m:Map}(K:KitM m){s:State}(S:SizeS s)(w: ∀g∈s.Agents,g.S≤9223372036854775807)(i act:Int):Jb m s i act=some (Fd m s i act)∧IB m s i act=some (Fd m s i act):=by
  obtain ⟨c1,c2⟩:=JA K.toBearM S w
  obtain ⟨t1,t2⟩:=CW s i
  unfold Jb IB Fd
  by_cases h:0≤i∧i<s.Agents.length
  case neg=>
    rw [show (decide (i<0)||decide (i≥(s.Agents.length:Int)))=true by simp only [bV,bM];omega,DY h]
    exact ⟨rfl,rfl⟩
  obtain ⟨g,hg,hg'⟩:=Pl h.1 h.2
  have hr:=S.routes g (lG hg')
  rw [show (decide (i<0)||decide (i≥(s.Agents.length:Int)))=false by rw [bZ];simp only [ne_eq,bV,bM];omega,bP,bP,hg,lB,lB,EW hr,lB,t1,lB,IX (by omega),lB,c1,c2,lB,t2]
  dsimp only
  have eg:(⟨g.Route,g.S,g.V,g.Len,g.Begin,g.Obey,g.Gone⟩:Agent)=g:=rfl
  by_cases q:W1 s i=true∧Oc m s=0
  ·rw [bQ q,q.1,q.2]
   have O:=(Jr K).1 q.2
   have A:=O.agent i.toNat g hg'
   obtain ⟨m1,m2⟩:=gX K.toBearM A hr s.Tick act
   rw [eg,m2]
   refine ⟨?_,rfl⟩
   show (Fm m g s.Tick act).bind _=_
   rw [m1];rfl
  ·rw [bR q]
   constructor
   ·cases ht:W1 s i
    ·rfl
    ·have:Oc m s≠0:=fun h=>q ⟨ht,h⟩
     show cond (!true||(Oc m s !=0)) _ _=_
     rw [show (!true||(Oc m s !=0))=true by simpa using this];rfl
   ·cases hz:(Oc m s !=0)
    ·have hz':Oc m s=0:=by simpa using hz
     have:W1 s i=false:=by
       cases ht:W1 s i
       ·rfl
       ·exact absurd ⟨ht,hz'⟩ q
     rw [this];rfl
    ·rfl
def Zk (g:Agent):Bool:=(((decide (g.S≥0))&& (decide (g.S≤1099511627776)))&& (decide (g.Len≥0)))&& (decide (g.Len≤1099511627776))
def Mo (m:Map)(r:List Int):List Pass:=(W8 m r).getD []
theorem XX {m:Map}(B:BearK m)(r:List Int)(hr:r.length≤1000000):W8 m r=some (Mo m r)∧Jm m r=some (Mo m r)∧(Mo m r).length≤16:=by
  obtain ⟨ps,h1,h2,h3⟩:=TX B r hr
  unfold Mo
  rw [h1,h2]
  exact ⟨rfl,rfl,h3⟩
def Uo (g g':Agent)(z:Int)(p:Pass):Bool:=((p.Zone_==z)&&decide (p.From≤g'.S))&&decide (D2 (g.S - g.Len)≤p.To)
/-- Whether an agent is present in a zone during a tick. -/
def Xl (m:Map)(g g':Agent)(z:Int):Bool:=(Zk g&&Zk g')&& (Mo m g.Route).any (Uo g g' z)
theorem UC {m:Map}(B:BearK m){g g':Agent}(hr:g.Route.length≤1000)(z:Int):Cu m g g' z=some (Xl m g g' z)∧Zd m g g' z=some (Xl m g g' z):=by
  obtain ⟨p1,p2,p3⟩:=XX B g.Route (by omega)
  have s1: ∀g,Kv g=some (Zk g):=fun _=>rfl
  have s2: ∀g,Qc g=some (Zk g):=fun _=>rfl
  have hc:F2 (Mo m g.Route) z ⟨D2 (g.S - g.Len),g'.S⟩=some ((Mo m g.Route).any (Uo g g' z)):=by
    unfold F2 J1
    refine Jp _ (Uo g g' z) _ (by omega) (fun i x hx=> ?_) (by unfold K8;rw [J4];rfl)
    unfold K8 Ga
    rw [K4 (H8 hx),B9 hx,bO,lB,lB]
    show cond (Uo g g' z x) _ _=_
    cases Uo g g' z x<;>rfl
  have hd:thenS (loop (Jn g g' z (Mo m g.Route)) 0) (fun _=>some false) (fun r=>some r)=some ((Mo m g.Route).any (Uo g g' z)):=by
    rw [IL (Mo m g.Route) (Uo g g' z) true (fun i x hx=> ?_) (by unfold Jn;rw [J4];rfl)]
    ·cases (Mo m g.Route).any (Uo g g' z)<;>rfl
    ·unfold Jn Uo
     rw [K4 (H8 hx),B9 hx,bO,lB,I0 (H8 hx) (by omega)]
     by_cases q1:x.Zone_=z
     ·rw [show (x.Zone_==z)=true by simpa using q1,bO,lB,bS]
      by_cases q2:D2 (g.S - g.Len)≤x.To
      ·rw [bJ q2,bO,lB,bS,Bool.and_true]
       by_cases q3:x.From≤g'.S
       ·rw [bJ (show g'.S≥x.From from q3)];rfl
       ·rw [bK (show ¬g'.S≥x.From from q3)];rfl
      ·rw [bK q2,Bool.and_false];rfl
     ·rw [show (x.Zone_==z)=false by simpa using q1];rfl
  unfold Cu Zd Xl
  rw [s1,s2,lB,lB]
  cases hs:Zk g
  ·exact ⟨rfl,rfl⟩
  ·rw [bW,bX,bO,bO,s1,s2,lB,lB]
   cases hs':Zk g'
   ·exact ⟨rfl,rfl⟩
   ·simp only [bW,Bool.or_self,bP,bS]
    constructor
    ·show (Z3 g).bind _=_
     unfold Z3
     rw [lB,p1,lB,hc];rfl
    ·show (Jm m g.Route).bind _=_
     rw [p2,lB,hd]
/-! ### The entry, and the rank -/
theorem VT {α:Type}{P:α→Bool}{l:List α}(h:0≤CP P l): ∃x,l[(CP P l).toNat]? =some x∧P x=true∧l.find? P=some x:=by
  unfold CP at h ⊢
  cases hq:l.findIdx? P with
  |none=>rw [hq]at h;exact absurd h (by simp)
  |some i=>
   obtain ⟨h1,h2,h3⟩:=List.findIdx?_eq_some_iff_getElem.1 hq
   refine ⟨l[i],by rw [wF];exact lH h1,h2,?_⟩
   exact List.find?_eq_some_iff_getElem.2 ⟨h2,i,h1,rfl,fun j hj=>by simpa using h3 j hj⟩
theorem XY {m:Map}{r:List Int}{z:Int}(h:0≤Hl m r z): ∃zn l,0≤z∧m.Zones[z.toNat]? =some zn∧P2 m r=0∧r[(Hl m r z).toNat]? =some l∧(Lh zn l).2=true:=by
  unfold Hl at h ⊢
  cases hz:m.Zones[z.toNat]? with
  |none=>rw [hz]at h;exact absurd h (by simp)
  |some zn=>
   rw [hz]at h
   dsimp only at h ⊢
   by_cases q:0≤z∧P2 m r=0
   ·rw [bQ q]at h ⊢
    obtain ⟨l,h1,h2,_⟩:=VT h
    exact ⟨zn,l,q.1,rfl,q.2,h1,h2⟩
   ·rw [bR q]at h;exact absurd h (by simp)
/-- The lane on which a route enters a zone; -1 if it does not. -/
def Mr (m:Map)(r:List Int)(z:Int):Int:=if 0≤Hl m r z then r.getD (Hl m r z).toNat 0 else -1
theorem RC {m:Map}{r:List Int}{z:Int}(h:0≤Hl m r z): ∃zn,0≤z∧m.Zones[z.toNat]? =some zn∧r[(Hl m r z).toNat]? =some (Mr m r z)∧(Lh zn (Mr m r z)).2=true∧0≤Mr m r z:=by
  obtain ⟨zn,l,h0,h1,h2,h3,h4⟩:=XY h
  have e:Mr m r z=l:=by unfold Mr;rw [bQ h,List.getD,h3];rfl
  obtain ⟨a,t,rfl,R⟩:=chkRoute_zero.1 h2
  have:=R.mem (lG h3)
  rw [e]
  exact ⟨zn,h0,h1,h3,h4,this.1⟩
theorem DZ {m:Map}(B:BearM m){r:List Int}(hr:r.length≤1000000)(z:Int):Cv m r z=some (Mr m r z):=by
  unfold Cv
  rw [dB B r hr,lB]
  by_cases q:0≤Hl m r z
  ·obtain ⟨zn,_,_,h3,_⟩:=RC q
   have hg:=B9 h3
   rw [wG q]at hg
   rw [bJ (show Hl m r z≥0 from q),bO,hg];rfl
  ·rw [bK (show ¬Hl m r z≥0 from q)]
   unfold Mr;rw [bR q];rfl
/-- The rank of an agent in a zone. -/
def JB (m:Map)(r:List Int)(z tick:Int):Int:=
  if 0≤Hl m r z then
   match m.Zones[z.toNat]? with
   |some zn=>if zn.Signal_>0 then (if DU m (zn.Signal_ - 1) (Mr m r z) tick=true then 2 else 0)else (Lh zn (Mr m r z)).1.Rank
   |none=>0
  else 0
theorem hJ {m:Map}(K:KitM m){g:Agent}(hr:g.Route.length≤1000)(z tick:Int):Fl m g z tick=some (JB m g.Route z tick)∧IA m g z tick=some (JB m g.Route z tick):=by
  have B:=K.toBearM
  have hr':g.Route.length≤1000000:=by omega
  unfold Fl IA JB
  rw [DZ B hr',XO B _ hr',lB,lB]
  by_cases q:0≤Hl m g.Route z
  case neg=>
    rw [bR q,bJ (show Hl m g.Route z<0 by omega)]
    have:Mr m g.Route z= -1:=by unfold Mr;rw [bR q]
    rw [this]
    exact ⟨rfl,rfl⟩
  obtain ⟨zn,h0,h1,h3,h4,h5⟩:=RC q
  have hz:=B9 h1
  rw [wG h0]at hz
  have hg:=B9 h3
  rw [wG q]at hg
  have Z:=K.val.zoneOK (lG h1)
  have hS:=Z.sig
  have hsl:=K.val.signals
  have hp:=B.toBearZ.parts zn (lG h1)
  rw [bQ q,h1,bK (show ¬Mr m g.Route z<0 by omega),bK (show ¬Hl m g.Route z<0 by omega),bP,bP,hz,lB,lB]
  dsimp only
  by_cases s:zn.Signal_>0
  ·rw [bQ s,bJ s,E1 (by omega),dE B,hg]
   simp only [lB,bO,XK B,bS]
   cases DU m (zn.Signal_ - 1) (Mr m g.Route z) tick<;>exact ⟨rfl,rfl⟩
  ·rw [bR s,bK s,bP,bP,lB,bT,bP]
   have hany:zn.Parts.any (fun p=>p.Lane_==Mr m g.Route z)=true:=by
     unfold Lh at h4
     cases hf:zn.Parts.find? (fun p=>p.Lane_==Mr m g.Route z)with
     |none=>rw [hf]at h4;cases h4
     |some p=>
      exact lZ.2 ⟨p,l7 hf,l6 (p:=fun p:Part=>p.Lane_==Mr m g.Route z) hf⟩
   have hidx:0≤CP (fun p:Part=>p.Lane_==Mr m g.Route z) zn.Parts:=by
     have:=Xh (fun p:Part=>p.Lane_==Mr m g.Route z) zn.Parts
     rw [hany]at this
     simpa using this
   obtain ⟨p,p1,p2,p3⟩:=VT hidx
   have hpr:(Lh zn (Mr m g.Route z)).1.Rank=p.Rank:=by unfold Lh;rw [p3]
   constructor
   ·have e:I9 zn.Parts (Mr m g.Route z)=some (CP (fun p:Part=>p.Lane_==Mr m g.Route z) zn.Parts):=by
      unfold I9
      refine Oa zn.Parts (fun p:Part=>p.Lane_==Mr m g.Route z) (by omega) (fun i a h=> ?_) (by unfold L9;rw [J4];rfl)
      unfold L9 Mc
      rw [K4 (H8 h),B9 h,bO,lB,lB]
      cases a.Lane_==Mr m g.Route z<;>rfl
    have hgp:=B9 p1
    rw [wG hidx]at hgp
    rw [e,lB,hgp,lB,hpr]
   ·have key: ∀(l:List Part) (i:Nat),zn.Parts.drop i=l→i≤zn.Parts.length→thenS (loop (Kl g (Hl m g.Route z) zn) (i:Int)) (fun _=>some 0) (fun r=>some r)=some (match l.find? (fun p=>p.Lane_==Mr m g.Route z)with|some p=>p.Rank|none=>0):=by
      intro l
      induction l with
      |nil=>
       intro i hi hil
       have:=N1 hi
       obtain rfl:i=zn.Parts.length:=by omega
       rw [C5 (t:= .inl ()) (by unfold Kl;rw [J4];rfl)];rfl
      |cons x l ih=>
       intro i hi hil
       have hx:=T4 hi
       have hlt:=M3 hi
       rw [List.find?_cons]
       cases hq:x.Lane_==Mr m g.Route z with
       |true=>
        rw [C5 (t:= .inr x.Rank) (by unfold Kl;rw [K4 hlt,B9 hx,bO,lB,hg,lB,hq,bO,lB])];rfl
       |false=>
        rw [K3 (s':=((i+1:Nat):Int)) (by unfold Kl;rw [K4 hlt,B9 hx,bO,lB,hg,lB,hq,bP,I0 hlt (by omega)])]
        exact ih (i+1) (K2 hi) hlt
    have:=key zn.Parts 0 rfl (wI _)
    rw [p3]at this
    rw [show ((0:Nat):Int)=0 from rfl]at this
    rw [bP,this,hpr]
/-! ### Stays -/
def Up (i z:Int)(x:Stay):Bool:=x.Agent_==i&&x.Zone_==z
def JC (l:List Stay):Prop:=l.Pairwise fun a b=>Fv a b=true
theorem EY {a b c:Stay}(h1:Fv a b=true)(h2:Fv b c=true):Fv a c=true:=by
  unfold Fv at*
  simp only [bV,bM,bU,wB]at*
  omega
theorem XZ {l:List Stay}(h: ∀(i:Nat) x y,l[i]? =some x→l[i+1]? =some y→Fv x y=true):JC l:=by
  unfold JC
  induction l with
  |nil=>exact List.Pairwise.nil
  |cons a l ih=>
   have ih:=ih fun i x y hx hy=>h (i+1) x y (by simpa using hx) (by simpa using hy)
   refine bB.2 ⟨fun b hb=> ?_,ih⟩
   cases l with
   |nil=>cases hb
   |cons c l=>
    have h0:=h 0 a c rfl rfl
    rcases lU.1 hb with rfl|hb
    ·exact h0
    ·exact EY h0 ((bB.1 ih).1 b hb)
theorem hO (a b:Stay):decide (KH a b<0)=Fv a b:=by
  have:=QX a b
  have e:decide (KH a b<0)= !decide (KH a b≥0):=by
    by_cases h:KH a b<0
    ·rw [bJ h,bK (by omega)];rfl
    ·rw [bK h,bJ (by omega)];rfl
  rw [e,this,Bool.not_not]
theorem dN (a b:Stay):(KH a b==0)=Up b.Agent_ b.Zone_ a:=by
  unfold KH Up CT
  by_cases h1:a.Agent_<b.Agent_
  ·have:a.Agent_≠b.Agent_:=by omega
   simp [h1,this]
  ·by_cases h2:a.Agent_>b.Agent_
   ·have:a.Agent_≠b.Agent_:=by omega
    simp [h1,h2,this]
   ·have:a.Agent_=b.Agent_:=by omega
    by_cases h3:a.Zone_<b.Zone_
    ·have:a.Zone_≠b.Zone_:=by omega
     simp [h3,this, *]
    ·by_cases h4:a.Zone_>b.Zone_
     ·have:a.Zone_≠b.Zone_:=by omega
      simp [h3,h4,this, *]
     ·have:a.Zone_=b.Zone_:=by omega
      simp [this, *]
theorem VU {l:List Stay}(hl:l.length≤1000000)(hs:JC l)(y:Stay): ∃s:Nat,C7 l y=some ((s:Int),(l.find? (Up y.Agent_ y.Zone_)).isSome)∧∀x,l.find? (Up y.Agent_ y.Zone_)=some x→l[s]? =some x:=by
  have hget: ∀c,c<l.length→l[c]? =some (l.getD c default):=by
    intro c hc
    rw [List.getD,lH hc];rfl
  obtain ⟨s,h1,_,h3,h4,h5⟩:=gE (F:=C9 l y) (fun c=>Fv (l.getD c default) y) 0 l.length (wI _) (fun a b _ hab hb=>by
    unfold C9
    dsimp only
    have hm:(a+b) / 2<l.length:=by omega
    rw [bJ (show (a:Int)< (b:Int) by omega),bO,gO a b (by omega),B9 (hget _ hm),lB,IZ,lB,hO]
    by_cases q:Fv (l.getD ((a+b) / 2) default) y=true
    ·rw [bQ q,q,bO,I0 hm (by omega)]
    ·rw [bR q,show Fv (l.getD ((a+b) / 2) default) y=false by simpa using q];rfl) (fun a b hab=>by
    unfold C9
    dsimp only
    rw [bK (show ¬(a:Int)< (b:Int) by omega)];rfl) (fun c c' _ hcc hc' q=>by
    rcases Nat.lt_or_eq_of_le hcc with h|h
    ·have h1:=bD.1 hs c c' (by omega) hc' h
     have e1:=hget c (by omega);have e2:=hget c' hc'
     rw [lH (by omega)]at e1 e2
     rw [lD e1,lD e2]at h1
     exact EY h1 q
    ·subst h;exact q)
  have hmem: ∀x,l.find? (Up y.Agent_ y.Zone_)=some x→l[s]? =some x:=by
    intro x hx
    have k1:=l6 hx
    have k2:=l7 hx
    obtain ⟨j,hj⟩:=bG k2
    have hjl:=H8 hj
    have e1:=hget j hjl
    rw [hj]at e1
    have ex:x=l.getD j default:=lD e1
    have nl:Fv x y=false:=by
      unfold Up at k1;unfold Fv
      simp only [bU,wB]at k1
      rw [bZ]
      simp only [ne_eq,bV,bM,bU,wB]
      omega
    have hsj:s≤j:=by
      refine Nat.not_lt.1 fun h=> ?_
      have:=h4 j (wI _) h
      rw [← ex,nl]at this;cases this
    rcases Nat.lt_or_eq_of_le hsj with h|h
    ·exfalso
     have h6:=h5 s (wH _) (by omega)
     have h7:=bD.1 hs s j (by omega) hjl h
     have e2:=hget s (by omega)
     rw [lH (by omega)]at e2
     have e3:=hj
     rw [lH hjl]at e3
     rw [lD e2,lD e3]at h7
     unfold Up at k1;unfold Fv at h6 h7
     simp only [bU,wB]at k1
     rw [bZ]at h6
     simp only [ne_eq,bV,bM,bU,wB]at h6 h7
     omega
    ·subst h;exact hj
  refine ⟨s,?_,hmem⟩
  have h1':loop (C9 l y) (0,(l.length:Int))=some (s:Int):=h1
  unfold C7
  rw [h1',lB]
  by_cases hlt:s<l.length
  ·have e:=hget s hlt
   rw [K4 hlt,bO,B9 e,lB,bO,IZ,lB,dN,bS]
   congr 2
   cases hf:l.find? (Up y.Agent_ y.Zone_)with
   |some x=>
    have:=hmem x hf
    rw [e]at this
    rw [lD this,l6 hf];rfl
   |none=>
    have:=List.find?_eq_none.1 hf (l.getD s default) (lG e)
    simpa using this
  ·rw [show decide ((s:Int)< (l.length:Int))=false from bK (by omega),bP,lB,bP,lB,bT]
   congr 2
   cases hf:l.find? (Up y.Agent_ y.Zone_)with
   |some x=>have:=H8 (hmem x hf);omega
   |none=>rfl
theorem UD {S α β τ:Type}{F:S→Option (Stp S τ)}(pk:Nat→List β→S)(l:List α)(g:Nat→α→Option β)(fin:List β→τ)(s0:List β)(B:Nat){S0:S}(hS:pk 0 s0=S0)(hB:s0.length+l.length≤B)
    (hF: ∀(i:Nat) a (s:List β),l[i]? =some a→s.length+1≤B→F (pk i s)=some (.go (pk (i+1) (match g i a with|some b=>s++ [b]|none=>s))))
    (h0: ∀s,F (pk l.length s)=some (.out (fin s))):loop F S0=some (fin (s0++Dy g 0 l)):=by
  have:=VK (F:=F) pk l (fun i s=>s.length≤s0.length+i) (fun i s a=>match g i a with|some b=>s++ [b]|none=>s) fin (s0:=s0) (S0:=S0) hS (by simp) (fun i a s h hs=>hF i a s h (by have:=(lI.1 h).1;omega)) (fun i a s _ hs=>by
    cases g i a<;>simp<;>omega) (fun s _=>h0 s)
  exact this.trans (congrArg (fun x=>some (fin x)) (AN g l 0 s0))
theorem dO {S α β τ:Type}{F:S→Option (Stp S τ)}(pk:Nat→List β→S)(l:List α)(g:Nat→α→List β)(fin:List β→τ)(s0:List β)(C B:Nat){S0:S}(hS:pk 0 s0=S0)(hB:s0.length+l.length*C≤B)(hC: ∀(i:Nat) a,l[i]? =some a→(g i a).length≤C)
    (hF: ∀(i:Nat) a (s:List β),l[i]? =some a→s.length+C≤B→F (pk i s)=some (.go (pk (i+1) (s++g i a))))
    (h0: ∀s,F (pk l.length s)=some (.out (fin s))):loop F S0=some (fin (s0++Rl g 0 l)):=by
  have key: ∀(r:List α) (i:Nat) (s:List β),CQ (fun i s a=>s++g i a) i s r=s++Rl g i r:=by
    intro r
    induction r with
    |nil=>intro i s;simp [CQ,Rl]
    |cons a r ih=>intro i s;simp [CQ,Rl,ih]
  have:=VK (F:=F) pk l (fun i s=>s.length≤s0.length+i*C) (fun i s a=>s++g i a) fin (s0:=s0) (S0:=S0) hS (by simp) (fun i a s h hs=>hF i a s h (by
    have h1:=(lI.1 h).1
    have h2:(i+1)*C≤l.length*C:=Nat.mul_le_mul_right C h1
    rw [wJ,Nat.one_mul]at h2;omega)) (fun i a s h hs=>by
    have h3:=hC i a h
    rw [lM,wJ,Nat.one_mul];omega) (fun s _=>h0 s)
  exact this.trans (congrArg (fun x=>some (fin x)) (key l 0 s0))
/-- Present at both ends of a tick. -/
def Ox (m:Map)(s:State)(A:List Agent)(i z:Int):Bool:=W1 s i&& (match B8 s.Agents i,B8 A i with
  |some g,some g'=>Xl m g g' z
  |_,_=>false)
theorem Qp {s:State}{i:Int}(h:W1 s i=true): ∃g,B8 s.Agents i=some g∧s.Agents[i.toNat]? =some g∧0≤i∧i<s.Agents.length∧g.Gone=false∧g.Begin≤s.Tick:=by
  unfold W1 at h
  by_cases q:0≤i∧i<s.Agents.length
  ·obtain ⟨g,h1,h2⟩:=Pl q.1 q.2
   rw [h1]at h
   dsimp only at h
   rw [bU,bM]at h
   exact ⟨g,h1,h2,q.1,q.2,by simpa using h.1,h.2⟩
  ·rw [DY q]at h;cases h
theorem YA {m:Map}{s:State}{A:List Agent}{i z:Int}(h:Ox m s A i z=true): ∃g g',B8 s.Agents i=some g∧s.Agents[i.toNat]? =some g∧0≤i∧i<s.Agents.length∧B8 A i=some g'∧Xl m g g' z=true:=by
  unfold Ox at h
  rw [bU]at h
  obtain ⟨g,h1,h2,h3,h4,_⟩:=Qp h.1
  rw [h1]at h
  cases hA:B8 A i with
  |none=>rw [hA]at h;exact absurd h.2 (by simp)
  |some g'=>rw [hA]at h;exact ⟨g,g',h1,h2,h3,h4,rfl,h.2⟩
theorem Rm {m:Map}(B:BearK m){s:State}(S:SizeS s){sc:WorldScene}{A:List Agent}(hm:sc.m=m)(hb:sc.before=s)(ha:sc.after.Agents=A)(hl:A.length=s.Agents.length)(i z:Int):N0 sc i z=some (Ox m s A i z):=by
  unfold N0 Ox
  rw [hm,hb,ha,(CW s i).1,lB]
  cases h:W1 s i
  ·rfl
  ·obtain ⟨g,h1,h2,h3,h4,_⟩:=Qp h
   obtain ⟨g',h5,_⟩:=Pl (l:=A) h3 (by omega)
   rw [h1,h5]
   simp only [bO,lB,bS]
   rw [(UC B (S.routes g (lG h2)) z).1];rfl
/-- The stay of who is present. -/
def Sa (m:Map)(s:State)(i z:Int):Stay:=match s.In.find? (Up i z)with
  |some x=>x
  |none=>⟨i,z,s.Tick,match B8 s.Agents i with|some g=>JB m g.Route z s.Tick|none=>0⟩
theorem GF (m:Map)(s:State)(i z:Int):(Sa m s i z).Agent_=i∧(Sa m s i z).Zone_=z:=by
  unfold Sa
  cases h:s.In.find? (Up i z)with
  |none=>exact ⟨rfl,rfl⟩
  |some x=>
   have:=l6 h
   unfold Up at this
   simpa using this
def CX (m:Map)(s:State)(A:List Agent)(i:Nat)(z:Nat)(_:Zone):Option Stay:=if Ox m s A i z=true then some (Sa m s i z)else none
def Uq (m:Map)(s:State)(A:List Agent)(i:Nat)(_:Agent):List Stay:=Dy (CX m s A i) 0 m.Zones
/-- The stays after a tick. -/
def Bp (m:Map)(s:State)(A:List Agent):List Stay:=Rl (Uq m s A) 0 s.Agents
theorem AQ (m:Map)(s:State)(A:List Agent)(i:Nat)(a:Agent):(Uq m s A i a).length≤m.Zones.length:=Sv _ _ _
theorem Dc {α β:Type}{g:Nat→α→Option β}{b:β}: ∀(l:List α) (k:Nat),b∈Dy g k l↔∃(i:Nat) (a:α),l[i]? =some a∧g (k+i) a=some b
  | [],k=>by simp [Dy]
  |a::r,k=>by
   have ih:=Dc (g:=g) (b:=b) r (k+1)
   have e:(∃(i:Nat) (a':α),(a::r)[i]? =some a'∧g (k+i) a'=some b)↔g k a=some b∨∃(i:Nat) (a':α),r[i]? =some a'∧g (k+1+i) a'=some b:=by
     constructor
     ·rintro ⟨i,a',h1,h2⟩
      cases i with
      |zero=>simp at h1;subst h1;exact .inl h2
      |succ i=>exact .inr ⟨i,a',by simpa using h1,by rw [show k+1+i=k+ (i+1) by omega];exact h2⟩
     ·rintro (h|⟨i,a',h1,h2⟩)
      ·exact ⟨0,a,rfl,h⟩
      ·exact ⟨i+1,a',by simpa using h1,by rw [show k+ (i+1)=k+1+i by omega];exact h2⟩
   rw [e,Dy]
   cases hg:g k a with
   |none=>simp [ih]
   |some c=>simp [ih,eq_comm]
theorem EA {α β:Type}{g:Nat→α→List β}{b:β}: ∀(l:List α) (k:Nat),b∈Rl g k l↔∃(i:Nat) (a:α),l[i]? =some a∧b∈g (k+i) a
  | [],k=>by simp [Rl]
  |a::r,k=>by
   have ih:=EA (g:=g) (b:=b) r (k+1)
   rw [Rl,lT,ih]
   constructor
   ·rintro (h|⟨i,a',h1,h2⟩)
    ·exact ⟨0,a,rfl,h⟩
    ·exact ⟨i+1,a',by simpa using h1,by rw [show k+ (i+1)=k+1+i by omega];exact h2⟩
   ·rintro ⟨i,a',h1,h2⟩
    cases i with
    |zero=>simp at h1;subst h1;exact .inl h2
    |succ i=>exact .inr ⟨i,a',by simpa using h1,by rw [show k+1+i=k+ (i+1) by omega];exact h2⟩
theorem stays_mem {m:Map}{s:State}{A:List Agent}{x:Stay}:x∈Bp m s A↔∃i z:Nat,i<s.Agents.length∧z<m.Zones.length∧Ox m s A i z=true∧x=Sa m s i z:=by
  unfold Bp
  rw [EA]
  constructor
  ·rintro ⟨i,a,h1,h2⟩
   unfold Uq at h2
   rw [Dc]at h2
   obtain ⟨z,zn,h3,h4⟩:=h2
   unfold CX at h4
   rw [wK,wK]at h4
   split at h4
   ·rename_i h5
    cases h4
    exact ⟨i,z,H8 h1,H8 h3,h5,rfl⟩
   ·cases h4
  ·rintro ⟨i,z,h1,h2,h3,rfl⟩
   refine ⟨i,s.Agents[i],lH h1,?_⟩
   unfold Uq
   rw [Dc]
   refine ⟨z,m.Zones[z],lH h2,?_⟩
   unfold CX
   rw [wK,wK,bQ h3]
theorem JD {α β:Type}{g:Nat→α→Option β}{R:β→β→Prop}(h: ∀i j a a' b b',i<j→g i a=some b→g j a'=some b'→R b b'): ∀(l:List α) (k:Nat),(Dy g k l).Pairwise R
  | [],k=>List.Pairwise.nil
  |a::r,k=>by
   have ih:=JD h r (k+1)
   rw [Dy]
   cases hg:g k a with
   |none=>exact ih
   |some b=>
    refine bB.2 ⟨fun b' hb'=> ?_,ih⟩
    obtain ⟨i,a',_,h2⟩:=(Dc r (k+1)).1 hb'
    exact h k (k+1+i) a a' b b' (by omega) hg h2
theorem JE {α β:Type}{g:Nat→α→List β}{R:β→β→Prop}(h0: ∀i a,(g i a).Pairwise R)(h: ∀i j a a' b b',i<j→b∈g i a→b'∈g j a'→R b b'): ∀(l:List α) (k:Nat),(Rl g k l).Pairwise R
  | [],k=>List.Pairwise.nil
  |a::r,k=>by
   rw [Rl]
   refine bC.2 ⟨h0 k a,JE h0 h r (k+1),fun b hb b' hb'=> ?_⟩
   obtain ⟨i,a',_,h2⟩:=(EA r (k+1)).1 hb'
   exact h k (k+1+i) a a' b b' (by omega) hb h2
theorem JF (m:Map)(s:State)(A:List Agent):JC (Bp m s A):=by
  have key: ∀(i z:Nat) zn b,CX m s A i z zn=some b→b.Agent_=(i:Int)∧b.Zone_=(z:Int):=by
    intro i z zn b h
    unfold CX at h
    split at h
    ·cases h;exact GF m s i z
    ·cases h
  refine JE (fun i a=>JD (fun z z' _ _ b b' hz h1 h2=> ?_) _ _) (fun i j a a' b b' hij h1 h2=> ?_) _ _
  ·have k1:=key i z _ b h1
   have k2:=key i z' _ b' h2
   unfold Fv
   rw [k1.1,k1.2,k2.1,k2.2]
   simp [hz]
  ·unfold Uq at h1 h2
   obtain ⟨z,zn,_,h1⟩:=(Dc _ _).1 h1
   obtain ⟨z',zn',_,h2⟩:=(Dc _ _).1 h2
   have k1:=key i _ zn b h1
   have k2:=key j _ zn' b' h2
   unfold Fv
   rw [k1.1,k2.1]
   simp only [bV,bM,bU,wB]
   omega
theorem UE {m:Map}{s:State}{A:List Agent}{i z:Int}(hz:0≤z∧z<m.Zones.length)(h:Ox m s A i z=true):(Bp m s A).find? (Up i z)=some (Sa m s i z):=by
  obtain ⟨g,g',h1,h2,h3,h4,_⟩:=YA h
  have hm:Sa m s i z∈Bp m s A:=stays_mem.2 ⟨i.toNat,z.toNat,by omega,by omega,by rw [wG h3,wG hz.1];exact h,by rw [wG h3,wG hz.1]⟩
  have hk:Up i z (Sa m s i z)=true:=by
    have:=GF m s i z
    unfold Up;rw [this.1,this.2];simp
  cases hf:(Bp m s A).find? (Up i z)with
  |none=>exact absurd hk (by simpa using List.find?_eq_none.1 hf _ hm)
  |some x=>
   obtain ⟨i',z',_,_,_,rfl⟩:=stays_mem.1 (l7 hf)
   have:=l6 hf
   unfold Up at this
   have k:=GF m s i' z'
   rw [k.1,k.2]at this
   simp only [bU,wB]at this
   rw [this.1,this.2]
theorem EB (m:Map)(s:State)(A:List Agent):(Bp m s A).length≤s.Agents.length*m.Zones.length:=LR _ _ _ _ fun _ _ _=>AQ _ _ _ _ _
/-- The program's choice of a stay. -/
theorem LZ {m:Map}(K:KitM m){s:State}(S:SizeS s)(hs:JC s.In){i z:Int}{g:Agent}(hg:B8 s.Agents i=some g)(hr:g.Route.length≤1000):
    ∃v8,C7 s.In (Stay.mk i z s.Tick 0)=some v8∧cond v8.2 ((B8 s.In v8.1).bind fun v9=>some v9) ((Fl m g z s.Tick).bind fun v10=>some (Stay.mk i z s.Tick v10))=some (Sa m s i z):=by
  obtain ⟨k,h1,h2⟩:=VU S.ins hs (Stay.mk i z s.Tick 0)
  refine ⟨_,h1,?_⟩
  unfold Sa
  dsimp only at h2 ⊢
  cases hf:s.In.find? (Up i z)with
  |some x=>rw [B9 (h2 x hf)];rfl
  |none=>rw [(hJ K hr z s.Tick).1,hg];rfl
/-- The agents after a tick. -/
def Av (m:Map)(s:State)(acts:List Int):List Agent:=s.Agents.mapIdx fun i _=>Fd m s i (acts.getD i 0)
def Zl (m:Map)(s:State)(acts:List Int)(k:Nat):List Agent:=s.Agents.mapIdx fun i g=>if i<k then Fd m s i (acts.getD i 0)else g
theorem UF (m:Map)(s:State)(acts:List Int):Zl m s acts 0=s.Agents:=by
  apply List.ext_getElem?
  intro i
  unfold Zl
  rw [bE]
  cases s.Agents[i]? <;>simp
theorem YB (m:Map)(s:State)(acts:List Int):Zl m s acts s.Agents.length=Av m s acts:=by
  apply List.ext_getElem?
  intro i
  unfold Zl Av
  rw [bE,bE]
  cases h:s.Agents[i]? with
  |none=>rfl
  |some g=>simp [H8 h]
theorem Lk (m:Map)(s:State)(acts:List Int):(Av m s acts).length=s.Agents.length:=by unfold Av;simp
theorem YC {m:Map}{s:State}{acts:List Int}{k:Nat}{g:Agent}(h:s.Agents[k]? =some g):B8 (Zl m s acts k) (k:Int)=some g:=by
  apply B9
  unfold Zl
  rw [bE,h];simp
theorem Te {m:Map}{s:State}{acts:List Int}{k:Nat}{g:Agent}(h:s.Agents[k]? =some g):B8 (Av m s acts) (k:Int)=some (Fd m s k (acts.getD k 0)):=by
  apply B9
  unfold Av
  rw [bE,h];simp
theorem YD {m:Map}{s:State}{acts:List Int}{k:Nat}:Kd (Zl m s acts k) (k:Int) (Fd m s k (acts.getD k 0))=Zl m s acts (k+1):=by
  apply List.ext_getElem?
  intro i
  unfold Kd Zl
  rw [wF,List.getElem?_set,bE,bE,List.length_mapIdx]
  by_cases q:k=i
  ·subst q
   by_cases h:k<s.Agents.length
   ·rw [bQ rfl,bQ h,lH h];simp
   ·rw [bQ rfl,bR h,lJ (by omega)];rfl
  ·rw [bR q]
   have:i<k↔i<k+1:=by omega
   simp [this]
theorem kL (acts:List Int)(i:Nat):(cond (decide ((i:Int)< (acts.length:Int))) ((B8 acts (i:Int)).bind fun v3=>some v3) (some 0))=some (acts.getD i 0):=by
  by_cases h:i<acts.length
  ·rw [K4 h,B9 (lH h),List.getD,lH h];rfl
  ·rw [bK (by omega),List.getD,lJ (by omega)];rfl
theorem UG {m:Map}(K:KitM m){s:State}(S:SizeS s)(w: ∀g∈s.Agents,g.S≤9223372036854775807)(acts:List Int){v2:State}(hv:v2.Agents=s.Agents):Fs m s acts v2=some (Av m s acts):=by
  have hl:=S.agents
  have e:loop (Bg m s acts) (0,s.Agents)=some (Av m s acts):=by
    refine VK (fun i (_:Unit)=>((i:Int),Zl m s acts i)) s.Agents (fun _ _=>True) (fun _ _ _=>()) (fun _=>Av m s acts) (s0:=()) (by rw [UF];rfl) trivial (fun i a _ h _=> ?_) (fun _ _ _ _ _=>trivial) (fun _ _=> ?_)
    ·unfold Bg
     dsimp only
     rw [K4 (H8 h),bO,kL,lB,(gZ K S w i _).1,lB,YC h,lB,YD,I0 (H8 h) (by omega)]
    ·unfold Bg
     dsimp only
     rw [J4,YB];rfl
  unfold Fs
  rw [hv,e];rfl
theorem UH {m:Map}(K:KitM m){s:State}(S:SizeS s)(hs:JC s.In)(acts:List Int){A:List Agent}(hA:A.length=s.Agents.length)(v2:State):Fr m s acts v2 A=some (Bp m s A):=by
  have hl:=S.agents
  have hz:=K.zones2
  have e:loop (Bf m s acts v2 A) (0,[])=some (Bp m s A):=by
    refine dO (fun i l=>((i:Int),l)) s.Agents (Uq m s A) id [] 2 1000000 rfl (by simp;omega) (fun i a _=>wL (AQ _ _ _ _ _) hz) (fun i a l h hb=> ?_) (fun l=> ?_)
    ·have hg:=B9 h
     have hr:=S.routes a (lG h)
     have e:loop (Be m s acts v2 A ((i:Int),l) a) (0,l)=some (l++Uq m s A i a):=by
       refine UD (fun z l=>((z:Int),l)) m.Zones (CX m s A i) id l 1000000 rfl (by omega) (fun z zn l' hz' hb'=> ?_) (fun l'=> ?_)
       ·unfold Be CX
        dsimp only
        rw [K4 (H8 hz'),bO,Rm K.toBearK S rfl rfl rfl hA,lB,I0 (H8 hz') (by omega)]
        cases hh:Ox m s A i z
        ·rfl
        ·obtain ⟨v8,p1,p2⟩:=LZ K S hs (z:=(z:Int)) hg hr
         rw [bW,bP,p1,lB,p2,lB,Bj,bQ (by simp;omega)];rfl
       ·unfold Be
        dsimp only
        rw [J4];rfl
     unfold Bf
     dsimp only
     rw [K4 (H8 h),bO,hg,lB,e,lB,I0 (H8 h) (by omega)]
    ·unfold Bf
     dsimp only
     rw [J4];rfl
  unfold Fr
  rw [e];rfl
def Ds (m:Map)(r:List Int)(x:Int):Int×Bool:=match r.findIdx? (fun y=>x==y)with
  |some i=>((StartsM m r).getD i 0,true)
  |none=>(0,false)
theorem JG {m:Map}{a:Int}{t:List Int}(R:RouteOK m a t){i:Nat}(hi:i< (a::t).length):(StartsM m (a::t))[i]? =some ((StartsM m (a::t)).getD i 0):=by
  rw [List.getD,lH (by rw [R.StartsM,Li];exact hi)];rfl
theorem RD {m:Map}(B:BearM m){s:State}{sc:WorldScene}{i:Int}{g:Agent}(hm:sc.m=m)(hb:sc.before=s)(hg:B8 s.Agents i=some g)(hr:g.Route.length≤1000){a:Int}{t:List Int}(hR:g.Route=a::t)(R:RouteOK m a t)(x:Int):R6 sc i x=some (Ds m g.Route x):=by
  unfold R6 Q6 Ds
  rw [hm,hb,hg,lB,Oa g.Route (fun y=>x==y) (by omega) (fun i y h=>by
   unfold R9
   rw [K4 (H8 h),bO,B9 h,lB]
   cases x==y<;>rfl) (by unfold R9;rw [J4];rfl),lB]
  unfold CP
  cases hf:g.Route.findIdx? (fun y=>x==y)with
  |none=>rfl
  |some k=>
   have hk:=(List.findIdx?_eq_some_iff_getElem.1 hf).1
   dsimp only
   rw [hR]at hk ⊢
   rw [bK (by omega),bP,DW B _ (by rw [← hR];omega),lB,B9 (JG R hk)];rfl
/-- Whether the back's front reaches the front's rear on a lane. -/
def kM (L:Int)(f' b' b:Agent)(fs bs:Int):Bool:=((((decide (D2 (f'.S - fs)≥0))&& (decide (D2 (b'.S - bs)≥0)))&& (decide (D2 (D2 (b.S - b.Len) - bs)≤L)))&& (decide (D2 (D2 (f'.S - f'.Len) - fs)≤L)))&& (decide (D2 (b'.S - bs)≥D2 (D2 (f'.S - f'.Len) - fs)))
def Oo (m:Map)(tick i j:Int)(gi gj gi' gj':Agent)(x:Int):Option Crash:=
  if (Ds m gi.Route x).2=true∧(Ds m gj.Route x).2=true then
   if D2 (gi.S - (Ds m gi.Route x).1)<D2 (gj.S - (Ds m gj.Route x).1)then
    (if kM (Co m x) gj' gi' gi (Ds m gj.Route x).1 (Ds m gi.Route x).1=true then some ⟨tick,i,j,x, -1,[i]⟩else none)
   else (if kM (Co m x) gi' gj' gj (Ds m gi.Route x).1 (Ds m gj.Route x).1=true then some ⟨tick,i,j,x, -1,[j]⟩else none)
  else none
theorem kN {m:Map}(B:BearM m){s v2:State}{acts:List Int}{A:List Agent}{St:List Stay}{x4:List Crash}(hx4:x4.length≤1000000){i j:Int}{gi gj gi' gj':Agent}(hi:B8 s.Agents i=some gi)(hj:B8 s.Agents j=some gj)(hi':B8 A i=some gi')(hj':B8 A j=some gj')(hri:gi.Route.length≤1000)(hrj:gj.Route.length≤1000)
    {a b:Int} {t u:List Int} (hRi:gi.Route=a::t) (hRj:gj.Route=b::u) (Ri:RouteOK m a t) (Rj:RouteOK m b u) {k:Nat} {l:Lane} (h:m.Lanes[k]? =some l):
    Ab m s acts v2 A St x4 (i,j) (k:Int)=some (match (Oo m s.Tick i j gi gj gi' gj' (k:Int)).map fun c=>x4++ [c]with|some e=> .out (.inr e)|none=> .go ((k+1:Nat):Int)):=by
  have hL:=B.lanes
  unfold Ab Oo
  dsimp only
  rw [K4 (H8 h),bO,RD B rfl rfl hi hri hRi Ri,lB,RD B rfl rfl hj hrj hRj Rj,lB,I0 (H8 h) (by omega),hi,hj]
  cases h1:(Ds m gi.Route (k:Int)).2
  ·rw [bR (by simp)];rfl
  cases h2:(Ds m gj.Route (k:Int)).2
  ·rw [bR (by simp)];rfl
  rw [bQ ⟨rfl,rfl⟩]
  simp only [bW,Bool.or_self,bP,lB]
  by_cases q:D2 (gi.S - (Ds m gi.Route (k:Int)).1)<D2 (gj.S - (Ds m gj.Route (k:Int)).1)
  ·rw [bQ q,bJ q]
   simp only [bO,lB,hi,hj,hi',hj',Z3,W9,Ia B]
   show cond (kM _ _ _ _ _ _) _ _=_
   cases kM (Co m (k:Int)) gj' gi' gi (Ds m gj.Route (k:Int)).1 (Ds m gi.Route (k:Int)).1
   ·rfl
   ·rw [bO,Bj,bQ (by simp;omega)];rfl
  ·rw [bR q,bK q]
   simp only [bP,lB,hi,hj,hi',hj',Z3,W9,Ia B]
   show cond (kM _ _ _ _ _ _) _ _=_
   cases kM (Co m (k:Int)) gi' gj' gj (Ds m gi.Route (k:Int)).1 (Ds m gj.Route (k:Int)).1
   ·rfl
   ·rw [bO,Bj,bQ (by simp;omega)];rfl
/-- Two agents in a tick: what is known of them. -/
structure Two (m:Map)(s:State)(A:List Agent)(i j:Int)(gi gj gi' gj':Agent):Prop where
  hi:B8 s.Agents i=some gi
  hj:B8 s.Agents j=some gj
  hi':B8 A i=some gi'
  hj':B8 A j=some gj'
  ti:W1 s i=true
  tj:W1 s j=true
  ri:gi.Route.length≤1000
  rj:gj.Route.length≤1000
  oi: ∃a t,gi.Route=a::t∧RouteOK m a t
  oj: ∃a t,gj.Route=a::t∧RouteOK m a t
theorem JH {α β γ:Type}(g:Nat→α→Option β)(f:β→γ): ∀(l:List α) (k:Nat),H9 (fun i a=>(g i a).map f) k l=(H9 g k l).map f
  | [],_=>rfl
  |a::r,k=>by
   rw [H9,H9]
   cases g k a with
   |none=>exact JH g f r (k+1)
   |some b=>rfl
def EZ (m:Map)(tick i j:Int)(gi gj gi' gj':Agent):List Crash:=(H9 (fun k (_:Lane)=>Oo m tick i j gi gj gi' gj' (k:Int)) 0 m.Lanes).toList
theorem MA (m:Map)(tick i j:Int)(gi gj gi' gj':Agent):(EZ m tick i j gi gj gi' gj').length≤1:=by
  unfold EZ
  cases H9 (fun k (_:Lane)=>Oo m tick i j gi gj gi' gj' (k:Int)) 0 m.Lanes<;>simp
theorem nB {m:Map}(B:BearM m){s v2:State}{acts:List Int}{A:List Agent}{St:List Stay}{x4:List Crash}(hx4:x4.length≤1000000){i j:Int}{gi gj gi' gj':Agent}(T:Two m s A i j gi gj gi' gj'):
    Fp m s acts v2 A St x4 (i,j)=some (x4++EZ m s.Tick i j gi gj gi' gj'):=by
  obtain ⟨a,t,hRi,Ri⟩:=T.oi
  obtain ⟨b,u,hRj,Rj⟩:=T.oj
  unfold Fp EZ
  rw [W3 m.Lanes _ (fun k (_:Lane)=>(Oo m s.Tick i j gi gj gi' gj' (k:Int)).map fun c=>x4++ [c]) (fun k l h=>by rw [kN B hx4 T.hi T.hj T.hi' T.hj' T.ri T.rj hRi hRj Ri Rj h];cases Oo m s.Tick i j gi gj gi' gj' (k:Int)<;>rfl) (by unfold Ab;rw [J4];rfl),JH (fun k (_:Lane)=>Oo m s.Tick i j gi gj gi' gj' (k:Int))]
  cases H9 (fun k (_:Lane)=>Oo m s.Tick i j gi gj gi' gj' (k:Int)) 0 m.Lanes with
  |none=>simp [CO,thenS]
  |some c=>rfl
def Rz (m:Map)(s:State)(A:List Agent)(i j:Int)(gi gj:Agent)(z:Int):Bool:=(Ox m s A i z&&Ox m s A j z)&& (Mr m gi.Route z !=Mr m gj.Route z)
theorem MB {m:Map}(B:BearK m){s:State}(S:SizeS s){sc:WorldScene}{A:List Agent}(hm:sc.m=m)(hb:sc.before=s)(ha:sc.after.Agents=A)(hl:A.length=s.Agents.length){i j:Int}{gi gj:Agent}(hi:B8 s.Agents i=some gi)(hj:B8 s.Agents j=some gj)(hri:gi.Route.length≤1000)(hrj:gj.Route.length≤1000)(z:Int):
    R5 sc i j z=some (Rz m s A i j gi gj z):=by
  unfold R5 Rz
  rw [Rm B S hm hb ha hl,Rm B S hm hb ha hl,hm,hb,lB,hi,hj]
  cases Ox m s A i z
  ·rfl
  ·simp only [bO,lB,bS]
   cases Ox m s A j z
   ·rfl
   ·simp only [bO,lB,DZ B.toBearM (show gi.Route.length≤1000000 by omega),DZ B.toBearM (show gj.Route.length≤1000000 by omega)]
/-- Who is to blame. -/
def hQ (m:Map)(s:State)(i j z:Int):List Int:=
  if (Sa m s i z).Rank< (Sa m s j z).Rank∨(Sa m s i z).Rank=(Sa m s j z).Rank∧(Sa m s i z).Since>(Sa m s j z).Since then [i]
  else if (Sa m s j z).Rank< (Sa m s i z).Rank∨(Sa m s j z).Since>(Sa m s i z).Since then [j]else [i,j]
def JI (m:Map)(s:State)(A:List Agent)(i j:Int)(gi gj:Agent)(z:Nat)(_:Zone):Option Crash:=if Rz m s A i j gi gj z=true then some ⟨s.Tick,i,j, -1,(z:Int),hQ m s i j z⟩else none
def JJ (m:Map)(s:State)(A:List Agent)(i j:Int)(gi gj:Agent):List Crash:=Dy (JI m s A i j gi gj) 0 m.Zones
theorem UI {m:Map}{s:State}{A:List Agent}{i j:Int}{gi gj:Agent}{z:Int}(h:Rz m s A i j gi gj z=true):Ox m s A i z=true∧Ox m s A j z=true:=by
  unfold Rz at h
  simp only [bU]at h
  exact h.1
theorem RE {m:Map}(B:BearK m){s:State}(S:SizeS s){A:List Agent}{sc:WorldScene}(ha:sc.after.In=Bp m s A){i z:Int}(hz:0≤z∧z<m.Zones.length)(h:Ox m s A i z=true):S7 sc i z=some (Sa m s i z):=by
  have h2:=B.zones2
  have hl:=EB m s A
  have hlen:(Bp m s A).length≤1000000:=by
    have:=Nat.mul_le_mul S.agents h2
    omega
  obtain ⟨k,h1,h2⟩:=VU hlen (JF m s A) (Stay.mk i z 0 0)
  have hf:=UE hz h
  unfold S7
  rw [ha,h1,lB,B9 (h2 _ hf)];rfl
theorem kO (m:Map)(s:State)(i j z:Int):((W7 (Sa m s i z).Rank (Sa m s j z).Rank).bind fun v31=>(Z6 (Sa m s j z).Since (Sa m s i z).Since).bind fun v32=>(At [v31,v32]).bind fun v33=>(cond (v33==(-1)) (some [i]) (cond (v33==1) (some [j]) (some [i,j]))))=some (hQ m s i j z):=by
  rw [Qm,lB,Uk,lB,TZ,lB]
  unfold hQ CT
  by_cases a:(Sa m s i z).Rank< (Sa m s j z).Rank
  ·simp [a]
  ·by_cases b:(Sa m s i z).Rank>(Sa m s j z).Rank
   ·have:(Sa m s i z).Rank≠(Sa m s j z).Rank:=by omega
    simp [a,b,this]
   ·have e:(Sa m s i z).Rank=(Sa m s j z).Rank:=by omega
    by_cases c:(Sa m s j z).Since< (Sa m s i z).Since
    ·simp [e,c]
    ·by_cases d:(Sa m s j z).Since>(Sa m s i z).Since
     ·simp [e,c,d]
     ·simp [e,c,d]
theorem YE (m:Map)(s:State)(A:List Agent)(i j:Int)(gi gj:Agent):(JJ m s A i j gi gj).length≤m.Zones.length:=Sv _ _ _
theorem kP {m:Map}(B:BearK m){s v2:State}(S:SizeS s){acts:List Int}{A:List Agent}(hl:A.length=s.Agents.length){y:List Crash}(hy:y.length≤1000001){i j:Int}{gi gj gi' gj':Agent}(T:Two m s A i j gi gj gi' gj'):
    Do m s acts v2 A (Bp m s A) (i,j) y=some (y++JJ m s A i j gi gj):=by
  have h2:=B.zones2
  have e:loop (Aa m s acts v2 A (Bp m s A) (i,j)) (0,y)=some (y++JJ m s A i j gi gj):=by
    refine UD (fun z l=>((z:Int),l)) m.Zones (JI m s A i j gi gj) id y 1000003 rfl (by omega) (fun z zn l hz hb=> ?_) (fun l=> ?_)
    ·unfold Aa JI
     dsimp only
     rw [K4 (H8 hz),bO,MB B S rfl rfl rfl hl T.hi T.hj T.ri T.rj,lB,I0 (H8 hz) (by omega)]
     cases hc:Rz m s A i j gi gj z
     ·rfl
     ·have hh:=UI hc
      have hzr:(0:Int)≤(z:Int)∧(z:Int)<m.Zones.length:=⟨by omega,by have:=H8 hz;omega⟩
      rw [bW,bP,RE B S rfl hzr hh.1,lB,RE B S rfl hzr hh.2,lB]
      have hw:=kO m s i j z
      rw [Qm,lB,Uk,lB,TZ,lB]at hw ⊢
      rw [hw,lB,Bj,bQ (by simp;omega)];rfl
    ·unfold Aa
     dsimp only
     rw [J4];rfl
  unfold Do
  rw [e];rfl
def NW (m:Map)(s:State)(A:List Agent)(i j:Int)(gi gj:Agent):List Int:=Dy (fun z (_:Zone)=>if Rz m s A i j gi gj z=true then some (z:Int)else none) 0 m.Zones
/-- The crashes of two agents. -/
def Xm (m:Map)(s:State)(A:List Agent)(i j:Int):List Crash:=match B8 s.Agents i,B8 s.Agents j,B8 A i,B8 A j with
  |some gi,some gj,some gi',some gj'=>EZ m s.Tick i j gi gj gi' gj'++JJ m s A i j gi gj
  |_,_,_,_=> []
theorem Two.pair {m:Map}{s:State}{A:List Agent}{i j:Int}{gi gj gi' gj':Agent}(T:Two m s A i j gi gj gi' gj'):Xm m s A i j=EZ m s.Tick i j gi gj gi' gj'++JJ m s A i j gi gj:=by
  unfold Xm
  rw [T.hi,T.hj,T.hi',T.hj']
theorem dP {m:Map}{s:State}(O: ∀g∈s.Agents,∃a t,g.Route=a::t∧RouteOK m a t)(S:SizeS s){A:List Agent}(hA:A.length=s.Agents.length){i j:Int}(hi:W1 s i=true)(hj:W1 s j=true): ∃gi gj gi' gj',Two m s A i j gi gj gi' gj':=by
  obtain ⟨gi,a1,a2,a3,a4,_⟩:=Qp hi
  obtain ⟨gj,b1,b2,b3,b4,_⟩:=Qp hj
  obtain ⟨gi',c1,_⟩:=Pl (l:=A) a3 (by omega)
  obtain ⟨gj',d1,_⟩:=Pl (l:=A) b3 (by omega)
  have mi:=lG a2
  have mj:=lG b2
  exact ⟨gi,gj,gi',gj',a1,b1,c1,d1,hi,hj,S.routes gi mi,S.routes gj mj,O gi mi,O gj mj⟩
theorem MC {m:Map}(B:BearK m)(s:State)(A:List Agent)(i j:Int):(Xm m s A i j).length≤3:=by
  have h2:=B.zones2
  unfold Xm
  split
  ·rename_i gi gj gi' gj' _ _ _ _
   have h1:=MA m s.Tick i j gi gj gi' gj'
   have h3:=YE m s A i j gi gj
   rw [lM];omega
  ·simp
/-! ### All pairs -/
def KI (s:State)(i:Nat):Nat→Nat→List (Int×Int)
  |0,_=> []
  |k+1,j=>cond (W1 s i&&W1 s j) (((i:Int),(j:Int))::KI s i k (j+1)) (KI s i k (j+1))
def Qq (s:State)(n:Nat):Nat→Nat→List (Int×Int)
  |0,_=> []
  |k+1,i=>KI s i (n - (i+1)) (i+1)++Qq s n k (i+1)
theorem MD (s:State)(i:Nat): ∀k j,Wu s i k j=some (KI s i k j)
  |0,_=>rfl
  |k+1,j=>by rw [Wu,(CW s i).1,lB,(CW s j).1,lB,MD s i k (j+1)];rfl
theorem ME (s:State)(n:Nat): ∀k i,AG s n k i=some (Qq s n k i)
  |0,_=>rfl
  |k+1,i=>by rw [AG,MD,lB,ME s n k (i+1)];rfl
theorem MF {s:State}(S:SizeS s):DO s=some (Qq s s.Agents.length s.Agents.length 0):=by
  have:=S.agents
  unfold DO
  rw [bQ (by omega),ME]
theorem JK {s:State}{i:Nat}{p:Int×Int}: ∀{k j},p∈KI s i k j→p.1=i∧W1 s i=true∧W1 s p.2=true∧∃j':Nat,p.2=j'∧j≤j'∧j'<j+k
  |0,_,h=>by simp [KI]at h
  |k+1,j,h=>by
   rw [KI]at h
   cases hc:(W1 s i&&W1 s j)
   ·rw [hc,bP]at h
    obtain ⟨h1,h2,h3,j',h4,h5,h6⟩:=JK h
    exact ⟨h1,h2,h3,j',h4,by omega,by omega⟩
   ·rw [hc,bO]at h
    rw [bU]at hc
    rcases lU.1 h with rfl|h
    ·exact ⟨rfl,hc.1,hc.2,j,rfl,by omega,by omega⟩
    ·obtain ⟨h1,h2,h3,j',h4,h5,h6⟩:=JK h
     exact ⟨h1,h2,h3,j',h4,by omega,by omega⟩
theorem Yf {s:State}{n:Nat}{p:Int×Int}: ∀{k i},p∈Qq s n k i→∃a b:Nat,p=((a:Int),(b:Int))∧i≤a∧a<b∧b<n∧W1 s a=true∧W1 s b=true
  |0,_,h=>by simp [Qq]at h
  |k+1,i,h=>by
   rw [Qq]at h
   rcases lT.1 h with h|h
   ·obtain ⟨h1,h2,h3,j',h4,h5,h6⟩:=JK h
    obtain ⟨x,y⟩:=p
    dsimp only at h1 h3 h4
    subst h1 h4
    exact ⟨i,j',rfl,by omega,by omega,by omega,h2,h3⟩
   ·obtain ⟨a,b,h1,h2,h3⟩:=Yf h
    exact ⟨a,b,h1,by omega,h3⟩
theorem RF (s:State)(i:Nat): ∀k j,(KI s i k j).length≤k
  |0,_=>by simp [KI]
  |k+1,j=>by
   have:=RF s i k (j+1)
   rw [KI]
   cases W1 s i&&W1 s j
   ·rw [bP];omega
   ·rw [bO,lL];omega
theorem EC (s:State)(n:Nat): ∀k i,(Qq s n k i).length≤k*n
  |0,_=>by simp [Qq]
  |k+1,i=>by
   have h1:=RF s i (n - (i+1)) (i+1)
   have h2:=EC s n k (i+1)
   rw [Qq,lM,wJ,Nat.one_mul];omega
/-- All crashes of a tick. -/
def Qr (m:Map)(s:State)(A:List Agent):List Crash:=(Qq s s.Agents.length s.Agents.length 0).flatMap fun p=>Xm m s A p.1 p.2
theorem nC {m:Map}(B:BearK m){s v2:State}(S:SizeS s){acts:List Int}{A:List Agent}(hl:A.length=s.Agents.length){x4:List Crash}(hx:x4.length≤1000000){i j:Int}{gi gj gi' gj':Agent}(T:Two m s A i j gi gj gi' gj'):
    Bd m s acts v2 A (Bp m s A) x4 (i,j)=some (.go (x4++Xm m s A i j)):=by
  have h1:=MA m s.Tick i j gi gj gi' gj'
  unfold Bd
  rw [nB B.toBearM hx T,lB,kP B S hl (by rw [lM];omega) T,lB,T.pair,lO]
theorem Zm {m:Map}(B:BearK m){s v2:State}(S:SizeS s)(O: ∀g∈s.Agents,∃a t,g.Route=a::t∧RouteOK m a t){acts:List Int}{A:List Agent}(hl:A.length=s.Agents.length): ∀(L:List (Int×Int)) (x:List Crash),(∀p∈L,W1 s p.1=true∧W1 s p.2=true)→x.length+3*L.length≤1000003→
    loopL (Bd m s acts v2 A (Bp m s A)) (fun x4=>x4) L x=some (x++L.flatMap fun p=>Xm m s A p.1 p.2)
  | [],x,_,_=>by simp [loopL]
  |p::L,x,h,hx=>by
   obtain ⟨i,j⟩:=p
   have hp:=h (i,j) (by simp)
   obtain ⟨gi,gj,gi',gj',T⟩:=dP O S hl hp.1 hp.2
   rw [lL]at hx
   have h3:=MC B s A i j
   rw [loopL,nC B S hl (by omega) T]
   dsimp only
   rw [Zm B S O hl L _ (fun q hq=>h q (by simp [hq])) (by rw [lM];omega),bF,lO]
theorem nD {m:Map}(B:BearK m){s v2:State}(S:SizeS s)(hn:s.Agents.length≤500)(O: ∀g∈s.Agents,∃a t,g.Route=a::t∧RouteOK m a t){acts:List Int}{A:List Agent}(hl:A.length=s.Agents.length):Fq m s acts v2 A (Bp m s A)=some (Qr m s A):=by
  have h1:=EC s s.Agents.length s.Agents.length 0
  have h2:s.Agents.length*s.Agents.length≤500*500:=Nat.mul_le_mul hn hn
  unfold Fq Rx
  rw [lB,MF S,lB,Zm B S O hl _ _ (fun p hp=>by
   obtain ⟨a,b,rfl,_,_,_,h3,h4⟩:=Yf hp
   exact ⟨h3,h4⟩) (by rw [lN];omega),lB,lQ];rfl
/-- A tick. -/
def Mw (m:Map)(s:State)(acts:List Int):State×List Crash×Int:=
  if Oc m s≠0 then (⟨0,[],[]⟩,[],Oc m s)
  else if s.Tick=1099511627776 then (⟨0,[],[]⟩,[],2)
  else (⟨s.Tick+1,Av m s acts,Bp m s (Av m s acts)⟩,Qr m s (Av m s acts),0)
theorem dQ {m:Map}(K:KitM m){s:State}(S:SizeS s)(w: ∀g∈s.Agents,g.S≤9223372036854775807)(acts:List Int):Hh m s acts=some (Mw m s acts):=by
  have c1:=(JA K.toBearM S w).1
  unfold Hh Mw
  rw [c1,lB]
  by_cases q:Oc m s=0
  case neg=>
    rw [bQ q,show (Oc m s !=0)=true by simpa using q];rfl
  rw [bR (by simp [q]),show (Oc m s !=0)=false by simp [q],bP]
  have O:=(Jr K).1 q
  have t1:=O.tick
  by_cases t:s.Tick=1099511627776
  ·rw [bQ t,bJ (by omega)];rfl
  rw [bR t,bK (by omega),bP]
  have hn:s.Agents.length≤500:=by have:=O.num;omega
  have OR: ∀g∈s.Agents,∃a t,g.Route=a::t∧RouteOK m a t:=fun g hg=>by
    obtain ⟨i,hi⟩:=bG hg
    exact (O.agent i g hi).route
  have hs:=XZ O.sorted
  have e1:Fo s=some s:=NT S
  have tk:D2 (s.Tick+1)=s.Tick+1:=E1 (by omega)
  rw [e1,lB,UG K S w acts rfl,lB,UH K S hs acts (Lk m s acts),lB,nD K.toBearK S hn OR (Lk m s acts),tk];rfl
theorem dR (m:Map)(s:State)(A:List Agent)(i j:Int): ∀c∈Xm m s A i j,c.Who.length≤2:=by
  intro c hc
  unfold Xm at hc
  split at hc
  ·rename_i gi gj gi' gj' _ _ _ _
   rcases lT.1 hc with h|h
   ·unfold EZ at h
    rw [Option.mem_toList]at h
    have: ∀(l:List Lane) (k:Nat),∀c,H9 (fun k (_:Lane)=>Oo m s.Tick i j gi gj gi' gj' (k:Int)) k l=some c→c.Who.length≤2:=by
      intro l
      induction l with
      |nil=>intro k c h;cases h
      |cons a r ih=>
       intro k c h
       rw [H9]at h
       split at h
       ·rename_i e he
        cases h
        unfold Oo at he
        split at he
        ·split at he
         ·split at he
          ·cases he;simp
          ·cases he
         ·split at he
          ·cases he;simp
          ·cases he
        ·cases he
       ·exact ih (k+1) c h
    exact this _ _ _ h
   ·unfold JJ at h
    obtain ⟨z,zn,_,h⟩:=(Dc _ _).1 h
    unfold JI at h
    split at h
    ·cases h
     unfold hQ
     dsimp only
     split
     ·simp
     ·split<;>simp
    ·cases h
  ·cases hc
theorem YF {m:Map}(K:KitM m){s:State}(S:SizeS s)(acts:List Int):SizeS (Mw m s acts).1∧(Mw m s acts).2.1.length≤1000000∧∀c∈(Mw m s acts).2.1,c.Who.length≤1000000:=by
  have h0:SizeS ⟨0,[],[]⟩:=⟨by simp,by simp,by simp⟩
  unfold Mw
  split
  ·exact ⟨h0,by simp,by simp⟩
  rename_i q
  split
  ·exact ⟨h0,by simp,by simp⟩
  have O:=(Jr K).1 (Decidable.byContradiction q)
  have hn:=O.num
  have hz:=K.zones2
  have h1:=EB m s (Av m s acts)
  have h2:s.Agents.length*m.Zones.length≤8*2:=Nat.mul_le_mul hn.2 hz
  have h3:=EC s s.Agents.length s.Agents.length 0
  have h4:s.Agents.length*s.Agents.length≤8*8:=Nat.mul_le_mul hn.2 hn.2
  refine ⟨⟨by rw [Lk];omega,by dsimp only;omega,fun a ha=> ?_⟩,?_,fun c hc=> ?_⟩
  ·dsimp only at ha
   obtain ⟨i,hi⟩:=bG ha
   have hil:i<s.Agents.length:=by have:=H8 hi;rw [Lk]at this;exact this
   have hg:s.Agents[i]? =some s.Agents[i]:=lH hil
   have:=Te (m:=m) (acts:=acts) hg
   rw [B9 hi]at this
   rw [lD this]
   unfold Fd
   rw [B9 hg]
   have:=S.routes _ (lG hg)
   dsimp only
   split
   ·exact this
   ·exact this
  ·have: ∀l:List (Int×Int),(l.flatMap fun p=>Xm m s (Av m s acts) p.1 p.2).length≤3*l.length:=by
     intro l
     induction l with
     |nil=>simp
     |cons p l ih=>have:=MC K.toBearK s (Av m s acts) p.1 p.2;rw [bF,lM,lL];omega
   have:=this (Qq s s.Agents.length s.Agents.length 0)
   show (Qr m s (Av m s acts)).length≤_
   unfold Qr
   omega
  ·obtain ⟨p,_,h⟩:=List.mem_flatMap.1 hc
   have:=dR m s _ _ _ c h
   omega
def Xn (m:Map)(g:Agent)(i:Nat)(st:Int):Option Span:=
  if max 0 (D2 (D2 (g.S - g.Len) - st))≤min (D2 (g.S - st)) (Co m (g.Route.getD i 0))then some ⟨g.Route.getD i 0,max 0 (D2 (D2 (g.S - g.Len) - st)),min (D2 (g.S - st)) (Co m (g.Route.getD i 0))⟩else none
/-- The spans of lanes that an agent covers. -/
def Dz (m:Map)(g:Agent):List Span:=if Zk g=true then Dy (Xn m g) 0 (StartsM m g.Route)else []
theorem JL {m:Map}(r:List Int):(StartsM m r).length≤r.length:=by
  unfold StartsM Bh
  split
  ·dsimp only;rw [Li];exact wH _
  ·simp
theorem VV {m:Map}(B:BearM m){g:Agent}(hr:g.Route.length≤1000):Hg m g=some (Dz m g)∧Ua m g=some (Dz m g):=by
  have s1:Kv g=some (Zk g):=rfl
  have s2:Qc g=some (Zk g):=rfl
  have hsl:=JL (m:=m) g.Route
  have hrt: ∀(i:Nat) st,(StartsM m g.Route)[i]? =some st→B8 g.Route (i:Int)=some (g.Route.getD i 0):=fun i st h=>by
    have:=H8 h
    apply B9
    rw [List.getD,lH (by omega)];rfl
  have e1:loop (Bc m g (StartsM m g.Route)) ([],0)=some (Dy (Xn m g) 0 (StartsM m g.Route)):=by
    refine IK (StartsM m g.Route) (Xn m g) id (fun i st l h hl=> ?_) (fun l=> ?_)
    ·have hi:=H8 h
     unfold Bc Xn
     dsimp only
     rw [K4 hi,bO,B9 h,lB,hrt i st h,I0 hi (by omega)]
     simp only [lB,Z3,W9,Gj,Db,Ia B,Kn,Cf]
     rw [Int.max_comm 0]
     by_cases q:max (D2 (D2 (g.S - g.Len) - st)) 0≤min (D2 (g.S - st)) (Co m (g.Route.getD i 0))
     ·rw [bQ q,bK (by omega),bX,bO,Bj,bQ (by simp;omega)];rfl
     ·rw [bR q,bJ (by omega)];rfl
    ·unfold Bc
     dsimp only
     rw [J4];rfl
  have e2:loop (Np m g (StartsM m g.Route)) ([],0)=some (Dy (Xn m g) 0 (StartsM m g.Route)):=by
    refine IK (StartsM m g.Route) (Xn m g) id (fun i st l h hl=> ?_) (fun l=> ?_)
    ·have hi:=H8 h
     unfold Np Xn
     dsimp only
     rw [K4 hi,bO,B9 h,lB,lB,hrt i st h,I0 hi (by omega)]
     simp only [lB,Om B,Kn,Cf]
     by_cases q:max 0 (D2 (D2 (g.S - g.Len) - st))≤min (D2 (g.S - st)) (Co m (g.Route.getD i 0))
     ·rw [bQ q,bJ q,bO,Bj,bQ (by simp;omega)];rfl
     ·rw [bR q,bK q];rfl
    ·unfold Np
     dsimp only
     rw [J4];rfl
  unfold Hg Ua Dz
  rw [s1,s2,lB,lB]
  cases hs:Zk g
  ·exact ⟨rfl,rfl⟩
  ·simp only [bW,bP,if_true]
   rw [DW B _ (by omega),Un B _ (by omega),lB,lB,e1,e2]
   exact ⟨rfl,rfl⟩
theorem RG (m:Map)(g:Agent):(Dz m g).length≤g.Route.length:=by
  unfold Dz
  split
  ·exact wL (Sv _ _ _) (JL _)
  ·simp
theorem VW {m:Map}{g:Agent}{x:Span}(h:x∈Dz m g):x.From≤x.To:=by
  unfold Dz at h
  split at h
  ·obtain ⟨i,st,_,h⟩:=(Dc _ _).1 h
   unfold Xn at h
   split at h
   ·cases h;assumption
   ·cases h
  ·cases h
def Tf (x y:Span):Bool:=((x.Lane_==y.Lane_)&&decide (x.From≤y.To))&&decide (y.From≤x.To)
def Xo (m:Map)(g g':Agent):Bool:=(Dz m g).any fun x=>(Dz m g').any fun y=>Tf x y
theorem RH {m:Map}(B:BearM m){g g':Agent}(hr:g.Route.length≤1000)(hr':g'.Route.length≤1000):Bo m g g'=some (Xo m g g')∧Xb m g g'=some (Xo m g g'):=by
  obtain ⟨b1,b2⟩:=VV B hr
  obtain ⟨c1,c2⟩:=VV B hr'
  have l1:=RG m g
  have l2:=RG m g'
  constructor
  ·have inner: ∀x∈Dz m g,E6 (Dz m g') x=some ((Dz m g').any fun y=>Tf x y):=by
     intro x hx
     unfold E6 I3
     refine Jp _ (fun y=>Tf x y) _ (by omega) (fun i y hy=> ?_) (by unfold K5;rw [J4];rfl)
     have o1:=VW hx
     have o2:=VW (lG hy)
     unfold K5 Fa
     rw [K4 (H8 hy),bO,B9 hy,lB]
     simp only [Gj,Db,Kn,Cf]
     unfold Tf
     by_cases e:x.Lane_=y.Lane_
     ·rw [e]
      simp only [beq_self_eq_true,bO,lB,bS]
      by_cases q:x.From≤y.To∧y.From≤x.To
      ·rw [bJ q.1,bJ q.2,bK (by omega)];rfl
      ·rw [show (decide (x.From≤y.To)&&decide (y.From≤x.To))=false by rw [bZ];simpa using q,bJ (by omega)];rfl
     ·rw [show (x.Lane_==y.Lane_)=false by simpa using e];rfl
   have outer:F4 (Dz m g) (Dz m g')=some (Xo m g g'):=by
     unfold F4 J2 Xo
     refine Jp _ (fun x=>(Dz m g').any fun y=>Tf x y) _ (by omega) (fun i x hx=> ?_) (by unfold F3;rw [J4];rfl)
     unfold F3 X6
     rw [K4 (H8 hx),bO,B9 hx,lB,inner x (lG hx)]
     simp only [lB]
     cases (Dz m g').any fun y=>Tf x y<;>rfl
   unfold Bo
   rw [c1,lB,b1,lB,outer];rfl
  ·have inner: ∀(i:Nat) x,(Dz m g)[i]? =some x→loop (Il (Dz m g) (Dz m g') (i:Int)) 0=some (if (Dz m g').any (fun y=>Tf x y)then .inr true else .inl ()):=by
     intro i x hx
     refine IL (Dz m g') (fun y=>Tf x y) true (fun j y hy=> ?_) (by unfold Il;rw [J4];rfl)
     unfold Il Tf
     rw [K4 (H8 hy),bO,B9 hx,lB,B9 hy,lB,I0 (H8 hy) (by omega)]
     cases e:(x.Lane_==y.Lane_)
     ·rfl
     ·simp only [bO,lB,bS]
      cases e2:decide (x.From≤y.To)
      ·rfl
      ·simp only [bO,lB,bS]
       cases decide (y.From≤x.To)<;>rfl
   have outer:loop (Im (Dz m g) (Dz m g')) 0=some (if (Dz m g).any (fun x=>(Dz m g').any fun y=>Tf x y)then .inr true else .inl ()):=by
     refine IL (Dz m g) (fun x=>(Dz m g').any fun y=>Tf x y) true (fun i x hx=> ?_) (by unfold Im;rw [J4];rfl)
     unfold Im
     rw [K4 (H8 hx),bO,inner i x hx,I0 (H8 hx) (by omega)]
     cases (Dz m g').any fun y=>Tf x y<;>rfl
   unfold Xb Xo
   rw [b2,lB,c2,lB,outer]
   cases (Dz m g).any fun x=>(Dz m g').any fun y=>Tf x y<;>rfl
/-- Two agents that may not begin together. -/
def YG (m:Map)(s:State)(A:List Agent)(i j:Int):Bool:=match B8 s.Agents i,B8 s.Agents j with
  |some gi,some gj=>Xo m gi gj||decide (0< (NW m s A i j gi gj).length)
  |_,_=>false
theorem JM {α β:Type}(c:Nat→Bool)(v:β): ∀(l:List α) (k:Nat),H9 (fun i _=>if c i=true then some v else none) k l=if 0< (Dy (fun i _=>if c i=true then some (i:Int)else none) k l).length then some v else none
  | [],_=>rfl
  |a::r,k=>by
   rw [H9,Dy]
   by_cases h:c k=true
   ·rw [bQ h,bQ h];simp
   ·rw [bR h,bR h];exact JM c v r (k+1)
theorem nE {m:Map}(B:BearK m){s:State}(S:SizeS s){sc:WorldScene}{A:List Agent}(hm:sc.m=m)(hb:sc.before=s)(ha:sc.after.Agents=A)(hl:A.length=s.Agents.length){i j:Int}{gi gj gi' gj':Agent}(T:Two m s A i j gi gj gi' gj'):
    loop (Cm m sc (i,j)) 0=some (CO (if 0< (NW m s A i j gi gj).length then some ((⟨0,[],[]⟩:State),(12:Int))else none)):=by
  have h2:=B.zones2
  rw [W3 m.Zones _ (fun z (_:Zone)=>if Rz m s A i j gi gj (z:Int)=true then some ((⟨0,[],[]⟩:State),(12:Int))else none) (fun z zn hz=>by
   unfold Cm
   dsimp only
   rw [K4 (H8 hz),bO,MB B S hm hb ha hl T.hi T.hj T.ri T.rj,lB,I0 (H8 hz) (by omega)]
   cases Rz m s A i j gi gj (z:Int)<;>rfl) (by unfold Cm;rw [J4];rfl),JM (fun z=>Rz m s A i j gi gj (z:Int))]
  rfl
theorem MG {m:Map}(B:BearK m){s:State}(S:SizeS s)(O: ∀g∈s.Agents,∃a t,g.Route=a::t∧RouteOK m a t){sc:WorldScene}(hm:sc.m=m)(hb:sc.before=s)(ha:sc.after.Agents=s.Agents): ∀(L:List (Int×Int)),(∀p∈L,W1 s p.1=true∧W1 s p.2=true)→
    loopL (Fc m s.Agents sc) (fun _=> .inl ()) L ()=some (if L.any (fun p=>YG m s s.Agents p.1 p.2)=true then .inr ((⟨0,[],[]⟩:State),(12:Int))else .inl ())
  | [],_=>rfl
  |p::L,h=>by
   obtain ⟨i,j⟩:=p
   have hp:=h (i,j) (by simp)
   obtain ⟨gi,gj,gi',gj',T⟩:=dP O S rfl hp.1 hp.2
   have hbad:YG m s s.Agents i j=(Xo m gi gj||decide (0< (NW m s s.Agents i j gi gj).length)):=by unfold YG;rw [T.hi,T.hj]
   rw [loopL,bH,hbad]
   unfold Fc
   rw [T.hi,T.hj,lB,lB,(RH B.toBearM T.ri T.rj).1,lB]
   cases Xo m gi gj
   ·rw [bP,nE B S hm hb ha rfl T]
    by_cases q:0< (NW m s s.Agents i j gi gj).length
    ·rw [bQ q,bJ q];rfl
    ·rw [bR q,bK q]
     exact MG B S O hm hb ha L fun q hq=>h q (by simp [hq])
   ·rfl
theorem UJ {m:Map}(K:KitM m){s a:State}(S:SizeS s)(hs:JC s.In)(ha:a.Agents.length=s.Agents.length)(acts:List Int)(cs:List Crash):T7 ⟨m,s,a,acts,cs⟩=some ⟨m,s,⟨a.Tick,a.Agents,Bp m s a.Agents⟩,acts,cs⟩:=by
  have hl:=S.agents
  have hz:=K.zones2
  unfold T7
  refine dO (fun i l=>((i:Int),l)) s.Agents (Uq m s a.Agents) (fun l=>(⟨m,s,⟨a.Tick,a.Agents,l⟩,acts,cs⟩:WorldScene)) [] 2 1000000 rfl (by simp;omega) (fun i a _=>wL (AQ _ _ _ _ _) hz) (fun i g l h hb=> ?_) (fun l=> ?_)
  ·have hg:=B9 h
   have hr:=S.routes g (lG h)
   have e:loop (O4 ⟨m,s,a,acts,cs⟩ ((i:Int),l) g) (0,l)=some (l++Uq m s a.Agents i g):=by
     refine UD (fun z l=>((z:Int),l)) m.Zones (CX m s a.Agents i) id l 1000000 rfl (by omega) (fun z zn l' hz' hb'=> ?_) (fun l'=> ?_)
     ·unfold O4 CX
      dsimp only
      rw [K4 (H8 hz'),bO,Rm K.toBearK S rfl rfl rfl ha,lB,I0 (H8 hz') (by omega)]
      cases hh:Ox m s a.Agents i z
      ·rfl
      ·obtain ⟨v8,p1,p2⟩:=LZ K S hs (z:=(z:Int)) hg hr
       rw [bW,bP,p1,lB,p2,lB,Bj,bQ (by simp;omega)];rfl
     ·unfold O4
      dsimp only
      rw [J4];rfl
   unfold Q7
   dsimp only
   rw [K4 (H8 h),bO,hg,lB,e,lB,I0 (H8 h) (by omega)]
  ·unfold Q7
   dsimp only
   rw [J4];rfl
abbrev GG:State:=⟨0,[],[]⟩
/-- The first state. -/
def Kb (m:Map)(A:List Agent):State×Int:=
  if Oc m ⟨0,A,[]⟩≠0 then (GG,Oc m ⟨0,A,[]⟩)
  else if A.any (fun g=>g.Gone)=true then (GG,10)
  else if (Qq ⟨0,A,[]⟩ A.length A.length 0).any (fun p=>YG m ⟨0,A,[]⟩ A p.1 p.2)=true then (GG,12)
  else (⟨0,A,Bp m ⟨0,A,[]⟩ A⟩,0)
theorem iA {m:Map}(K:KitM m){A:List Agent}(S:SizeS ⟨0,A,[]⟩)(w: ∀g∈A,g.S≤9223372036854775807):Jl m A=some (Kb m A):=by
  have c1:=(JA K.toBearM S w).1
  have hl:A.length≤1000:=S.agents
  unfold Jl Kb
  rw [NT S,lB,c1,lB]
  by_cases q:Oc m ⟨0,A,[]⟩=0
  case neg=>
    rw [bQ q,show (Oc m ⟨0,A,[]⟩ !=0)=true by simpa using q];rfl
  rw [bR (by simp [q]),show (Oc m ⟨0,A,[]⟩ !=0)=false by simp [q],bP]
  have O:=(Jr K).1 q
  have OR: ∀g∈A,∃a t,g.Route=a::t∧RouteOK m a t:=fun g hg=>by
    obtain ⟨i,hi⟩:=bG hg
    exact (O.agent i g hi).route
  have g1:H6 A=some (A.any fun g=>g.Gone):=by
    unfold H6 K0
    refine Jp A (fun g=>g.Gone) _ (by omega) (fun i x hx=> ?_) (by unfold L7;rw [J4];rfl)
    unfold L7 Rb
    rw [K4 (H8 hx),bO,B9 hx,lB,lB]
    cases x.Gone<;>rfl
  rw [g1]
  cases hG:A.any (fun g=>g.Gone)
  case true=>rfl
  have h3:=UJ K (a:=⟨0,A,[]⟩) S List.Pairwise.nil rfl [] []
  have h4:=MG K.toBearK S OR (sc:=⟨m,⟨0,A,[]⟩,⟨0,A,Bp m ⟨0,A,[]⟩ A⟩,[],[]⟩) rfl rfl rfl (Qq ⟨0,A,[]⟩ A.length A.length 0) (fun p hp=>by
    obtain ⟨a,b,rfl,_,_,_,h3,h4⟩:=Yf hp
    exact ⟨h3,h4⟩)
  have h5:=MF S
  dsimp only at h3 h4 h5
  rw [bR (by simp),lB,bP,NT S,lB,h3,lB]
  dsimp only
  unfold Ty
  rw [lB,h5,lB,h4]
  cases (Qq ⟨0,A,[]⟩ A.length A.length 0).any (fun p=>YG m ⟨0,A,[]⟩ A p.1 p.2)<;>rfl
theorem dS {m:Map}(K:KitM m){A:List Agent}(S:SizeS ⟨0,A,[]⟩):SizeS (Kb m A).1:=by
  have h0:SizeS GG:=⟨by simp,by simp,by simp⟩
  unfold Kb
  split
  ·exact h0
  split
  ·exact h0
  split
  ·exact h0
  have hl:A.length≤1000:=S.agents
  have h1:=EB m ⟨0,A,[]⟩ A
  have h2:A.length*m.Zones.length≤1000*2:=Nat.mul_le_mul hl K.zones2
  exact ⟨hl,by dsimp only at h1 ⊢;omega,S.routes⟩
theorem YH {m:Map}(V:ValR m){a b:Int}(ha:0≤a)(hb:b∈nextOf m a.toNat):Ah m b=Ah m a:=by
  unfold nextOf at hb
  cases h:m.Lanes[a.toNat]? with
  |none=>rw [h]at hb;cases hb
  |some l=>
   rw [h]at hb
   have hb:b∈l.Next:=hb
   have h1:=(firstE_none.1 V.nextE) a.toNat l h
   rw [wK]at h1
   unfold nextE at h1
   obtain ⟨j,hj⟩:=bG hb
   have h2:=(firstE_none.1 h1) j b hj
   have hk:=V.next h hb
   have hn:m.Lanes[b.toNat]? =some m.Lanes[b.toNat]:=lH (by omega)
   unfold Xg at h2
   rw [hn]at h2
   dsimp only at h2
   split at h2
   ·cases h2
   ·rename_i q
    unfold Ah
    rw [hn,h]
    exact Decidable.not_not.1 q
theorem JN {m:Map}(V:ValR m): ∀(t:List Int) (a:Int),0≤a→Ka m a t=true→∀x∈a::t,Ah m x=Ah m a
  | [],a,_,_,x,hx=>by simp at hx;rw [hx]
  |b::t,a,ha,h,x,hx=>by
   rw [Ka,bU]at h
   have hb:b∈nextOf m a.toNat:=by simpa using h.1
   have hk:=V.nextOf hb
   rcases lU.1 hx with rfl|hx
   ·rfl
   ·rw [JN V t b (by omega) h.2 x hx,YH V ha hb]
/-- Where an agent is does not matter to how fast it may go. -/
theorem Yg {m:Map}{a:Int}{t:List Int}(R:RouteOK m a t){g:Agent}(hg:g.Route=a::t)(h0:0≤g.S):Fy m g=T6 (Ah m a):=by
  obtain ⟨x,h1,h2,h3,_⟩:=DX R hg h0
  unfold Fy
  rw [h3]
  dsimp only
  rw [JN R.val t a R.first.1 R.chain x (lG h2)]
theorem RI {m:Map}(g:Agent)(tick act:Int):0≤Gn m g tick act∧Gn m g tick act≤(Fy m g).1:=by
  have hs: ∀x,0≤Ai g (Fy m g).1 x∧Ai g (Fy m g).1 x≤(Fy m g).1:=fun x=>by
    have:=Ye (Ah m (Cx m g).1)
    unfold Ai Fy
    omega
  unfold Gn
  dsimp only
  split
  ·exact hs _
  ·exact hs _
theorem dU {m:Map}(K:KitM m){s:State}(O:StateOK m s)(i:Nat){g:Agent}(hg:s.Agents[i]? =some g)(act:Int)(s':State)(ht:s'.Tick=s.Tick+1):AgentOK m s' (i:Int) (Fd m s i act):=by
  have A:=O.agent i g hg
  have hc:Oc m s=0:=(Jr K).2 O
  unfold Fd
  rw [B9 hg]
  dsimp only
  by_cases th:W1 s (i:Int)=true
  ·rw [bQ ⟨th,hc⟩]
   obtain ⟨g1,h1,_,_,_,h5,h6⟩:=Qp th
   rw [B9 hg]at h1
   obtain rfl:=lD h1
   obtain ⟨a,t,hR,R⟩:=A.route
   have hv:=RI (m:=m) g s.Tick act
   have ht2:=Ye (Ah m (Cx m g).1)
   have ht3:(Fy m g).1≤2000:=ht2.2.1
   have hL:=Mn R
   rw [← hR]at hL
   have hgone:D2 (g.S - g.Len)≤LongM m g.Route:=by
     have:=A.gone
     rw [h5]at this
     unfold Tc at this
     exact Int.not_lt.1 (of_decide_eq_false this.symm)
   have hS:=A.S
   have hl:=A.len
   rw [E1 (by omega)]at hgone
   have hw:D2 (g.S+Gn m g s.Tick act)=g.S+Gn m g s.Tick act:=E1 (by omega)
   have e1:=Yg R hR hS.1
   have e2:Fy m (EX m g s.Tick act)=T6 (Ah m a):=Yg R hR (by show 0≤D2 _;rw [hw];omega)
   refine ⟨⟨a,t,hR,R⟩,A.len,A.begin,?_,?_,rfl,?_,A.first⟩
   ·show 0≤D2 _∧D2 _≤_
    rw [hw]
    show _∧g.S+Gn m g s.Tick act≤LongM m g.Route+g.Len+2000
    omega
   ·rw [e2,← e1];exact hv
   ·rintro ⟨q,_⟩
    have:g.Begin>s'.Tick:=q
    omega
  ·rw [bR fun h=>th h.1]
   refine ⟨A.route,A.len,A.begin,A.S,A.V,A.gone,?_,A.first⟩
   rintro ⟨q,q2⟩
   exact A.late ⟨by omega,q2⟩
theorem iB {m:Map}(V:ValR m)(r:List Int)(z tick:Int):0≤JB m r z tick∧JB m r z tick≤100:=by
  unfold JB
  split
  ·cases hz:m.Zones[z.toNat]? with
   |none=>simp
   |some zn=>
    dsimp only
    split
    ·split<;>simp
    ·have Z:=V.zoneOK (lG hz)
     unfold Lh
     cases hf:zn.Parts.find? (fun p=>p.Lane_==Mr m r z)with
     |none=>simp
     |some p=>have:=Z.part p (l7 hf);dsimp only;omega
  ·simp
theorem kQ {m:Map}(K:KitM m){s:State}(O:StateOK m s)(i z:Int):0≤(Sa m s i z).Since∧(Sa m s i z).Since≤s.Tick∧0≤(Sa m s i z).Rank∧(Sa m s i z).Rank≤100:=by
  unfold Sa
  cases hf:s.In.find? (Up i z)with
  |some x=>
   have:=O.rank x (l7 hf)
   unfold Qv at this
   simp only [wA,wC]at this
   dsimp only
   omega
  |none=>
   have:=O.tick
   dsimp only
   cases B8 s.Agents i with
   |none=>dsimp only;omega
   |some g=>have:=iB K.val g.Route z s.Tick;dsimp only;omega
theorem dV {m:Map}(K:KitM m){s s':State}(O:StateOK m s)(A:List Agent)(hn:s'.Agents.length=s.Agents.length)(ht:s.Tick≤s'.Tick)(hI:s'.In=Bp m s A):
    (∀(i:Nat) x,s'.In[i]? =some x→Vb m s' x=false)∧(∀(i:Nat) x y,s'.In[i]? =some x→s'.In[i+1]? =some y→Fv x y=true)∧(∀x∈s'.In,Qv s' x=false):=by
  rw [hI]
  refine ⟨fun i x hx=> ?_,fun i x y hx hy=> ?_,fun x hx=> ?_⟩
  ·obtain ⟨a,z,h1,h2,_,rfl⟩:=stays_mem.1 (lG hx)
   have k:=GF m s a z
   unfold Vb
   rw [k.1,k.2]
   simp only [wA,wC]
   omega
  ·have hs:=JF m s A
   have h1:=H8 hy
   have:=bD.1 hs i (i+1) (by omega) h1 (by omega)
   rw [lH (by omega)]at hx hy
   rw [lD hx,lD hy]at this
   exact this
  ·obtain ⟨a,z,h1,h2,_,rfl⟩:=stays_mem.1 hx
   have:=kQ K O a z
   unfold Qv
   simp only [wA,wC]
   omega
/-- A tick gives a state that stands. -/
theorem iC {m:Map}(K:KitM m){s:State}(O:StateOK m s)(ht:s.Tick<1099511627776)(acts:List Int):(Mw m s acts).2.2=0∧StateOK m (Mw m s acts).1∧(Mw m s acts).1=⟨s.Tick+1,Av m s acts,Bp m s (Av m s acts)⟩∧(Mw m s acts).2.1=Qr m s (Av m s acts):=by
  have hc:Oc m s=0:=(Jr K).2 O
  have e:Mw m s acts=(⟨s.Tick+1,Av m s acts,Bp m s (Av m s acts)⟩,Qr m s (Av m s acts),0):=by
    unfold Mw
    rw [bR (by simp [hc]),bR (by omega)]
  have t:=O.tick
  have n:=O.num
  rw [e]
  refine ⟨rfl,?_,rfl,rfl⟩
  obtain ⟨i1,i2,i3⟩:=dV K (s':=⟨s.Tick+1,Av m s acts,Bp m s (Av m s acts)⟩) O (Av m s acts) (Lk m s acts) (by dsimp only;omega) rfl
  refine ⟨by dsimp only;omega,by dsimp only;rw [Lk];exact n,fun i g' hg'=> ?_,i1,i2,i3⟩
  dsimp only at hg'
  have hi:=H8 hg'
  rw [Lk]at hi
  have hg:s.Agents[i]? =some s.Agents[i]:=lH hi
  have h1:=Te (m:=m) (acts:=acts) hg
  rw [B9 hg']at h1
  rw [lD h1]
  exact dU K O i hg _ _ rfl
theorem ED {m:Map}{a:Int}{t:List Int}(R:RouteOK m a t):(a::t).length≤8:=by
  have:=R.most
  rw [lL];omega
theorem EE {m:Map}(K:KitM m)(n:Int): ∃a t,Ib m n=some (a::t)∧RouteOK m a t:=by
  obtain ⟨a,t,h1,h2,h3⟩:=NR K.toBearM K.val n
  exact ⟨a,t,h1,dC K.val h2 h3⟩
theorem NX {m:Map}(K:KitM m)(n:Int): ∃a t,Cr m n=some (a::t)∧RouteOK m a t:=by
  have step: ∀x:Int,0≤x→x<4→∃a t,RouteOK m a t∧(Y0 m n x=some (.out (.inr (a::t)))∨Y0 m n x=some (.go (x+1))):=by
    intro x h0 h1
    obtain ⟨a,t,e,R⟩:=EE K (D2 (n % 1048576+x))
    obtain ⟨l,hl⟩: ∃l,m.Lanes[a.toNat]? =some l:=⟨_,lH (by have:=R.first;omega)⟩
    have hg:=B9 hl
    rw [wG R.first.1]at hg
    refine ⟨a,t,R,?_⟩
    unfold Y0
    rw [bJ h1,bO,Ql (by omega) (by omega),lB,e,lB,bJ (show (((a::t).length:Nat):Int)>0 by rw [lL];omega),bO,show B8 (a::t) 0=some a from rfl,lB,bO,hg,lB,E1 (by omega)]
    cases l.Kind==1
    ·exact .inr rfl
    ·exact .inl rfl
  have key: ∀(k:Nat) (x:Int),0≤x→x+k=4→∃a t,RouteOK m a t∧thenS (loop (Y0 m n) x) (fun _=>(Ib m 0).bind fun v5=>some v5) (fun r=>some r)=some (a::t):=by
    intro k
    induction k with
    |zero=>
     intro x h0 hx
     obtain ⟨a,t,e,R⟩:=EE K 0
     refine ⟨a,t,R,?_⟩
     rw [C5 (t:= .inl ()) (by unfold Y0;rw [bK (by omega)];rfl)]
     show (Ib m 0).bind _=_
     rw [e];rfl
    |succ k ih=>
     intro x h0 hx
     obtain ⟨a,t,R,h|h⟩:=step x h0 (by omega)
     ·refine ⟨a,t,R,?_⟩
      rw [C5 h];rfl
     ·obtain ⟨a,t,R,e⟩:=ih (x+1) (by omega) (by omega)
      refine ⟨a,t,R,?_⟩
      rw [K3 h];exact e
  obtain ⟨a,t,R,e⟩:=key 4 0 (by omega) (by omega)
  exact ⟨a,t,e,R⟩
/-- What the kit makes of an actor. -/
structure KAgent (m:Map)(first:Bool)(g:Agent):Prop where
  route: ∃a t,g.Route=a::t∧RouteOK m a t
  len:300≤g.Len∧g.Len≤5000
  begin:0≤g.Begin∧g.Begin≤40
  S:0≤g.S∧g.S≤LongM m g.Route
  V:0≤g.V∧g.V≤(Fy m g).1
  gone:g.Gone=false
  late:g.Begin>0→g.S=0
  first:first=true→g.Begin=0∧g.Obey=false
theorem MH {m:Map}(K:KitM m)(p:KitActor)(first:Bool): ∃g,Pi m p first=some g∧KAgent m first g∧(p.Len=0→g.Len=300)∧(first=true→Cr m p.R=some g.Route):=by
  obtain ⟨a1,t1,e1,R1⟩:=EE K p.R
  obtain ⟨a2,t2,e2,R2⟩:=NX K p.R
  have hy: ∃a t o,(cond first ((Cr m p.R).bind fun v3=>some (v3,false)) (some (a1::t1,(!p.Disobeys))))=some (a::t,o)∧RouteOK m a t∧(first=true→o=false)∧(first=true→Cr m p.R=some (a::t)):=by
    cases first
    ·exact ⟨a1,t1,_,rfl,R1,nofun,nofun⟩
    ·rw [e2];exact ⟨a2,t2,_,rfl,R2,fun _=>rfl,fun _=>rfl⟩
  obtain ⟨a,t,o,e3,R,ho,hrr⟩:=hy
  obtain ⟨l,hl⟩: ∃l,m.Lanes[a.toNat]? =some l:=⟨_,lH (by have:=R.first;omega)⟩
  have hg:=B9 hl
  rw [wG R.first.1]at hg
  have hk:Ah m a=l.Kind:=by unfold Ah;rw [hl];rfl
  have hT:=Ye (Ah m a)
  have hL:=Mn R
  have hr:=ED R
  have m1: ∀n:Int,0≤n % ((T6 (Ah m a)).1+1)∧n % ((T6 (Ah m a)).1+1)≤(T6 (Ah m a)).1:=fun n=>by
    have h1:=wQ n (show (T6 (Ah m a)).1+1≠0 by omega)
    have h2:=wR n (show 0< (T6 (Ah m a)).1+1 by omega)
    omega
  have m2: ∀n:Int,0≤n % (LongM m (a::t)+1)∧n % (LongM m (a::t)+1)≤LongM m (a::t):=fun n=>by
    have h1:=wQ n (show LongM m (a::t)+1≠0 by omega)
    have h2:=wR n (show 0<LongM m (a::t)+1 by omega)
    omega
  have len: ∃L,(cond (decide ((T6 (Ah m a)).1<1000)) (some 300) (some (D2 (300+p.Len % 4700))))=some L∧(300≤L∧L≤5000)∧(p.Len=0→L=300):=by
    cases decide ((T6 (Ah m a)).1<1000)
    ·exact ⟨_,rfl,by rw [E1 (by omega)];omega,fun h=>by rw [h];rfl⟩
    ·exact ⟨_,rfl,by omega,fun _=>rfl⟩
  obtain ⟨L,eL,bL,bL0⟩:=len
  have hv:=m1 p.V
  have hs:=m2 p.S
  have fin: ∀S B:Int,0≤S→S≤LongM m (a::t)→0≤B→B≤40→(B>0→S=0)→(first=true→B=0)→KAgent m first ⟨a::t,S,p.V % ((T6 (Ah m a)).1+1),L,B,o,false⟩∧(p.Len=0→L=300)∧(first=true→Cr m p.R=some (a::t)):=by
    intro S B h1 h2 h3 h4 h5 h6
    refine ⟨?_,bL0,hrr⟩
    refine ⟨⟨a,t,rfl,R⟩,bL,⟨h3,h4⟩,⟨h1,h2⟩,?_,rfl,h5,fun h=>⟨h6 h,ho h⟩⟩
    rw [Yg R rfl h1]
    exact hv
  unfold Pi
  rw [e1,lB,Ui (by omega) (by omega),lB,e3,lB]
  dsimp only
  rw [show B8 (a::t) 0=some a from rfl,lB,hg,lB,Nk,lB,← hk,E1 (by omega),Ui (by omega) (by omega),lB,eL,lB,IV K.toBearM _ (by omega),lB,E1 (by omega),Ui (by omega) (by omega),lB]
  cases hf:first
  ·rw [bX,bO,Ql (by omega) (by omega),lB,bS]
   by_cases q:p.Begin % 4=3
   ·rw [show (p.Begin % 4==3)=true by simpa using q,bO,Ql (by omega) (by omega),lB]
    rw [hf]at fin
    exact ⟨_,rfl,fin 0 (p.Begin % 40) (by omega) (by omega) (by omega) (by omega) (fun _=>rfl) nofun⟩
   ·rw [show (p.Begin % 4==3)=false by simpa using q,bP]
    rw [hf]at fin
    exact ⟨_,rfl,fin _ 0 hs.1 hs.2 (by omega) (by omega) (fun h=>absurd h (by omega)) nofun⟩
  ·rw [hf]at fin
   exact ⟨_,rfl,fin _ 0 hs.1 hs.2 (by omega) (by omega) (fun h=>absurd h (by omega)) fun _=>rfl⟩
structure KList (m:Map)(A:List Agent):Prop where
  few:A.length≤8
  ok: ∀(i:Nat) g,A[i]? =some g→KAgent m (decide (i=0)) g
theorem KList.size {m:Map}{A:List Agent}(h:KList m A):SizeS ⟨0,A,[]⟩:=by
  refine ⟨by have:=h.few;dsimp only;omega,by simp,fun g hg=> ?_⟩
  obtain ⟨i,hi⟩:=bG hg
  obtain ⟨a,t,hR,R⟩:=(h.ok i g hi).route
  have:=ED R
  rw [hR];omega
theorem KList.wf {m:Map}{A:List Agent}(h:KList m A): ∀g∈A,g.S≤9223372036854775807:=fun g hg=>by
  obtain ⟨i,hi⟩:=bG hg
  have k:=h.ok i g hi
  obtain ⟨a,t,hR,R⟩:=k.route
  have h1:=Mn R
  have h2:=k.S
  rw [hR]at h2
  omega
theorem KList.chk {m:Map}(K:KitM m){A:List Agent}(h:KList m A)(hn:A≠ []):StateOK m ⟨0,A,[]⟩:=by
  refine ⟨by dsimp only;omega,⟨List.length_pos_iff.2 hn,h.few⟩,fun i g hg=> ?_,fun i x hx=>by simp at hx,fun i x y hx=>by simp at hx,fun x hx=>by simp at hx⟩
  have k:=h.ok i g hg
  obtain ⟨a,t,hR,R⟩:=k.route
  have hL:=Mn R
  rw [← hR]at hL
  have hS:=k.S
  have hl:=k.len
  have hb:=k.begin
  refine ⟨k.route,by omega,by omega,by omega,k.V,?_,?_,fun h0=>(k.first (by simpa using h0)).1⟩
  ·rw [k.gone];unfold Tc;rw [E1 (by omega),bK (by omega)]
  ·rintro ⟨q,q2⟩
   exact q2 (k.late q)
theorem kR {m:Map}(K:KitM m){A:List Agent}(h:(Kb m A).2=0):(Kb m A).1=⟨0,A,Bp m ⟨0,A,[]⟩ A⟩∧StateOK m (Kb m A).1:=by
  unfold Kb at h ⊢
  by_cases q:Oc m ⟨0,A,[]⟩=0
  case neg=>rw [bQ q]at h;exact absurd h q
  rw [bR (by simp [q])]at h ⊢
  by_cases g:A.any (fun g=>g.Gone)=true
  ·rw [bQ g]at h;cases h
  rw [bR g]at h ⊢
  by_cases b:(Qq ⟨0,A,[]⟩ A.length A.length 0).any (fun p=>YG m ⟨0,A,[]⟩ A p.1 p.2)=true
  ·rw [bQ b]at h;cases h
  rw [bR b]
  have O:=(Jr K).1 q
  refine ⟨rfl,?_⟩
  obtain ⟨i1,i2,i3⟩:=dV K (s':=⟨0,A,Bp m ⟨0,A,[]⟩ A⟩) O A rfl (Int.le_refl _) rfl
  exact ⟨O.tick,O.num,fun i g hg=>by have x:=O.agent i g hg;exact ⟨x.route,x.len,x.begin,x.S,x.V,x.gone,x.late,x.first⟩,i1,i2,i3⟩
theorem StateOK.size {m:Map}(K:KitM m){s:State}(O:StateOK m s)(h:s.In.length≤1000000):SizeS s:=by
  refine ⟨by have:=O.num;omega,h,fun g hg=> ?_⟩
  obtain ⟨i,hi⟩:=bG hg
  obtain ⟨a,t,hR,R⟩:=(O.agent i g hi).route
  have:=ED R
  rw [hR];omega
theorem UK {m:Map}{g:Agent}(hV:0≤g.V∧g.V≤(Fy m g).1)(tick act:Int):Gn m g tick act≤g.V+ (Fy m g).2.1∧g.V - (Fy m g).2.2≤Gn m g tick act:=by
  have hT:(0≤(Fy m g).1∧(Fy m g).1≤2000)∧(0≤(Fy m g).2.1∧(Fy m g).2.1≤100)∧(0≤(Fy m g).2.2∧(Fy m g).2.2≤300):=by
    have:=Ye (Ah m (Cx m g).1)
    unfold Fy
    omega
  have hs: ∀x, -(Fy m g).2.2≤x→x≤(Fy m g).2.1→Ai g (Fy m g).1 x≤g.V+ (Fy m g).2.1∧g.V - (Fy m g).2.2≤Ai g (Fy m g).1 x:=fun x h1 h2=>by
    rw [dM (by omega) (by omega)]
    omega
  unfold Gn
  dsimp only
  split
  ·have:=VS (K:=fun x=>On (UA m (Cx m g).1 tick) (Cx m g).2 g.V (Ai g (Fy m g).1 x) (Fy m g).2.2) (low:= -(Fy m g).2.2) (max (-(Fy m g).2.2) (min act (Fy m g).2.1)+ (Fy m g).2.2).toNat (max (-(Fy m g).2.2) (min act (Fy m g).2.1)) (by omega)
   exact hs _ this.1 (by omega)
  ·exact hs _ (by omega) (by omega)
/-- What a tick does to an agent. -/
theorem JO {m:Map}(K:KitM m){s:State}(O:StateOK m s)(i:Nat){g:Agent}(hg:s.Agents[i]? =some g)(act:Int){a:Int}{t:List Int}(hR:g.Route=a::t)(R:RouteOK m a t):
    g.S≤(Fd m s i act).S∧0≤(Fd m s i act).V∧(Fd m s i act).V≤(T6 (Ah m a)).1∧
    (W1 s i=true→(Fd m s i act).S=g.S+ (Fd m s i act).V∧(Fd m s i act).V≤g.V+ (T6 (Ah m a)).2.1∧g.V - (T6 (Ah m a)).2.2≤(Fd m s i act).V):=by
  have A:=O.agent i g hg
  have hc:Oc m s=0:=(Jr K).2 O
  have e1:=Yg R hR A.S.1
  unfold Fd
  rw [B9 hg]
  dsimp only
  by_cases th:W1 s (i:Int)=true
  ·rw [bQ ⟨th,hc⟩]
   have hv:=RI (m:=m) g s.Tick act
   have hn:=UK A.V s.Tick act
   have ht2:=Ye (Ah m a)
   have hL:=Mn R
   have hS:=A.S
   have hl:=A.len
   rw [hR]at hS
   rw [e1]at hv hn
   have hw:D2 (g.S+Gn m g s.Tick act)=g.S+Gn m g s.Tick act:=E1 (by omega)
   refine ⟨?_,hv.1,hv.2,fun _=>⟨hw,hn.1,hn.2⟩⟩
   show g.S≤D2 _
   rw [hw];omega
  ·rw [bR fun h=>th h.1]
   have hV:=A.V
   rw [e1]at hV
   exact ⟨Int.le_refl _,hV.1,hV.2,fun h=>absurd h th⟩
theorem YI {α:Type}(l:List α):l.any (fun _=>false)=false:=by
  induction l with
  |nil=>rfl
  |cons a l ih=>rw [bH,ih];rfl
theorem iD {m:Map}{s:State}(O:StateOK m s): ∀g∈s.Agents,g.S≤9223372036854775807:=fun g hg=>by
  obtain ⟨i,hi⟩:=bG hg
  have k:=O.agent i g hi
  obtain ⟨a,t,hR,R⟩:=k.route
  have h1:=Mn R
  have h2:=k.S
  have h3:=k.len
  rw [hR]at h2
  omega
theorem KAgent.any {m:Map}{g:Agent}(h:KAgent m true g):KAgent m false g:=⟨h.route,h.len,h.begin,h.S,h.V,h.gone,h.late,nofun⟩
theorem KAgent.two {m:Map}{g g':Agent}(h:KAgent m true g)(h':KAgent m true g'):KList m [g,g']:=⟨by simp,fun i x hx=>by
  cases i with
  |zero=>cases hx;exact h
  |succ i=>
   cases i with
   |zero=>cases hx;exact h'.any
   |succ i=>simp at hx⟩
theorem dW {m:Map}(K:KitM m){A:List Agent}(L:KList m A)(hn:A≠ []):(Kb m A).2=0∨(Kb m A).2=10∨(Kb m A).2=12:=by
  have q:=(Jr K).2 (L.chk K hn)
  unfold Kb
  rw [bR (by simp [q])]
  split
  ·exact .inr (.inl rfl)
  ·split
   ·exact .inr (.inr rfl)
   ·exact .inl rfl
/-- A crash along a lane, of two on the same route. -/
theorem dX {m:Map}{tick:Int}{g0 g1 g0' g1':Agent}(hR:g0.Route=g1.Route)(b0:0≤g0.S∧g0.S≤1000000000)(b1:0≤g1.S∧g1.S≤1000000000)(c0:0≤g0'.S∧g0'.S≤1000000000)(c1:g1.S≤g1'.S∧g1'.S≤1000000000)(l1:g1'.Len=g1.Len)(hl:0≤g1.Len∧g1.Len≤1000000)(hs:g0.S<g1.S)(hst: ∀x,0≤(Ds m g0.Route x).1∧(Ds m g0.Route x).1≤1000000000)
    {x:Int} {c:Crash} (h:Oo m tick 0 1 g0 g1 g0' g1' x=some c):g1.S - g1.Len≤g0'.S:=by
  unfold Oo at h
  rw [← hR]at h
  have:=hst x
  rw [E1 (by omega),E1 (by omega)]at h
  split at h
  ·rw [bQ (by omega)]at h
   split at h
   ·rename_i q
    unfold kM at q
    simp only [bU,bM]at q
    have q:=q.2
    rw [l1]at q
    rw [E1 (n:=g1'.S - g1.Len) (by omega),E1 (by omega),E1 (by omega)]at q
    omega
   ·cases h
  ·cases h
theorem FA {α β:Type}{g:Nat→α→Option β}{b:β}: ∀(l:List α) (k:Nat),H9 g k l=some b→∃i a,g i a=some b
  | [],_,h=>by cases h
  |a::r,k,h=>by
   rw [H9]at h
   cases hg:g k a with
   |some e=>rw [hg]at h;cases h;exact ⟨k,a,hg⟩
   |none=>rw [hg]at h;exact FA r (k+1) h
theorem dY {m:Map}{a:Int}{t:List Int}(R:RouteOK m a t)(x:Int):0≤(Ds m (a::t) x).1∧(Ds m (a::t) x).1≤1000000000:=by
  unfold Ds
  cases hf:(a::t).findIdx? (fun y=>x==y)with
  |none=>simp
  |some i=>
   have hi:=(List.findIdx?_eq_some_iff_getElem.1 hf).1
   have h1:=B9 (JG R hi)
   have h2:=RouteOK.starts (m:=m) (a:=a) (t:=t) hi
   rw [R.StartsM]at h1
   rw [h1]at h2
   have h3:=R.bd (i:=i) (by omega)
   rw [R.StartsM]
   dsimp only
   rw [lD h2]
   omega
theorem JP {m:Map}{s:State}{acts:List Int}{k:Nat}{g:Agent}(h:s.Agents[k]? =some g):(Av m s acts)[k]? =some (Fd m s k (acts.getD k 0)):=by
  unfold Av
  rw [bE,h];simp
theorem Vh (n:Int)(p q:KitActor)(x y:Int):Kr n p q x y=some true:=by
  obtain ⟨m,hm,K,_⟩:=gV n
  obtain ⟨u,hu,ku,_,ru⟩:=MH K ⟨p.R,p.S,p.V,p.Len,0,p.Disobeys⟩ true
  obtain ⟨v,hv,kv,_,rv⟩:=MH K ⟨p.R,q.S,q.V,q.Len,0,q.Disobeys⟩ true
  have hroute:u.Route=v.Route:=by
    have h1:=ru rfl
    have h2:=rv rfl
    rw [h1]at h2
    exact lD h2
  have hy: ∃g0 g1,(cond (decide (u.S>v.S)) (some (v,u)) (some (u,v)))=some (g0,g1)∧KAgent m true g0∧KAgent m true g1∧g0.Route=g1.Route∧g0.S≤g1.S:=by
    by_cases h:u.S>v.S
    ·exact ⟨v,u,by rw [bJ h];rfl,kv,ku,hroute.symm,by omega⟩
    ·exact ⟨u,v,by rw [bK h];rfl,ku,kv,hroute,by omega⟩
  obtain ⟨g0,g1,ey,k0,k1,hR,hS⟩:=hy
  have L:=k0.two k1
  obtain ⟨a,t,hRa,R⟩:=k0.route
  have hL:=Mn R
  have s0:=k0.S
  have s1:=k1.S
  rw [← hR]at s1
  rw [hRa]at s0 s1
  have l1:=k1.len
  have e1:=iA K L.size L.wf
  unfold Kr
  rw [hm,lB,hu,lB,hv,lB,ey,lB]
  dsimp only
  rw [e1,lB,cV]
  have hrear:Nh g1=some (g1.S - g1.Len):=by unfold Nh;rw [E1 (by omega)]
  rw [hrear]
  by_cases c:(Kb m [g0,g1]).2=0
  case neg=>
    have h1:((Kb m [g0,g1]).2 !=1)=true:=by
      rcases dW K L (by simp)with h|h|h
      ·exact absurd h c
      ·rw [h];rfl
      ·rw [h];rfl
    rw [show ((Kb m [g0,g1]).2 !=0)=true by simpa using c,h1];rfl
  rw [c,show ((0:Int) !=0)=false from rfl,bX,bO,lB]
  by_cases r:g1.S - g1.Len≤g0.S
  ·rw [bJ r];rfl
  rw [bK r,Bool.or_self,bP]
  obtain ⟨n1,O⟩:=kR K c
  have Sz:=dS K L.size
  have htick:(Kb m [g0,g1]).1.Tick=0:=by rw [n1]
  have hag:(Kb m [g0,g1]).1.Agents= [g0,g1]:=by rw [n1]
  obtain ⟨q1,O',q3,q4⟩:=iC K O (by omega) [x,y]
  rw [dQ K Sz (iD O) [x,y],lB,q1]
  have hlen:((Mw m (Kb m [g0,g1]).1 [x,y]).1.Agents.length:Int)=2:=by rw [q3];dsimp only;rw [Lk,hag];rfl
  rw [hlen,show (((0:Int) !=0)||((2:Int) !=2))=false from rfl,bP]
  have i0:(Kb m [g0,g1]).1.Agents[0]? =some g0:=by rw [hag];rfl
  have i1:(Kb m [g0,g1]).1.Agents[1]? =some g1:=by rw [hag];rfl
  have A0:B8 (Mw m (Kb m [g0,g1]).1 [x,y]).1.Agents 0=some (Fd m (Kb m [g0,g1]).1 (0:Nat) ([x,y].getD 0 0)):=by rw [q3];exact Te i0
  have M0:AgentOK m _ ((0:Nat):Int) (Fd m (Kb m [g0,g1]).1 (0:Nat) ([x,y].getD 0 0)):=O'.agent 0 _ (by rw [q3];exact JP i0)
  have f0:=JO K O 0 i0 ([x,y].getD 0 0) hRa R
  have f1:=JO K O 1 i1 ([x,y].getD 1 0) (hR▸hRa) R
  have hcr: ∀cr∈(Mw m (Kb m [g0,g1]).1 [x,y]).2.1,cr.Zone_<0→g1.S - g1.Len≤(Fd m (Kb m [g0,g1]).1 (0:Nat) ([x,y].getD 0 0)).S:=by
    intro cr hcr hz
    rw [q4]at hcr
    unfold Qr at hcr
    obtain ⟨pr,h1,h2⟩:=List.mem_flatMap.1 hcr
    obtain ⟨i,j,rfl,_,h3,h4,_,_⟩:=Yf h1
    rw [hag]at h4
    have h4:j<2:=h4
    obtain ⟨rfl,rfl⟩:i=0∧j=1:=by omega
    unfold Xm at h2
    dsimp only at h2
    rw [B9 i0,B9 i1,Te i0,Te i1]at h2
    dsimp only at h2
    rcases lT.1 h2 with h2|h2
    ·unfold EZ at h2
     rw [Option.mem_toList]at h2
     obtain ⟨k,ln,h5⟩:=FA _ _ h2
     have A1:AgentOK m _ ((1:Nat):Int) (Fd m (Kb m [g0,g1]).1 (1:Nat) ([x,y].getD 1 0)):=O'.agent 1 _ (by rw [q3];exact JP i1)
     have b0:=M0.S
     have b1:=A1.S
     have r0:(Fd m (Kb m [g0,g1]).1 (0:Nat) ([x,y].getD 0 0)).Route=g0.Route∧(Fd m (Kb m [g0,g1]).1 (0:Nat) ([x,y].getD 0 0)).Len=g0.Len:=by
       unfold Fd
       rw [B9 i0]
       dsimp only
       split<;>exact ⟨rfl,rfl⟩
     have r1:(Fd m (Kb m [g0,g1]).1 (1:Nat) ([x,y].getD 1 0)).Route=g1.Route∧(Fd m (Kb m [g0,g1]).1 (1:Nat) ([x,y].getD 1 0)).Len=g1.Len:=by
       unfold Fd
       rw [B9 i1]
       dsimp only
       split<;>exact ⟨rfl,rfl⟩
     rw [r0.1,r0.2,hRa]at b0
     rw [r1.1,r1.2,← hR,hRa]at b1
     have l0:=k0.len
     refine dX hR (by omega) (by omega) ⟨by omega,by omega⟩ ⟨f1.1,by omega⟩ r1.2 (by omega) (by omega) (fun x=> ?_) h5
     rw [hRa];exact dY R x
    ·unfold JJ at h2
     obtain ⟨z,zn,_,h5⟩:=(Dc _ _).1 h2
     unfold JI at h5
     split at h5
     ·cases h5
      dsimp only at hz
      omega
     ·cases h5
  have hlp:loop (X7 (g0,g1) (Mw m (Kb m [g0,g1]).1 [x,y])) 0=some (.inl ()):=by
    have:=IL (F:=X7 (g0,g1) (Mw m (Kb m [g0,g1]).1 [x,y])) (Mw m (Kb m [g0,g1]).1 [x,y]).2.1 (fun _=>false) false (fun i cr hc=>by
      have hsz:=(YF K Sz [x,y]).2.1
      unfold X7
      rw [K4 (H8 hc),bO,B9 hc,lB,A0,I0 (H8 hc) (by omega)]
      dsimp only
      rw [hrear]
      by_cases z:cr.Zone_<0
      ·have:=hcr cr (lG hc) z
       rw [bJ z,bO,bO,lB,lB,bK (by omega)];rfl
      ·rw [bK z];rfl) (by unfold X7;rw [J4];rfl)
    rw [this,YI];rfl
  rw [hlp];rfl
end
end Go.Abs.World
