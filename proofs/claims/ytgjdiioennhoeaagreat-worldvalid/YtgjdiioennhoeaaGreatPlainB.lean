/-
  Plain facts, second part: the law itself.
-/
import Derived.Test.YtgjdiioennhoeaaGreatPlain
set_option linter.all false
/-! Places and passes. -/
namespace Go.Abs.World
noncomputable section
open Go Go.Abs
theorem Wh (m:Map): ∀(r:List Int) (s:Int),Ed m s r=s+Ed m 0 r
  | [],s=>by simp [Ed]
  |a::r,s=>by rw [Ed,Ed,Wh m r (s+Q3 m a),Wh m r (0+Q3 m a)];omega
theorem Nf (m:Map): ∀(r:List Int) (s:Int) (i:Nat),i<r.length→(P4 m s r)[i]? =some (s+Ed m 0 (r.take i))
  | [],_,_,h=>absurd h (by simp)
  |a::r,s,0,_=>by simp [P4,Ed]
  |a::r,s,i+1,h=>by
   rw [P4,List.getElem?_cons_succ,Nf m r _ i (by simpa using h),List.take_succ_cons,Ed,Wh m _ (0+Q3 m a)]
   congr 1;omega
def Pe (m:Map)(r:List Int)(i:Nat):Int:=Ed m 0 (r.take i)
theorem Ze (m:Map)(r:List Int):Pe m r 0=0:=rfl
theorem HE (m:Map)(x:Int): ∀(l:List Int) (s:Int),Ed m s (l++ [x])=Ed m s l+Q3 m x
  | [],s=>rfl
  |a::l,s=>by rw [List.cons_append,Ed,Ed,HE m x l]
theorem Ss {m:Map}{r:List Int}{i:Nat}{a:Int}(h:r[i]? =some a):Pe m r (i+1)=Pe m r i+Q3 m a:=by
  unfold Pe
  rw [List.take_add_one,h]
  exact HE m a _ _
theorem kN (m:Map)(r:List Int):Pe m r r.length=Ed m 0 r:=by rw [Pe,List.take_length]
theorem RouteOK.len {m:Map}{a:Int}{t:List Int}(R:RouteOK m a t){i:Nat}{x:Int}(h:(a::t)[i]? =some x):1000≤Q3 m x∧Q3 m x≤16777216:=by
  have:=R.mem (lG h)
  exact R.val.long this.1 this.2
theorem RouteOK.mono {m:Map}{a:Int}{t:List Int}(R:RouteOK m a t): ∀(j i:Nat),i+j≤(a::t).length→Pe m (a::t) i+1000*j≤Pe m (a::t) (i+j)∧Pe m (a::t) (i+j)≤Pe m (a::t) i+16777216*j
  |0,i,_=>by simp
  |j+1,i,h=>by
   have:=R.mono j i (by omega)
   have e:(a::t)[i+j]? =some (a::t)[i+j]:=lH (by omega)
   have hl:=R.len e
   rw [← Nat.add_assoc,Ss e]
   omega
theorem RouteOK.lt {m:Map}{a:Int}{t:List Int}(R:RouteOK m a t){i j:Nat}(hij:i<j)(hj:j≤(a::t).length):Pe m (a::t) i+1000≤Pe m (a::t) j:=by
  have:=(R.mono (j - i) i (by omega)).1
  rw [show i+ (j - i)=j by omega]at this
  omega
theorem RouteOK.bd {m:Map}{a:Int}{t:List Int}(R:RouteOK m a t){i:Nat}(hi:i≤(a::t).length):0≤Pe m (a::t) i∧Pe m (a::t) i≤134217728:=by
  have:=R.mono i 0 (by omega)
  have h7:=R.most
  simp only [lL]at hi
  rw [wK,Ze]at this
  omega
theorem RouteOK.follow {m:Map}{a:Int}{t:List Int}(R:RouteOK m a t):Az m (a::t)=⟨m,a::t,P4 m 0 (a::t),Pe m (a::t) (a::t).length⟩:=by
  unfold Az
  rw [bQ (chkRoute_zero.2 ⟨a,t,rfl,R⟩),kN]
theorem RouteOK.starts {m:Map}{a:Int}{t:List Int}{i:Nat}(hi:i< (a::t).length):C0 (P4 m 0 (a::t)) (i:Int)=some (Pe m (a::t) i):=by
  rw [C3 (Nf m _ 0 i hi),Int.zero_add];rfl
def Ok (lane s:Int)(zi:Nat):Nat→List Part→List Pass
  |_,[]=> []
  |k,p::r=>(if p.Lane_==lane then [⟨(zi:Int),(k:Int),s+p.From,s+p.To⟩]else [])++Ok lane s zi (k+1) r
def Qs (lane s:Int):Nat→List Zone→List Pass
  |_,[]=> []
  |zi,z::r=>Ok lane s zi 0 z.Parts++Qs lane s (zi+1) r
def Lk (m:Map):Int→List Int→List Pass
  |_,[]=> []
  |s,a::r=>Qs a s 0 m.Zones++Lk m (s+Q3 m a) r
theorem Zu (lane s:Int)(zi:Nat): ∀(l:List Part) (k:Nat),(l.map (·.Lane_)).Pairwise (· < ·)→(Ok lane s zi k l).length≤1
  | [],_,_=>by simp [Ok]
  |p::r,k,h=>by
   obtain ⟨h1,h2⟩:=bB.1 h
   have nil: ∀(r:List Part) (k:Nat),(∀q∈r,q.Lane_≠lane)→Ok lane s zi k r= []:=by
     intro r
     induction r with
     |nil=>intro k _;rfl
     |cons q r ih=>
      intro k hq
      rw [Ok,ih (k+1) (fun y hy=>hq y (List.mem_cons_of_mem _ hy)),show (q.Lane_==lane)=false by simp [hq q (by simp)]]
      rfl
   rw [Ok]
   by_cases e:p.Lane_=lane
   ·rw [nil r (k+1) (fun q hq=>by
    have:p.Lane_<q.Lane_:=h1 q.Lane_ (List.mem_map_of_mem hq)
    omega)]
    simp [e]
   ·rw [show (p.Lane_==lane)=false by simp [e]]
    exact Zu lane s zi r (k+1) h2
theorem Zv {m:Map}(lane s:Int): ∀(l:List Zone) (zi:Nat),(∀z∈l,ZoneOK m z)→(Qs lane s zi l).length≤l.length
  | [],_,_=>by simp [Qs]
  |z::r,zi,h=>by
   have:=Zu lane s zi z.Parts 0 (Ms (h z (by simp)).rise)
   have:=Zv lane s r (zi+1) fun y hy=>h y (List.mem_cons_of_mem _ hy)
   rw [Qs,lM,lL]
   omega
theorem NU (lane s:Int)(zi:Nat): ∀(l:List Part) (k:Nat) (x:Pass),x∈Ok lane s zi k l→∃(j:Nat) (p:Part),l[j]? =some p∧p.Lane_=lane∧x=⟨(zi:Int),((k+j:Nat):Int),s+p.From,s+p.To⟩
  | [],_,x,h=>by simp [Ok]at h
  |p::r,k,x,h=>by
   rw [Ok,lT]at h
   rcases h with h|h
   ·by_cases e:p.Lane_=lane
    ·rw [bQ (by simp [e]),bI]at h
     exact ⟨0,p,rfl,e,h⟩
    ·rw [bR (by simp [e])]at h;simp at h
   ·obtain ⟨j,q,h1,h2,h3⟩:=NU lane s zi r (k+1) x h
    exact ⟨j+1,q,by simpa using h1,h2,by rw [h3];congr 1;omega⟩
theorem NV (lane s:Int): ∀(l:List Zone) (zi:Nat) (x:Pass),x∈Qs lane s zi l→∃(j:Nat) (z:Zone) (k:Nat) (p:Part),l[j]? =some z∧z.Parts[k]? =some p∧p.Lane_=lane∧x=⟨((zi+j:Nat):Int),(k:Int),s+p.From,s+p.To⟩
  | [],_,x,h=>by simp [Qs]at h
  |z::r,zi,x,h=>by
   rw [Qs,lT]at h
   rcases h with h|h
   ·obtain ⟨k,p,h1,h2,h3⟩:=NU lane s zi z.Parts 0 x h
    exact ⟨0,z,k,p,rfl,h1,h2,by rw [h3,wK];rfl⟩
   ·obtain ⟨j,y,k,p,h0,h1,h2,h3⟩:=NV lane s r (zi+1) x h
    exact ⟨j+1,y,k,p,by simpa using h0,h1,h2,by rw [h3];congr 1;omega⟩
theorem Zw (m:Map): ∀(r:List Int) (s:Int) (x:Pass),x∈Lk m s r→∃(i:Nat) (lane:Int) (j:Nat) (z:Zone) (k:Nat) (p:Part),r[i]? =some lane∧m.Zones[j]? =some z∧z.Parts[k]? =some p∧p.Lane_=lane∧x=⟨(j:Int),(k:Int),s+Ed m 0 (r.take i)+p.From,s+Ed m 0 (r.take i)+p.To⟩
  | [],_,x,h=>by simp [Lk]at h
  |a::r,s,x,h=>by
   rw [Lk,lT]at h
   rcases h with h|h
   ·obtain ⟨j,z,k,p,h1,h2,h3,h4⟩:=NV a s m.Zones 0 x h
    exact ⟨0,a,j,z,k,p,rfl,h1,h2,h3,by rw [h4];simp [Ed]⟩
   ·obtain ⟨i,lane,j,z,k,p,h0,h1,h2,h3,h4⟩:=Zw m r _ x h
    refine ⟨i+1,lane,j,z,k,p,by simpa using h0,h1,h2,h3,?_⟩
    rw [h4,List.take_succ_cons,Ed,Wh m _ (0+Q3 m a)]
    congr 1<;>omega
section
variable {m:Map}{a:Int}{t:List Int}
theorem kO (B:BearM m)(R:RouteOK m a t){i:Nat}{lane:Int}(hi:i< (a::t).length)(zi:Nat){z:Zone}(hz:m.Zones[zi]? =some z)(o1 o2:List Pass):
    ∀(r:List Part) (k:Nat) (out:List Pass),z.Parts.drop k=r→k≤z.Parts.length→out.length+r.length≤1000→
     loop (As (Az m (a::t)) (o1,(i:Int)) lane (o2,(zi:Int)) z) (out,(k:Int))=some (out++Ok lane (Pe m (a::t) i) zi k r):=by
  have Z:=R.val.zoneOK (lG hz)
  have h6:=Z.six
  intro r
  induction r with
  |nil=>
   intro k out hk hkl hl
   have:=N8 hk
   obtain rfl:k=z.Parts.length:=by omega
   refine C5 ?_
   unfold As
   rw [H9];simp [Ok]
  |cons p r ih=>
   intro k out hk hkl hl
   have hlt:=M9 hk
   have hp:=U7 hk
   have hpm:=lG hp
   have hpt:=Z.part p hpm
   have hln:=Lf Z.rise p.Lane_ (List.mem_map_of_mem hpm)
   have hll:=R.val.long hln.1 hln.2
   have hb:=R.bd (Nat.le_of_lt hi)
   simp only [lL]at hl
   have hs:As (Az m (a::t)) (o1,(i:Int)) lane (o2,(zi:Int)) z (out,(k:Int))=some (.go (out++ (if p.Lane_==lane then [⟨(zi:Int),(k:Int),Pe m (a::t) i+p.From,Pe m (a::t) i+p.To⟩]else []),((k+1:Nat):Int))):=by
     unfold As
     dsimp only
     rw [J9 hlt,C3 hp,bO,lB,G8 hlt (by omega)]
     cases p.Lane_==lane
     ·simp
     ·rw [R.follow]
      dsimp only
      rw [bO,RouteOK.starts hi,lB,lB,F2 (by omega),F2 (by omega),Ey (by simp;omega)]
      rfl
   rw [J2 hs,ih (k+1) _ (K5 hk) (by omega) (by rw [lM];split<;>simp<;>omega),Ok,lO]
theorem kP (B:BearM m)(R:RouteOK m a t){i:Nat}{lane:Int}(hi:i< (a::t).length)(o1:List Pass):
    ∀(r:List Zone) (zi:Nat) (out:List Pass),m.Zones.drop zi=r→zi≤m.Zones.length→out.length+r.length≤500→
     loop (U3 m (Az m (a::t)) (o1,(i:Int)) lane) (out,(zi:Int))=some (out++Qs lane (Pe m (a::t) i) zi r):=by
  intro r
  induction r with
  |nil=>
   intro zi out hk hkl hl
   have:=N8 hk
   obtain rfl:zi=m.Zones.length:=by omega
   refine C5 ?_
   unfold U3
   rw [H9];simp [Qs]
  |cons z r ih=>
   intro zi out hk hkl hl
   have hlt:=M9 hk
   have hz:=U7 hk
   have Z:=R.val.zoneOK (lG hz)
   have h6:=Z.six
   have hnz:=R.val.zones
   simp only [lL]at hl
   have h1:=Zu lane (Pe m (a::t) i) zi z.Parts 0 (Ms Z.rise)
   have h3:loop (As (Az m (a::t)) (o1,(i:Int)) lane (out,(zi:Int)) z) (out,0)=_:=kO B R hi zi hz o1 out z.Parts 0 out rfl (by omega) (by omega)
   have hs:U3 m (Az m (a::t)) (o1,(i:Int)) lane (out,(zi:Int))=some (.go (out++Ok lane (Pe m (a::t) i) zi 0 z.Parts,((zi+1:Nat):Int))):=by
     unfold U3
     dsimp only
     rw [J9 hlt,C3 hz,bO,lB,h3,lB,G8 hlt (by omega)]
   rw [J2 hs,ih (zi+1) _ (K5 hk) (by omega) (by rw [lM];omega),Qs,lO]
theorem kQ (B:BearM m)(R:RouteOK m a t):
    ∀(r:List Int) (i:Nat) (out:List Pass),(a::t).drop i=r→i≤(a::t).length→out.length+12*r.length≤200→
     loop (O4 m (Az m (a::t))) (out,(i:Int))=some (out++Lk m (Pe m (a::t) i) r):=by
  have hl:(Az m (a::t)).lanes=a::t:=by rw [R.follow]
  intro r
  induction r with
  |nil=>
   intro i out hk hkl hle
   have:=N8 hk
   obtain rfl:i=(a::t).length:=by omega
   refine C5 ?_
   unfold O4
   dsimp only
   rw [hl,H9];simp [Lk]
  |cons x r ih=>
   intro i out hk hkl hle
   have hlt:=M9 hk
   have hx:=U7 hk
   have hm7:=R.most
   have hnz:=R.val.zones
   simp only [lL]at hle hlt
   have h2:loop (U3 m (Az m (a::t)) (out,(i:Int)) x) (out,0)=_:=kP B R (lane:=x) (M9 hk) out m.Zones 0 out rfl (by omega) (by omega)
   have hs:O4 m (Az m (a::t)) (out,(i:Int))=some (.go (out++Qs x (Pe m (a::t) i) 0 m.Zones,((i+1:Nat):Int))):=by
     unfold O4
     dsimp only
     rw [hl,J9 (M9 hk),C3 hx,bO,lB,h2,lB,G8 (M9 hk) (by simp only [lL];omega)]
   have:=Zv (m:=m) x (Pe m (a::t) i) m.Zones 0 fun z hz=>R.val.zoneOK hz
   rw [J2 hs,ih (i+1) _ (K5 hk) (by simp only [lL];omega) (by rw [lM];omega),Ss hx,Lk,lO]
/-- A map with so few zones as the kit's. -/
structure BearK (m:Map):Prop extends BearM m where
  zones2:m.Zones.length≤2
theorem KY {m:Map}(V:ValR m): ∀(r:List Int) (s:Int),(Lk m s r).length≤m.Zones.length*r.length
  | [],s=>by simp [Lk]
  |a::r,s=>by
   have h1:=Zv (m:=m) a s m.Zones 0 fun z hz=>V.zoneOK hz
   have h2:=KY V r (s+Q3 m a)
   rw [Lk,lM,lL,Nat.mul_add,Nat.mul_one];omega
/-- The passes: sorted, and those that there are. -/
theorem NW (B:BearK m)(R:RouteOK m a t): ∃ps,V8 m (a::t)=some ps∧ps.Perm (Lk m 0 (a::t))∧Srt Xb ps∧ps.length≤16:=by
  have hm7:=R.most
  have hlen:(Lk m 0 (a::t)).length≤16:=by
    have:=KY R.val (a::t) 0
    have h2:m.Zones.length* (a::t).length≤2*8:=wM B.zones2 (by simp only [lL];omega)
    omega
  have h1:loop (O4 m (Az m (a::t))) ([],0)=some (Lk m 0 (a::t)):=by
    have:=kQ B.toBearM R (a::t) 0 [] rfl (by omega) (by simp;omega)
    rw [lQ,Ze]at this
    exact this
  unfold V8
  rw [Rn B.toBearM _ (by simp;omega),lB,h1,lB]
  cases q:Lk m 0 (a::t)with
  |nil=>exact ⟨[],by rw [CP];rfl, .refl _,List.Pairwise.nil,by simp⟩
  |cons x l=>
   rw [q]at hlen
   obtain ⟨ys,g1,g2,g3⟩:=aB (x::l) (by omega)
   exact ⟨ys,by rw [show List.isEmpty (x::l)=false from rfl,bP,g1];rfl,g2,g3,by rw [g2.length_eq];exact hlen⟩
end
theorem SY {m:Map}(B:BearM m)(V:ValR m)(l:List Int)(hl:l.length≤1000000): ∀(r:List Int) (i:Nat) (a:Int),l.drop (i+1)=r→l[i]? =some a→0≤a→a<m.Lanes.length→thenS (loop (X4 m l) ((i+1:Nat):Int)) (fun _=>some 0) (fun r=>some r)=some (if Lm m a r=true then 0 else 13):=by
  intro r
  induction r with
  |nil=>
   intro i a hi ha h0 h1
   have h2:=N8 hi
   have h3:=(lI.1 ha).1
   have h4:i+1=l.length:=by omega
   rw [C5 (t:= .inl ())]
   ·rfl
   ·unfold X4
    rw [show decide (((i+1:Nat):Int)< (l.length:Int))=false from bK (by omega)];rfl
  |cons b r ih=>
   intro i a hi ha h0 h1
   have hlt:=M9 hi
   have hb:=U7 hi
   obtain ⟨ln,e1,e2⟩:=Tl h0 h1
   have hw:D6 (((i+1:Nat):Int) - 1)=(i:Int):=by rw [F2 (by omega)];omega
   have hs:X4 m l ((i+1:Nat):Int)=some (if ln.Next.contains b=true then .go (((i+1+1:Nat):Int))else .out (.inr 13)):=by
     unfold X4
     rw [J9 hlt,bO,hw,C3 ha,lB,e2,lB,C3 hb,lB,VS _ (B.toBear.pts _ (lG e1)).2,lB,G8 hlt (by omega)]
     cases ln.Next.contains b<;>rfl
   have hn:nextOf m a.toNat=ln.Next:=by unfold nextOf;rw [e1];rfl
   rw [Lm,hn]
   cases q:ln.Next.contains b
   ·rw [q]at hs;rw [C5 hs];rfl
   ·rw [q]at hs
    have hbm:=V.next e1 (List.contains_iff_mem.1 q)
    rw [J2 hs,ih (i+1) b (K5 hi) hb (by omega) (by omega),bS]
theorem Ob {m:Map}(B:BearM m)(r:List Int)(hr:r.length≤1000000):Y9 m r=some (P3 m r):=by
  unfold Y9 P3
  rw [Sn B,lB]
  by_cases q:Uu m=0
  ·have V:=chkR_zero.1 q
   rw [bR (by simpa using q),show (Uu m !=0)=false by simpa using q,bP]
   cases r with
   |nil=>rfl
   |cons a t=>
    dsimp only
    simp only [lL]at hr ⊢
    by_cases h8:7<t.length
    ·rw [bQ (.inl h8),show ((((t.length+1:Nat):Int)==0)||(decide (((t.length+1:Nat):Int)>8)))=true by simp;omega];rfl
    ·rw [show ((((t.length+1:Nat):Int)==0)||(decide (((t.length+1:Nat):Int)>8)))=false by simp;omega]
     rw [show C0 (a::t) 0=some a from rfl]
     simp only [bX,bO,lB,bY]
     by_cases h0:a<0
     ·rw [bQ (.inr (.inl h0)),bJ h0];rfl
     ·rw [bK h0]
      simp only [bX,bO,lB,bY]
      by_cases h1:(m.Lanes.length:Int)≤a
      ·rw [bQ (.inr (.inr (.inl h1))),show decide (a≥(m.Lanes.length:Int))=true from bJ h1];rfl
      ·rw [show decide (a≥(m.Lanes.length:Int))=false from bK (by omega)]
       simp only [bX,bO,bY]
       rw [lB,KU B,lB]
       by_cases hb:Cp m a= []
       ·rw [hb,show decide ((([]:List Int).length:Int)>0)=false from rfl,bP]
        have:=SY B V (a::t) (by simpa using hr) t 0 a rfl rfl (by omega) (by omega)
        rw [show ((0+1:Nat):Int)=1 from rfl]at this
        rw [this]
        by_cases hc:Lm m a t=true
        ·rw [bQ hc,bR (by rw [hc];simp;omega)]
        ·rw [bR hc,bQ (.inr (.inr (.inr (.inr (by simpa using hc)))))]
       ·rw [bQ (.inr (.inr (.inr (.inl hb)))),show decide (((Cp m a).length:Int)>0)=true from bJ (by have:=List.length_pos_iff.2 hb;omega)];rfl
  ·rw [bQ q,show (Uu m !=0)=true by simpa using q];rfl
theorem NX {m:Map}(B:BearM m){a:Int}{t:List Int}(R:RouteOK m a t):Kz m (a::t)=some (P4 m 0 (a::t),Pe m (a::t) (a::t).length):=by
  have hm7:=R.most
  have key: ∀(l:List Int) (i:Nat) (st:List Int),(a::t).drop i=l→i≤(a::t).length→st.length=i→loop (Cv m (a::t)) (st,Pe m (a::t) i,(i:Int))=some (st++P4 m (Pe m (a::t) i) l,Pe m (a::t) (a::t).length):=by
    intro l
    induction l with
    |nil=>
     intro i st hi hil _
     have:=N8 hi
     obtain rfl:i=(a::t).length:=by omega
     refine C5 ?_
     unfold Cv
     dsimp only
     rw [H9,P4,lP];rfl
    |cons x l ih=>
     intro i st hi hil h2
     have hlt:=M9 hi
     have hx:=U7 hi
     have hm:=R.mem (lG hx)
     have hl:=R.len hx
     have hb:=R.bd (Nat.le_of_lt hlt)
     simp only [lL]at hlt
     rw [J2 (s':=(st++ [Pe m (a::t) i],Pe m (a::t) (i+1),((i+1:Nat):Int)))]
     ·rw [ih (i+1) _ (K5 hi) (by simp;omega) (by simp [h2]),P4,Ss hx,lO];rfl
     ·unfold Cv
      dsimp only
      rw [J9 (by simpa using hlt),Ey (by simp;omega),bO,lB,C3 hx,lB,Wz B hm.1 hm.2,lB,G8 hlt (by omega),F2 (by omega),Ss hx]
  have:=key (a::t) 0 [] rfl (by omega) rfl
  rw [Ze]at this
  have this':loop (Cv m (a::t)) ([],0,0)=_:=this
  unfold Kz
  rw [this',lB,lQ]
def StartsM (m:Map)(r:List Int):List Int:=(Az m r).starts
def LongM (m:Map)(r:List Int):Int:=(Az m r).length
theorem GB {m:Map}(B:BearM m)(r:List Int)(hr:r.length≤1000000):Bq m r=some (StartsM m r):=by
  unfold Bq StartsM
  rw [Rn B r hr];rfl
theorem XY {m:Map}(B:BearM m)(r:List Int)(hr:r.length≤1000000):V5 m r=some (LongM m r):=by
  unfold V5 LongM
  rw [Rn B r hr];rfl
theorem Su {m:Map}{r:List Int}(q:P3 m r≠0):Az m r=⟨⟨0,[],[],[],[]⟩,[],[],0⟩:=by unfold Az;rw [bR q]
theorem Wi {m:Map}(B:BearM m)(r:List Int)(hr:r.length≤1000000):Im m r=some (StartsM m r):=by
  unfold Im
  rw [Ob B r hr,lB]
  by_cases q:P3 m r=0
  ·obtain ⟨a,t,rfl,R⟩:=chkRoute_zero.1 q
   rw [q,show ((0:Int) !=0)=false from rfl,bP,NX B R,lB,StartsM,R.follow]
  ·rw [show (P3 m r !=0)=true by simpa using q,bO,StartsM,Su q]
theorem KZ {m:Map}(B:BearM m)(r:List Int)(hr:r.length≤1000000):Al m r=some (LongM m r):=by
  unfold Al
  rw [Ob B r hr,lB]
  by_cases q:P3 m r=0
  ·obtain ⟨a,t,rfl,R⟩:=chkRoute_zero.1 q
   rw [q,show ((0:Int) !=0)=false from rfl,bP,NX B R,lB,LongM,R.follow]
  ·rw [show (P3 m r !=0)=true by simpa using q,bO,LongM,Su q]
theorem GC {m:Map}(B:BearM m)(r:List Int)(hr:r.length≤1000000)(k:Int):Kn m r k=some (Eo m r k):=by
  unfold Kn Eo
  rw [Ob B r hr,lB]
  by_cases h:k<0∨(m.Zones.length:Int)≤k
  ·have e:(((P3 m r !=0)||(decide (k<0)))||(decide (k≥(m.Zones.length:Int))))=true:=by
     rcases h with h|h
     ·rw [bJ h];simp
     ·rw [show decide (k≥(m.Zones.length:Int))=true from bJ h];simp
   rw [e,bO]
   cases hz:m.Zones[k.toNat]? with
   |none=>rfl
   |some z=>
    have:=H5 hz
    dsimp only
    rw [bR (fun x=>by have:=x.1;omega)]
  ·obtain ⟨z,z1,z2⟩:=XT (m:=m) (k:=k) (by omega) (by omega)
   rw [show decide (k<0)=false from bK (by omega),show decide (k≥(m.Zones.length:Int))=false from bK (by omega),Bool.or_false,Bool.or_false,z1]
   dsimp only
   have hp:=B.toBearZ.parts z (lG z1)
   by_cases q:P3 m r=0
   ·rw [bQ ⟨by omega,q⟩,q,show ((0:Int) !=0)=false from rfl,bP]
    exact Qa r (fun l=>(Jv z l).2) (by omega) (fun i a h=>by
      have hi:=H5 h
      unfold Km
      rw [J9 hi,z2,bO,lB,C3 h,lB,SX hp,lB]
      cases (Jv z a).2<;>rfl) (by unfold Km;rw [H9];rfl)
   ·rw [bR (fun x=>q x.2),show (P3 m r !=0)=true by simpa using q];rfl
def oR {α τ:Type}:Stp (List α×Int) τ→Stp (Int×List α) τ
  | .go x=> .go (x.2,x.1)
  | .out t=> .out t
theorem aC {α τ:Type}(F:List α×Int→Option (Stp (List α×Int) τ))(l:List α)(i:Int)(t:τ)(h:loop (fun s:Int×List α=>(F (s.2,s.1)).map oR) (i,l)=some t):loop F (l,i)=some t:=by
  obtain ⟨n,hn⟩:=loop_some.1 h
  refine loop_some.2 ⟨n,?_⟩
  clear h
  induction n generalizing l i with
  |zero=>cases hn
  |succ n ih=>
   rw [loopN]at hn ⊢
   dsimp only at hn
   cases hf:F (l,i)with
   |none=>rw [hf]at hn;cases hn
   |some x=>
    rw [hf]at hn
    cases x with
    |go s=>exact ih s.1 s.2 hn
    |out t'=>exact hn
theorem SZ: ∀{l l':List Pass},Srt Xb l→Srt Xb l'→l.Perm l'→(∀x∈l,∀y∈l,Xb x y=false→Xb y x=false→x=y)→l=l'
  | [],l',_,_,h,_=>(List.Perm.nil_eq h)
  |a::l,[],_,_,h,_=>absurd h.length_eq (by simp)
  |a::l,b::l',h1,h2,h,hk=>by
   obtain ⟨a1,a2⟩:=bB.1 h1
   obtain ⟨b1,b2⟩:=bB.1 h2
   have hbl:b∈a::l:=h.mem_iff.2 (by simp)
   have hal:a∈b::l':=h.mem_iff.1 (by simp)
   have e1:Xb b a=false:=by
     rcases lU.1 hbl with e|e
     ·rw [e];exact ltP_ok.irr a
     ·exact a1 b e
   have e2:Xb a b=false:=by
     rcases lU.1 hal with e|e
     ·rw [e];exact ltP_ok.irr b
     ·exact b1 a e
   have hab:=hk a (by simp) b hbl e2 e1
   subst hab
   congr 1
   exact SZ a2 b2 (List.Perm.cons_inv h) fun x hx y hy=>hk x (List.mem_cons_of_mem _ hx) y (List.mem_cons_of_mem _ hy)
section
variable {m:Map}{a:Int}{t:List Int}
theorem aD (R:RouteOK m a t): ∀x∈Lk m 0 (a::t),∀y∈Lk m 0 (a::t),Xb x y=false→Xb y x=false→x=y:=by
  intro x hx y hy h1 h2
  obtain ⟨i,l,j,z,k,p,e1,e2,e3,e4,e5⟩:=Zw m _ 0 x hx
  obtain ⟨i',l',j',z',k',p',f1,f2,f3,f4,f5⟩:=Zw m _ 0 y hy
  subst e4 f4
  have hx1:x.From=Pe m (a::t) i+p.From:=by rw [e5];show 0+Pe m (a::t) i+p.From=_;omega
  have hy1:y.From=Pe m (a::t) i'+p'.From:=by rw [f5];show 0+Pe m (a::t) i'+p'.From=_;omega
  have hx2:x.Zone_=(j:Int):=by rw [e5]
  have hy2:y.Zone_=(j':Int):=by rw [f5]
  simp only [Xb,wC]at h1 h2
  have hj:j=j':=by omega
  subst hj
  rw [e2]at f2
  obtain rfl:=lD f2
  have Z:=R.val.zoneOK (lG e2)
  have g1:=Z.part p (lG e3)
  have g2:=Z.part p' (lG f3)
  have n1:=Ss (m:=m) e1
  have n2:=Ss (m:=m) f1
  have hil:=(lI.1 e1).1
  have hil':=(lI.1 f1).1
  have hii:i=i':=by
    rcases Nat.lt_trichotomy i i' with h|h|h
    ·exfalso
     have:Pe m (a::t) (i+1)≤Pe m (a::t) i':=by
       rcases Nat.lt_or_ge (i+1) i' with h'|h'
       ·have:=R.lt h' (Nat.le_of_lt hil');omega
       ·rw [show i'=i+1 by omega];omega
     omega
    ·exact h
    ·exfalso
     have:Pe m (a::t) (i'+1)≤Pe m (a::t) i:=by
       rcases Nat.lt_or_ge (i'+1) i with h'|h'
       ·have:=R.lt h' (Nat.le_of_lt hil);omega
       ·rw [show i=i'+1 by omega];omega
     omega
  subst hii
  rw [e1]at f1
  have hlane:=lD f1
  have hkk:k=k':=by
    have hp:=Ms Z.rise
    have hk1:=(lI.1 e3).1
    have hk2:=(lI.1 f3).1
    have q1:z.Parts[k]=p:=(lI.1 e3).2
    have q2:z.Parts[k']=p':=(lI.1 f3).2
    have hpi:=bD.1 hp
    rcases Nat.lt_trichotomy k k' with h|h|h
    ·have:=hpi k k' (by simpa using hk1) (by simpa using hk2) h
     simp only [List.getElem_map,q1,q2]at this;omega
    ·exact h
    ·have:=hpi k' k (by simpa using hk2) (by simpa using hk1) h
     simp only [List.getElem_map,q1,q2]at this;omega
  subst hkk
  rw [e3]at f3
  obtain rfl:=lD f3
  rw [e5,f5]
theorem pT (B:BearM m)(R:RouteOK m a t){i:Nat}{lane:Int}(hx:(a::t)[i]? =some lane)(zi:Nat){z:Zone}(hz:m.Zones[zi]? =some z)(o1 o2:List Pass):
    ∀(r:List Part) (k:Nat) (out:List Pass),z.Parts.drop k=r→k≤z.Parts.length→out.length+r.length≤1000→
     loop (Av m (a::t) (P4 m 0 (a::t)) (o1,(i:Int)) (o2,(zi:Int))) (out,(k:Int))=some (out++Ok lane (Pe m (a::t) i) zi k r):=by
  have Z:=R.val.zoneOK (lG hz)
  have h6:=Z.six
  have hi:i< (a::t).length:=(lI.1 hx).1
  intro r
  induction r with
  |nil=>
   intro k out hk hkl hl
   have:=N8 hk
   obtain rfl:k=z.Parts.length:=by omega
   refine C5 ?_
   unfold Av
   dsimp only
   rw [C3 hz,lB,H9];simp [Ok]
  |cons p r ih=>
   intro k out hk hkl hl
   have hlt:=M9 hk
   have hp:=U7 hk
   have hpm:=lG hp
   have hpt:=Z.part p hpm
   have hln:=Lf Z.rise p.Lane_ (List.mem_map_of_mem hpm)
   have hll:=R.val.long hln.1 hln.2
   have hb:=R.bd (Nat.le_of_lt hi)
   simp only [lL]at hl
   have hs:Av m (a::t) (P4 m 0 (a::t)) (o1,(i:Int)) (o2,(zi:Int)) (out,(k:Int))=some (.go (out++ (if p.Lane_==lane then [⟨(zi:Int),(k:Int),Pe m (a::t) i+p.From,Pe m (a::t) i+p.To⟩]else []),((k+1:Nat):Int))):=by
     unfold Av
     dsimp only
     rw [C3 hz,lB,J9 hlt,bO,lB,C3 hp,lB,C3 hx,lB,G8 hlt (by omega)]
     cases p.Lane_==lane
     ·simp
     ·rw [bO,RouteOK.starts hi,lB,lB,F2 (by omega),F2 (by omega),Ey (by simp;omega)]
      rfl
   rw [J2 hs,ih (k+1) _ (K5 hk) (by omega) (by rw [lM];split<;>simp<;>omega),Ok,lO]
theorem pU (B:BearM m)(R:RouteOK m a t){i:Nat}{lane:Int}(hx:(a::t)[i]? =some lane)(o1:List Pass):
    ∀(r:List Zone) (zi:Nat) (out:List Pass),m.Zones.drop zi=r→zi≤m.Zones.length→out.length+r.length≤500→
     loop (Aw m (a::t) (P4 m 0 (a::t)) (o1,(i:Int))) (out,(zi:Int))=some (out++Qs lane (Pe m (a::t) i) zi r):=by
  intro r
  induction r with
  |nil=>
   intro zi out hk hkl hl
   have:=N8 hk
   obtain rfl:zi=m.Zones.length:=by omega
   refine C5 ?_
   unfold Aw
   rw [H9];simp [Qs]
  |cons z r ih=>
   intro zi out hk hkl hl
   have hlt:=M9 hk
   have hz:=U7 hk
   have Z:=R.val.zoneOK (lG hz)
   have h6:=Z.six
   have hnz:=R.val.zones
   simp only [lL]at hl
   have h1:=Zu lane (Pe m (a::t) i) zi z.Parts 0 (Ms Z.rise)
   have h3:loop (Av m (a::t) (P4 m 0 (a::t)) (o1,(i:Int)) (out,(zi:Int))) (out,0)=_:=pT B R hx zi hz o1 out z.Parts 0 out rfl (by omega) (by omega)
   have hs:Aw m (a::t) (P4 m 0 (a::t)) (o1,(i:Int)) (out,(zi:Int))=some (.go (out++Ok lane (Pe m (a::t) i) zi 0 z.Parts,((zi+1:Nat):Int))):=by
     unfold Aw
     dsimp only
     rw [J9 hlt,bO,h3,lB,G8 hlt (by omega)]
   rw [J2 hs,ih (zi+1) _ (K5 hk) (by omega) (by rw [lM];omega),Qs,lO]
theorem pV (B:BearM m)(R:RouteOK m a t):
    ∀(r:List Int) (i:Nat) (out:List Pass),(a::t).drop i=r→i≤(a::t).length→out.length+12*r.length≤200→
     loop (Y4 m (a::t) (P4 m 0 (a::t))) (out,(i:Int))=some (out++Lk m (Pe m (a::t) i) r):=by
  have hlen:(P4 m 0 (a::t)).length=(a::t).length:=Nd _ _ _
  intro r
  induction r with
  |nil=>
   intro i out hk hkl hle
   have:=N8 hk
   have hii:i=(a::t).length:=by omega
   refine C5 ?_
   unfold Y4
   dsimp only
   rw [hlen,hii,H9];simp [Lk]
  |cons x r ih=>
   intro i out hk hkl hle
   have hlt:=M9 hk
   have hx:=U7 hk
   have hm7:=R.most
   have hnz:=R.val.zones
   simp only [lL]at hle hlt
   have h2:loop (Aw m (a::t) (P4 m 0 (a::t)) (out,(i:Int))) (out,0)=_:=pU B R hx out m.Zones 0 out rfl (by omega) (by omega)
   have hs:Y4 m (a::t) (P4 m 0 (a::t)) (out,(i:Int))=some (.go (out++Qs x (Pe m (a::t) i) 0 m.Zones,((i+1:Nat):Int))):=by
     unfold Y4
     dsimp only
     rw [hlen,J9 (M9 hk),bO,h2,lB,G8 (M9 hk) (by simp only [lL];omega)]
   have:=Zv (m:=m) x (Pe m (a::t) i) m.Zones 0 fun z hz=>R.val.zoneOK hz
   rw [J2 hs,ih (i+1) _ (K5 hk) (by simp only [lL];omega) (by rw [lM];omega),Ss hx,Lk,lO]
end
/-- The document's insertion sort. -/
theorem gF (T:List Pass)(x:Pass)(Q:List Pass)(hs:Srt Xb Q)(hN:(Q++x::T).length≤1000000):
    ∃Q',loop U5 (Q++x::T,(Q.length:Int))=some (Q'++T)∧Q'.Perm (x::Q)∧Srt Xb Q':=by
  have hstop: ∀xs:List Pass,(fun s:Int×List Pass=>(U5 (s.2,s.1)).map oR) ((([]:List Pass).length:Int),xs)=some (.out xs):=fun xs=>by
    show (U5 (xs,0)).map oR=_
    unfold U5
    rfl
  have hF: ∀(U V:List Pass) (q y:Pass),([]:List Pass).length≤U.length→(U++q::y::V).length=(Q++x::T).length→(fun s:Int×List Pass=>(U5 (s.2,s.1)).map oR) (((U.length:Int)+1),U++q::y::V)=some (if Xb y q then .go ((U.length:Int),U++y::q::V)else .out (U++q::y::V)):=fun U V q y _ hl=>by
    show (U5 (U++q::y::V,(U.length:Int)+1)).map oR=_
    unfold U5
    have hb:U.length+2≤1000000:=by rw [← hl]at hN;simp at hN;omega
    have e1:D6 ((U.length:Int)+1 - 1)=(U.length:Int):=by rw [F2 (by omega)];omega
    have g1:C0 (U++q::y::V) ((U.length:Int)+1)=some y:=by rw [ZY];exact Lx _ _ _ _ (by simp)
    have g2:C0 (U++q::y::V) (U.length:Int)=some q:=Lx _ _ _ _ rfl
    have s1:Lq (U++q::y::V) ((U.length:Int)+1) q=U++q::q::V:=by rw [ZY,Uw _ _ _ _ _ (by simp)];simp
    have g3:C0 (U++q::q::V) (U.length:Int)=some q:=Lx _ _ _ _ rfl
    have s2:Lq (U++q::q::V) (U.length:Int) y=U++y::q::V:=Uw _ _ _ _ _ rfl
    simp only [show decide (((U.length:Int)+1)>0)=true from bJ (by omega),bO,bS,e1,g1,g2,s1,g3,s2,lB]
    by_cases h1:y.From<q.From
    ·rw [bJ h1,show Xb y q=true from bJ (.inl h1)];rfl
    ·rw [bK h1]
     simp only [bX,bO,lB,bS,bY]
     by_cases h2:y.From=q.From
     ·rw [show (y.From==q.From)=true by simp [h2]]
      simp only [bO,lB,bS]
      by_cases h3:y.Zone_<q.Zone_
      ·rw [bJ h3,show Xb y q=true from bJ (.inr ⟨h2,h3⟩)];rfl
      ·rw [bK h3,show Xb y q=false from bK (by omega)];rfl
     ·rw [show (y.From==q.From)=false by simp [h2],show Xb y q=false from bK (by omega)];rfl
  obtain ⟨Q',h1,h2,h3⟩:=FZ ltP_ok (F:=fun s:Int×List Pass=>(U5 (s.2,s.1)).map oR) (P:= []) (T:=T) (Q++x::T).length hstop hF x Q.length Q [] rfl (by simpa using hs) (by simp) (by simp)
  refine ⟨Q',aC _ _ _ _ ?_,by simpa using h2,h3⟩
  have e:(((([]:List Pass).length+Q.length:Nat):Int),[]++Q++ [x]++T)=((Q.length:Int),Q++x::T):=by simp
  rw [e]at h1
  rw [h1];rfl
theorem mR (A:List Pass)(hN:A.length≤1000000): ∃A',loop Au (A,1)=some A'∧A'.Perm A∧Srt Xb A':=by
  have hend: ∀(xs:List Pass) (i:Nat),xs.length≤i→Au (xs,(i:Int))=some (.out xs):=fun xs i hi=>by
    unfold Au
    rw [show decide ((i:Int)< (xs.length:Int))=false from bK (by omega)];rfl
  have key: ∀(R Q:List Pass),(Q++R).length≤1000000→Srt Xb Q→∃A',loop Au (Q++R,(Q.length:Int))=some A'∧A'.Perm (Q++R)∧Srt Xb A':=by
    intro R
    induction R with
    |nil=>
     intro Q hl hs
     exact ⟨Q,by rw [lP];exact C5 (hend _ _ (wH _)),by simp,hs⟩
    |cons x R ih=>
     intro Q hl hs
     obtain ⟨Q',k1,k2,k3⟩:=gF R x Q hs hl
     have hlq:Q'.length=Q.length+1:=by rw [k2.length_eq];simp
     simp only [lM,lL]at hl
     obtain ⟨A',g1,g2,g3⟩:=ih Q' (by rw [lM];omega) k3
     refine ⟨A',?_,g2.trans ((k2.append_right R).trans (List.perm_middle (a:=x) (l₁:=Q) (l₂:=R)).symm),g3⟩
     rw [← g1,hlq]
     refine J2 ?_
     unfold Au
     dsimp only
     rw [show decide ((Q.length:Int)< ((Q++x::R).length:Int))=true from bJ (by simp;omega),bO,k1,lB,F2 (by omega)]
     congr 2
  cases A with
  |nil=>exact ⟨[],C5 (hend [] 1 (by simp)), .refl _,List.Pairwise.nil⟩
  |cons a A=>
   obtain ⟨A',g1,g2,g3⟩:=key A [a] (by simpa using hN) (List.pairwise_singleton _ _)
   exact ⟨A',g1,g2,g3⟩
theorem WC {m:Map}(B:BearK m)(r:List Int)(hr:r.length≤1000000): ∃ps,V8 m r=some ps∧Fm m r=some ps∧ps.length≤16:=by
  by_cases q:P3 m r=0
  ·obtain ⟨a,t,rfl,R⟩:=chkRoute_zero.1 q
   obtain ⟨ps,p1,p2,p3,p4⟩:=NW B R
   refine ⟨ps,p1,?_,p4⟩
   have hm7:=R.most
   have hlen:(Lk m 0 (a::t)).length≤16:=by rw [← p2.length_eq];exact p4
   have h1:loop (Y4 m (a::t) (P4 m 0 (a::t))) ([],0)=some (Lk m 0 (a::t)):=by
     have:=pV B.toBearM R (a::t) 0 [] rfl (by omega) (by simp;omega)
     rw [lQ,Ze]at this
     exact this
   obtain ⟨A',g1,g2,g3⟩:=mR (Lk m 0 (a::t)) (by omega)
   have:ps=A':=SZ p3 g3 (p2.trans g2.symm) fun x hx y hy=>aD R x (p2.mem_iff.1 hx) y (p2.mem_iff.1 hy)
   unfold Fm
   rw [Wi B.toBearM _ hr,lB,show StartsM m (a::t)=P4 m 0 (a::t) by unfold StartsM;rw [R.follow],h1,lB,g1,this];rfl
  ·refine ⟨[],?_,?_,by simp⟩
   ·have h1:loop (O4 m (Az m r)) ([],0)=some []:=by
      refine C5 ?_
      unfold O4
      rw [Su q];rfl
    unfold V8
    rw [Rn B.toBearM r hr,lB,h1,lB,CP];rfl
   ·have h1:loop (Y4 m r []) ([],0)=some []:=C5 rfl
    obtain ⟨A',g1,g2,_⟩:=mR [] (by simp)
    obtain rfl:A'= []:=List.length_eq_zero_iff.1 g2.length_eq
    unfold Fm
    rw [Wi B.toBearM r hr,lB,StartsM,Su q]
    dsimp only
    rw [h1,lB,g1];rfl
/-- How far it is to stop, by its sum. -/
def Xc (b:Int):Nat→Int→Int
  |0,_=>0
  |n+1,v=>if v≤b then 0 else (v - b)+Xc b n (v - b)
def Ol (v b:Int):Int:=Xc b v.toNat v
theorem LA {b:Int}(hb:0<b): ∀(n m:Nat) (v:Int),v≤n→v≤m→Xc b n v=Xc b m v
  |0,0,_,_,_=>rfl
  |0,m+1,v,h,_=>by rw [Xc,Xc,bQ (by omega)]
  |n+1,0,v,_,h=>by rw [Xc,Xc,bQ (by omega)]
  |n+1,m+1,v,h1,h2=>by
   rw [Xc,Xc]
   by_cases h:v≤b
   ·rw [bQ h,bQ h]
   ·rw [bR h,bR h,LA hb n m _ (by omega) (by omega)]
theorem Qb {v b:Int}(h:v≤b):Ol v b=0:=by
  unfold Ol
  cases v.toNat with
  |zero=>rfl
  |succ n=>rw [Xc,bQ h]
theorem Zx {v b:Int}(hb:0<b)(h:b<v):Ol v b=(v - b)+Ol (v - b) b:=by
  unfold Ol
  obtain ⟨n,hn⟩: ∃n,v.toNat=n+1:=⟨v.toNat - 1,by omega⟩
  rw [hn,Xc,bR (by omega),LA hb n (v - b).toNat _ (by omega) (by omega)]
theorem EV {P:Int→Prop}{b:Int}(hb:0<b)(h0: ∀v,v≤b→P v)(h1: ∀v,b<v→P (v - b)→P v)(v:Int):P v:=by
  have key: ∀(n:Nat) (v:Int),v≤n→P v:=by
    intro n
    induction n with
    |zero=>intro v hv;exact h0 v (by omega)
    |succ n ih=>
     intro v hv
     by_cases h:v≤b
     ·exact h0 v h
     ·exact h1 v (by omega) (ih _ (by omega))
  exact key v.toNat v (by omega)
theorem EW {b:Int}(hb:0<b)(v:Int):0≤Ol v b:=by
  refine EV (P:=fun v=>0≤Ol v b) hb (fun v h=>by rw [Qb h];exact Int.le_refl _) (fun v h ih=> ?_) v
  rw [Zx hb h];omega
/-- The closed form. -/
theorem gG (n:Int):(n* (n+1)) % 2=0:=by
  rcases (show n % 2=0∨n % 2=1 by omega)with h|h
  ·rw [Int.mul_emod,h];simp
  ·rw [Int.mul_emod,Int.add_emod,h];simp
theorem WD {b:Int}(hb:0<b)(v:Int)(hv:1≤v):2*Ol v b=2* ((v - 1) / b*v) - b* ((v - 1) / b* ((v - 1) / b+1)):=by
  revert hv
  refine EV (P:=fun v=>1≤v→2*Ol v b=2* ((v - 1) / b*v) - b* ((v - 1) / b* ((v - 1) / b+1))) hb (fun v h hv=> ?_) (fun v h ih hv=> ?_) v
  ·have:(v - 1) / b=0:=Int.ediv_eq_zero_of_lt (by omega) (by omega)
   rw [Qb h,this];simp
  ·have ih:=ih (by omega)
   have e:(v - 1) / b=(v - b - 1) / b+1:=by
     rw [show v - 1=(v - b - 1)+b*1 by omega,Int.add_mul_ediv_left _ _ (by omega)]
   rw [Zx hb h,e]
   generalize (v - b - 1) / b=n at ih ⊢
   rw [Int.mul_add,ih]
   have a1:(n+1)*v=n*v+v:=by rw [Int.add_mul,Int.one_mul]
   have a2:n* (v - b)=n*v - n*b:=Int.mul_sub ..
   have a3:b* ((n+1)* (n+1+1))=b* (n* (n+1))+2* (n*b)+2*b:=by
     rw [show (n+1)* (n+1+1)=n* (n+1)+2*n+2 by
      rw [Int.add_mul,Int.mul_add n,Int.one_mul];omega,Int.mul_add,Int.mul_add,Int.mul_left_comm b 2 n,Int.mul_comm b n,Int.mul_comm b 2]
   rw [a1,a2,a3];omega
def Ux (v b:Int):Int:=if v<1∨b<1 then 0 else Ol (min v 1000000) (min b 1000000)
theorem gH {b:Int}(hb:0<b){v:Int}(h1:v≤1000000):0≤Ol v b∧Ol v b≤1000000000000:=by
  refine ⟨EW hb v,?_⟩
  have key: ∀v:Int,0≤v→Ol v b≤v*v:=by
    intro v
    refine EV (P:=fun v=>0≤v→Ol v b≤v*v) hb (fun v h hv=>by rw [Qb h];exact wO hv hv) (fun v h ih hv=> ?_) v
    have ih:=ih (by omega)
    rw [Zx hb h]
    have h1:(v - b)* (v - b)≤(v - 1)* (v - b):=Int.mul_le_mul_of_nonneg_right (by omega) (by omega)
    have h2:(v - 1)* (v - b)≤(v - 1)*v:=Int.mul_le_mul_of_nonneg_left (by omega) (by omega)
    have h3:(v - 1)*v=v*v - v:=by rw [Int.sub_mul,Int.one_mul]
    omega
  by_cases h0:0≤v
  ·have:=key v h0
   have:v*v≤1000000*1000000:=Int.mul_le_mul h1 h1 h0 (by omega)
   omega
  ·rw [Qb (by omega)];omega
theorem XZ (v b:Int):Mm v b=some (Ux v b):=by
  unfold Mm Ux
  rw [Db,Db]
  by_cases h:v<1∨b<1
  ·rw [bQ h,show (decide (v<1)||decide (b<1))=true by simpa using h];rfl
  ·rw [bR h,show (decide (v<1)||decide (b<1))=false by simpa using h,bP]
   have hV:1≤min v 1000000∧min v 1000000≤1000000:=by omega
   have hB:1≤min b 1000000∧min b 1000000≤1000000:=by omega
   generalize min v 1000000=V at hV ⊢
   generalize min b 1000000=B at hB ⊢
   have hq0:0≤(V - 1) / B:=Int.ediv_nonneg (by omega) (by omega)
   have hq1:(V - 1) / B≤V - 1:=Int.ediv_le_self _ (by omega)
   have hq2:B* ((V - 1) / B)≤V - 1:=Int.mul_ediv_self_le (by omega)
   have hf:=WD (b:=B) (by omega) V hV.1
   unfold PF
   rw [F2 (by omega),bR (by omega),lB,wP (by omega)]
   generalize (V - 1) / B=n at hq0 hq1 hq2 hf ⊢
   have e0:IntKind.i64.wrap n=n:=F2 (by omega)
   rw [e0]
   have b1:0≤n*V∧n*V≤1000000*1000000:=⟨wO hq0 (by omega),Int.mul_le_mul (by omega) hV.2 (by omega) (by omega)⟩
   have b2:0≤n* (n+1)∧n* (n+1)≤1000000*1000000:=⟨wO hq0 (by omega),Int.mul_le_mul (by omega) (by omega) (by omega) (by omega)⟩
   have b3:0≤B* (n* (n+1))∧B* (n* (n+1))≤1000000*1000000:=by
     refine ⟨wO (by omega) b2.1,?_⟩
     rw [← Int.mul_assoc]
     exact Int.mul_le_mul (by omega) (by omega) (by omega) (by omega)
   have he:=gG n
   have b4:B* (n* (n+1))=2* (B* (n* (n+1) / 2)):=by
     rw [Int.mul_left_comm 2 B,Int.mul_ediv_cancel' (Int.dvd_of_emod_eq_zero he)]
   rw [F2 (n:=n+1) (by omega),F2 (n:=n* (n+1)) (by omega),F2 (n:=n*V) (by omega),wP b2.1,F2 (n:=n* (n+1) / 2) (by omega),F2 (n:=B* (n* (n+1) / 2)) (by omega)]
   congr 1
   rw [F2 (by omega)]
   omega
theorem aE {b:Int}(hb:1≤b)(hb2:Mi false b 1000000=b)(v:Int): ∀a:Int,v≤1000000→0≤a→a+Ol v b≤4000000000000→loop (Dm b) (v,a)=some (a+Ol v b):=by
  refine EV (P:=fun v=> ∀a:Int,v≤1000000→0≤a→a+Ol v b≤4000000000000→loop (Dm b) (v,a)=some (a+Ol v b)) (b:=b) (by omega) (fun v h a _ _ _=> ?_) (fun v h ih a h1 h2 h3=> ?_) v
  ·rw [C5 (t:=a) (by unfold Dm;rw [hb2];simp [show ¬v>b by omega]),Qb h,Int.add_zero]
  ·have hr:=Zx (by omega) h
   have hn:=EW (b:=b) (by omega) (v - b)
   rw [J2 (s':=(v - b,a+ (v - b))) (by
    unfold Dm;rw [hb2]
    dsimp only
    rw [F2 (n:=v - b) (by omega),F2 (n:=a+ (v - b)) (by omega),bJ (show v>b by omega)];rfl),ih _ (by omega) (by omega) (by omega)]
   congr 1;omega
theorem TA (v b:Int):Vx v b=some (Ux v b):=by
  unfold Vx Ux
  rw [Db,Db]
  by_cases h:v<1∨b<1
  ·rw [bQ h,show (decide (min v 1000000<1)||decide (min b 1000000<1))=true by simp only [bV,bM];omega];rfl
  ·rw [bR h,show (decide (min v 1000000<1)||decide (min b 1000000<1))=false by simp only [wA,wC];omega,bP]
   have hB:1≤min b 1000000∧min b 1000000≤1000000:=by omega
   have hbd:=gH (b:=min b 1000000) (by omega) (v:=min v 1000000) (by omega)
   have e:Dm b=Dm (min b 1000000):=by
     funext x;unfold Dm;rw [Db,Db,show min (min b 1000000) 1000000=min b 1000000 by omega]
   rw [e,aE hB.1 (by rw [Db];omega) _ 0 (by omega) (by omega) (by omega)]
   show some (0+_)=_
   rw [Int.zero_add]
structure SmallS (s:State):Prop where
  agents:s.Agents.length≤10
  ins:s.In.length≤20
  routes: ∀a∈s.Agents,a.Route.length≤10
/-! ### Copies -/
theorem Uy {α:Type}{l:List α}(h:l.length≤1000000):X3 ([]:List α) l=some l:=by
  rw [Ey (by simp;omega),lQ]
structure SizeS (s:State):Prop where
  agents:s.Agents.length≤1000
  ins:s.In.length≤1000000
  routes: ∀a∈s.Agents,a.Route.length≤1000
theorem SmallS.size {s:State}(h:SmallS s):SizeS s:=⟨by have:=h.agents;omega,by have:=h.ins;omega,fun a ha=>by have:=h.routes a ha;omega⟩
theorem NY (F:Int×State→Option (Stp (Int×State) State))(s:State)(h:SizeS s)(l0:List Stay)
    (hF: ∀(i:Nat) (a:Agent) (t:State),s.Agents[i]? =some a→F ((i:Int),t)=(X3 t.Agents [a]).bind fun v=>some (.go (D6 ((i:Int)+1),⟨t.Tick,v,t.In⟩))) (h0: ∀t:State,F ((s.Agents.length:Int),t)=some (.out t)):
    loop F (0,⟨s.Tick,[],l0⟩)=some ⟨s.Tick,s.Agents,l0⟩:=by
  have key: ∀(r:List Agent) (i:Nat),s.Agents.drop i=r→i≤s.Agents.length→loop F ((i:Int),⟨s.Tick,s.Agents.take i,l0⟩)=some ⟨s.Tick,s.Agents,l0⟩:=by
    intro r
    induction r with
    |nil=>
     intro i hi hil
     have:=N8 hi
     obtain rfl:i=s.Agents.length:=by omega
     rw [C5 (h0 _),List.take_length]
    |cons a r ih=>
     intro i hi hil
     have hlt:=M9 hi
     have ha:=U7 hi
     have hh:=h.agents
     rw [J2 (s':=(((i+1:Nat):Int),⟨s.Tick,s.Agents.take (i+1),l0⟩)),ih (i+1) (K5 hi) hlt]
     rw [hF i a _ ha,Ey (by rw [lV];simp;omega),lB,G8 hlt (by omega),List.take_add_one,ha];rfl
  exact key s.Agents 0 rfl (by omega)
theorem gI {s:State}(h:SizeS s):KG s=some s:=by
  unfold KG
  rw [Uy h.ins,lB,NY (Pl s) s h s.In (fun i a t ha=> ?_) (fun t=>by unfold Pl;dsimp only;rw [H9];rfl)]
  ·rfl
  ·unfold Pl
   dsimp only
   rw [J9 (H5 ha),C3 ha,bO,lB,Uy (by have:=h.routes a (lG ha);omega),lB]
theorem aF {l:List Int}(h:l.length≤1000000):Ka l=some l:=Uy h
theorem HF {a:Agent}(h:a.Route.length≤1000):Dv a=some a:=by
  unfold Dv
  rw [aF (by omega),lB]
theorem kR {s:State}(h:SizeS s):Ie s=some s:=by
  unfold Ie
  rw [show Aa s.In=some s.In from Uy h.ins,lB,NY (Jh s) s h s.In (fun i a t ha=> ?_) (fun t=>by unfold Jh;dsimp only;rw [H9];rfl)]
  ·rfl
  ·unfold Jh
   dsimp only
   rw [J9 (H5 ha),C3 ha,bO,lB,HF (h.routes a (lG ha)),lB]
/-! ### Equal states -/
/-- The last place up to a number. -/
def Sv (S:Int):Nat→Nat→List Int→Nat
  |_,b,[]=>b
  |i,b,x::r=>Sv S (i+1) (if x≤S then i else b) r
theorem TB (st:List Int)(S:Int): ∀(r:List Int) (i b:Nat),st.drop i=r→i≤st.length→(i=0→b=0)→(0<i→b<i∧(∃y,st[b]? =some y∧y≤S)∧∀(j:Nat) y,b<j→j<i→st[j]? =some y→S<y)→(∃y,st[0]? =some y∧y≤S)→
    (∃y,st[Sv S i b r]? =some y∧y≤S)∧∀(j:Nat) y,Sv S i b r<j→st[j]? =some y→S<y:=by
  intro r
  induction r with
  |nil=>
   intro i b hi hil h0 h1 hne
   have:=N8 hi
   obtain ⟨y0,g0,_⟩:=hne
   have:=H5 g0
   obtain ⟨q1,q2,q3⟩:=h1 (by omega)
   exact ⟨q2,fun j y hj hy=>q3 j y hj (by have:=H5 hy;omega) hy⟩
  |cons x r ih=>
   intro i b hi hil h0 h1 hne
   have hx:=U7 hi
   have hlt:=M9 hi
   unfold Sv
   refine ih (i+1) _ (K5 hi) hlt (by omega) (fun _=> ?_) hne
   by_cases q:x≤S
   ·rw [bQ q]
    exact ⟨by omega,⟨x,hx,q⟩,fun j y h2 h3=>by omega⟩
   ·rw [bR q]
    by_cases z:i=0
    ·subst z
     obtain ⟨y0,g0,g1⟩:=hne
     rw [hx]at g0;cases g0;exact absurd g1 q
    ·obtain ⟨q1,q2,q3⟩:=h1 (by omega)
     refine ⟨by omega,q2,fun j y h2 h3 hy=> ?_⟩
     by_cases e:j=i
     ·subst e;rw [hx]at hy;cases hy;omega
     ·exact q3 j y h2 (by omega) hy
theorem aG {st:List Int}{S:Int}(hne: ∃y,st[0]? =some y∧y≤S):(∃y,st[Sv S 0 0 st]? =some y∧y≤S)∧∀(j:Nat) y,Sv S 0 0 st<j→st[j]? =some y→S<y:=
  TB st S st 0 0 rfl (by omega) (fun _=>rfl) (fun h=>by omega) hne
theorem kS (g:Agent)(st:List Int)(hl:st.length≤1000000): ∀(r:List Int) (i b:Nat),st.drop i=r→i≤st.length→loop (Gf g st) ((b:Int),(i:Int))=some ((Sv g.S i b r:Nat):Int):=by
  intro r
  induction r with
  |nil=>
   intro i b hi hil
   have:=N8 hi
   obtain rfl:i=st.length:=by omega
   exact C5 (by unfold Gf;dsimp only;rw [H9];rfl)
  |cons x r ih=>
   intro i b hi hil
   have hx:=U7 hi
   have hlt:=M9 hi
   unfold Sv
   by_cases q:x≤g.S
   ·rw [bQ q,J2 (s':=((i:Int),((i+1:Nat):Int))),ih (i+1) i (K5 hi) hlt]
    unfold Gf;dsimp only
    rw [J9 hlt,C3 hx,bO,lB,bJ q,bO,G8 hlt (by omega)]
   ·rw [bR q,J2 (s':=((b:Int),((i+1:Nat):Int))),ih (i+1) b (K5 hi) hlt]
    unfold Gf;dsimp only
    rw [J9 hlt,C3 hx,bO,lB,bK q,bP,G8 hlt (by omega)]
theorem aH (g:Agent)(st:List Int)(hl:st.length≤1000000)(k:Nat)(hk: ∃y,st[k]? =some y∧y≤g.S)(hj: ∀(j:Nat) y,k<j→st[j]? =some y→g.S<y): ∀(n i:Nat),i=k+n→i<st.length→loop (Ji g st) (i:Int)=some (k:Int):=by
  intro n
  induction n with
  |zero=>
   intro i hi hil
   obtain ⟨y,h1,h2⟩:=hk
   obtain rfl:i=k:=by omega
   exact C5 (by unfold Ji;rw [C3 h1,lB,bK (show ¬y>g.S by omega)];rfl)
  |succ n ih=>
   intro i hi hil
   have h1:st[i]? =some st[i]:=lH hil
   have h2:=hj i _ (by omega) h1
   rw [J2 (s':=((i - 1:Nat):Int)) (by unfold Ji;rw [C3 h1,lB,bJ (show st[i]>g.S by omega),bO,F2 (by omega)];congr 2;omega)]
   exact ih (i - 1) (by omega) (by omega)
def MH (m:Map)(g:Agent):Nat:=Sv g.S 0 0 (StartsM m g.Route)
/-- The lane of an agent, and its offset. -/
def Cz (m:Map)(g:Agent):Int×Int:=(g.Route.getD (MH m g) 0,g.S - (StartsM m g.Route).getD (MH m g) 0)
theorem RouteOK.StartsM {m:Map}{a:Int}{t:List Int}(R:RouteOK m a t):StartsM m (a::t)=P4 m 0 (a::t):=by unfold World.StartsM;rw [R.follow]
theorem RouteOK.LongM {m:Map}{a:Int}{t:List Int}(R:RouteOK m a t):LongM m (a::t)=Pe m (a::t) (a::t).length:=by unfold World.LongM;rw [R.follow]
theorem GD {m:Map}{a:Int}{t:List Int}(R:RouteOK m a t){g:Agent}(hg:g.Route=a::t)(h0:0≤g.S):
    ∃x,MH m g< (a::t).length∧(a::t)[MH m g]? =some x∧Cz m g=(x,g.S - Pe m (a::t) (MH m g))∧Pe m (a::t) (MH m g)≤g.S∧(∀j,MH m g<j→j< (a::t).length→g.S<Pe m (a::t) j):=by
  have hl:=Nd m (a::t) 0
  have h00:(P4 m 0 (a::t))[0]? =some 0:=by rw [P4];rfl
  obtain ⟨⟨y,y1,y2⟩,y3⟩:=aG (st:=P4 m 0 (a::t)) (S:=g.S) ⟨0,h00,h0⟩
  have e:MH m g=Sv g.S 0 0 (P4 m 0 (a::t)):=by unfold MH;rw [hg,R.StartsM]
  rw [← e]at y1 y3
  have hlt:=H5 y1
  rw [hl]at hlt
  have hy:y=Pe m (a::t) (MH m g):=by
    have:=Nf m (a::t) 0 (MH m g) hlt
    rw [y1,Int.zero_add]at this
    exact lD this
  refine ⟨(a::t)[MH m g],hlt,lH hlt,?_,by omega,fun j hj hjl=> ?_⟩
  ·unfold Cz
   rw [hg,R.StartsM,List.getD,List.getD,lH hlt,y1,hy];rfl
  ·have:=Nf m (a::t) 0 j hjl
   rw [Int.zero_add]at this
   exact y3 j _ hj this
theorem TC {m:Map}(B:BearM m){a:Int}{t:List Int}(R:RouteOK m a t){g:Agent}(hg:g.Route=a::t)(h0:0≤g.S)(h1:g.S≤9223372036854775807):If m g=some (Cz m g)∧Oy m g=some (Cz m g):=by
  obtain ⟨x,q1,q2,q3,q4,q5⟩:=GD R hg h0
  have hm7:=R.most
  have hr:g.Route.length≤1000000:=by rw [hg];simp;omega
  have hl:=Nd m (a::t) 0
  have hbd:=R.bd (i:=MH m g) (by omega)
  have hs:C0 (P4 m 0 (a::t)) ((MH m g:Nat):Int)=some (Pe m (a::t) (MH m g)):=RouteOK.starts q1
  have hk:(P4 m 0 (a::t))[MH m g]? =some (Pe m (a::t) (MH m g)):=by rw [Nf m _ 0 _ q1,Int.zero_add];rfl
  constructor
  ·unfold If
   rw [GB B _ hr,lB,hg,R.StartsM]
   have hn:D6 (((P4 m 0 (a::t)).length:Int) - 1)=((t.length:Nat):Int):=by rw [hl,F2 (by simp;omega)];simp
   rw [hn,aH g _ (by rw [hl];simp;omega) (MH m g) ⟨_,hk,q4⟩ (fun j y hj hy=>by
    have hjl:=H5 hy
    rw [hl]at hjl
    have:=Nf m (a::t) 0 j hjl
    rw [hy,Int.zero_add]at this
    cases this
    exact q5 j hj hjl) (t.length - MH m g) t.length (by simp only [lL]at q1;omega) (by rw [hl];simp),lB,C3 q2,lB,hs,lB,q3,F2 (by omega)]
  ·unfold Oy
   rw [Wi B _ hr,lB,hg,R.StartsM]
   have:=kS g (P4 m 0 (a::t)) (by rw [hl];simp;omega) (P4 m 0 (a::t)) 0 0 rfl (by omega)
   have e:MH m g=Sv g.S 0 0 (P4 m 0 (a::t)):=by unfold MH;rw [hg,R.StartsM]
   rw [← e]at this
   rw [show ((0:Int),(0:Int))=(((0:Nat):Int),((0:Nat):Int)) from rfl,this,lB,C3 q2,lB,hs,lB,q3,F2 (by omega)]
def X6 (m:Map)(x:Int):Int:=((m.Lanes[x.toNat]?).map (·.Kind)).getD 0
/-- The greatest speed, acceleration and braking where an agent is. -/
def Gq (m:Map)(g:Agent):Int×Int×Int:=U6 (X6 m (Cz m g).1)
def Uz (m:Map)(g:Agent):Bool:=decide (D6 (g.S - g.Len)>LongM m g.Route)
def QA (g:Agent):Bool:=(((decide (g.Len<300)||decide (g.Len>20000))||decide (g.Begin<0))||decide (g.Begin>1099511627776))||decide (g.S<0)
/-- The error of an agent of a state. -/
def Ee (m:Map)(s:State)(i:Int)(g:Agent):Int:=
  if P3 m g.Route=0 then
   if QA g=true∨g.S>LongM m g.Route+g.Len+2000 then 2
   else if g.V<0∨g.V>(Gq m g).1 then 2
   else if g.Gone≠Uz m g∨(g.Begin>s.Tick∧g.S≠0)∨(i=0∧g.Begin≠0)then 10 else 0
  else 13
theorem Ly {m:Map}{a:Int}{t:List Int}(R:RouteOK m a t):1000≤LongM m (a::t)∧LongM m (a::t)≤134217728:=by
  have h1:=R.bd (wH _)
  have h2:=R.lt (i:=0) (j:=(a::t).length) (by simp) (wH _)
  rw [Ze]at h2
  rw [R.LongM];omega
theorem QB {m:Map}(B:BearM m){g:Agent}(hr:g.Route.length≤1000000):Fu m g=some (Uz m g)∧Mn m g=some (Uz m g):=by
  constructor
  ·unfold Fu Ac
   rw [lB,XY B _ hr];rfl
  ·unfold Mn
   rw [KZ B _ hr];rfl
theorem NZ {m:Map}{a:Int}{t:List Int}(R:RouteOK m a t){g:Agent}(hg:g.Route=a::t)(h0:0≤g.S): ∃l,C0 m.Lanes (Cz m g).1=some l∧X6 m (Cz m g).1=l.Kind∧m.Lanes[(Cz m g).1.toNat]? =some l:=by
  obtain ⟨x,q1,q2,q3,_⟩:=GD R hg h0
  have hx:=R.mem (lG q2)
  have hl:m.Lanes[x.toNat]? =some m.Lanes[x.toNat]:=lH (by omega)
  have hg:=C3 hl
  rw [wG hx.1]at hg
  refine ⟨_,by rw [q3];exact hg,?_,by rw [q3];exact hl⟩
  rw [q3];unfold X6
  dsimp only
  rw [hl];rfl
theorem LB {g:Agent}(h:QA g=false):300≤g.Len∧g.Len≤20000∧0≤g.Begin∧g.Begin≤1099511627776∧0≤g.S:=by
  unfold QA at h
  simp only [wA,wC]at h
  omega
theorem TD {m:Map}(B:BearM m)(s:State){i:Int}{g:Agent}(hi:C0 s.Agents i=some g)(hr:g.Route.length≤1000)(hS:g.S≤9223372036854775807):
    Y7 m s i=some (Ee m s i g)∧Hc m s i=some (Ee m s i g):=by
  have hr':g.Route.length≤1000000:=by omega
  unfold Y7 Hc Ee
  rw [hi,lB,lB,BF B _ hr',Ob B _ hr',lB,lB]
  by_cases q:P3 m g.Route=0
  case neg=>
    rw [bR q,show (P3 m g.Route !=0)=true by simpa using q]
    exact ⟨rfl,rfl⟩
  rw [bQ q,q,show ((0:Int) !=0)=false from rfl,bP,bP]
  obtain ⟨a,t,ht,R⟩:=chkRoute_zero.1 q
  have hL:=Ly R
  rw [← ht]at hL
  rw [XY B _ hr',KZ B _ hr']
  have e:((((decide (g.Len<300)||decide (g.Len>20000))||decide (g.Begin<0))||decide (g.Begin>1099511627776))||decide (g.S<0))=QA g:=rfl
  rw [e]
  by_cases o:QA g=true
  ·rw [bQ (.inl o),o];exact ⟨rfl,rfl⟩
  have o':QA g=false:=by simpa using o
  obtain ⟨o1,o2,o3,o4,o5⟩:=LB o'
  rw [o',bX,bO,lB,lB,bY,F2 (n:=LongM m g.Route+g.Len) (by omega),F2 (n:=LongM m g.Route+g.Len+2000) (by omega)]
  by_cases l:g.S>LongM m g.Route+g.Len+2000
  ·rw [bQ (.inr l),bJ l];exact ⟨rfl,rfl⟩
  rw [bR (fun h=>h.elim (fun h=>by cases h) l),bK l,bP,bP]
  obtain ⟨l1,l2⟩:=TC B R ht o5 hS
  obtain ⟨ln,k1,k2,_⟩:=NZ R ht o5
  rw [l1,l2,lB,lB,k1,lB,lB,Ur,Mq,lB,lB]
  have ev:(Gq m g).1=(U6 ln.Kind).1:=by unfold Gq;rw [k2]
  rw [ev]
  by_cases v:g.V<0∨g.V>(U6 ln.Kind).1
  ·rw [bQ v,show (decide (g.V<0)||decide (g.V>(U6 ln.Kind).1))=true by simpa using v];exact ⟨rfl,rfl⟩
  rw [bR v,show (decide (g.V<0)||decide (g.V>(U6 ln.Kind).1))=false by rw [bZ];simpa using v,bP,bP,(QB B hr').1,(QB B hr').2,lB,lB]
  have hb: ∀b:Bool,(b=true↔g.Gone≠Uz m g∨(g.Begin>s.Tick∧g.S≠0)∨(i=0∧g.Begin≠0))→cond b (some (10:Int)) (some 0)=some (if g.Gone≠Uz m g∨(g.Begin>s.Tick∧g.S≠0)∨(i=0∧g.Begin≠0)then 10 else 0):=by
    intro b hb
    by_cases h:g.Gone≠Uz m g∨(g.Begin>s.Tick∧g.S≠0)∨(i=0∧g.Begin≠0)
    ·rw [bQ h,hb.2 h];rfl
    ·rw [bR h]
     cases b
     ·rfl
     ·exact absurd (hb.1 rfl) h
  exact ⟨hb _ (by simp),hb _ (by simp [or_assoc])⟩
/-! ### The whole check -/
def Gm (a b:Stay):Bool:=decide (a.Agent_<b.Agent_)||(a.Agent_==b.Agent_&&decide (a.Zone_<b.Zone_))
theorem WE (a b:Int):Bf [a,b]=some (if a≠0 then a else b):=by
  unfold Bf
  by_cases h:a=0
  ·subst h
   rw [J2 (s':=1) rfl,bR (by simp)]
   by_cases h:b=0
   ·subst h;rw [J2 (s':=2) rfl,C5 (t:= .inl ()) rfl];rfl
   ·rw [C5 (t:= .inr b) (by unfold Z5;rw [show C0 [(0:Int),b] 1=some b from rfl,lB,show (b !=0)=true by simpa using h];rfl)];rfl
  ·rw [C5 (t:= .inr a) (by unfold Z5;rw [show C0 [a,b] 0=some a from rfl,lB,show (a !=0)=true by simpa using h];rfl),bQ h];rfl
/-- What the order of two stays is. -/
def MI (a b:Stay):Int:=if EU a.Agent_ b.Agent_≠0 then EU a.Agent_ b.Agent_ else EU a.Zone_ b.Zone_
theorem LC (a b:Stay):Di a b=some (MI a b):=by
  unfold Di MI
  rw [Sr,lB,Sr,lB,WE,lB]
theorem TE (a b:Stay):decide (MI a b≥0)= !Gm a b:=by
  unfold MI Gm EU
  by_cases h1:a.Agent_<b.Agent_
  ·simp [h1]
  ·by_cases h2:a.Agent_>b.Agent_
   ·have:a.Agent_≠b.Agent_:=by omega
    simp [h1,h2,this]
   ·have:a.Agent_=b.Agent_:=by omega
    by_cases h3:a.Zone_<b.Zone_
    ·simp [this,h3]
    ·by_cases h4:a.Zone_>b.Zone_
     ·simp [this,h3,h4]
     ·simp [this,h3,h4]
def Xd (m:Map)(s:State)(x:Stay):Bool:=((decide (x.Agent_<0)||decide (x.Agent_≥(s.Agents.length:Int)))||decide (x.Zone_<0))||decide (x.Zone_≥(m.Zones.length:Int))
def cA (m:Map)(s:State)(i:Nat)(x:Stay):Option Int:=if Xd m s x=true∨(0<i∧∃y,s.In[i - 1]? =some y∧Gm y x=false)then some 11 else none
def Tb (s:State)(x:Stay):Bool:=((decide (x.Since<0)||decide (x.Since>s.Tick))||decide (x.Rank<0))||decide (x.Rank>100)
def Qc (m:Map)(s:State):Int:=
  if Uu m=0 then
   if s.Tick<0∨s.Tick>1099511627776 then 2 else if s.Agents.length=0 then 6 else if 8<s.Agents.length then 8
   else match I7 (fun i g=>if Ee m s (i:Int) g=0 then none else some (Ee m s (i:Int) g)) 0 s.Agents with
     |some e=>e
     |none=>match I7 (cA m s) 0 s.In with
      |some e=>e
      |none=>if s.In.any (Tb s)=true then 2 else 0
  else Uu m
theorem TF {m:Map}(B:BearM m){s:State}(h:SizeS s)(hw: ∀g∈s.Agents,g.S≤9223372036854775807):
    loop (Ae m s) 0=some (FV (I7 (fun i g=>if Ee m s (i:Int) g=0 then none else some (Ee m s (i:Int) g)) 0 s.Agents))∧
    loop (Hf m s) 0=some (FV (I7 (fun i g=>if Ee m s (i:Int) g=0 then none else some (Ee m s (i:Int) g)) 0 s.Agents)):=by
  have hh:=h.agents
  constructor
  ·refine Z1 s.Agents _ _ (fun i g hg=> ?_) (by unfold Ae;rw [H9];rfl)
   have hm:=lG hg
   unfold Ae
   rw [J9 (H5 hg),bO,(TD B s (C3 hg) (h.routes g hm) (hw g hm)).1,lB]
   by_cases q:Ee m s (i:Int) g=0
   ·rw [bQ q,q,show ((0:Int) !=0)=false from rfl,bP,G8 (H5 hg) (by omega)]
   ·rw [bR q,show (Ee m s (i:Int) g !=0)=true by simpa using q];rfl
  ·refine Z1 s.Agents _ _ (fun i g hg=> ?_) (by unfold Hf;rw [H9];rfl)
   have hm:=lG hg
   unfold Hf
   rw [J9 (H5 hg),bO,(TD B s (C3 hg) (h.routes g hm) (hw g hm)).2,lB]
   by_cases q:Ee m s (i:Int) g=0
   ·rw [bQ q,q,show ((0:Int) !=0)=false from rfl,bP,G8 (H5 hg) (by omega)]
   ·rw [bR q,show (Ee m s (i:Int) g !=0)=true by simpa using q];rfl
theorem TG {α:Type}{l:List α}{i:Nat}{a:α}(h:l[i]? =some a)(h0:0<i): ∃y,l[i - 1]? =some y∧C0 l (D6 ((i:Int) - 1))=some y∨1000000000000<i:=by
  by_cases hb:1000000000000<i
  ·exact ⟨a, .inr hb⟩
  ·have:=H5 h
   have e:l[i - 1]? =some l[i - 1]:=lH (by omega)
   refine ⟨_, .inl ⟨e,?_⟩⟩
   rw [F2 (by omega),show (i:Int) - 1=((i - 1:Nat):Int) by omega]
   exact C3 e
theorem gJ (m:Map){s:State}(h:SizeS s):
    loop (Ad m s) 0=some (FV (I7 (cA m s) 0 s.In))∧loop (He m s) 0=some (FV (I7 (cA m s) 0 s.In)):=by
  have hh:=h.ins
  constructor
  ·refine Z1 s.In _ _ (fun i x hx=> ?_) (by unfold Ad;rw [H9];rfl)
   have hi:=H5 hx
   unfold Ad
   rw [J9 hi,bO,C3 hx,lB]
   have e:(((decide (x.Agent_<0)||decide (x.Agent_≥(s.Agents.length:Int)))||decide (x.Zone_<0))||decide (x.Zone_≥(m.Zones.length:Int)))=Xd m s x:=rfl
   rw [e]
   unfold cA
   by_cases hb:Xd m s x=true
   ·rw [hb,bQ (.inl rfl)];rfl
   have hb':Xd m s x=false:=by simpa using hb
   rw [hb',bX,bS]
   by_cases h0:0<i
   ·obtain ⟨y,hy⟩:=TG hx h0
    rcases hy with ⟨y1,y2⟩|hy
    ·rw [bJ (show (i:Int)>0 by omega),bO,y2,lB,bO,LC,lB,bY,bS,TE]
     by_cases q:Gm y x=true
     ·rw [q,bR (by rintro (h|⟨_,z,z1,z2⟩);exact (by cases h);rw [y1]at z1;cases z1;rw [q]at z2;cases z2),bW,bP,G8 hi (by omega)]
     ·have q':Gm y x=false:=by simpa using q
      rw [q',bQ (.inr ⟨h0,y,y1,q'⟩)];rfl
    ·omega
   ·rw [bK (show ¬(i:Int)>0 by omega),bP,lB,bP,lB,bY,bT,bP,bR (by rintro (h|⟨h,_⟩);exact (by cases h);exact h0 h),G8 hi (by omega)]
  ·refine Z1 s.In _ _ (fun i x hx=> ?_) (by unfold He;rw [H9];rfl)
   have hi:=H5 hx
   unfold He
   rw [J9 hi,bO,C3 hx,lB]
   have e:(((decide (x.Agent_<0)||decide (x.Agent_≥(s.Agents.length:Int)))||decide (x.Zone_<0))||decide (x.Zone_≥(m.Zones.length:Int)))=Xd m s x:=rfl
   rw [e]
   unfold cA
   by_cases hb:Xd m s x=true
   ·rw [hb,bQ (.inl rfl)];rfl
   have hb':Xd m s x=false:=by simpa using hb
   rw [hb',bP]
   by_cases h0:0<i
   ·obtain ⟨y,hy⟩:=TG hx h0
    rcases hy with ⟨y1,y2⟩|hy
    ·rw [bJ (show (i:Int)>0 by omega),bO,y2,lB,bS]
     have hc: ∀b:Bool,(cond b (some y) (some default)).bind (fun v=>some v)=some (cond b y default):=by intro b;cases b<;>rfl
     by_cases q1:x.Agent_<y.Agent_
     ·rw [bJ q1,bQ (.inr ⟨h0,y,y1,by unfold Gm;simp;omega⟩)];rfl
     ·rw [bK q1,bX,bO,lB,bS]
      by_cases q2:x.Agent_=y.Agent_
      ·rw [show (x.Agent_==y.Agent_)=true by simpa using q2,bO,lB,bY,bS,bS]
       by_cases q3:x.Zone_≤y.Zone_
       ·rw [bJ q3,bQ (.inr ⟨h0,y,y1,by unfold Gm;simp;omega⟩)];rfl
       ·rw [bK q3,bR (by rintro (h|⟨_,z,z1,z2⟩);exact (by cases h);rw [y1]at z1;cases z1;unfold Gm at z2;simp at z2;omega),bP,G8 hi (by omega)]
      ·rw [show (x.Agent_==y.Agent_)=false by simpa using q2,bP,lB,bY,bS,bT,bP,bR (by rintro (h|⟨_,z,z1,z2⟩);exact (by cases h);rw [y1]at z1;cases z1;unfold Gm at z2;simp at z2;omega),G8 hi (by omega)]
    ·omega
   ·rw [bK (show ¬(i:Int)>0 by omega),bP,lB]
    simp only [bT,bP,lB]
    rw [bR (by rintro (h|⟨h,_⟩);exact (by cases h);exact h0 h),G8 hi (by omega)]
theorem Oc {α:Type}(l:List α)(P:α→Bool)(F:Int→Option (Stp Int (Sum Unit Int)))(hl:l.length≤1000000000)(hF: ∀(i:Nat) a,l[i]? =some a→F (i:Int)=some (if P a then .out (.inr (i:Int))else .go (D6 ((i:Int)+1))))(h0:F (l.length:Int)=some (.out (.inl ()))):
    (thenS (loop F 0) (fun _=>some (-1)) (fun r=>some r)).bind (fun v=>some (decide (v≥0)))=some (l.any P):=by
  rw [KP l P hl hF h0]
  have:=Us P l
  unfold EQ at this
  cases hq:l.findIdx? P with
  |some i=>rw [hq]at this;show some _=_;rw [← this]
  |none=>rw [hq]at this;show some _=_;rw [← this]
theorem kT {s:State}(h:SizeS s):F8 s.In s=some (s.In.any (Tb s)):=by
  have hh:=h.ins
  unfold F8 K0
  refine Oc s.In (Tb s) _ (by omega) (fun i x hx=> ?_) (by unfold M2;rw [H9];rfl)
  unfold M2 Mf
  rw [J9 (H5 hx),C3 hx,bO,lB,lB]
  have e:(((decide (x.Since<0)||decide (x.Since>s.Tick))||decide (x.Rank<0))||decide (x.Rank>100))=Tb s x:=rfl
  rw [e]
  cases Tb s x<;>rfl
theorem gK {s:State}(h:SizeS s):thenS (loop (Hd s) 0) (fun _=>some 0) (fun r=>some r)=some (if s.In.any (Tb s)=true then 2 else 0):=by
  have hh:=h.ins
  rw [Z1 s.In _ (fun _ x=>if Tb s x=true then some 2 else none) (fun i x hx=> ?_) (by unfold Hd;rw [H9];rfl)]
  ·by_cases q:s.In.any (Tb s)=true
   ·rw [bQ q]
    cases hf:I7 (fun _ x=>if Tb s x=true then some (2:Int)else none) 0 s.In with
    |some e=>
     have: ∀(l:List Stay) (i:Nat),I7 (fun _ x=>if Tb s x=true then some (2:Int)else none) i l=some e→e=2:=by
       intro l
       induction l with
       |nil=>intro i h;cases h
       |cons a l ih=>
        intro i h
        unfold I7 at h
        by_cases z:Tb s a=true
        ·rw [bQ z]at h;cases h;rfl
        ·rw [bR z]at h;exact ih _ h
     rw [this _ _ hf];rfl
    |none=>
     obtain ⟨x,x1,x2⟩:=lZ.1 q
     obtain ⟨j,hj⟩:=bG x1
     have:=firstE_none.1 hf j x hj
     rw [bQ x2]at this;cases this
   ·rw [bR q,firstE_none.2 fun j x hj=> ?_]
    ·rfl
    ·by_cases z:Tb s x=true
     ·exact absurd (lZ.2 ⟨x,lG hj,z⟩) q
     ·rw [bR z]
  ·unfold Hd
   rw [J9 (H5 hx),C3 hx,bO,lB]
   have e:(((decide (x.Since<0)||decide (x.Since>s.Tick))||decide (x.Rank<0))||decide (x.Rank>100))=Tb s x:=rfl
   rw [e]
   by_cases z:Tb s x=true
   ·rw [bQ z,z];rfl
   ·rw [bR z,show Tb s x=false by simpa using z,bP,G8 (H5 hx) (by omega)]
theorem EX {m:Map}(B:BearM m){s:State}(h:SizeS s)(hw: ∀g∈s.Agents,g.S≤9223372036854775807):Cc m s=some (Qc m s)∧Nb m s=some (Qc m s):=by
  obtain ⟨a1,a2⟩:=TF B h hw
  obtain ⟨i1,i2⟩:=gJ m h
  unfold Cc Nb Qc
  rw [Oa B,Sn B,lB,lB]
  by_cases q:Uu m=0
  case neg=>rw [bR q,show (Uu m !=0)=true by simpa using q];exact ⟨rfl,rfl⟩
  rw [bQ q,q,show ((0:Int) !=0)=false from rfl,bP,bP]
  by_cases t:s.Tick<0∨s.Tick>1099511627776
  ·rw [bQ t,show (decide (s.Tick<0)||decide (s.Tick>1099511627776))=true by simpa using t];exact ⟨rfl,rfl⟩
  rw [bR t,show (decide (s.Tick<0)||decide (s.Tick>1099511627776))=false by rw [bZ];simpa using t,bP,bP]
  by_cases n0:s.Agents.length=0
  ·rw [bQ n0,show (((s.Agents.length:Nat):Int)==0)=true by rw [n0];rfl];exact ⟨rfl,rfl⟩
  rw [bR n0,show (((s.Agents.length:Nat):Int)==0)=false by simpa using (show ((s.Agents.length:Nat):Int)≠0 by omega),bP,bP]
  by_cases n8:8<s.Agents.length
  ·rw [bQ n8,bJ (show (s.Agents.length:Int)>8 by omega)];exact ⟨rfl,rfl⟩
  rw [bR n8,bK (show ¬(s.Agents.length:Int)>8 by omega),bP,bP,a1,a2]
  cases I7 (fun i g=>if Ee m s (i:Int) g=0 then none else some (Ee m s (i:Int) g)) 0 s.Agents with
  |some e=>exact ⟨rfl,rfl⟩
  |none=>
   show thenS _ _ _=_∧thenS _ _ _=_
   rw [i1,i2]
   cases I7 (cA m s) 0 s.In with
   |some e=>exact ⟨rfl,rfl⟩
   |none=>
    refine ⟨?_,gK h⟩
    show (F8 s.In s).bind _=_
    rw [kT h,lB]
    cases s.In.any (Tb s)<;>rfl
/-- A map of the kit. -/
structure KitM (m:Map):Prop extends BearK m where
  val:ValR m
theorem kU (n:Int): ∃m,Zr n=some m∧KitM m∧∃k p,k<8∧ParOK p∧m=ET k p:=by
  obtain ⟨k,p,hk,hp,hm⟩:=VU n
  exact ⟨_,hm,⟨⟨fU hp,(HA k p.r).1⟩,kA hk hp⟩,k,p,hk,hp,rfl⟩
theorem KitM.chk {m:Map}(K:KitM m):Uu m=0:=chkR_zero.2 K.val
/-- Who is there. -/
def R9 (s:State)(i:Int):Bool:=match C0 s.Agents i with
  |some g=> !g.Gone&&decide (g.Begin≤s.Tick)
  |none=>false
theorem GF {α:Type}{l:List α}{i:Int}(h: ¬(0≤i∧i<l.length)):C0 l i=none:=by
  unfold C0
  by_cases h0:0≤i
  ·rw [bQ h0]
   exact lJ (by omega)
  ·rw [bR h0]
theorem Ro {α:Type}{l:List α}{i:Int}(h0:0≤i)(h1:i<l.length): ∃a,C0 l i=some a∧l[i.toNat]? =some a:=by
  have:l[i.toNat]? =some l[i.toNat]:=lH (by omega)
  exact ⟨_,by unfold C0;rw [bQ h0];exact this,this⟩
theorem Od (s:State)(i:Int):Ff s i=some (R9 s i)∧Ia s i=some (R9 s i):=by
  unfold Ff Ia R9
  by_cases h:0≤i∧i<s.Agents.length
  ·obtain ⟨g,hg,_⟩:=Ro h.1 h.2
   rw [show (decide (i≥0)&&decide (i< (s.Agents.length:Int)))=true by simp only [bU,bM];exact h,bO,hg,lB,lB]
   simp only [bO,lB,bS]
   constructor
   ·cases g.Gone<;>simp
   ·by_cases q:g.Begin≤s.Tick<;>simp [q]
  ·rw [show (decide (i≥0)&&decide (i< (s.Agents.length:Int)))=false by rw [bZ];simp only [ne_eq,bU,bM];exact h,GF h]
   exact ⟨rfl,rfl⟩
/-- A red line before which an agent could stop, and then cannot. -/
def Lg (f v nxt b line:Int):Bool:=(decide (line>f)&&decide (D6 (f+Ux v b)<line))&&decide (D6 (D6 (f+nxt)+Ux nxt b)≥line)
def Qn (R:List Int)(f v nxt b:Int):Bool:= !R.any (Lg f v nxt b)
theorem TH (R:List Int)(hR:R.length≤1000)(f v nxt b:Int):Hy R f v nxt b=some (Qn R f v nxt b):=by
  unfold Hy H6 I3
  rw [Oc R (Lg f v nxt b) _ (by omega) (fun i x hx=> ?_) (by unfold K9;rw [H9];rfl)]
  ·rfl
  ·unfold K9 Eh
   rw [J9 (H5 hx),C3 hx,bO,lB,XZ,XZ]
   have e:((cond (decide (x>f)) (some (Ux v b)) (some default)).bind fun v1=>(cond (decide (x>f)&&decide (D6 (f+v1)<x)) (some (Ux nxt b)) (some default)).bind fun v2=>some ((decide (x>f)&&decide (D6 (f+v1)<x))&&decide (D6 (D6 (f+nxt)+v2)≥x)))=some (Lg f v nxt b x):=by
     unfold Lg
     cases decide (x>f)
     ·rfl
     ·simp only [bO,lB,bS]
      cases decide (D6 (f+Ux v b)<x)<;>rfl
   rw [e,lB]
   cases Lg f v nxt b x<;>rfl
theorem TI (R:List Int)(hR:R.length≤1000)(f v nxt b:Int):Yx R f v nxt b=some (Qn R f v nxt b):=by
  unfold Yx Qn
  rw [Z1 R _ (fun _ x=>if Lg f v nxt b x=true then some false else none) (fun i x hx=> ?_) (by unfold Sk;rw [H9];rfl)]
  ·have key: ∀(l:List Int) (i:Nat),thenS (some (FV (I7 (fun _ x=>if Lg f v nxt b x=true then some false else none) i l))) (fun _=>some true) (fun r=>some r)=some (!l.any (Lg f v nxt b)):=by
     intro l
     induction l with
     |nil=>intro i;rfl
     |cons x l ih=>
      intro i
      unfold I7
      by_cases z:Lg f v nxt b x=true
      ·rw [bQ z,bH,z];rfl
      ·rw [bR z,bH,show Lg f v nxt b x=false by simpa using z,bY]
       exact ih _
   exact key R 0
  ·unfold Sk
   rw [J9 (H5 hx),C3 hx,bO,lB,TA,TA]
   have e:((cond (decide (x>f)) (some (Ux v b)) (some default)).bind fun v2=>(cond (decide (x>f)) (some x) (some default)).bind fun v3=>(cond (decide (x>f)&&decide (D6 (f+v2)<v3)) (some (Ux nxt b)) (some default)).bind fun v4=>(cond (decide (x>f)&&decide (D6 (f+v2)<v3)) (some x) (some default)).bind fun v5=>cond ((decide (x>f)&&decide (D6 (f+v2)<v3))&&decide (D6 (D6 (f+nxt)+v4)≥v5)) (some (Stp.out (Sum.inr false))) (some (Stp.go (D6 ((i:Int)+1)))))=(some (if Lg f v nxt b x=true then Stp.out (Sum.inr false)else Stp.go (D6 ((i:Int)+1))):Option (Stp Int (Sum Unit Bool))):=by
     unfold Lg
     cases decide (x>f)
     ·rfl
     ·simp only [bO,lB,bS]
      cases decide (D6 (f+Ux v b)<x)
      ·rfl
      ·simp only [bO,lB,bS]
       cases decide (D6 (D6 (f+nxt)+Ux nxt b)≥x)<;>rfl
   rw [e]
   by_cases z:Lg f v nxt b x=true
   ·rw [bQ z,bQ z]
   ·rw [bR z,bR z,G8 (H5 hx) (by omega)]
/-- The red lines of a lane. -/
def WF (m:Map)(lane tick:Int):List Int:=(Es m lane tick).getD []
theorem oG {m:Map}(B:BearM m)(lane tick:Int):Es m lane tick=some (WF m lane tick)∧Up m lane tick=some (WF m lane tick)∧(WF m lane tick).length≤1000:=by
  obtain ⟨R,h1,h2,h3⟩:=kI B lane tick
  unfold WF
  rw [h1,h2]
  exact ⟨rfl,rfl,h3⟩
def Ax (g:Agent)(most act:Int):Int:=max 0 (min (D6 (g.V+act)) most)
/-- The acceleration, made less as long as it has to be. -/
def Va (K:Int→Bool)(low:Int):Nat→Int→Int
  |0,act=>act
  |n+1,act=>if act>low∧K act=false then Va K low n (act - 1)else act
theorem YA {K:Int→Bool}{low:Int}: ∀(n:Nat) (act:Int),low≤act→low≤Va K low n act∧Va K low n act≤act
  |0,act,h=>by rw [Va];omega
  |n+1,act,h=>by
   rw [Va]
   split
   ·rename_i q
    have:=YA (K:=K) (low:=low) n (act - 1) (by omega);omega
   ·omega
/-- An agent that is there, after a tick. -/
def Hm (m:Map)(g:Agent)(tick act:Int):Int:=
  let L:=Cz m g;let t:=Gq m g;let act0:=max (-t.2.2) (min act t.2.1)
  if g.Obey=true∧L.2≤Dh m L.1 then Ax g t.1 (Va (fun x=>Qn (WF m L.1 tick) L.2 g.V (Ax g t.1 x) t.2.2) (-t.2.2) (act0+t.2.2).toNat act0)else Ax g t.1 act0
def HG (m:Map)(g:Agent)(tick act:Int):Agent:=
  {g with V:=Hm m g tick act,S:=D6 (g.S+Hm m g tick act),Gone:=Uz m {g with V:=Hm m g tick act,S:=D6 (g.S+Hm m g tick act)}}
theorem Rb (k:Int):0≤(U6 k).1∧(U6 k).1≤2000∧0≤(U6 k).2.1∧(U6 k).2.1≤100∧0≤(U6 k).2.2∧(U6 k).2.2≤300:=by
  unfold U6
  repeat' split
  all_goals simp
theorem aI {g:Agent}{L:Int×Int}{t:Int×Int×Int}{R:List Int}(hR:R.length≤1000)(ht:0≤t.2.2∧t.2.2≤300): ∀(n:Nat) (act:Int), -t.2.2≤act→act≤100→(act+t.2.2).toNat≤n→
    loop (W7 g L t R) act=some (Va (fun x=>Qn R L.2 g.V (Ax g t.1 x) t.2.2) (-t.2.2) n act):=by
  intro n
  induction n with
  |zero=>
   intro act h1 h2 h3
   rw [Va]
   refine C5 ?_
   unfold W7
   rw [F2 (n:=0 - t.2.2) (by omega),bK (show ¬act>0 - t.2.2 by omega)];rfl
  |succ n ih=>
   intro act h1 h2 h3
   rw [Va]
   by_cases q:act> -t.2.2
   ·have hs:Y8 act g t.1=some (Ax g t.1 act):=by unfold Y8 Ax;rw [Mb,Db]
    by_cases k:Qn R L.2 g.V (Ax g t.1 act) t.2.2=false
    ·rw [bQ ⟨q,k⟩,← ih (act - 1) (by omega) (by omega) (by omega)]
     refine J2 ?_
     unfold W7
     rw [F2 (n:=0 - t.2.2) (by omega),bJ (show act>0 - t.2.2 by omega),bO,hs,lB,bO,TH R hR,lB,k,F2 (by omega)];rfl
    ·rw [bR (fun x=>k x.2)]
     refine C5 ?_
     unfold W7
     rw [F2 (n:=0 - t.2.2) (by omega),bJ (show act>0 - t.2.2 by omega),bO,hs,lB,bO,TH R hR,lB,show Qn R L.2 g.V (Ax g t.1 act) t.2.2=true by simpa using k];rfl
   ·rw [bR (fun x=>q x.1)]
    refine C5 ?_
    unfold W7
    rw [F2 (n:=0 - t.2.2) (by omega),bK (show ¬act>0 - t.2.2 by omega)];rfl
theorem WG {g:Agent}{L:Int×Int}{t:Int×Int×Int}{R:List Int}(hR:R.length≤1000)(ht:0≤t.2.2∧t.2.2≤300): ∀(n:Nat) (act:Int), -t.2.2≤act→act≤100→(act+t.2.2).toNat≤n→
    loop (Jo g L t R) (act,Ax g t.1 act)=some (Ax g t.1 (Va (fun x=>Qn R L.2 g.V (Ax g t.1 x) t.2.2) (-t.2.2) n act)):=by
  intro n
  induction n with
  |zero=>
   intro act h1 h2 h3
   rw [Va]
   refine C5 ?_
   unfold Jo
   dsimp only
   rw [F2 (n:=0 - t.2.2) (by omega),bK (show ¬act>0 - t.2.2 by omega)];rfl
  |succ n ih=>
   intro act h1 h2 h3
   rw [Va]
   by_cases q:act> -t.2.2
   ·by_cases k:Qn R L.2 g.V (Ax g t.1 act) t.2.2=false
    ·rw [bQ ⟨q,k⟩,← ih (act - 1) (by omega) (by omega) (by omega)]
     refine J2 ?_
     unfold Jo
     dsimp only
     rw [F2 (n:=0 - t.2.2) (by omega),bJ (show act>0 - t.2.2 by omega),bO,TI R hR,lB,k,F2 (n:=act - 1) (by omega),Mb,Db];rfl
    ·rw [bR (fun x=>k x.2)]
     refine C5 ?_
     unfold Jo
     dsimp only
     rw [F2 (n:=0 - t.2.2) (by omega),bJ (show act>0 - t.2.2 by omega),bO,TI R hR,lB,show Qn R L.2 g.V (Ax g t.1 act) t.2.2=true by simpa using k];rfl
   ·rw [bR (fun x=>q x.1)]
    refine C5 ?_
    unfold Jo
    dsimp only
    rw [F2 (n:=0 - t.2.2) (by omega),bK (show ¬act>0 - t.2.2 by omega)];rfl
/-- What is known of an agent of a valid state. -/
structure AgentOK (m:Map)(s:State)(i:Int)(g:Agent):Prop where
  route: ∃a t,g.Route=a::t∧RouteOK m a t
  len:300≤g.Len∧g.Len≤20000
  begin:0≤g.Begin∧g.Begin≤1099511627776
  S:0≤g.S∧g.S≤LongM m g.Route+g.Len+2000
  V:0≤g.V∧g.V≤(Gq m g).1
  gone:g.Gone=Uz m g
  late: ¬(g.Begin>s.Tick∧g.S≠0)
  first:i=0→g.Begin=0
theorem agentM_zero {m:Map}{s:State}{i:Int}{g:Agent}:Ee m s i g=0↔AgentOK m s i g:=by
  unfold Ee
  constructor
  ·intro h
   by_cases q:P3 m g.Route=0
   ·rw [bQ q]at h
    by_cases o:QA g=true∨g.S>LongM m g.Route+g.Len+2000
    ·rw [bQ o]at h;cases h
    ·rw [bR o]at h
     by_cases v:g.V<0∨g.V>(Gq m g).1
     ·rw [bQ v]at h;cases h
     ·rw [bR v]at h
      by_cases z:g.Gone≠Uz m g∨(g.Begin>s.Tick∧g.S≠0)∨(i=0∧g.Begin≠0)
      ·rw [bQ z]at h;cases h
      ·obtain ⟨o1,o2,o3,o4,o5⟩:=LB (g:=g) (by cases hq:QA g<;>simp_all)
       refine ⟨chkRoute_zero.1 q,⟨o1,o2⟩,⟨o3,o4⟩,⟨o5,?_⟩,?_,?_,fun h=>z (.inr (.inl h)),fun h=> ?_⟩
       ·exact Int.not_lt.1 fun h=>o (.inr h)
       ·omega
       ·exact Classical.byContradiction fun h=>z (.inl h)
       ·exact Classical.byContradiction fun h'=>z (.inr (.inr ⟨h,h'⟩))
   ·rw [bR q]at h;cases h
  ·intro A
   have l:=A.len;have b:=A.begin;have S:=A.S;have V:=A.V
   rw [bQ (chkRoute_zero.2 A.route),bR,bR,bR]
   ·rintro (h|h|h)
    ·exact h A.gone
    ·exact A.late h
    ·exact h.2 (A.first h.1)
   ·omega
   ·rintro (h|h)
    ·unfold QA at h
     simp only [bV,bM]at h
     omega
    ·omega
structure StateOK (m:Map)(s:State):Prop where
  tick:0≤s.Tick∧s.Tick≤1099511627776
  num:0<s.Agents.length∧s.Agents.length≤8
  agent: ∀(i:Nat) g,s.Agents[i]? =some g→AgentOK m s (i:Int) g
  ins: ∀(i:Nat) x,s.In[i]? =some x→Xd m s x=false
  sorted: ∀(i:Nat) x y,s.In[i]? =some x→s.In[i+1]? =some y→Gm x y=true
  rank: ∀x∈s.In,Tb s x=false
theorem Jp {m:Map}(K:KitM m){s:State}:Qc m s=0↔StateOK m s:=by
  unfold Qc
  rw [bQ K.chk]
  constructor
  ·intro h
   by_cases t:s.Tick<0∨s.Tick>1099511627776
   ·rw [bQ t]at h;cases h
   rw [bR t]at h
   by_cases n0:s.Agents.length=0
   ·rw [bQ n0]at h;cases h
   rw [bR n0]at h
   by_cases n8:8<s.Agents.length
   ·rw [bQ n8]at h;cases h
   rw [bR n8]at h
   cases ha:I7 (fun i g=>if Ee m s (i:Int) g=0 then none else some (Ee m s (i:Int) g)) 0 s.Agents with
   |some e=>
    rw [ha]at h
    have: ∀(l:List Agent) (i:Nat),I7 (fun i g=>if Ee m s (i:Int) g=0 then none else some (Ee m s (i:Int) g)) i l=some e→e≠0:=by
      intro l
      induction l with
      |nil=>intro i h;cases h
      |cons a l ih=>
       intro i h
       unfold I7 at h
       by_cases z:Ee m s (i:Int) a=0
       ·rw [bQ z]at h;exact ih _ h
       ·rw [bR z]at h;cases h;exact z
    exact absurd h (this _ _ ha)
   |none=>
    rw [ha]at h
    cases hi:I7 (cA m s) 0 s.In with
    |some e=>
     rw [hi]at h
     have: ∀(l:List Stay) (i:Nat),I7 (cA m s) i l=some e→e≠0:=by
       intro l
       induction l with
       |nil=>intro i h;cases h
       |cons a l ih=>
        intro i h
        unfold I7 at h
        cases z:cA m s i a with
        |none=>rw [z]at h;exact ih _ h
        |some e'=>
         rw [z]at h;cases h
         unfold cA at z
         split at z
         ·cases z;decide
         ·cases z
     exact absurd h (this _ _ hi)
    |none=>
     rw [hi]at h
     have ha':=firstE_none.1 ha
     have hi':=firstE_none.1 hi
     simp only [wK]at ha' hi'
     have hin: ∀(i:Nat) x,s.In[i]? =some x→¬(Xd m s x=true∨(0<i∧∃y,s.In[i - 1]? =some y∧Gm y x=false)):=by
       intro i x hx q
       have:=hi' i x hx
       unfold cA at this
       rw [bQ q]at this;cases this
     have hr:s.In.any (Tb s)=false:=by
       cases q:s.In.any (Tb s)with
       |false=>rfl
       |true=>rw [q]at h;cases h
     refine ⟨by omega,by omega,fun i g hg=>agentM_zero.1 ?_,fun i x hx=> ?_,fun i x y hx hy=> ?_,fun x hx=> ?_⟩
     ·have:=ha' i g hg
      by_cases z:Ee m s (i:Int) g=0
      ·exact z
      ·rw [bR z]at this;cases this
     ·have:=hin i x hx
      cases q:Xd m s x with
      |false=>rfl
      |true=>exact absurd (.inl q) this
     ·have:=hin (i+1) y hy
      cases q:Gm x y with
      |true=>rfl
      |false=>exact absurd (.inr ⟨by omega,x,hx,q⟩) this
     ·have:=List.any_eq_false.1 hr x hx
      simpa using this
  ·intro O
   have t:=O.tick;have n:=O.num
   rw [bR (by omega),bR (by omega),bR (by omega)]
   rw [firstE_none.2 fun i g hg=>by rw [wK,bQ (agentM_zero.2 (O.agent i g hg))]]
   rw [firstE_none.2 fun i x hx=> ?_]
   ·dsimp only
    rw [bR]
    intro h
    obtain ⟨x,x1,x2⟩:=lZ.1 h
    rw [O.rank x x1]at x2;cases x2
   ·rw [wK]
    unfold cA
    rw [bR]
    rintro (h|⟨h0,y,y1,y2⟩)
    ·rw [O.ins i x hx]at h;cases h
    ·have:=O.sorted (i - 1) y x y1 (by rw [show i - 1+1=i by omega];exact hx)
     rw [this]at y2;cases y2
theorem AgentOK.bd {m:Map}{s:State}{i:Int}{g:Agent}(A:AgentOK m s i g):1000≤LongM m g.Route∧LongM m g.Route≤134217728:=by
  obtain ⟨a,t,h,R⟩:=A.route
  rw [h];exact Ly R
theorem gL {g:Agent}{most act:Int}(h:0≤g.V∧g.V≤2000)(ha: -1000≤act∧act≤1000):Ax g most act=max 0 (min (g.V+act) most):=by
  unfold Ax;rw [F2 (by omega)]
theorem kV {m:Map}(B:BearM m){s:State}{i:Int}{g:Agent}(A:AgentOK m s i g)(hr:g.Route.length≤1000)(tick act:Int):Fx m g tick act=some (HG m g tick act)∧Vy m g tick act=some (HG m g tick act):=by
  obtain ⟨a,t,ht,R⟩:=A.route
  have hL:=A.bd;have hS:=A.S;have hl:=A.len;have hV:=A.V
  obtain ⟨l1,l2⟩:=TC B R ht hS.1 (by omega)
  obtain ⟨ln,k1,k2,_⟩:=NZ R ht hS.1
  have ev:Gq m g=U6 ln.Kind:=by unfold Gq;rw [k2]
  have htb:=Rb ln.Kind
  obtain ⟨r1,r2,r3⟩:=oG B (Cz m g).1 tick
  have hlow:D6 (0 - (U6 ln.Kind).2.2)= -(U6 ln.Kind).2.2:=by rw [F2 (by omega)];omega
  have hact: -(U6 ln.Kind).2.2≤max (-(U6 ln.Kind).2.2) (min act (U6 ln.Kind).2.1)∧max (-(U6 ln.Kind).2.2) (min act (U6 ln.Kind).2.1)≤100:=by omega
  have hg: ∀g':Agent,g'.Route=g.Route→Fu m g'=some (Uz m g')∧Mn m g'=some (Uz m g'):=fun g' h=>QB B (by rw [h];omega)
  have hmv: ∀x,Y8 x g (U6 ln.Kind).1=some (Ax g (U6 ln.Kind).1 x):=by intro x;unfold Y8 Ax;rw [Mb,Db]
  have hlow': ∀X,(Mi true 0 (Mi false (D6 (g.V+X)) (U6 ln.Kind).1))=Ax g (U6 ln.Kind).1 X:=by intro X;unfold Ax;rw [Mb,Db]
  by_cases q:g.Obey=true∧(Cz m g).2≤Dh m (Cz m g).1
  ·have hN:Hm m g tick act=Ax g (U6 ln.Kind).1 (Va (fun x=>Qn (WF m (Cz m g).1 tick) (Cz m g).2 g.V (Ax g (U6 ln.Kind).1 x) (U6 ln.Kind).2.2) (-(U6 ln.Kind).2.2) (max (-(U6 ln.Kind).2.2) (min act (U6 ln.Kind).2.1)+ (U6 ln.Kind).2.2).toNat (max (-(U6 ln.Kind).2.2) (min act (U6 ln.Kind).2.1))):=by
     unfold Hm;rw [ev];exact bQ q
   constructor
   ·unfold Fx HG
    rw [l1,lB,k1,lB,Ur,lB,q.1,bO,Jf B,lB,bS,bJ q.2,bO,r1,lB,Mb,Db,hlow,aI r3 ⟨htb.2.2.2.2.1,htb.2.2.2.2.2⟩ _ _ hact.1 hact.2 (wH _)]
    simp only [lB]
    rw [hmv,lB,← hN,(hg ⟨g.Route,D6 (g.S+Hm m g tick act),Hm m g tick act,g.Len,g.Begin,true,g.Gone⟩ rfl).1]
    simp only [lB,q.1]
   ·unfold Vy HG
    rw [l2,lB,k1,lB,Mq,lB,q.1,bO,Qm B,lB,bS,bJ q.2,bO,r2,lB,hlow',Mb,Db,hlow,WG r3 ⟨htb.2.2.2.2.1,htb.2.2.2.2.2⟩ _ _ hact.1 hact.2 (wH _)]
    simp only [lB]
    rw [← hN,(hg ⟨g.Route,D6 (g.S+Hm m g tick act),Hm m g tick act,g.Len,g.Begin,true,g.Gone⟩ rfl).2]
    simp only [lB,q.1]
  ·have hN:Hm m g tick act=Ax g (U6 ln.Kind).1 (max (-(U6 ln.Kind).2.2) (min act (U6 ln.Kind).2.1)):=by
     unfold Hm;rw [ev];exact bR q
   have hc: ∀{α:Type} (o:Bool) (x y:α),(cond o (some (Dh m (Cz m g).1)) (some default)).bind (fun v4=>some (cond (o&&decide ((Cz m g).2≤v4)) x y))=some (cond (o&&decide ((Cz m g).2≤Dh m (Cz m g).1)) x y):=by intro α o x y;cases o<;>rfl
   have hf:(g.Obey&&decide ((Cz m g).2≤Dh m (Cz m g).1))=false:=by
     rw [bZ];simpa using q
   constructor
   ·unfold Fx HG
    rw [l1,lB,k1,lB,Ur,lB,Jf B]
    have e: ∀F:Int→Option Agent,((cond g.Obey (some (Dh m (Cz m g).1)) (some default)).bind fun v4=>(cond (g.Obey&&decide ((Cz m g).2≤v4)) ((Es m (Cz m g).1 tick).bind fun v5=>(loop (W7 g (Cz m g) (U6 ln.Kind) v5) (Mi true (D6 (0 - (U6 ln.Kind).2.2)) (Mi false act (U6 ln.Kind).2.1))).bind fun y2=>some y2) (some (Mi true (D6 (0 - (U6 ln.Kind).2.2)) (Mi false act (U6 ln.Kind).2.1)))).bind F)=F (Mi true (D6 (0 - (U6 ln.Kind).2.2)) (Mi false act (U6 ln.Kind).2.1)):=by
      intro F
      cases ho:g.Obey
      ·rfl
      ·rw [ho]at hf
       rw [bO,lB,hf];rfl
    rw [e,hmv,Mb,Db,hlow,← hN,lB,(hg ⟨g.Route,D6 (g.S+Hm m g tick act),Hm m g tick act,g.Len,g.Begin,g.Obey,g.Gone⟩ rfl).1]
    rfl
   ·unfold Vy HG
    rw [l2,lB,k1,lB,Mq,lB,Qm B]
    have e: ∀(F:Int→Option Agent) (Y:List Int→Option Int) (X:Int),((cond g.Obey (some (Dh m (Cz m g).1)) (some default)).bind fun v4=>(cond (g.Obey&&decide ((Cz m g).2≤v4)) ((Up m (Cz m g).1 tick).bind Y) (some X)).bind F)=F X:=by
      intro F Y X
      cases ho:g.Obey
      ·rfl
      ·rw [ho]at hf
       rw [bO,lB,hf];rfl
    rw [e,hlow',Mb,Db,hlow,← hN,(hg ⟨g.Route,D6 (g.S+Hm m g tick act),Hm m g tick act,g.Len,g.Begin,g.Obey,g.Gone⟩ rfl).2]
    rfl
def kW:Agent:=⟨[],0,0,0,0,false,false⟩
def Lz (m:Map)(s:State)(i act:Int):Agent:=match C0 s.Agents i with
  |none=>kW
  |some g=>if R9 s i=true∧Qc m s=0 then HG m g s.Tick act else g
theorem kX {m:Map}(K:KitM m){s:State}(S:SizeS s)(w: ∀g∈s.Agents,g.S≤9223372036854775807)(i act:Int):Kh m s i act=some (Lz m s i act)∧KH m s i act=some (Lz m s i act):=by
  obtain ⟨c1,c2⟩:=EX K.toBearM S w
  obtain ⟨t1,t2⟩:=Od s i
  unfold Kh KH Lz
  by_cases h:0≤i∧i<s.Agents.length
  case neg=>
    rw [show (decide (i<0)||decide (i≥(s.Agents.length:Int)))=true by simp only [bV,bM];omega,GF h]
    exact ⟨rfl,rfl⟩
  obtain ⟨g,hg,hg'⟩:=Ro h.1 h.2
  have hr:=S.routes g (lG hg')
  rw [show (decide (i<0)||decide (i≥(s.Agents.length:Int)))=false by rw [bZ];simp only [ne_eq,bV,bM];omega,bP,bP,hg,lB,lB,HF hr,lB,t1,lB,Uy (by omega),lB,c1,c2,lB,t2]
  dsimp only
  have eg:(⟨g.Route,g.S,g.V,g.Len,g.Begin,g.Obey,g.Gone⟩:Agent)=g:=rfl
  by_cases q:R9 s i=true∧Qc m s=0
  ·rw [bQ q,q.1,q.2]
   have O:=(Jp K).1 q.2
   have A:=O.agent i.toNat g hg'
   obtain ⟨m1,m2⟩:=kV K.toBearM A hr s.Tick act
   rw [eg,m2]
   refine ⟨?_,rfl⟩
   show (Fx m g s.Tick act).bind _=_
   rw [m1];rfl
  ·rw [bR q]
   constructor
   ·cases ht:R9 s i
    ·rfl
    ·have:Qc m s≠0:=fun h=>q ⟨ht,h⟩
     show cond (!true||(Qc m s !=0)) _ _=_
     rw [show (!true||(Qc m s !=0))=true by simpa using this];rfl
   ·cases hz:(Qc m s !=0)
    ·have hz':Qc m s=0:=by simpa using hz
     have:R9 s i=false:=by
       cases ht:R9 s i
       ·rfl
       ·exact absurd ⟨ht,hz'⟩ q
     rw [this];rfl
    ·rfl
def BI (g:Agent):Bool:=(((decide (g.S≥0))&& (decide (g.S≤1099511627776)))&& (decide (g.Len≥0)))&& (decide (g.Len≤1099511627776))
def Lh (m:Map)(r:List Int):List Pass:=(V8 m r).getD []
theorem aJ {m:Map}(B:BearK m)(r:List Int)(hr:r.length≤1000000):V8 m r=some (Lh m r)∧Fm m r=some (Lh m r)∧(Lh m r).length≤16:=by
  obtain ⟨ps,h1,h2,h3⟩:=WC B r hr
  unfold Lh
  rw [h1,h2]
  exact ⟨rfl,rfl,h3⟩
def Uc (g g':Agent)(z:Int)(p:Pass):Bool:=((p.Zone_==z)&&decide (p.From≤g'.S))&&decide (D6 (g.S - g.Len)≤p.To)
/-- Whether an agent is present in a zone during a tick. -/
def Ho (m:Map)(g g':Agent)(z:Int):Bool:=(BI g&&BI g')&& (Lh m g.Route).any (Uc g g' z)
theorem Wj {m:Map}(B:BearK m){g g':Agent}(hr:g.Route.length≤1000)(z:Int):Dj m g g' z=some (Ho m g g' z)∧Gg m g g' z=some (Ho m g g' z):=by
  obtain ⟨p1,p2,p3⟩:=aJ B g.Route (by omega)
  have s1: ∀g,Ml g=some (BI g):=fun _=>rfl
  have s2: ∀g,Mo g=some (BI g):=fun _=>rfl
  have hc:G2 (Lh m g.Route) z ⟨D6 (g.S - g.Len),g'.S⟩=some ((Lh m g.Route).any (Uc g g' z)):=by
    unfold G2 J0
    refine Oc _ (Uc g g' z) _ (by omega) (fun i x hx=> ?_) (by unfold L3;rw [H9];rfl)
    unfold L3 Gs
    rw [J9 (H5 hx),C3 hx,bO,lB,lB]
    show cond (Uc g g' z x) _ _=_
    cases Uc g g' z x<;>rfl
  have hd:thenS (loop (Dr g g' z (Lh m g.Route)) 0) (fun _=>some false) (fun r=>some r)=some ((Lh m g.Route).any (Uc g g' z)):=by
    rw [GY (Lh m g.Route) (Uc g g' z) true (fun i x hx=> ?_) (by unfold Dr;rw [H9];rfl)]
    ·cases (Lh m g.Route).any (Uc g g' z)<;>rfl
    ·unfold Dr Uc
     rw [J9 (H5 hx),C3 hx,bO,lB,G8 (H5 hx) (by omega)]
     by_cases q1:x.Zone_=z
     ·rw [show (x.Zone_==z)=true by simpa using q1,bO,lB,bS]
      by_cases q2:D6 (g.S - g.Len)≤x.To
      ·rw [bJ q2,bO,lB,bS,Bool.and_true]
       by_cases q3:x.From≤g'.S
       ·rw [bJ (show g'.S≥x.From from q3)];rfl
       ·rw [bK (show ¬g'.S≥x.From from q3)];rfl
      ·rw [bK q2,Bool.and_false];rfl
     ·rw [show (x.Zone_==z)=false by simpa using q1];rfl
  unfold Dj Gg Ho
  rw [s1,s2,lB,lB]
  cases hs:BI g
  ·exact ⟨rfl,rfl⟩
  ·rw [bW,bX,bO,bO,s1,s2,lB,lB]
   cases hs':BI g'
   ·exact ⟨rfl,rfl⟩
   ·simp only [bW,Bool.or_self,bP,bS]
    constructor
    ·show (Ac g).bind _=_
     unfold Ac
     rw [lB,p1,lB,hc];rfl
    ·show (Fm m g.Route).bind _=_
     rw [p2,lB,hd]
/-! ### The entry, and the rank -/
theorem YB {α:Type}{P:α→Bool}{l:List α}(h:0≤EQ P l): ∃x,l[(EQ P l).toNat]? =some x∧P x=true∧l.find? P=some x:=by
  unfold EQ at h ⊢
  cases hq:l.findIdx? P with
  |none=>rw [hq]at h;exact absurd h (by simp)
  |some i=>
   obtain ⟨h1,h2,h3⟩:=List.findIdx?_eq_some_iff_getElem.1 hq
   refine ⟨l[i],by rw [wF];exact lH h1,h2,?_⟩
   exact List.find?_eq_some_iff_getElem.2 ⟨h2,i,h1,rfl,fun j hj=>by simpa using h3 j hj⟩
theorem aK {m:Map}{r:List Int}{z:Int}(h:0≤Eo m r z): ∃zn l,0≤z∧m.Zones[z.toNat]? =some zn∧P3 m r=0∧r[(Eo m r z).toNat]? =some l∧(Jv zn l).2=true:=by
  unfold Eo at h ⊢
  cases hz:m.Zones[z.toNat]? with
  |none=>rw [hz]at h;exact absurd h (by simp)
  |some zn=>
   rw [hz]at h
   dsimp only at h ⊢
   by_cases q:0≤z∧P3 m r=0
   ·rw [bQ q]at h ⊢
    obtain ⟨l,h1,h2,_⟩:=YB h
    exact ⟨zn,l,q.1,rfl,q.2,h1,h2⟩
   ·rw [bR q]at h;exact absurd h (by simp)
/-- The lane on which a route enters a zone; -1 if it does not. -/
def Ma (m:Map)(r:List Int)(z:Int):Int:=if 0≤Eo m r z then r.getD (Eo m r z).toNat 0 else -1
theorem EY {m:Map}{r:List Int}{z:Int}(h:0≤Eo m r z): ∃zn,0≤z∧m.Zones[z.toNat]? =some zn∧r[(Eo m r z).toNat]? =some (Ma m r z)∧(Jv zn (Ma m r z)).2=true∧0≤Ma m r z:=by
  obtain ⟨zn,l,h0,h1,h2,h3,h4⟩:=aK h
  have e:Ma m r z=l:=by unfold Ma;rw [bQ h,List.getD,h3];rfl
  obtain ⟨a,t,rfl,R⟩:=chkRoute_zero.1 h2
  have:=R.mem (lG h3)
  rw [e]
  exact ⟨zn,h0,h1,h3,h4,this.1⟩
theorem GG {m:Map}(B:BearM m){r:List Int}(hr:r.length≤1000000)(z:Int):Dk m r z=some (Ma m r z):=by
  unfold Dk
  rw [fZ B r hr,lB]
  by_cases q:0≤Eo m r z
  ·obtain ⟨zn,_,_,h3,_⟩:=EY q
   have hg:=C3 h3
   rw [wG q]at hg
   rw [bJ (show Eo m r z≥0 from q),bO,hg];rfl
  ·rw [bK (show ¬Eo m r z≥0 from q)]
   unfold Ma;rw [bR q];rfl
/-- The rank of an agent in a zone. -/
def HH (m:Map)(r:List Int)(z tick:Int):Int:=
  if 0≤Eo m r z then
   match m.Zones[z.toNat]? with
   |some zn=>if zn.Signal_>0 then (if GA m (zn.Signal_ - 1) (Ma m r z) tick=true then 2 else 0)else (Jv zn (Ma m r z)).1.Rank
   |none=>0
  else 0
theorem YC {m:Map}(K:KitM m){g:Agent}(hr:g.Route.length≤1000)(z tick:Int):Fw m g z tick=some (HH m g.Route z tick)∧Sj m g z tick=some (HH m g.Route z tick):=by
  have B:=K.toBearM
  have hr':g.Route.length≤1000000:=by omega
  unfold Fw Sj HH
  rw [GG B hr',GC B _ hr',lB,lB]
  by_cases q:0≤Eo m g.Route z
  case neg=>
    rw [bR q,bJ (show Eo m g.Route z<0 by omega)]
    have:Ma m g.Route z= -1:=by unfold Ma;rw [bR q]
    rw [this]
    exact ⟨rfl,rfl⟩
  obtain ⟨zn,h0,h1,h3,h4,h5⟩:=EY q
  have hz:=C3 h1
  rw [wG h0]at hz
  have hg:=C3 h3
  rw [wG q]at hg
  have Z:=K.val.zoneOK (lG h1)
  have hS:=Z.sig
  have hsl:=K.val.signals
  have hp:=B.toBearZ.parts zn (lG h1)
  rw [bQ q,h1,bK (show ¬Ma m g.Route z<0 by omega),bK (show ¬Eo m g.Route z<0 by omega),bP,bP,hz,lB,lB]
  dsimp only
  by_cases s:zn.Signal_>0
  ·rw [bQ s,bJ s,F2 (by omega),gC B,hg]
   simp only [lB,bO,ZZ B,bS]
   cases GA m (zn.Signal_ - 1) (Ma m g.Route z) tick<;>exact ⟨rfl,rfl⟩
  ·rw [bR s,bK s,bP,bP,lB,bT,bP]
   have hany:zn.Parts.any (fun p=>p.Lane_==Ma m g.Route z)=true:=by
     unfold Jv at h4
     cases hf:zn.Parts.find? (fun p=>p.Lane_==Ma m g.Route z)with
     |none=>rw [hf]at h4;cases h4
     |some p=>
      exact lZ.2 ⟨p,l7 hf,l6 (p:=fun p:Part=>p.Lane_==Ma m g.Route z) hf⟩
   have hidx:0≤EQ (fun p:Part=>p.Lane_==Ma m g.Route z) zn.Parts:=by
     have:=Us (fun p:Part=>p.Lane_==Ma m g.Route z) zn.Parts
     rw [hany]at this
     simpa using this
   obtain ⟨p,p1,p2,p3⟩:=YB hidx
   have hpr:(Jv zn (Ma m g.Route z)).1.Rank=p.Rank:=by unfold Jv;rw [p3]
   constructor
   ·have e:I9 zn.Parts (Ma m g.Route z)=some (EQ (fun p:Part=>p.Lane_==Ma m g.Route z) zn.Parts):=by
      unfold I9
      refine Qa zn.Parts (fun p:Part=>p.Lane_==Ma m g.Route z) (by omega) (fun i a h=> ?_) (by unfold M6;rw [H9];rfl)
      unfold M6 Nt
      rw [J9 (H5 h),C3 h,bO,lB,lB]
      cases a.Lane_==Ma m g.Route z<;>rfl
    have hgp:=C3 p1
    rw [wG hidx]at hgp
    rw [e,lB,hgp,lB,hpr]
   ·have key: ∀(l:List Part) (i:Nat),zn.Parts.drop i=l→i≤zn.Parts.length→thenS (loop (Gi g (Eo m g.Route z) zn) (i:Int)) (fun _=>some 0) (fun r=>some r)=some (match l.find? (fun p=>p.Lane_==Ma m g.Route z)with|some p=>p.Rank|none=>0):=by
      intro l
      induction l with
      |nil=>
       intro i hi hil
       have:=N8 hi
       obtain rfl:i=zn.Parts.length:=by omega
       rw [C5 (t:= .inl ()) (by unfold Gi;rw [H9];rfl)];rfl
      |cons x l ih=>
       intro i hi hil
       have hx:=U7 hi
       have hlt:=M9 hi
       rw [List.find?_cons]
       cases hq:x.Lane_==Ma m g.Route z with
       |true=>
        rw [C5 (t:= .inr x.Rank) (by unfold Gi;rw [J9 hlt,C3 hx,bO,lB,hg,lB,hq,bO,lB])];rfl
       |false=>
        rw [J2 (s':=((i+1:Nat):Int)) (by unfold Gi;rw [J9 hlt,C3 hx,bO,lB,hg,lB,hq,bP,G8 hlt (by omega)])]
        exact ih (i+1) (K5 hi) hlt
    have:=key zn.Parts 0 rfl (wI _)
    rw [p3]at this
    rw [show ((0:Nat):Int)=0 from rfl]at this
    rw [bP,this,hpr]
/-! ### Stays -/
def Wk (i z:Int)(x:Stay):Bool:=x.Agent_==i&&x.Zone_==z
def OA (l:List Stay):Prop:=l.Pairwise fun a b=>Gm a b=true
theorem HI {a b c:Stay}(h1:Gm a b=true)(h2:Gm b c=true):Gm a c=true:=by
  unfold Gm at*
  simp only [bV,bM,bU,wB]at*
  omega
theorem aL {l:List Stay}(h: ∀(i:Nat) x y,l[i]? =some x→l[i+1]? =some y→Gm x y=true):OA l:=by
  unfold OA
  induction l with
  |nil=>exact List.Pairwise.nil
  |cons a l ih=>
   have ih:=ih fun i x y hx hy=>h (i+1) x y (by simpa using hx) (by simpa using hy)
   refine bB.2 ⟨fun b hb=> ?_,ih⟩
   cases l with
   |nil=>cases hb
   |cons c l=>
    have h0:=h 0 a c rfl rfl
    rcases lU.1 hb with rfl|hb
    ·exact h0
    ·exact HI h0 ((bB.1 ih).1 b hb)
theorem kY (a b:Stay):decide (MI a b<0)=Gm a b:=by
  have:=TE a b
  have e:decide (MI a b<0)= !decide (MI a b≥0):=by
    by_cases h:MI a b<0
    ·rw [bJ h,bK (by omega)];rfl
    ·rw [bK h,bJ (by omega)];rfl
  rw [e,this,Bool.not_not]
theorem gM (a b:Stay):(MI a b==0)=Wk b.Agent_ b.Zone_ a:=by
  unfold MI Wk EU
  by_cases h1:a.Agent_<b.Agent_
  ·have:a.Agent_≠b.Agent_:=by omega
   simp [h1,this]
  ·by_cases h2:a.Agent_>b.Agent_
   ·have:a.Agent_≠b.Agent_:=by omega
    simp [h1,h2,this]
   ·have:a.Agent_=b.Agent_:=by omega
    by_cases h3:a.Zone_<b.Zone_
    ·have:a.Zone_≠b.Zone_:=by omega
     simp [h3,this, *]
    ·by_cases h4:a.Zone_>b.Zone_
     ·have:a.Zone_≠b.Zone_:=by omega
      simp [h3,h4,this, *]
     ·have:a.Zone_=b.Zone_:=by omega
      simp [this, *]
theorem YD {l:List Stay}(hl:l.length≤1000000)(hs:OA l)(y:Stay): ∃s:Nat,D1 l y=some ((s:Int),(l.find? (Wk y.Agent_ y.Zone_)).isSome)∧∀x,l.find? (Wk y.Agent_ y.Zone_)=some x→l[s]? =some x:=by
  have hget: ∀c,c<l.length→l[c]? =some (l.getD c default):=by
    intro c hc
    rw [List.getD,lH hc];rfl
  obtain ⟨s,h1,_,h3,h4,h5⟩:=kC (F:=D4 l y) (fun c=>Gm (l.getD c default) y) 0 l.length (wI _) (fun a b _ hab hb=>by
    unfold D4
    dsimp only
    have hm:(a+b) / 2<l.length:=by omega
    rw [bJ (show (a:Int)< (b:Int) by omega),bO,kM a b (by omega),C3 (hget _ hm),lB,LC,lB,kY]
    by_cases q:Gm (l.getD ((a+b) / 2) default) y=true
    ·rw [bQ q,q,bO,G8 hm (by omega)]
    ·rw [bR q,show Gm (l.getD ((a+b) / 2) default) y=false by simpa using q];rfl) (fun a b hab=>by
    unfold D4
    dsimp only
    rw [bK (show ¬(a:Int)< (b:Int) by omega)];rfl) (fun c c' _ hcc hc' q=>by
    rcases Nat.lt_or_eq_of_le hcc with h|h
    ·have h1:=bD.1 hs c c' (by omega) hc' h
     have e1:=hget c (by omega);have e2:=hget c' hc'
     rw [lH (by omega)]at e1 e2
     rw [lD e1,lD e2]at h1
     exact HI h1 q
    ·subst h;exact q)
  have hmem: ∀x,l.find? (Wk y.Agent_ y.Zone_)=some x→l[s]? =some x:=by
    intro x hx
    have k1:=l6 hx
    have k2:=l7 hx
    obtain ⟨j,hj⟩:=bG k2
    have hjl:=H5 hj
    have e1:=hget j hjl
    rw [hj]at e1
    have ex:x=l.getD j default:=lD e1
    have nl:Gm x y=false:=by
      unfold Wk at k1;unfold Gm
      simp only [bU,wB]at k1
      rw [bZ]
      simp only [ne_eq,bV,bM,bU,wB]
      omega
    have hsj:s≤j:=by
      refine Nat.not_lt.1 fun h=> ?_
      have:=h4 j (wI _) h
      rw [← ex,nl]at this;cases this
    rcases Nat.lt_or_eq_of_le hsj with h|h
    ·exfalso
     have h6:=h5 s (wH _) (by omega)
     have h7:=bD.1 hs s j (by omega) hjl h
     have e2:=hget s (by omega)
     rw [lH (by omega)]at e2
     have e3:=hj
     rw [lH hjl]at e3
     rw [lD e2,lD e3]at h7
     unfold Wk at k1;unfold Gm at h6 h7
     simp only [bU,wB]at k1
     rw [bZ]at h6
     simp only [ne_eq,bV,bM,bU,wB]at h6 h7
     omega
    ·subst h;exact hj
  refine ⟨s,?_,hmem⟩
  have h1':loop (D4 l y) (0,(l.length:Int))=some (s:Int):=h1
  unfold D1
  rw [h1',lB]
  by_cases hlt:s<l.length
  ·have e:=hget s hlt
   rw [J9 hlt,bO,C3 e,lB,bO,LC,lB,gM,bS]
   congr 2
   cases hf:l.find? (Wk y.Agent_ y.Zone_)with
   |some x=>
    have:=hmem x hf
    rw [e]at this
    rw [lD this,l6 hf];rfl
   |none=>
    have:=List.find?_eq_none.1 hf (l.getD s default) (lG e)
    simpa using this
  ·rw [show decide ((s:Int)< (l.length:Int))=false from bK (by omega),bP,lB,bP,lB,bT]
   congr 2
   cases hf:l.find? (Wk y.Agent_ y.Zone_)with
   |some x=>have:=H5 (hmem x hf);omega
   |none=>rfl
theorem WH {S α β τ:Type}{F:S→Option (Stp S τ)}(pk:Nat→List β→S)(l:List α)(g:Nat→α→Option β)(fin:List β→τ)(s0:List β)(B:Nat){S0:S}(hS:pk 0 s0=S0)(hB:s0.length+l.length≤B)
    (hF: ∀(i:Nat) a (s:List β),l[i]? =some a→s.length+1≤B→F (pk i s)=some (.go (pk (i+1) (match g i a with|some b=>s++ [b]|none=>s))))
    (h0: ∀s,F (pk l.length s)=some (.out (fin s))):loop F S0=some (fin (s0++Gl g 0 l)):=by
  have:=XS (F:=F) pk l (fun i s=>s.length≤s0.length+i) (fun i s a=>match g i a with|some b=>s++ [b]|none=>s) fin (s0:=s0) (S0:=S0) hS (by simp) (fun i a s h hs=>hF i a s h (by have:=(lI.1 h).1;omega)) (fun i a s _ hs=>by
    cases g i a<;>simp<;>omega) (fun s _=>h0 s)
  exact this.trans (congrArg (fun x=>some (fin x)) (CM g l 0 s0))
theorem gN {S α β τ:Type}{F:S→Option (Stp S τ)}(pk:Nat→List β→S)(l:List α)(g:Nat→α→List β)(fin:List β→τ)(s0:List β)(C B:Nat){S0:S}(hS:pk 0 s0=S0)(hB:s0.length+l.length*C≤B)(hC: ∀(i:Nat) a,l[i]? =some a→(g i a).length≤C)
    (hF: ∀(i:Nat) a (s:List β),l[i]? =some a→s.length+C≤B→F (pk i s)=some (.go (pk (i+1) (s++g i a))))
    (h0: ∀s,F (pk l.length s)=some (.out (fin s))):loop F S0=some (fin (s0++Tm g 0 l)):=by
  have key: ∀(r:List α) (i:Nat) (s:List β),ER (fun i s a=>s++g i a) i s r=s++Tm g i r:=by
    intro r
    induction r with
    |nil=>intro i s;simp [ER,Tm]
    |cons a r ih=>intro i s;simp [ER,Tm,ih]
  have:=XS (F:=F) pk l (fun i s=>s.length≤s0.length+i*C) (fun i s a=>s++g i a) fin (s0:=s0) (S0:=S0) hS (by simp) (fun i a s h hs=>hF i a s h (by
    have h1:=(lI.1 h).1
    have h2:(i+1)*C≤l.length*C:=Nat.mul_le_mul_right C h1
    rw [wJ,Nat.one_mul]at h2;omega)) (fun i a s h hs=>by
    have h3:=hC i a h
    rw [lM,wJ,Nat.one_mul];omega) (fun s _=>h0 s)
  exact this.trans (congrArg (fun x=>some (fin x)) (key l 0 s0))
/-- Present at both ends of a tick. -/
def Oe (m:Map)(s:State)(A:List Agent)(i z:Int):Bool:=R9 s i&& (match C0 s.Agents i,C0 A i with
  |some g,some g'=>Ho m g g' z
  |_,_=>false)
theorem Sw {s:State}{i:Int}(h:R9 s i=true): ∃g,C0 s.Agents i=some g∧s.Agents[i.toNat]? =some g∧0≤i∧i<s.Agents.length∧g.Gone=false∧g.Begin≤s.Tick:=by
  unfold R9 at h
  by_cases q:0≤i∧i<s.Agents.length
  ·obtain ⟨g,h1,h2⟩:=Ro q.1 q.2
   rw [h1]at h
   dsimp only at h
   rw [bU,bM]at h
   exact ⟨g,h1,h2,q.1,q.2,by simpa using h.1,h.2⟩
  ·rw [GF q]at h;cases h
theorem aM {m:Map}{s:State}{A:List Agent}{i z:Int}(h:Oe m s A i z=true): ∃g g',C0 s.Agents i=some g∧s.Agents[i.toNat]? =some g∧0≤i∧i<s.Agents.length∧C0 A i=some g'∧Ho m g g' z=true:=by
  unfold Oe at h
  rw [bU]at h
  obtain ⟨g,h1,h2,h3,h4,_⟩:=Sw h.1
  rw [h1]at h
  cases hA:C0 A i with
  |none=>rw [hA]at h;exact absurd h.2 (by simp)
  |some g'=>rw [hA]at h;exact ⟨g,g',h1,h2,h3,h4,rfl,h.2⟩
theorem Zf {m:Map}(B:BearK m){s:State}(S:SizeS s){sc:WorldScene}{A:List Agent}(hm:sc.m=m)(hb:sc.before=s)(ha:sc.after.Agents=A)(hl:A.length=s.Agents.length)(i z:Int):N5 sc i z=some (Oe m s A i z):=by
  unfold N5 Oe
  rw [hm,hb,ha,(Od s i).1,lB]
  cases h:R9 s i
  ·rfl
  ·obtain ⟨g,h1,h2,h3,h4,_⟩:=Sw h
   obtain ⟨g',h5,_⟩:=Ro (l:=A) h3 (by omega)
   rw [h1,h5]
   simp only [bO,lB,bS]
   rw [(Wj B (S.routes g (lG h2)) z).1];rfl
/-- The stay of who is present. -/
def Tn (m:Map)(s:State)(i z:Int):Stay:=match s.In.find? (Wk i z)with
  |some x=>x
  |none=>⟨i,z,s.Tick,match C0 s.Agents i with|some g=>HH m g.Route z s.Tick|none=>0⟩
theorem IH (m:Map)(s:State)(i z:Int):(Tn m s i z).Agent_=i∧(Tn m s i z).Zone_=z:=by
  unfold Tn
  cases h:s.In.find? (Wk i z)with
  |none=>exact ⟨rfl,rfl⟩
  |some x=>
   have:=l6 h
   unfold Wk at this
   simpa using this
def BJ (m:Map)(s:State)(A:List Agent)(i:Nat)(z:Nat)(_:Zone):Option Stay:=if Oe m s A i z=true then some (Tn m s i z)else none
def Sx (m:Map)(s:State)(A:List Agent)(i:Nat)(_:Agent):List Stay:=Gl (BJ m s A i) 0 m.Zones
/-- The stays after a tick. -/
def An (m:Map)(s:State)(A:List Agent):List Stay:=Tm (Sx m s A) 0 s.Agents
theorem CQ (m:Map)(s:State)(A:List Agent)(i:Nat)(a:Agent):(Sx m s A i a).length≤m.Zones.length:=Ut _ _ _
theorem Ds {α β:Type}{g:Nat→α→Option β}{b:β}: ∀(l:List α) (k:Nat),b∈Gl g k l↔∃(i:Nat) (a:α),l[i]? =some a∧g (k+i) a=some b
  | [],k=>by simp [Gl]
  |a::r,k=>by
   have ih:=Ds (g:=g) (b:=b) r (k+1)
   have e:(∃(i:Nat) (a':α),(a::r)[i]? =some a'∧g (k+i) a'=some b)↔g k a=some b∨∃(i:Nat) (a':α),r[i]? =some a'∧g (k+1+i) a'=some b:=by
     constructor
     ·rintro ⟨i,a',h1,h2⟩
      cases i with
      |zero=>simp at h1;subst h1;exact .inl h2
      |succ i=>exact .inr ⟨i,a',by simpa using h1,by rw [show k+1+i=k+ (i+1) by omega];exact h2⟩
     ·rintro (h|⟨i,a',h1,h2⟩)
      ·exact ⟨0,a,rfl,h⟩
      ·exact ⟨i+1,a',by simpa using h1,by rw [show k+ (i+1)=k+1+i by omega];exact h2⟩
   rw [e,Gl]
   cases hg:g k a with
   |none=>simp [ih]
   |some c=>simp [ih,eq_comm]
theorem GH {α β:Type}{g:Nat→α→List β}{b:β}: ∀(l:List α) (k:Nat),b∈Tm g k l↔∃(i:Nat) (a:α),l[i]? =some a∧b∈g (k+i) a
  | [],k=>by simp [Tm]
  |a::r,k=>by
   have ih:=GH (g:=g) (b:=b) r (k+1)
   rw [Tm,lT,ih]
   constructor
   ·rintro (h|⟨i,a',h1,h2⟩)
    ·exact ⟨0,a,rfl,h⟩
    ·exact ⟨i+1,a',by simpa using h1,by rw [show k+ (i+1)=k+1+i by omega];exact h2⟩
   ·rintro ⟨i,a',h1,h2⟩
    cases i with
    |zero=>simp at h1;subst h1;exact .inl h2
    |succ i=>exact .inr ⟨i,a',by simpa using h1,by rw [show k+1+i=k+ (i+1) by omega];exact h2⟩
theorem stays_mem {m:Map}{s:State}{A:List Agent}{x:Stay}:x∈An m s A↔∃i z:Nat,i<s.Agents.length∧z<m.Zones.length∧Oe m s A i z=true∧x=Tn m s i z:=by
  unfold An
  rw [GH]
  constructor
  ·rintro ⟨i,a,h1,h2⟩
   unfold Sx at h2
   rw [Ds]at h2
   obtain ⟨z,zn,h3,h4⟩:=h2
   unfold BJ at h4
   rw [wK,wK]at h4
   split at h4
   ·rename_i h5
    cases h4
    exact ⟨i,z,H5 h1,H5 h3,h5,rfl⟩
   ·cases h4
  ·rintro ⟨i,z,h1,h2,h3,rfl⟩
   refine ⟨i,s.Agents[i],lH h1,?_⟩
   unfold Sx
   rw [Ds]
   refine ⟨z,m.Zones[z],lH h2,?_⟩
   unfold BJ
   rw [wK,wK,bQ h3]
theorem LD {α β:Type}{g:Nat→α→Option β}{R:β→β→Prop}(h: ∀i j a a' b b',i<j→g i a=some b→g j a'=some b'→R b b'): ∀(l:List α) (k:Nat),(Gl g k l).Pairwise R
  | [],k=>List.Pairwise.nil
  |a::r,k=>by
   have ih:=LD h r (k+1)
   rw [Gl]
   cases hg:g k a with
   |none=>exact ih
   |some b=>
    refine bB.2 ⟨fun b' hb'=> ?_,ih⟩
    obtain ⟨i,a',_,h2⟩:=(Ds r (k+1)).1 hb'
    exact h k (k+1+i) a a' b b' (by omega) hg h2
theorem LF {α β:Type}{g:Nat→α→List β}{R:β→β→Prop}(h0: ∀i a,(g i a).Pairwise R)(h: ∀i j a a' b b',i<j→b∈g i a→b'∈g j a'→R b b'): ∀(l:List α) (k:Nat),(Tm g k l).Pairwise R
  | [],k=>List.Pairwise.nil
  |a::r,k=>by
   rw [Tm]
   refine bC.2 ⟨h0 k a,LF h0 h r (k+1),fun b hb b' hb'=> ?_⟩
   obtain ⟨i,a',_,h2⟩:=(GH r (k+1)).1 hb'
   exact h k (k+1+i) a a' b b' (by omega) hb h2
theorem LG (m:Map)(s:State)(A:List Agent):OA (An m s A):=by
  have key: ∀(i z:Nat) zn b,BJ m s A i z zn=some b→b.Agent_=(i:Int)∧b.Zone_=(z:Int):=by
    intro i z zn b h
    unfold BJ at h
    split at h
    ·cases h;exact IH m s i z
    ·cases h
  refine LF (fun i a=>LD (fun z z' _ _ b b' hz h1 h2=> ?_) _ _) (fun i j a a' b b' hij h1 h2=> ?_) _ _
  ·have k1:=key i z _ b h1
   have k2:=key i z' _ b' h2
   unfold Gm
   rw [k1.1,k1.2,k2.1,k2.2]
   simp [hz]
  ·unfold Sx at h1 h2
   obtain ⟨z,zn,_,h1⟩:=(Ds _ _).1 h1
   obtain ⟨z',zn',_,h2⟩:=(Ds _ _).1 h2
   have k1:=key i _ zn b h1
   have k2:=key j _ zn' b' h2
   unfold Gm
   rw [k1.1,k2.1]
   simp only [bV,bM,bU,wB]
   omega
theorem WI {m:Map}{s:State}{A:List Agent}{i z:Int}(hz:0≤z∧z<m.Zones.length)(h:Oe m s A i z=true):(An m s A).find? (Wk i z)=some (Tn m s i z):=by
  obtain ⟨g,g',h1,h2,h3,h4,_⟩:=aM h
  have hm:Tn m s i z∈An m s A:=stays_mem.2 ⟨i.toNat,z.toNat,by omega,by omega,by rw [wG h3,wG hz.1];exact h,by rw [wG h3,wG hz.1]⟩
  have hk:Wk i z (Tn m s i z)=true:=by
    have:=IH m s i z
    unfold Wk;rw [this.1,this.2];simp
  cases hf:(An m s A).find? (Wk i z)with
  |none=>exact absurd hk (by simpa using List.find?_eq_none.1 hf _ hm)
  |some x=>
   obtain ⟨i',z',_,_,_,rfl⟩:=stays_mem.1 (l7 hf)
   have:=l6 hf
   unfold Wk at this
   have k:=IH m s i' z'
   rw [k.1,k.2]at this
   simp only [bU,wB]at this
   rw [this.1,this.2]
theorem Zy (m:Map)(s:State)(A:List Agent):(An m s A).length≤s.Agents.length*m.Zones.length:=NR _ _ _ _ fun _ _ _=>CQ _ _ _ _ _
/-- The program's choice of a stay. -/
theorem aN {m:Map}(K:KitM m){s:State}(S:SizeS s)(hs:OA s.In){i z:Int}{g:Agent}(hg:C0 s.Agents i=some g)(hr:g.Route.length≤1000):
    ∃v8,D1 s.In (Stay.mk i z s.Tick 0)=some v8∧cond v8.2 ((C0 s.In v8.1).bind fun v9=>some v9) ((Fw m g z s.Tick).bind fun v10=>some (Stay.mk i z s.Tick v10))=some (Tn m s i z):=by
  obtain ⟨k,h1,h2⟩:=YD S.ins hs (Stay.mk i z s.Tick 0)
  refine ⟨_,h1,?_⟩
  unfold Tn
  dsimp only at h2 ⊢
  cases hf:s.In.find? (Wk i z)with
  |some x=>rw [C3 (h2 x hf)];rfl
  |none=>rw [(YC K hr z s.Tick).1,hg];rfl
/-- The agents after a tick. -/
def Ci (m:Map)(s:State)(acts:List Int):List Agent:=s.Agents.mapIdx fun i _=>Lz m s i (acts.getD i 0)
def BK (m:Map)(s:State)(acts:List Int)(k:Nat):List Agent:=s.Agents.mapIdx fun i g=>if i<k then Lz m s i (acts.getD i 0)else g
theorem WJ (m:Map)(s:State)(acts:List Int):BK m s acts 0=s.Agents:=by
  apply List.ext_getElem?
  intro i
  unfold BK
  rw [bE]
  cases s.Agents[i]? <;>simp
theorem aO (m:Map)(s:State)(acts:List Int):BK m s acts s.Agents.length=Ci m s acts:=by
  apply List.ext_getElem?
  intro i
  unfold BK Ci
  rw [bE,bE]
  cases h:s.Agents[i]? with
  |none=>rfl
  |some g=>simp [H5 h]
theorem Jq (m:Map)(s:State)(acts:List Int):(Ci m s acts).length=s.Agents.length:=by unfold Ci;simp
theorem aP {m:Map}{s:State}{acts:List Int}{k:Nat}{g:Agent}(h:s.Agents[k]? =some g):C0 (BK m s acts k) (k:Int)=some g:=by
  apply C3
  unfold BK
  rw [bE,h];simp
theorem GI {m:Map}{s:State}{acts:List Int}{k:Nat}{g:Agent}(h:s.Agents[k]? =some g):C0 (Ci m s acts) (k:Int)=some (Lz m s k (acts.getD k 0)):=by
  apply C3
  unfold Ci
  rw [bE,h];simp
theorem aQ {m:Map}{s:State}{acts:List Int}{k:Nat}:Lq (BK m s acts k) (k:Int) (Lz m s k (acts.getD k 0))=BK m s acts (k+1):=by
  apply List.ext_getElem?
  intro i
  unfold Lq BK
  rw [wF,List.getElem?_set,bE,bE,List.length_mapIdx]
  by_cases q:k=i
  ·subst q
   by_cases h:k<s.Agents.length
   ·rw [bQ rfl,bQ h,lH h];simp
   ·rw [bQ rfl,bR h,lJ (by omega)];rfl
  ·rw [bR q]
   have:i<k↔i<k+1:=by omega
   simp [this]
theorem oH (acts:List Int)(i:Nat):(cond (decide ((i:Int)< (acts.length:Int))) ((C0 acts (i:Int)).bind fun v3=>some v3) (some 0))=some (acts.getD i 0):=by
  by_cases h:i<acts.length
  ·rw [J9 h,C3 (lH h),List.getD,lH h];rfl
  ·rw [bK (by omega),List.getD,lJ (by omega)];rfl
theorem WK {m:Map}(K:KitM m){s:State}(S:SizeS s)(w: ∀g∈s.Agents,g.S≤9223372036854775807)(acts:List Int){v2:State}(hv:v2.Agents=s.Agents):Gc m s acts v2=some (Ci m s acts):=by
  have hl:=S.agents
  have e:loop (Bx m s acts) (0,s.Agents)=some (Ci m s acts):=by
    refine XS (fun i (_:Unit)=>((i:Int),BK m s acts i)) s.Agents (fun _ _=>True) (fun _ _ _=>()) (fun _=>Ci m s acts) (s0:=()) (by rw [WJ];rfl) trivial (fun i a _ h _=> ?_) (fun _ _ _ _ _=>trivial) (fun _ _=> ?_)
    ·unfold Bx
     dsimp only
     rw [J9 (H5 h),bO,oH,lB,(kX K S w i _).1,lB,aP h,lB,aQ,G8 (H5 h) (by omega)]
    ·unfold Bx
     dsimp only
     rw [H9,aO];rfl
  unfold Gc
  rw [hv,e];rfl
theorem WL {m:Map}(K:KitM m){s:State}(S:SizeS s)(hs:OA s.In)(acts:List Int){A:List Agent}(hA:A.length=s.Agents.length)(v2:State):Gb m s acts v2 A=some (An m s A):=by
  have hl:=S.agents
  have hz:=K.zones2
  have e:loop (Bw m s acts v2 A) (0,[])=some (An m s A):=by
    refine gN (fun i l=>((i:Int),l)) s.Agents (Sx m s A) id [] 2 1000000 rfl (by simp;omega) (fun i a _=>wL (CQ _ _ _ _ _) hz) (fun i a l h hb=> ?_) (fun l=> ?_)
    ·have hg:=C3 h
     have hr:=S.routes a (lG h)
     have e:loop (Bv m s acts v2 A ((i:Int),l) a) (0,l)=some (l++Sx m s A i a):=by
       refine WH (fun z l=>((z:Int),l)) m.Zones (BJ m s A i) id l 1000000 rfl (by omega) (fun z zn l' hz' hb'=> ?_) (fun l'=> ?_)
       ·unfold Bv BJ
        dsimp only
        rw [J9 (H5 hz'),bO,Zf K.toBearK S rfl rfl rfl hA,lB,G8 (H5 hz') (by omega)]
        cases hh:Oe m s A i z
        ·rfl
        ·obtain ⟨v8,p1,p2⟩:=aN K S hs (z:=(z:Int)) hg hr
         rw [bW,bP,p1,lB,p2,lB,X3,bQ (by simp;omega)];rfl
       ·unfold Bv
        dsimp only
        rw [H9];rfl
     unfold Bw
     dsimp only
     rw [J9 (H5 h),bO,hg,lB,e,lB,G8 (H5 h) (by omega)]
    ·unfold Bw
     dsimp only
     rw [H9];rfl
  unfold Gb
  rw [e];rfl
theorem WM {m:Map}{s:State}{A:List Agent}{i:Nat}(h:R9 s i=false)(a:Agent):Sx m s A i a= []:=by
  apply List.eq_nil_iff_forall_not_mem.2
  intro x hx
  unfold Sx at hx
  obtain ⟨z,zn,_,h2⟩:=(Ds _ _).1 hx
  unfold BJ Oe at h2
  rw [h,bT,bR (by simp)]at h2
  cases h2
theorem WN {m:Map}(B:BearK m){r:List Int}(hr:r.length≤1000000){p:Pass}(hp:p∈Lh m r):0≤Eo m r p.Zone_:=by
  unfold Lh at hp
  by_cases q:P3 m r=0
  ·obtain ⟨a,t,rfl,R⟩:=chkRoute_zero.1 q
   obtain ⟨ps,p1,p2,_⟩:=NW B R
   rw [p1]at hp
   obtain ⟨i,lane,j,z,k,pt,h1,h2,h3,h4,rfl⟩:=Zw m (a::t) 0 p (p2.mem_iff.1 hp)
   unfold Eo
   dsimp only
   rw [wF,h2]
   dsimp only
   rw [bQ ⟨by omega,q⟩]
   have hz:(Jv z lane).2=true:=by
     unfold Jv
     cases hf:z.Parts.find? (fun p=>p.Lane_==lane)with
     |some _=>rfl
     |none=>
      have:=List.find?_eq_none.1 hf pt (lG h3)
      exact absurd (by simpa using h4) this
   have h5:=Us (fun l=>(Jv z l).2) (a::t)
   rw [show ((a::t).any fun l=>(Jv z l).2)=true from lZ.2 ⟨lane,lG h1,hz⟩]at h5
   exact bN h5
  ·have h1:loop (O4 m (Az m r)) ([],0)=some []:=by
     refine C5 ?_
     unfold O4
     rw [Su q];rfl
   have:V8 m r=some []:=by
     unfold V8
     rw [Rn B.toBearM r hr,lB,h1,lB,CP];rfl
   rw [this]at hp
   cases hp
theorem BL {m:Map}(B:BearK m){g g':Agent}(hr:g.Route.length≤1000){z:Int}(h:Ho m g g' z=true):0≤Eo m g.Route z:=by
  unfold Ho at h
  rw [bU]at h
  obtain ⟨p,h1,h2⟩:=lZ.1 h.2
  unfold Uc at h2
  simp only [bU,wB]at h2
  rw [← h2.1.1]
  exact WN B (by omega) h1
/-! ### Along a lane -/
def Jr (m:Map)(r:List Int)(x:Int):Int×Bool:=match r.findIdx? (fun y=>x==y)with
  |some i=>((StartsM m r).getD i 0,true)
  |none=>(0,false)
theorem WO {m:Map}{a:Int}{t:List Int}(R:RouteOK m a t){i:Nat}(hi:i< (a::t).length):(StartsM m (a::t))[i]? =some ((StartsM m (a::t)).getD i 0):=by
  rw [List.getD,lH (by rw [R.StartsM,Nd];exact hi)];rfl
theorem TJ {m:Map}(B:BearM m){s:State}{sc:WorldScene}{i:Int}{g:Agent}(hm:sc.m=m)(hb:sc.before=s)(hg:C0 s.Agents i=some g)(hr:g.Route.length≤1000){a:Int}{t:List Int}(hR:g.Route=a::t)(R:RouteOK m a t)(x:Int):S7 sc i x=some (Jr m g.Route x):=by
  unfold S7 R4 Jr
  rw [hm,hb,hg,lB,Qa g.Route (fun y=>x==y) (by omega) (fun i y h=>by
   unfold T3
   rw [J9 (H5 h),bO,C3 h,lB]
   cases x==y<;>rfl) (by unfold T3;rw [H9];rfl),lB]
  unfold EQ
  cases hf:g.Route.findIdx? (fun y=>x==y)with
  |none=>rfl
  |some k=>
   have hk:=(List.findIdx?_eq_some_iff_getElem.1 hf).1
   dsimp only
   rw [hR]at hk ⊢
   rw [bK (by omega),bP,GB B _ (by rw [← hR];omega),lB,C3 (WO R hk)];rfl
/-- Whether the back's front reaches the front's rear on a lane. -/
def oT (L:Int)(f' b' b:Agent)(fs bs:Int):Bool:=((((decide (D6 (f'.S - fs)≥0))&& (decide (D6 (b'.S - bs)≥0)))&& (decide (D6 (D6 (b.S - b.Len) - bs)≤L)))&& (decide (D6 (D6 (f'.S - f'.Len) - fs)≤L)))&& (decide (D6 (b'.S - bs)≥D6 (D6 (f'.S - f'.Len) - fs)))
def Ud (m:Map)(tick i j:Int)(gi gj gi' gj':Agent)(x:Int):Option Crash:=
  if (Jr m gi.Route x).2=true∧(Jr m gj.Route x).2=true then
   if D6 (gi.S - (Jr m gi.Route x).1)<D6 (gj.S - (Jr m gj.Route x).1)then
    (if oT (Dh m x) gj' gi' gi (Jr m gj.Route x).1 (Jr m gi.Route x).1=true then some ⟨tick,i,j,x, -1,[i]⟩else none)
   else (if oT (Dh m x) gi' gj' gj (Jr m gi.Route x).1 (Jr m gj.Route x).1=true then some ⟨tick,i,j,x, -1,[j]⟩else none)
  else none
theorem oI {m:Map}(B:BearM m){s v2:State}{acts:List Int}{A:List Agent}{St:List Stay}{x4:List Crash}(hx4:x4.length≤1000000){i j:Int}{gi gj gi' gj':Agent}(hi:C0 s.Agents i=some gi)(hj:C0 s.Agents j=some gj)(hi':C0 A i=some gi')(hj':C0 A j=some gj')(hri:gi.Route.length≤1000)(hrj:gj.Route.length≤1000)
    {a b:Int} {t u:List Int} (hRi:gi.Route=a::t) (hRj:gj.Route=b::u) (Ri:RouteOK m a t) (Rj:RouteOK m b u) {k:Nat} {l:Lane} (h:m.Lanes[k]? =some l):
    Ak m s acts v2 A St x4 (i,j) (k:Int)=some (match (Ud m s.Tick i j gi gj gi' gj' (k:Int)).map fun c=>x4++ [c]with|some e=> .out (.inr e)|none=> .go ((k+1:Nat):Int)):=by
  have hL:=B.lanes
  unfold Ak Ud
  dsimp only
  rw [J9 (H5 h),bO,TJ B rfl rfl hi hri hRi Ri,lB,TJ B rfl rfl hj hrj hRj Rj,lB,G8 (H5 h) (by omega),hi,hj]
  cases h1:(Jr m gi.Route (k:Int)).2
  ·rw [bR (by simp)];rfl
  cases h2:(Jr m gj.Route (k:Int)).2
  ·rw [bR (by simp)];rfl
  rw [bQ ⟨rfl,rfl⟩]
  simp only [bW,Bool.or_self,bP,lB]
  by_cases q:D6 (gi.S - (Jr m gi.Route (k:Int)).1)<D6 (gj.S - (Jr m gj.Route (k:Int)).1)
  ·rw [bQ q,bJ q]
   simp only [bO,lB,hi,hj,hi',hj',Ac,Y3,Jf B]
   show cond (oT _ _ _ _ _ _) _ _=_
   cases oT (Dh m (k:Int)) gj' gi' gi (Jr m gj.Route (k:Int)).1 (Jr m gi.Route (k:Int)).1
   ·rfl
   ·rw [bO,X3,bQ (by simp;omega)];rfl
  ·rw [bR q,bK q]
   simp only [bP,lB,hi,hj,hi',hj',Ac,Y3,Jf B]
   show cond (oT _ _ _ _ _ _) _ _=_
   cases oT (Dh m (k:Int)) gi' gj' gj (Jr m gi.Route (k:Int)).1 (Jr m gj.Route (k:Int)).1
   ·rfl
   ·rw [bO,X3,bQ (by simp;omega)];rfl
/-- Two agents in a tick: what is known of them. -/
structure Two (m:Map)(s:State)(A:List Agent)(i j:Int)(gi gj gi' gj':Agent):Prop where
  hi:C0 s.Agents i=some gi
  hj:C0 s.Agents j=some gj
  hi':C0 A i=some gi'
  hj':C0 A j=some gj'
  ti:R9 s i=true
  tj:R9 s j=true
  ri:gi.Route.length≤1000
  rj:gj.Route.length≤1000
  oi: ∃a t,gi.Route=a::t∧RouteOK m a t
  oj: ∃a t,gj.Route=a::t∧RouteOK m a t
theorem LH {α β γ:Type}(g:Nat→α→Option β)(f:β→γ): ∀(l:List α) (k:Nat),I7 (fun i a=>(g i a).map f) k l=(I7 g k l).map f
  | [],_=>rfl
  |a::r,k=>by
   rw [I7,I7]
   cases g k a with
   |none=>exact LH g f r (k+1)
   |some b=>rfl
def LI (m:Map)(tick i j:Int)(gi gj gi' gj':Agent):List Crash:=(I7 (fun k (_:Lane)=>Ud m tick i j gi gj gi' gj' (k:Int)) 0 m.Lanes).toList
theorem OB (m:Map)(tick i j:Int)(gi gj gi' gj':Agent):(LI m tick i j gi gj gi' gj').length≤1:=by
  unfold LI
  cases I7 (fun k (_:Lane)=>Ud m tick i j gi gj gi' gj' (k:Int)) 0 m.Lanes<;>simp
theorem pW {m:Map}(B:BearM m){s v2:State}{acts:List Int}{A:List Agent}{St:List Stay}{x4:List Crash}(hx4:x4.length≤1000000){i j:Int}{gi gj gi' gj':Agent}(T:Two m s A i j gi gj gi' gj'):
    Fz m s acts v2 A St x4 (i,j)=some (x4++LI m s.Tick i j gi gj gi' gj'):=by
  obtain ⟨a,t,hRi,Ri⟩:=T.oi
  obtain ⟨b,u,hRj,Rj⟩:=T.oj
  unfold Fz LI
  rw [Z1 m.Lanes _ (fun k (_:Lane)=>(Ud m s.Tick i j gi gj gi' gj' (k:Int)).map fun c=>x4++ [c]) (fun k l h=>by rw [oI B hx4 T.hi T.hj T.hi' T.hj' T.ri T.rj hRi hRj Ri Rj h];cases Ud m s.Tick i j gi gj gi' gj' (k:Int)<;>rfl) (by unfold Ak;rw [H9];rfl),LH (fun k (_:Lane)=>Ud m s.Tick i j gi gj gi' gj' (k:Int))]
  cases I7 (fun k (_:Lane)=>Ud m s.Tick i j gi gj gi' gj' (k:Int)) 0 m.Lanes with
  |none=>simp [FV,thenS]
  |some c=>rfl
def Pf (m:Map)(s:State)(A:List Agent)(i j:Int)(gi gj:Agent)(z:Int):Bool:=(Oe m s A i z&&Oe m s A j z)&& (Ma m gi.Route z !=Ma m gj.Route z)
theorem aR {m:Map}(B:BearK m){s:State}(S:SizeS s){sc:WorldScene}{A:List Agent}(hm:sc.m=m)(hb:sc.before=s)(ha:sc.after.Agents=A)(hl:A.length=s.Agents.length){i j:Int}{gi gj:Agent}(hi:C0 s.Agents i=some gi)(hj:C0 s.Agents j=some gj)(hri:gi.Route.length≤1000)(hrj:gj.Route.length≤1000)(z:Int):
    S6 sc i j z=some (Pf m s A i j gi gj z):=by
  unfold S6 Pf
  rw [Zf B S hm hb ha hl,Zf B S hm hb ha hl,hm,hb,lB,hi,hj]
  cases Oe m s A i z
  ·rfl
  ·simp only [bO,lB,bS]
   cases Oe m s A j z
   ·rfl
   ·simp only [bO,lB,GG B.toBearM (show gi.Route.length≤1000000 by omega),GG B.toBearM (show gj.Route.length≤1000000 by omega)]
/-- Who is to blame. -/
def kZ (m:Map)(s:State)(i j z:Int):List Int:=
  if (Tn m s i z).Rank< (Tn m s j z).Rank∨(Tn m s i z).Rank=(Tn m s j z).Rank∧(Tn m s i z).Since>(Tn m s j z).Since then [i]
  else if (Tn m s j z).Rank< (Tn m s i z).Rank∨(Tn m s j z).Since>(Tn m s i z).Since then [j]else [i,j]
def QC (m:Map)(s:State)(A:List Agent)(i j:Int)(gi gj:Agent)(z:Nat)(_:Zone):Option Crash:=if Pf m s A i j gi gj z=true then some ⟨s.Tick,i,j, -1,(z:Int),kZ m s i j z⟩else none
def OD (m:Map)(s:State)(A:List Agent)(i j:Int)(gi gj:Agent):List Crash:=Gl (QC m s A i j gi gj) 0 m.Zones
theorem WP {m:Map}{s:State}{A:List Agent}{i j:Int}{gi gj:Agent}{z:Int}(h:Pf m s A i j gi gj z=true):Oe m s A i z=true∧Oe m s A j z=true:=by
  unfold Pf at h
  simp only [bU]at h
  exact h.1
theorem TK {m:Map}(B:BearK m){s:State}(S:SizeS s){A:List Agent}{sc:WorldScene}(ha:sc.after.In=An m s A){i z:Int}(hz:0≤z∧z<m.Zones.length)(h:Oe m s A i z=true):U0 sc i z=some (Tn m s i z):=by
  have h2:=B.zones2
  have hl:=Zy m s A
  have hlen:(An m s A).length≤1000000:=by
    have:=wM S.agents h2
    omega
  obtain ⟨k,h1,h2⟩:=YD hlen (LG m s A) (Stay.mk i z 0 0)
  have hf:=WI hz h
  unfold U0
  rw [ha,h1,lB,C3 (h2 _ hf)];rfl
theorem oJ (m:Map)(s:State)(i j z:Int):((Y2 (Tn m s i z).Rank (Tn m s j z).Rank).bind fun v31=>(Af (Tn m s j z).Since (Tn m s i z).Since).bind fun v32=>(Bf [v31,v32]).bind fun v33=>(cond (v33==(-1)) (some [i]) (cond (v33==1) (some [j]) (some [i,j]))))=some (kZ m s i j z):=by
  rw [Sr,lB,Wg,lB,WE,lB]
  unfold kZ EU
  by_cases a:(Tn m s i z).Rank< (Tn m s j z).Rank
  ·simp [a]
  ·by_cases b:(Tn m s i z).Rank>(Tn m s j z).Rank
   ·have:(Tn m s i z).Rank≠(Tn m s j z).Rank:=by omega
    simp [a,b,this]
   ·have e:(Tn m s i z).Rank=(Tn m s j z).Rank:=by omega
    by_cases c:(Tn m s j z).Since< (Tn m s i z).Since
    ·simp [e,c]
    ·by_cases d:(Tn m s j z).Since>(Tn m s i z).Since
     ·simp [e,c,d]
     ·simp [e,c,d]
theorem aS (m:Map)(s:State)(A:List Agent)(i j:Int)(gi gj:Agent):(OD m s A i j gi gj).length≤m.Zones.length:=Ut _ _ _
theorem oK {m:Map}(B:BearK m){s v2:State}(S:SizeS s){acts:List Int}{A:List Agent}(hl:A.length=s.Agents.length){y:List Crash}(hy:y.length≤1000001){i j:Int}{gi gj gi' gj':Agent}(T:Two m s A i j gi gj gi' gj'):
    Dz m s acts v2 A (An m s A) (i,j) y=some (y++OD m s A i j gi gj):=by
  have h2:=B.zones2
  have e:loop (Aj m s acts v2 A (An m s A) (i,j)) (0,y)=some (y++OD m s A i j gi gj):=by
    refine WH (fun z l=>((z:Int),l)) m.Zones (QC m s A i j gi gj) id y 1000003 rfl (by omega) (fun z zn l hz hb=> ?_) (fun l=> ?_)
    ·unfold Aj QC
     dsimp only
     rw [J9 (H5 hz),bO,aR B S rfl rfl rfl hl T.hi T.hj T.ri T.rj,lB,G8 (H5 hz) (by omega)]
     cases hc:Pf m s A i j gi gj z
     ·rfl
     ·have hh:=WP hc
      have hzr:(0:Int)≤(z:Int)∧(z:Int)<m.Zones.length:=⟨by omega,by have:=H5 hz;omega⟩
      rw [bW,bP,TK B S rfl hzr hh.1,lB,TK B S rfl hzr hh.2,lB]
      have hw:=oJ m s i j z
      rw [Sr,lB,Wg,lB,WE,lB]at hw ⊢
      rw [hw,lB,X3,bQ (by simp;omega)];rfl
    ·unfold Aj
     dsimp only
     rw [H9];rfl
  unfold Dz
  rw [e];rfl
def CR (m:Map)(s:State)(A:List Agent)(i j:Int)(gi gj:Agent):List Int:=Gl (fun z (_:Zone)=>if Pf m s A i j gi gj z=true then some (z:Int)else none) 0 m.Zones
theorem aT {m:Map}(B:BearK m){s s':State}{A:List Agent}(hA:s'.Agents=A){i j:Int}{gi gj gi' gj':Agent}(T:Two m s A i j gi gj gi' gj'):Pz m s s' i j=some (CR m s A i j gi gj):=by
  have h2:=B.zones2
  have e:loop (Hg m s s' i j) ([],0)=some (CR m s A i j gi gj):=by
    refine FY m.Zones (fun z (_:Zone)=>if Pf m s A i j gi gj z=true then some (z:Int)else none) id (fun z zn l hz hb=> ?_) (fun l=> ?_)
    ·have ec:Pf m s A i j gi gj (z:Int)=((Ho m gi gi' (z:Int)&&Ho m gj gj' (z:Int))&& (Ma m gi.Route (z:Int) !=Ma m gj.Route (z:Int))):=by
       unfold Pf Oe
       rw [T.hi,T.hj,T.hi',T.hj',T.ti,T.tj,bS,bS]
     have hno:Pf m s A i j gi gj (z:Int)=false→(if Pf m s A i j gi gj (z:Int)=true then some (z:Int)else none)=none:=fun h=>bR (by rw [h];simp)
     unfold Hg
     dsimp only
     rw [J9 (H5 hz),bO,hA,T.hi,lB,T.hj,lB,T.hi',lB,(Wj B T.ri z).2,lB,G8 (H5 hz) (by omega),T.hj']
     cases h1:Ho m gi gi' (z:Int)
     ·rw [hno (by rw [ec,h1];rfl)];rfl
     ·simp only [bW,bX,bO,bP,lB,bY,bS]
      rw [(Wj B T.rj z).2,lB]
      cases h3:Ho m gj gj' (z:Int)
      ·rw [hno (by rw [ec,h1,h3];rfl)];rfl
      ·have q1:=BL B T.ri h1
       have q2:=BL B T.rj h3
       obtain ⟨_,_,_,g1,_⟩:=EY q1
       obtain ⟨_,_,_,g2,_⟩:=EY q2
       have g1:=C3 g1
       have g2:=C3 g2
       rw [wG q1]at g1
       rw [wG q2]at g2
       rw [bW,bP,GC B.toBearM _ (by have:=T.ri;omega),lB,g1,lB,GC B.toBearM _ (by have:=T.rj;omega),lB,g2,lB]
       cases e:(Ma m gi.Route (z:Int) !=Ma m gj.Route (z:Int))
       ·rw [hno (by rw [ec,h1,h3,e];rfl)];rfl
       ·rw [bQ (show Pf m s A i j gi gj (z:Int)=true by rw [ec,h1,h3,e];rfl),bO,X3,bQ (by have:=H5 hz;simp;omega)];rfl
    ·unfold Hg
     dsimp only
     rw [H9];rfl
  unfold Pz
  rw [e];rfl
/-- The crashes of two agents. -/
def BM (m:Map)(s:State)(A:List Agent)(i j:Int):List Crash:=match C0 s.Agents i,C0 s.Agents j,C0 A i,C0 A j with
  |some gi,some gj,some gi',some gj'=>LI m s.Tick i j gi gj gi' gj'++OD m s A i j gi gj
  |_,_,_,_=> []
theorem Two.pair {m:Map}{s:State}{A:List Agent}{i j:Int}{gi gj gi' gj':Agent}(T:Two m s A i j gi gj gi' gj'):BM m s A i j=LI m s.Tick i j gi gj gi' gj'++OD m s A i j gi gj:=by
  unfold BM
  rw [T.hi,T.hj,T.hi',T.hj']
theorem gO {m:Map}{s:State}(O: ∀g∈s.Agents,∃a t,g.Route=a::t∧RouteOK m a t)(S:SizeS s){A:List Agent}(hA:A.length=s.Agents.length){i j:Int}(hi:R9 s i=true)(hj:R9 s j=true): ∃gi gj gi' gj',Two m s A i j gi gj gi' gj':=by
  obtain ⟨gi,a1,a2,a3,a4,_⟩:=Sw hi
  obtain ⟨gj,b1,b2,b3,b4,_⟩:=Sw hj
  obtain ⟨gi',c1,_⟩:=Ro (l:=A) a3 (by omega)
  obtain ⟨gj',d1,_⟩:=Ro (l:=A) b3 (by omega)
  have mi:=lG a2
  have mj:=lG b2
  exact ⟨gi,gj,gi',gj',a1,b1,c1,d1,hi,hj,S.routes gi mi,S.routes gj mj,O gi mi,O gj mj⟩
theorem OE {m:Map}(B:BearK m)(s:State)(A:List Agent)(i j:Int):(BM m s A i j).length≤3:=by
  have h2:=B.zones2
  unfold BM
  split
  ·rename_i gi gj gi' gj' _ _ _ _
   have h1:=OB m s.Tick i j gi gj gi' gj'
   have h3:=aS m s A i j gi gj
   rw [lM];omega
  ·simp
/-! ### All pairs -/
def Wl (s:State)(i:Nat):Nat→Nat→List (Int×Int)
  |0,_=> []
  |k+1,j=>cond (R9 s i&&R9 s j) (((i:Int),(j:Int))::Wl s i k (j+1)) (Wl s i k (j+1))
def Ng (s:State)(n:Nat):Nat→Nat→List (Int×Int)
  |0,_=> []
  |k+1,i=>Wl s i (n - (i+1)) (i+1)++Ng s n k (i+1)
theorem OF (s:State)(i:Nat): ∀k j,Yt s i k j=some (Wl s i k j)
  |0,_=>rfl
  |k+1,j=>by rw [Yt,(Od s i).1,lB,(Od s j).1,lB,OF s i k (j+1)];rfl
theorem OG (s:State)(n:Nat): ∀k i,CE s n k i=some (Ng s n k i)
  |0,_=>rfl
  |k+1,i=>by rw [CE,OF,lB,OG s n k (i+1)];rfl
theorem aU {s:State}(S:SizeS s):FP s=some (Ng s s.Agents.length s.Agents.length 0):=by
  have:=S.agents
  unfold FP
  rw [bQ (by omega),OG]
theorem LJ {s:State}{i:Nat}{p:Int×Int}: ∀{k j},p∈Wl s i k j→p.1=i∧R9 s i=true∧R9 s p.2=true∧∃j':Nat,p.2=j'∧j≤j'∧j'<j+k
  |0,_,h=>by simp [Wl]at h
  |k+1,j,h=>by
   rw [Wl]at h
   cases hc:(R9 s i&&R9 s j)
   ·rw [hc,bP]at h
    obtain ⟨h1,h2,h3,j',h4,h5,h6⟩:=LJ h
    exact ⟨h1,h2,h3,j',h4,by omega,by omega⟩
   ·rw [hc,bO]at h
    rw [bU]at hc
    rcases lU.1 h with rfl|h
    ·exact ⟨rfl,hc.1,hc.2,j,rfl,by omega,by omega⟩
    ·obtain ⟨h1,h2,h3,j',h4,h5,h6⟩:=LJ h
     exact ⟨h1,h2,h3,j',h4,by omega,by omega⟩
theorem OH {s:State}{n:Nat}{p:Int×Int}: ∀{k i},p∈Ng s n k i→∃a b:Nat,p=((a:Int),(b:Int))∧i≤a∧a<b∧b<n∧R9 s a=true∧R9 s b=true
  |0,_,h=>by simp [Ng]at h
  |k+1,i,h=>by
   rw [Ng]at h
   rcases lT.1 h with h|h
   ·obtain ⟨h1,h2,h3,j',h4,h5,h6⟩:=LJ h
    obtain ⟨x,y⟩:=p
    dsimp only at h1 h3 h4
    subst h1 h4
    exact ⟨i,j',rfl,by omega,by omega,by omega,h2,h3⟩
   ·obtain ⟨a,b,h1,h2,h3⟩:=OH h
    exact ⟨a,b,h1,by omega,h3⟩
theorem TL (s:State)(i:Nat): ∀k j,(Wl s i k j).length≤k
  |0,_=>by simp [Wl]
  |k+1,j=>by
   have:=TL s i k (j+1)
   rw [Wl]
   cases R9 s i&&R9 s j
   ·rw [bP];omega
   ·rw [bO,lL];omega
theorem GJ (s:State)(n:Nat): ∀k i,(Ng s n k i).length≤k*n
  |0,_=>by simp [Ng]
  |k+1,i=>by
   have h1:=TL s i (n - (i+1)) (i+1)
   have h2:=GJ s n k (i+1)
   rw [Ng,lM,wJ,Nat.one_mul];omega
/-- All crashes of a tick. -/
def Vb (m:Map)(s:State)(A:List Agent):List Crash:=(Ng s s.Agents.length s.Agents.length 0).flatMap fun p=>BM m s A p.1 p.2
theorem pX {m:Map}(B:BearK m){s v2:State}(S:SizeS s){acts:List Int}{A:List Agent}(hl:A.length=s.Agents.length){x4:List Crash}(hx:x4.length≤1000000){i j:Int}{gi gj gi' gj':Agent}(T:Two m s A i j gi gj gi' gj'):
    Bu m s acts v2 A (An m s A) x4 (i,j)=some (.go (x4++BM m s A i j)):=by
  have h1:=OB m s.Tick i j gi gj gi' gj'
  unfold Bu
  rw [pW B.toBearM hx T,lB,oK B S hl (by rw [lM];omega) T,lB,T.pair,lO]
theorem BN {m:Map}(B:BearK m){s v2:State}(S:SizeS s)(O: ∀g∈s.Agents,∃a t,g.Route=a::t∧RouteOK m a t){acts:List Int}{A:List Agent}(hl:A.length=s.Agents.length): ∀(L:List (Int×Int)) (x:List Crash),(∀p∈L,R9 s p.1=true∧R9 s p.2=true)→x.length+3*L.length≤1000003→
    loopL (Bu m s acts v2 A (An m s A)) (fun x4=>x4) L x=some (x++L.flatMap fun p=>BM m s A p.1 p.2)
  | [],x,_,_=>by simp [loopL]
  |p::L,x,h,hx=>by
   obtain ⟨i,j⟩:=p
   have hp:=h (i,j) (by simp)
   obtain ⟨gi,gj,gi',gj',T⟩:=gO O S hl hp.1 hp.2
   rw [lL]at hx
   have h3:=OE B s A i j
   rw [loopL,pX B S hl (by omega) T]
   dsimp only
   rw [BN B S O hl L _ (fun q hq=>h q (by simp [hq])) (by rw [lM];omega),bF,lO]
theorem pY {m:Map}(B:BearK m){s v2:State}(S:SizeS s)(hn:s.Agents.length≤500)(O: ∀g∈s.Agents,∃a t,g.Route=a::t∧RouteOK m a t){acts:List Int}{A:List Agent}(hl:A.length=s.Agents.length):Ga m s acts v2 A (An m s A)=some (Vb m s A):=by
  have h1:=GJ s s.Agents.length s.Agents.length 0
  have h2:s.Agents.length*s.Agents.length≤500*500:=wM hn hn
  unfold Ga Ty
  rw [lB,aU S,lB,BN B S O hl _ _ (fun p hp=>by
   obtain ⟨a,b,rfl,_,_,_,h3,h4⟩:=OH hp
   exact ⟨h3,h4⟩) (by rw [lN];omega),lB,lQ];rfl
/-- A tick. -/
def Of (m:Map)(s:State)(acts:List Int):State×List Crash×Int:=
  if Qc m s≠0 then (⟨0,[],[]⟩,[],Qc m s)
  else if s.Tick=1099511627776 then (⟨0,[],[]⟩,[],2)
  else (⟨s.Tick+1,Ci m s acts,An m s (Ci m s acts)⟩,Vb m s (Ci m s acts),0)
theorem gP {m:Map}(K:KitM m){s:State}(S:SizeS s)(w: ∀g∈s.Agents,g.S≤9223372036854775807)(acts:List Int):Ik m s acts=some (Of m s acts):=by
  have c1:=(EX K.toBearM S w).1
  unfold Ik Of
  rw [c1,lB]
  by_cases q:Qc m s=0
  case neg=>
    rw [bQ q,show (Qc m s !=0)=true by simpa using q];rfl
  rw [bR (by simp [q]),show (Qc m s !=0)=false by simp [q],bP]
  have O:=(Jp K).1 q
  have t1:=O.tick
  by_cases t:s.Tick=1099511627776
  ·rw [bQ t,bJ (by omega)];rfl
  rw [bR t,bK (by omega),bP]
  have hn:s.Agents.length≤500:=by have:=O.num;omega
  have OR: ∀g∈s.Agents,∃a t,g.Route=a::t∧RouteOK m a t:=fun g hg=>by
    obtain ⟨i,hi⟩:=bG hg
    exact (O.agent i g hi).route
  have hs:=aL O.sorted
  have e1:Fy s=some s:=kR S
  have tk:D6 (s.Tick+1)=s.Tick+1:=F2 (by omega)
  rw [e1,lB,WK K S w acts rfl,lB,WL K S hs acts (Jq m s acts),lB,pY K.toBearK S hn OR (Jq m s acts),tk];rfl
theorem gQ (m:Map)(s:State)(A:List Agent)(i j:Int): ∀c∈BM m s A i j,c.Who.length≤2:=by
  intro c hc
  unfold BM at hc
  split at hc
  ·rename_i gi gj gi' gj' _ _ _ _
   rcases lT.1 hc with h|h
   ·unfold LI at h
    rw [Option.mem_toList]at h
    have: ∀(l:List Lane) (k:Nat),∀c,I7 (fun k (_:Lane)=>Ud m s.Tick i j gi gj gi' gj' (k:Int)) k l=some c→c.Who.length≤2:=by
      intro l
      induction l with
      |nil=>intro k c h;cases h
      |cons a r ih=>
       intro k c h
       rw [I7]at h
       split at h
       ·rename_i e he
        cases h
        unfold Ud at he
        split at he
        ·split at he
         ·split at he
          ·cases he;simp
          ·cases he
         ·split at he
          ·cases he;simp
          ·cases he
        ·cases he
       ·exact ih (k+1) c h
    exact this _ _ _ h
   ·unfold OD at h
    obtain ⟨z,zn,_,h⟩:=(Ds _ _).1 h
    unfold QC at h
    split at h
    ·cases h
     unfold kZ
     dsimp only
     split
     ·simp
     ·split<;>simp
    ·cases h
  ·cases hc
theorem aV {m:Map}(K:KitM m){s:State}(S:SizeS s)(acts:List Int):SizeS (Of m s acts).1∧(Of m s acts).2.1.length≤1000000∧∀c∈(Of m s acts).2.1,c.Who.length≤1000000:=by
  have h0:SizeS ⟨0,[],[]⟩:=⟨by simp,by simp,by simp⟩
  unfold Of
  split
  ·exact ⟨h0,by simp,by simp⟩
  rename_i q
  split
  ·exact ⟨h0,by simp,by simp⟩
  have O:=(Jp K).1 (Decidable.byContradiction q)
  have hn:=O.num
  have hz:=K.zones2
  have h1:=Zy m s (Ci m s acts)
  have h2:s.Agents.length*m.Zones.length≤8*2:=wM hn.2 hz
  have h3:=GJ s s.Agents.length s.Agents.length 0
  have h4:s.Agents.length*s.Agents.length≤8*8:=wM hn.2 hn.2
  refine ⟨⟨by rw [Jq];omega,by dsimp only;omega,fun a ha=> ?_⟩,?_,fun c hc=> ?_⟩
  ·dsimp only at ha
   obtain ⟨i,hi⟩:=bG ha
   have hil:i<s.Agents.length:=by have:=H5 hi;rw [Jq]at this;exact this
   have hg:s.Agents[i]? =some s.Agents[i]:=lH hil
   have:=GI (m:=m) (acts:=acts) hg
   rw [C3 hi]at this
   rw [lD this]
   unfold Lz
   rw [C3 hg]
   have:=S.routes _ (lG hg)
   dsimp only
   split
   ·exact this
   ·exact this
  ·have: ∀l:List (Int×Int),(l.flatMap fun p=>BM m s (Ci m s acts) p.1 p.2).length≤3*l.length:=by
     intro l
     induction l with
     |nil=>simp
     |cons p l ih=>have:=OE K.toBearK s (Ci m s acts) p.1 p.2;rw [bF,lM,lL];omega
   have:=this (Ng s s.Agents.length s.Agents.length 0)
   show (Vb m s (Ci m s acts)).length≤_
   unfold Vb
   omega
  ·obtain ⟨p,_,h⟩:=List.mem_flatMap.1 hc
   have:=gQ m s _ _ _ c h
   omega
def Zg (m:Map)(g:Agent)(i:Nat)(st:Int):Option Span:=
  if max 0 (D6 (D6 (g.S - g.Len) - st))≤min (D6 (g.S - st)) (Dh m (g.Route.getD i 0))then some ⟨g.Route.getD i 0,max 0 (D6 (D6 (g.S - g.Len) - st)),min (D6 (g.S - st)) (Dh m (g.Route.getD i 0))⟩else none
/-- The spans of lanes that an agent covers. -/
def El (m:Map)(g:Agent):List Span:=if BI g=true then Gl (Zg m g) 0 (StartsM m g.Route)else []
theorem LK {m:Map}(r:List Int):(StartsM m r).length≤r.length:=by
  unfold StartsM Az
  split
  ·dsimp only;rw [Nd];exact wH _
  ·simp
theorem YE {m:Map}(B:BearM m){g:Agent}(hr:g.Route.length≤1000):Ij m g=some (El m g)∧Pb m g=some (El m g):=by
  have s1:Ml g=some (BI g):=rfl
  have s2:Mo g=some (BI g):=rfl
  have hsl:=LK (m:=m) g.Route
  have hrt: ∀(i:Nat) st,(StartsM m g.Route)[i]? =some st→C0 g.Route (i:Int)=some (g.Route.getD i 0):=fun i st h=>by
    have:=H5 h
    apply C3
    rw [List.getD,lH (by omega)];rfl
  have e1:loop (Bt m g (StartsM m g.Route)) ([],0)=some (Gl (Zg m g) 0 (StartsM m g.Route)):=by
    refine FY (StartsM m g.Route) (Zg m g) id (fun i st l h hl=> ?_) (fun l=> ?_)
    ·have hi:=H5 h
     unfold Bt Zg
     dsimp only
     rw [J9 hi,bO,C3 h,lB,hrt i st h,G8 hi (by omega)]
     simp only [lB,Ac,Y3,Gy,Dq,Jf B,Mb,Db]
     rw [Int.max_comm 0]
     by_cases q:max (D6 (D6 (g.S - g.Len) - st)) 0≤min (D6 (g.S - st)) (Dh m (g.Route.getD i 0))
     ·rw [bQ q,bK (by omega),bX,bO,X3,bQ (by simp;omega)];rfl
     ·rw [bR q,bJ (by omega)];rfl
    ·unfold Bt
     dsimp only
     rw [H9];rfl
  have e2:loop (Jm m g (StartsM m g.Route)) ([],0)=some (Gl (Zg m g) 0 (StartsM m g.Route)):=by
    refine FY (StartsM m g.Route) (Zg m g) id (fun i st l h hl=> ?_) (fun l=> ?_)
    ·have hi:=H5 h
     unfold Jm Zg
     dsimp only
     rw [J9 hi,bO,C3 h,lB,lB,hrt i st h,G8 hi (by omega)]
     simp only [lB,Qm B,Mb,Db]
     by_cases q:max 0 (D6 (D6 (g.S - g.Len) - st))≤min (D6 (g.S - st)) (Dh m (g.Route.getD i 0))
     ·rw [bQ q,bJ q,bO,X3,bQ (by simp;omega)];rfl
     ·rw [bR q,bK q];rfl
    ·unfold Jm
     dsimp only
     rw [H9];rfl
  unfold Ij Pb El
  rw [s1,s2,lB,lB]
  cases hs:BI g
  ·exact ⟨rfl,rfl⟩
  ·simp only [bW,bP,if_true]
   rw [GB B _ (by omega),Wi B _ (by omega),lB,lB,e1,e2]
   exact ⟨rfl,rfl⟩
theorem TM (m:Map)(g:Agent):(El m g).length≤g.Route.length:=by
  unfold El
  split
  ·exact wL (Ut _ _ _) (LK _)
  ·simp
theorem YF {m:Map}{g:Agent}{x:Span}(h:x∈El m g):x.From≤x.To:=by
  unfold El at h
  split at h
  ·obtain ⟨i,st,_,h⟩:=(Ds _ _).1 h
   unfold Zg at h
   split at h
   ·cases h;assumption
   ·cases h
  ·cases h
def Vc (x y:Span):Bool:=((x.Lane_==y.Lane_)&&decide (x.From≤y.To))&&decide (y.From≤x.To)
def Zh (m:Map)(g g':Agent):Bool:=(El m g).any fun x=>(El m g').any fun y=>Vc x y
theorem TN {m:Map}(B:BearM m){g g':Agent}(hr:g.Route.length≤1000)(hr':g'.Route.length≤1000):Cf m g g'=some (Zh m g g')∧Ko m g g'=some (Zh m g g'):=by
  obtain ⟨b1,b2⟩:=YE B hr
  obtain ⟨c1,c2⟩:=YE B hr'
  have l1:=TM m g
  have l2:=TM m g'
  constructor
  ·have inner: ∀x∈El m g,F6 (El m g') x=some ((El m g').any fun y=>Vc x y):=by
     intro x hx
     unfold F6 I0
     refine Oc _ (fun y=>Vc x y) _ (by omega) (fun i y hy=> ?_) (by unfold K8;rw [H9];rfl)
     have o1:=YF hx
     have o2:=YF (lG hy)
     unfold K8 Fi
     rw [J9 (H5 hy),bO,C3 hy,lB]
     simp only [Gy,Dq,Mb,Db]
     unfold Vc
     by_cases e:x.Lane_=y.Lane_
     ·rw [e]
      simp only [beq_self_eq_true,bO,lB,bS]
      by_cases q:x.From≤y.To∧y.From≤x.To
      ·rw [bJ q.1,bJ q.2,bK (by omega)];rfl
      ·rw [show (decide (x.From≤y.To)&&decide (y.From≤x.To))=false by rw [bZ];simpa using q,bJ (by omega)];rfl
     ·rw [show (x.Lane_==y.Lane_)=false by simpa using e];rfl
   have outer:G4 (El m g) (El m g')=some (Zh m g g'):=by
     unfold G4 J1 Zh
     refine Oc _ (fun x=>(El m g').any fun y=>Vc x y) _ (by omega) (fun i x hx=> ?_) (by unfold G3;rw [H9];rfl)
     unfold G3 Y5
     rw [J9 (H5 hx),bO,C3 hx,lB,inner x (lG hx)]
     simp only [lB]
     cases (El m g').any fun y=>Vc x y<;>rfl
   unfold Cf
   rw [c1,lB,b1,lB,outer];rfl
  ·have inner: ∀(i:Nat) x,(El m g)[i]? =some x→loop (Cm (El m g) (El m g') (i:Int)) 0=some (if (El m g').any (fun y=>Vc x y)then .inr true else .inl ()):=by
     intro i x hx
     refine GY (El m g') (fun y=>Vc x y) true (fun j y hy=> ?_) (by unfold Cm;rw [H9];rfl)
     unfold Cm Vc
     rw [J9 (H5 hy),bO,C3 hx,lB,C3 hy,lB,G8 (H5 hy) (by omega)]
     cases e:(x.Lane_==y.Lane_)
     ·rfl
     ·simp only [bO,lB,bS]
      cases e2:decide (x.From≤y.To)
      ·rfl
      ·simp only [bO,lB,bS]
       cases decide (y.From≤x.To)<;>rfl
   have outer:loop (Cn (El m g) (El m g')) 0=some (if (El m g).any (fun x=>(El m g').any fun y=>Vc x y)then .inr true else .inl ()):=by
     refine GY (El m g) (fun x=>(El m g').any fun y=>Vc x y) true (fun i x hx=> ?_) (by unfold Cn;rw [H9];rfl)
     unfold Cn
     rw [J9 (H5 hx),bO,inner i x hx,G8 (H5 hx) (by omega)]
     cases (El m g').any fun y=>Vc x y<;>rfl
   unfold Ko Zh
   rw [b2,lB,c2,lB,outer]
   cases (El m g).any fun x=>(El m g').any fun y=>Vc x y<;>rfl
/-- Two agents that may not begin together. -/
def EZ (m:Map)(s:State)(A:List Agent)(i j:Int):Bool:=match C0 s.Agents i,C0 s.Agents j with
  |some gi,some gj=>Zh m gi gj||decide (0< (CR m s A i j gi gj).length)
  |_,_=>false
abbrev Mh:State:=⟨0,[],[]⟩
theorem WQ {m:Map}(K:KitM m){A:List Agent}(S:SizeS ⟨0,A,[]⟩):loop (Iq m A) (0,(⟨0,A,[]⟩:State))=some ⟨0,A,An m ⟨0,A,[]⟩ A⟩:=by
  have hl:A.length≤1000:=S.agents
  have hz:=K.zones2
  refine gN (fun i l=>((i:Int),(⟨0,A,l⟩:State))) A (Sx m ⟨0,A,[]⟩ A) (fun l=>(⟨0,A,l⟩:State)) [] 2 1000000 rfl (by simp;omega) (fun i a _=>wL (CQ _ _ _ _ _) hz) (fun i g l h hb=> ?_) (fun l=> ?_)
  ·have hg:C0 A (i:Int)=some g:=C3 h
   have hr:g.Route.length≤1000:=S.routes g (lG h)
   have e:loop (Ip m A ((i:Int),(⟨0,A,l⟩:State))) (0,(⟨0,A,l⟩:State))=some ⟨0,A,l++Sx m ⟨0,A,[]⟩ A i g⟩:=by
     have th: ∀l',R9 ⟨0,A,l'⟩ (i:Int)=R9 ⟨0,A,[]⟩ (i:Int):=fun _=>rfl
     cases ht:R9 ⟨0,A,[]⟩ (i:Int)
     ·rw [C5 (t:=(⟨0,A,l⟩:State)),WM ht,lP]
      unfold Ip
      dsimp only
      rw [(Od _ _).2,th,ht]
      cases decide ((0:Int)< (m.Zones.length:Int))<;>rfl
     ·refine WH (fun z l=>((z:Int),(⟨0,A,l⟩:State))) m.Zones (BJ m ⟨0,A,[]⟩ A i) (fun l=>(⟨0,A,l⟩:State)) l 1000000 rfl (by omega) (fun z zn l' hz' hb'=> ?_) (fun l'=> ?_)
      ·unfold Ip BJ
       dsimp only
       rw [J9 (H5 hz'),bO,(Od _ _).2,lB,th,ht,bS,bO,hg,lB,lB,(Wj K.toBearK hr z).2,lB,G8 (H5 hz') (by omega)]
       have e:Oe m ⟨0,A,[]⟩ A i z=Ho m g g z:=by
         unfold Oe;rw [ht,bS];dsimp only;rw [hg]
       rw [e]
       cases hh:Ho m g g z
       ·rfl
       ·have es:Tn m ⟨0,A,[]⟩ (i:Int) (z:Int)=⟨(i:Int),(z:Int),0,HH m g.Route z 0⟩:=by
          unfold Tn
          simp only [List.find?_nil,hg]
        rw [bO,lB,(YC K hr z 0).2,lB,X3,bQ (by simp;omega),bQ rfl,es];rfl
      ·unfold Ip
       dsimp only
       rw [H9];rfl
   unfold Iq
   dsimp only
   rw [J9 (H5 h),bO,e,lB,G8 (H5 h) (by omega)]
  ·unfold Iq
   dsimp only
   rw [H9];rfl
theorem WR {m:Map}(B:BearK m){s:State}(S:SizeS s)(O: ∀g∈s.Agents,∃a t,g.Route=a::t∧RouteOK m a t)(i:Nat): ∀(k j:Nat),j+k=s.Agents.length→
    loop (Io m s.Agents ((i:Int),s)) (j:Int)=some (if (Wl s i k j).any (fun p=>EZ m s s.Agents p.1 p.2)=true then .inr (Mh,12)else .inl ())
  |0,j,hj=>by
   obtain rfl:j=s.Agents.length:=by omega
   rw [C5 (t:= .inl ()) (by unfold Io;rw [H9];rfl)];rfl
  |k+1,j,hj=>by
   have hjl:j<s.Agents.length:=by omega
   have hn:=S.agents
   have key:Io m s.Agents ((i:Int),s) (j:Int)=some (if (R9 s i&&R9 s j)&&EZ m s s.Agents i j=true then .out (.inr (Mh,12))else .go ((j+1:Nat):Int)):=by
     unfold Io
     dsimp only
     rw [J9 hjl,bO,(Od s i).2,lB,G8 hjl (by omega)]
     cases h1:R9 s i
     ·rfl
     ·simp only [bW,bX,bO,bY,bS]
      rw [(Od s j).2,lB]
      cases h2:R9 s j
      ·rfl
      ·obtain ⟨gi,gj,gi',gj',T⟩:=gO O S rfl h1 h2
       have hbad:EZ m s s.Agents i j=(Zh m gi gj||decide (0< (CR m s s.Agents i j gi gj).length)):=by unfold EZ;rw [T.hi,T.hj]
       rw [bW,bP,T.hi,T.hj,lB,lB,(TN B.toBearM T.ri T.rj).2,lB,hbad]
       cases Zh m gi gj
       ·rw [bX,bO,aT B rfl T,lB]
        by_cases q:0< (CR m s s.Agents i j gi gj).length
        ·rw [bJ (show ((CR m s s.Agents i j gi gj).length:Int)>0 by omega),bJ q];rfl
        ·rw [bK (show ¬((CR m s s.Agents i j gi gj).length:Int)>0 by omega),bK q];rfl
       ·rfl
   rw [Wl]
   cases h1:(R9 s i&&R9 s j)
   ·rw [h1]at key
    rw [J2 (s':=((j+1:Nat):Int)) (by rw [key];rfl),bP]
    exact WR B S O i k (j+1) (by omega)
   ·rw [h1]at key
    rw [bO,bH]
    cases h2:EZ m s s.Agents i j
    ·rw [h2]at key
     rw [J2 (s':=((j+1:Nat):Int)) (by rw [key];rfl),bY]
     exact WR B S O i k (j+1) (by omega)
    ·rw [h2]at key
     rw [C5 (t:= .inr (Mh,12)) (by rw [key];rfl)];rfl
theorem gR {m:Map}(B:BearK m){s:State}(S:SizeS s)(O: ∀g∈s.Agents,∃a t,g.Route=a::t∧RouteOK m a t): ∀(k i:Nat),i+k=s.Agents.length→
    loop (Fo m s.Agents) ((i:Int),s)=some (if (Ng s s.Agents.length k i).any (fun p=>EZ m s s.Agents p.1 p.2)=true then .inr (Mh,12)else .inl s)
  |0,i,hi=>by
   obtain rfl:i=s.Agents.length:=by omega
   rw [C5 (t:= .inl s) (by unfold Fo;dsimp only;rw [H9];rfl)];rfl
  |k+1,i,hi=>by
   have hil:i<s.Agents.length:=by omega
   have hn:=S.agents
   have key:Fo m s.Agents ((i:Int),s)=some (if (Wl s i (s.Agents.length - (i+1)) (i+1)).any (fun p=>EZ m s s.Agents p.1 p.2)=true then .out (.inr (Mh,12))else .go (((i+1:Nat):Int),s)):=by
     unfold Fo
     dsimp only
     rw [J9 hil,bO,G8 hil (by omega),WR B S O i (s.Agents.length - (i+1)) (i+1) (by omega)]
     cases (Wl s i (s.Agents.length - (i+1)) (i+1)).any (fun p=>EZ m s s.Agents p.1 p.2)<;>rfl
   rw [Ng,List.any_append]
   cases h:(Wl s i (s.Agents.length - (i+1)) (i+1)).any (fun p=>EZ m s s.Agents p.1 p.2)
   ·rw [h]at key
    rw [J2 (s':=(((i+1:Nat):Int),s)) (by rw [key];rfl),bY]
    exact gR B S O k (i+1) (by omega)
   ·rw [h]at key
    rw [C5 (t:= .inr (Mh,12)) (by rw [key];rfl)];rfl
theorem YG (A:List Agent)(l:List Stay)(i:Nat): ∀k j,Wl ⟨0,A,l⟩ i k j=Wl ⟨0,A,[]⟩ i k j
  |0,_=>rfl
  |k+1,j=>by rw [Wl,Wl,YG A l i k (j+1)];rfl
theorem TO (A:List Agent)(l:List Stay)(n:Nat): ∀k i,Ng ⟨0,A,l⟩ n k i=Ng ⟨0,A,[]⟩ n k i
  |0,_=>rfl
  |k+1,i=>by rw [Ng,Ng,YG,TO A l n k (i+1)]
/-- The first state. -/
def Pg (m:Map)(A:List Agent):State×Int:=
  if Qc m ⟨0,A,[]⟩≠0 then (Mh,Qc m ⟨0,A,[]⟩)
  else if A.any (fun g=>g.Gone)=true then (Mh,10)
  else if (Ng ⟨0,A,[]⟩ A.length A.length 0).any (fun p=>EZ m ⟨0,A,[]⟩ A p.1 p.2)=true then (Mh,12)
  else (⟨0,A,An m ⟨0,A,[]⟩ A⟩,0)
theorem QD {m:Map}(K:KitM m){A:List Agent}(S:SizeS ⟨0,A,[]⟩)(w: ∀g∈A,g.S≤9223372036854775807):Pc m A=some (Pg m A):=by
  have c2:=(EX K.toBearM S w).2
  have hl:A.length≤1000:=S.agents
  have e2:Pk ⟨0,A,[]⟩=some ⟨0,A,[]⟩:=gI S
  unfold Pc Pg
  rw [e2,lB,c2,lB]
  by_cases q:Qc m ⟨0,A,[]⟩=0
  case neg=>
    rw [bQ q,show (Qc m ⟨0,A,[]⟩ !=0)=true by simpa using q];rfl
  rw [bR (by simp [q]),show (Qc m ⟨0,A,[]⟩ !=0)=false by simp [q],bP]
  have O:=(Jp K).1 q
  have OR: ∀g∈A,∃a t,g.Route=a::t∧RouteOK m a t:=fun g hg=>by
    obtain ⟨i,hi⟩:=bG hg
    exact (O.agent i g hi).route
  have g2:loop (Lb A) 0=some (if A.any (fun g=>g.Gone)then .inr (Mh,10)else .inl ()):=by
    refine GY A (fun g=>g.Gone) (Mh,10) (fun i x hx=> ?_) (by unfold Lb;rw [H9];rfl)
    unfold Lb
    rw [J9 (H5 hx),bO,C3 hx,lB,G8 (H5 hx) (by omega)]
    cases x.Gone<;>rfl
  rw [g2]
  cases hG:A.any (fun g=>g.Gone)
  case true=>rfl
  have S':SizeS ⟨0,A,An m ⟨0,A,[]⟩ A⟩:=by
    have h1:=Zy m ⟨0,A,[]⟩ A
    have h2:A.length*m.Zones.length≤1000*2:=wM hl K.zones2
    exact ⟨hl,by dsimp only at h1 ⊢;omega,S.routes⟩
  have h4:loop (Fo m A) (0,⟨0,A,An m ⟨0,A,[]⟩ A⟩)=_:=gR (s:=⟨0,A,An m ⟨0,A,[]⟩ A⟩) K.toBearK S' OR A.length 0 (by dsimp only;omega)
  dsimp only at h4
  rw [TO]at h4
  have e5:(fun p:Int×Int=>EZ m ⟨0,A,An m ⟨0,A,[]⟩ A⟩ A p.1 p.2)=fun p=>EZ m ⟨0,A,[]⟩ A p.1 p.2:=rfl
  rw [e5]at h4
  rw [bR (by simp)]
  show (loop (Iq m A) (0,⟨0,A,[]⟩)).bind _=_
  rw [WQ K S,lB,h4]
  cases (Ng ⟨0,A,[]⟩ A.length A.length 0).any (fun p=>EZ m ⟨0,A,[]⟩ A p.1 p.2)<;>rfl
theorem gS {m:Map}(K:KitM m){A:List Agent}(S:SizeS ⟨0,A,[]⟩):SizeS (Pg m A).1:=by
  have h0:SizeS Mh:=⟨by simp,by simp,by simp⟩
  unfold Pg
  split
  ·exact h0
  split
  ·exact h0
  split
  ·exact h0
  have hl:A.length≤1000:=S.agents
  have h1:=Zy m ⟨0,A,[]⟩ A
  have h2:A.length*m.Zones.length≤1000*2:=wM hl K.zones2
  exact ⟨hl,by dsimp only at h1 ⊢;omega,S.routes⟩
theorem aW {m:Map}(V:ValR m){a b:Int}(ha:0≤a)(hb:b∈nextOf m a.toNat):X6 m b=X6 m a:=by
  unfold nextOf at hb
  cases h:m.Lanes[a.toNat]? with
  |none=>rw [h]at hb;cases hb
  |some l=>
   rw [h]at hb
   have hb:b∈l.Next:=hb
   have h1:=(firstE_none.1 V.nextE) a.toNat l h
   rw [wK]at h1
   unfold nextE at h1
   obtain ⟨j,hj⟩:=bG hb
   have h2:=(firstE_none.1 h1) j b hj
   have hk:=V.next h hb
   have hn:m.Lanes[b.toNat]? =some m.Lanes[b.toNat]:=lH (by omega)
   unfold Zb at h2
   rw [hn]at h2
   dsimp only at h2
   split at h2
   ·cases h2
   ·rename_i q
    unfold X6
    rw [hn,h]
    exact Decidable.not_not.1 q
theorem LL {m:Map}(V:ValR m): ∀(t:List Int) (a:Int),0≤a→Lm m a t=true→∀x∈a::t,X6 m x=X6 m a
  | [],a,_,_,x,hx=>by simp at hx;rw [hx]
  |b::t,a,ha,h,x,hx=>by
   rw [Lm,bU]at h
   have hb:b∈nextOf m a.toNat:=by simpa using h.1
   have hk:=V.nextOf hb
   rcases lU.1 hx with rfl|hx
   ·rfl
   ·rw [LL V t b (by omega) h.2 x hx,aW V ha hb]
/-- Where an agent is does not matter to how fast it may go. -/
theorem Vd {m:Map}{a:Int}{t:List Int}(R:RouteOK m a t){g:Agent}(hg:g.Route=a::t)(h0:0≤g.S):Gq m g=U6 (X6 m a):=by
  obtain ⟨x,h1,h2,h3,_⟩:=GD R hg h0
  unfold Gq
  rw [h3]
  dsimp only
  rw [LL R.val t a R.first.1 R.chain x (lG h2)]
theorem TP {m:Map}(g:Agent)(tick act:Int):0≤Hm m g tick act∧Hm m g tick act≤(Gq m g).1:=by
  have hs: ∀x,0≤Ax g (Gq m g).1 x∧Ax g (Gq m g).1 x≤(Gq m g).1:=fun x=>by
    have:=Rb (X6 m (Cz m g).1)
    unfold Ax Gq
    omega
  unfold Hm
  dsimp only
  split
  ·exact hs _
  ·exact hs _
theorem gT {m:Map}(K:KitM m){s:State}(O:StateOK m s)(i:Nat){g:Agent}(hg:s.Agents[i]? =some g)(act:Int)(s':State)(ht:s'.Tick=s.Tick+1):AgentOK m s' (i:Int) (Lz m s i act):=by
  have A:=O.agent i g hg
  have hc:Qc m s=0:=(Jp K).2 O
  unfold Lz
  rw [C3 hg]
  dsimp only
  by_cases th:R9 s (i:Int)=true
  ·rw [bQ ⟨th,hc⟩]
   obtain ⟨g1,h1,_,_,_,h5,h6⟩:=Sw th
   rw [C3 hg]at h1
   obtain rfl:=lD h1
   obtain ⟨a,t,hR,R⟩:=A.route
   have hv:=TP (m:=m) g s.Tick act
   have ht2:=Rb (X6 m (Cz m g).1)
   have ht3:(Gq m g).1≤2000:=ht2.2.1
   have hL:=Ly R
   rw [← hR]at hL
   have hgone:D6 (g.S - g.Len)≤LongM m g.Route:=by
     have:=A.gone
     rw [h5]at this
     unfold Uz at this
     exact Int.not_lt.1 (of_decide_eq_false this.symm)
   have hS:=A.S
   have hl:=A.len
   rw [F2 (by omega)]at hgone
   have hw:D6 (g.S+Hm m g s.Tick act)=g.S+Hm m g s.Tick act:=F2 (by omega)
   have e1:=Vd R hR hS.1
   have e2:Gq m (HG m g s.Tick act)=U6 (X6 m a):=Vd R hR (by show 0≤D6 _;rw [hw];omega)
   refine ⟨⟨a,t,hR,R⟩,A.len,A.begin,?_,?_,rfl,?_,A.first⟩
   ·show 0≤D6 _∧D6 _≤_
    rw [hw]
    show _∧g.S+Hm m g s.Tick act≤LongM m g.Route+g.Len+2000
    omega
   ·rw [e2,← e1];exact hv
   ·rintro ⟨q,_⟩
    have:g.Begin>s'.Tick:=q
    omega
  ·rw [bR fun h=>th h.1]
   refine ⟨A.route,A.len,A.begin,A.S,A.V,A.gone,?_,A.first⟩
   rintro ⟨q,q2⟩
   exact A.late ⟨by omega,q2⟩
theorem mA {m:Map}(V:ValR m)(r:List Int)(z tick:Int):0≤HH m r z tick∧HH m r z tick≤100:=by
  unfold HH
  split
  ·cases hz:m.Zones[z.toNat]? with
   |none=>simp
   |some zn=>
    dsimp only
    split
    ·split<;>simp
    ·have Z:=V.zoneOK (lG hz)
     unfold Jv
     cases hf:zn.Parts.find? (fun p=>p.Lane_==Ma m r z)with
     |none=>simp
     |some p=>have:=Z.part p (l7 hf);dsimp only;omega
  ·simp
theorem oL {m:Map}(K:KitM m){s:State}(O:StateOK m s)(i z:Int):0≤(Tn m s i z).Since∧(Tn m s i z).Since≤s.Tick∧0≤(Tn m s i z).Rank∧(Tn m s i z).Rank≤100:=by
  unfold Tn
  cases hf:s.In.find? (Wk i z)with
  |some x=>
   have:=O.rank x (l7 hf)
   unfold Tb at this
   simp only [wA,wC]at this
   dsimp only
   omega
  |none=>
   have:=O.tick
   dsimp only
   cases C0 s.Agents i with
   |none=>dsimp only;omega
   |some g=>have:=mA K.val g.Route z s.Tick;dsimp only;omega
theorem gU {m:Map}(K:KitM m){s s':State}(O:StateOK m s)(A:List Agent)(hn:s'.Agents.length=s.Agents.length)(ht:s.Tick≤s'.Tick)(hI:s'.In=An m s A):
    (∀(i:Nat) x,s'.In[i]? =some x→Xd m s' x=false)∧(∀(i:Nat) x y,s'.In[i]? =some x→s'.In[i+1]? =some y→Gm x y=true)∧(∀x∈s'.In,Tb s' x=false):=by
  rw [hI]
  refine ⟨fun i x hx=> ?_,fun i x y hx hy=> ?_,fun x hx=> ?_⟩
  ·obtain ⟨a,z,h1,h2,_,rfl⟩:=stays_mem.1 (lG hx)
   have k:=IH m s a z
   unfold Xd
   rw [k.1,k.2]
   simp only [wA,wC]
   omega
  ·have hs:=LG m s A
   have h1:=H5 hy
   have:=bD.1 hs i (i+1) (by omega) h1 (by omega)
   rw [lH (by omega)]at hx hy
   rw [lD hx,lD hy]at this
   exact this
  ·obtain ⟨a,z,h1,h2,_,rfl⟩:=stays_mem.1 hx
   have:=oL K O a z
   unfold Tb
   simp only [wA,wC]
   omega
/-- A tick gives a state that stands. -/
theorem YH {m:Map}(K:KitM m){s:State}(O:StateOK m s)(ht:s.Tick<1099511627776)(acts:List Int):(Of m s acts).2.2=0∧StateOK m (Of m s acts).1∧(Of m s acts).1=⟨s.Tick+1,Ci m s acts,An m s (Ci m s acts)⟩∧(Of m s acts).2.1=Vb m s (Ci m s acts):=by
  have hc:Qc m s=0:=(Jp K).2 O
  have e:Of m s acts=(⟨s.Tick+1,Ci m s acts,An m s (Ci m s acts)⟩,Vb m s (Ci m s acts),0):=by
    unfold Of
    rw [bR (by simp [hc]),bR (by omega)]
  have t:=O.tick
  have n:=O.num
  rw [e]
  refine ⟨rfl,?_,rfl,rfl⟩
  obtain ⟨i1,i2,i3⟩:=gU K (s':=⟨s.Tick+1,Ci m s acts,An m s (Ci m s acts)⟩) O (Ci m s acts) (Jq m s acts) (by dsimp only;omega) rfl
  refine ⟨by dsimp only;omega,by dsimp only;rw [Jq];exact n,fun i g' hg'=> ?_,i1,i2,i3⟩
  dsimp only at hg'
  have hi:=H5 hg'
  rw [Jq]at hi
  have hg:s.Agents[i]? =some s.Agents[i]:=lH hi
  have h1:=GI (m:=m) (acts:=acts) hg
  rw [C3 hg']at h1
  rw [lD h1]
  exact gT K O i hg _ _ rfl
theorem GK {m:Map}{a:Int}{t:List Int}(R:RouteOK m a t):(a::t).length≤8:=by
  have:=R.most
  rw [lL];omega
theorem GL {m:Map}(K:KitM m)(n:Int): ∃a t,Jn m n=some (a::t)∧RouteOK m a t:=by
  obtain ⟨a,t,h1,h2,h3⟩:=PY K.toBearM K.val n
  exact ⟨a,t,h1,gA K.val h2 h3⟩
theorem QE {m:Map}(K:KitM m)(n:Int): ∃a t,Dl m n=some (a::t)∧RouteOK m a t:=by
  have step: ∀x:Int,0≤x→x<4→∃a t,RouteOK m a t∧(Z0 m n x=some (.out (.inr (a::t)))∨Z0 m n x=some (.go (x+1))):=by
    intro x h0 h1
    obtain ⟨a,t,e,R⟩:=GL K (D6 (n % 1048576+x))
    obtain ⟨l,hl⟩: ∃l,m.Lanes[a.toNat]? =some l:=⟨_,lH (by have:=R.first;omega)⟩
    have hg:=C3 hl
    rw [wG R.first.1]at hg
    refine ⟨a,t,R,?_⟩
    unfold Z0
    rw [bJ h1,bO,Sq (by omega) (by omega),lB,e,lB,bJ (show (((a::t).length:Nat):Int)>0 by rw [lL];omega),bO,show C0 (a::t) 0=some a from rfl,lB,bO,hg,lB,F2 (by omega)]
    cases l.Kind==1
    ·exact .inr rfl
    ·exact .inl rfl
  have key: ∀(k:Nat) (x:Int),0≤x→x+k=4→∃a t,RouteOK m a t∧thenS (loop (Z0 m n) x) (fun _=>(Jn m 0).bind fun v5=>some v5) (fun r=>some r)=some (a::t):=by
    intro k
    induction k with
    |zero=>
     intro x h0 hx
     obtain ⟨a,t,e,R⟩:=GL K 0
     refine ⟨a,t,R,?_⟩
     rw [C5 (t:= .inl ()) (by unfold Z0;rw [bK (by omega)];rfl)]
     show (Jn m 0).bind _=_
     rw [e];rfl
    |succ k ih=>
     intro x h0 hx
     obtain ⟨a,t,R,h|h⟩:=step x h0 (by omega)
     ·refine ⟨a,t,R,?_⟩
      rw [C5 h];rfl
     ·obtain ⟨a,t,R,e⟩:=ih (x+1) (by omega) (by omega)
      refine ⟨a,t,R,?_⟩
      rw [J2 h];exact e
  obtain ⟨a,t,R,e⟩:=key 4 0 (by omega) (by omega)
  exact ⟨a,t,e,R⟩
/-- What the kit makes of an actor. -/
structure KAgent (m:Map)(first:Bool)(g:Agent):Prop where
  route: ∃a t,g.Route=a::t∧RouteOK m a t
  len:300≤g.Len∧g.Len≤5000
  begin:0≤g.Begin∧g.Begin≤40
  S:0≤g.S∧g.S≤LongM m g.Route
  V:0≤g.V∧g.V≤(Gq m g).1
  gone:g.Gone=false
  late:g.Begin>0→g.S=0
  first:first=true→g.Begin=0∧g.Obey=false
theorem OI {m:Map}(K:KitM m)(p:KitActor)(first:Bool): ∃g,Rk m p first=some g∧KAgent m first g∧(p.Len=0→g.Len=300)∧(first=true→Dl m p.R=some g.Route):=by
  obtain ⟨a1,t1,e1,R1⟩:=GL K p.R
  obtain ⟨a2,t2,e2,R2⟩:=QE K p.R
  have hy: ∃a t o,(cond first ((Dl m p.R).bind fun v3=>some (v3,false)) (some (a1::t1,(!p.Disobeys))))=some (a::t,o)∧RouteOK m a t∧(first=true→o=false)∧(first=true→Dl m p.R=some (a::t)):=by
    cases first
    ·exact ⟨a1,t1,_,rfl,R1,nofun,nofun⟩
    ·rw [e2];exact ⟨a2,t2,_,rfl,R2,fun _=>rfl,fun _=>rfl⟩
  obtain ⟨a,t,o,e3,R,ho,hrr⟩:=hy
  obtain ⟨l,hl⟩: ∃l,m.Lanes[a.toNat]? =some l:=⟨_,lH (by have:=R.first;omega)⟩
  have hg:=C3 hl
  rw [wG R.first.1]at hg
  have hk:X6 m a=l.Kind:=by unfold X6;rw [hl];rfl
  have hT:=Rb (X6 m a)
  have hL:=Ly R
  have hr:=GK R
  have m1: ∀n:Int,0≤n % ((U6 (X6 m a)).1+1)∧n % ((U6 (X6 m a)).1+1)≤(U6 (X6 m a)).1:=fun n=>by
    have h1:=wR n (show (U6 (X6 m a)).1+1≠0 by omega)
    have h2:=wS n (show 0< (U6 (X6 m a)).1+1 by omega)
    omega
  have m2: ∀n:Int,0≤n % (LongM m (a::t)+1)∧n % (LongM m (a::t)+1)≤LongM m (a::t):=fun n=>by
    have h1:=wR n (show LongM m (a::t)+1≠0 by omega)
    have h2:=wS n (show 0<LongM m (a::t)+1 by omega)
    omega
  have len: ∃L,(cond (decide ((U6 (X6 m a)).1<1000)) (some 300) (some (D6 (300+p.Len % 4700))))=some L∧(300≤L∧L≤5000)∧(p.Len=0→L=300):=by
    cases decide ((U6 (X6 m a)).1<1000)
    ·exact ⟨_,rfl,by rw [F2 (by omega)];omega,fun h=>by rw [h];rfl⟩
    ·exact ⟨_,rfl,by omega,fun _=>rfl⟩
  obtain ⟨L,eL,bL,bL0⟩:=len
  have hv:=m1 p.V
  have hs:=m2 p.S
  have fin: ∀S B:Int,0≤S→S≤LongM m (a::t)→0≤B→B≤40→(B>0→S=0)→(first=true→B=0)→KAgent m first ⟨a::t,S,p.V % ((U6 (X6 m a)).1+1),L,B,o,false⟩∧(p.Len=0→L=300)∧(first=true→Dl m p.R=some (a::t)):=by
    intro S B h1 h2 h3 h4 h5 h6
    refine ⟨?_,bL0,hrr⟩
    refine ⟨⟨a,t,rfl,R⟩,bL,⟨h3,h4⟩,⟨h1,h2⟩,?_,rfl,h5,fun h=>⟨h6 h,ho h⟩⟩
    rw [Vd R rfl h1]
    exact hv
  unfold Rk
  rw [e1,lB,We (by omega) (by omega),lB,e3,lB]
  dsimp only
  rw [show C0 (a::t) 0=some a from rfl,lB,hg,lB,Mq,lB,← hk,F2 (by omega),We (by omega) (by omega),lB,eL,lB,KZ K.toBearM _ (by omega),lB,F2 (by omega),We (by omega) (by omega),lB]
  cases hf:first
  ·rw [bX,bO,Sq (by omega) (by omega),lB,bS]
   by_cases q:p.Begin % 4=3
   ·rw [show (p.Begin % 4==3)=true by simpa using q,bO,Sq (by omega) (by omega),lB]
    rw [hf]at fin
    exact ⟨_,rfl,fin 0 (p.Begin % 40) (by omega) (by omega) (by omega) (by omega) (fun _=>rfl) nofun⟩
   ·rw [show (p.Begin % 4==3)=false by simpa using q,bP]
    rw [hf]at fin
    exact ⟨_,rfl,fin _ 0 hs.1 hs.2 (by omega) (by omega) (fun h=>absurd h (by omega)) nofun⟩
  ·rw [hf]at fin
   exact ⟨_,rfl,fin _ 0 hs.1 hs.2 (by omega) (by omega) (fun h=>absurd h (by omega)) fun _=>rfl⟩
structure KList (m:Map)(A:List Agent):Prop where
  few:A.length≤8
  ok: ∀(i:Nat) g,A[i]? =some g→KAgent m (decide (i=0)) g
theorem KList.size {m:Map}{A:List Agent}(h:KList m A):SizeS ⟨0,A,[]⟩:=by
  refine ⟨by have:=h.few;dsimp only;omega,by simp,fun g hg=> ?_⟩
  obtain ⟨i,hi⟩:=bG hg
  obtain ⟨a,t,hR,R⟩:=(h.ok i g hi).route
  have:=GK R
  rw [hR];omega
theorem KList.wf {m:Map}{A:List Agent}(h:KList m A): ∀g∈A,g.S≤9223372036854775807:=fun g hg=>by
  obtain ⟨i,hi⟩:=bG hg
  have k:=h.ok i g hi
  obtain ⟨a,t,hR,R⟩:=k.route
  have h1:=Ly R
  have h2:=k.S
  rw [hR]at h2
  omega
theorem KList.chk {m:Map}(K:KitM m){A:List Agent}(h:KList m A)(hn:A≠ []):StateOK m ⟨0,A,[]⟩:=by
  refine ⟨by dsimp only;omega,⟨List.length_pos_iff.2 hn,h.few⟩,fun i g hg=> ?_,fun i x hx=>by simp at hx,fun i x y hx=>by simp at hx,fun x hx=>by simp at hx⟩
  have k:=h.ok i g hg
  obtain ⟨a,t,hR,R⟩:=k.route
  have hL:=Ly R
  rw [← hR]at hL
  have hS:=k.S
  have hl:=k.len
  have hb:=k.begin
  refine ⟨k.route,by omega,by omega,by omega,k.V,?_,?_,fun h0=>(k.first (by simpa using h0)).1⟩
  ·rw [k.gone];unfold Uz;rw [F2 (by omega),bK (by omega)]
  ·rintro ⟨q,q2⟩
   exact q2 (k.late q)
theorem gV {m:Map}(K:KitM m){A:List Agent}(h:(Pg m A).2=0):(Pg m A).1=⟨0,A,An m ⟨0,A,[]⟩ A⟩∧StateOK m (Pg m A).1:=by
  unfold Pg at h ⊢
  by_cases q:Qc m ⟨0,A,[]⟩=0
  case neg=>rw [bQ q]at h;exact absurd h q
  rw [bR (by simp [q])]at h ⊢
  by_cases g:A.any (fun g=>g.Gone)=true
  ·rw [bQ g]at h;cases h
  rw [bR g]at h ⊢
  by_cases b:(Ng ⟨0,A,[]⟩ A.length A.length 0).any (fun p=>EZ m ⟨0,A,[]⟩ A p.1 p.2)=true
  ·rw [bQ b]at h;cases h
  rw [bR b]
  have O:=(Jp K).1 q
  refine ⟨rfl,?_⟩
  obtain ⟨i1,i2,i3⟩:=gU K (s':=⟨0,A,An m ⟨0,A,[]⟩ A⟩) O A rfl (Int.le_refl _) rfl
  exact ⟨O.tick,O.num,fun i g hg=>by have x:=O.agent i g hg;exact ⟨x.route,x.len,x.begin,x.S,x.V,x.gone,x.late,x.first⟩,i1,i2,i3⟩
theorem mB {m:Map}(K:KitM m){g:Agent}(h:KAgent m true g):(Pg m [g]).2=0:=by
  have L:KList m [g]:=⟨by simp,fun i g' hg=>by
    cases i with
    |zero=>cases hg;exact h
    |succ i=>simp at hg⟩
  have q:=(Jp K).2 (L.chk K (by simp))
  unfold Pg
  rw [bR (by simp [q]),bR (by simp [h.gone])]
  rfl
theorem StateOK.size {m:Map}(K:KitM m){s:State}(O:StateOK m s)(h:s.In.length≤1000000):SizeS s:=by
  refine ⟨by have:=O.num;omega,h,fun g hg=> ?_⟩
  obtain ⟨i,hi⟩:=bG hg
  obtain ⟨a,t,hR,R⟩:=(O.agent i g hi).route
  have:=GK R
  rw [hR];omega
def pZ (m:Map)(l:List Agent)(s:State):Prop:=KList m l∧(l≠ []→s=(Pg m l).1∧(Pg m l).2=0)
theorem CS {m:Map}(K:KitM m)(ps:List KitActor)(hp:ps.length≤7): ∀(k idx:Nat) (l:List Agent) (s:State),idx+k=ps.length→l.length≤idx→pZ m l s→∃l' s',loop (Fp m ps) (l,(idx:Int),s)=some (l',s')∧pZ m l' s'∧l'.length≤ps.length
  |0,idx,l,s,hi,hl,I=>by
   obtain rfl:idx=ps.length:=by omega
   exact ⟨l,s,C5 (by unfold Fp;dsimp only;rw [H9];rfl),I,hl⟩
  |k+1,idx,l,s,hi,hl,I=>by
   have hidx:idx<ps.length:=by omega
   have hlen:l.length≤7:=by omega
   obtain ⟨p,hpx⟩: ∃p,ps[idx]? =some p:=⟨_,lH hidx⟩
   obtain ⟨g,hg,kg,_⟩:=OI K p ((l.length:Int)==0)
   have L':KList m (l++ [g]):=by
     refine ⟨by simp;omega,fun i g' hg'=> ?_⟩
     by_cases q:i<l.length
     ·rw [lX q]at hg';exact I.1.ok i g' hg'
     ·have hlt:=H5 hg'
      rw [lM,List.length_singleton]at hlt
      obtain rfl:i=l.length:=by omega
      rw [lW (wH _),Nat.sub_self]at hg'
      cases hg'
      have:decide (l.length=0)=((l.length:Int)==0):=by
        by_cases h0:l.length=0
        ·simp [h0]
        ·simp [h0]
      rw [this];exact kg
   have e:=QD K L'.size L'.wf
   have key:Fp m ps (l,(idx:Int),s)=some (if (Pg m (l++ [g])).2=0 then .go ((Pg m (l++ [g])).1.Agents,((idx+1:Nat):Int),(Pg m (l++ [g])).1)else .go (l,((idx+1:Nat):Int),s)):=by
     unfold Fp
     dsimp only
     rw [J9 hidx,bJ (show (l.length:Int)<8 by omega),Bool.and_self,bO,Uy (by omega),lB,C3 hpx,lB,hg,lB,X3,bQ (by simp;omega),lB,e,lB,G8 hidx (by omega)]
     by_cases q:(Pg m (l++ [g])).2=0
     ·rw [bQ q,q];rfl
     ·rw [bR q,show ((Pg m (l++ [g])).2==0)=false by simpa using q];rfl
   by_cases q:(Pg m (l++ [g])).2=0
   ·rw [bQ q]at key
    have n:=gV K q
    have ea:(Pg m (l++ [g])).1.Agents=l++ [g]:=by rw [n.1]
    rw [ea]at key
    rw [J2 key]
    exact CS K ps hp k (idx+1) _ _ (by omega) (by simp;omega) ⟨L',fun _=>⟨rfl,q⟩⟩
   ·rw [bR q]at key
    rw [J2 key]
    exact CS K ps hp k (idx+1) _ _ (by omega) (by omega) I
theorem aX {m:Map}(K:KitM m)(ps:List KitActor)(hp:ps.length≤7): ∃A,Rl m ps=some (Pg m A).1∧(Pg m A).2=0∧KList m A∧0<A.length∧(A.length≤1∨A.length≤ps.length):=by
  have L0:KList m []:=⟨by simp,fun i g h=>by simp at h⟩
  have e0:=QD K L0.size L0.wf
  obtain ⟨l,s,e,I,hll⟩:=CS K ps hp ps.length 0 [] (Pg m []).1 (by omega) (by simp) ⟨L0,fun h=>absurd rfl h⟩
  have e:loop (Fp m ps) ([],0,(Pg m []).1)=some (l,s):=e
  unfold Rl
  rw [e0,lB,e,lB]
  dsimp only
  by_cases h:l= []
  ·subst h
   obtain ⟨g,hg,kg,h300⟩:=OI K ⟨0,1048576,0,0,0,false⟩ true
   have hlen:=h300.1 rfl
   have kg':KAgent m true ⟨g.Route,D6 (g.Len+1),0,g.Len,g.Begin,g.Obey,g.Gone⟩:=by
     obtain ⟨a,t,hR,R⟩:=kg.route
     have hL:=Ly R
     rw [← hR]at hL
     have hT:=Rb
     refine ⟨kg.route,kg.len,kg.begin,?_,?_,kg.gone,fun h=> ?_,kg.first⟩
     ·show 0≤D6 (g.Len+1)∧D6 (g.Len+1)≤LongM m g.Route
      rw [hlen,F2 (by omega)];omega
     ·have:=Rb (X6 m (Cz m ⟨g.Route,D6 (g.Len+1),0,g.Len,g.Begin,g.Obey,g.Gone⟩).1)
      exact ⟨Int.le_refl _,this.1⟩
     ·have:=(kg.first rfl).1
      dsimp only at h
      omega
   have L:KList m [⟨g.Route,D6 (g.Len+1),0,g.Len,g.Begin,g.Obey,g.Gone⟩]:=⟨by simp,fun i g' hg=>by
     cases i with
     |zero=>cases hg;exact kg'
     |succ i=>simp at hg⟩
   refine ⟨_,?_,mB K kg',L,by simp, .inl (by simp)⟩
   rw [show (((([]:List Agent).length:Nat):Int)==0)=true from rfl,bO,hg,lB,QD K L.size L.wf];rfl
  ·have:=I.2 h
   have hl:=List.length_pos_iff.2 h
   refine ⟨l,?_,this.2,I.1,hl, .inr hll⟩
   rw [show ((l.length:Int)==0)=false by simp;exact h,bP,this.1]
theorem gX {m:Map}(K:KitM m)(ps:List KitActor)(hp:ps.length≤7): ∃A,Rl m ps=some (Pg m A).1∧(Pg m A).2=0∧KList m A:=by
  obtain ⟨A,h1,h2,h3,_⟩:=aX K ps hp
  exact ⟨A,h1,h2,h3⟩
theorem WS {m:Map}{g:Agent}(hV:0≤g.V∧g.V≤(Gq m g).1)(tick act:Int):Hm m g tick act≤g.V+ (Gq m g).2.1∧g.V - (Gq m g).2.2≤Hm m g tick act:=by
  have hT:(0≤(Gq m g).1∧(Gq m g).1≤2000)∧(0≤(Gq m g).2.1∧(Gq m g).2.1≤100)∧(0≤(Gq m g).2.2∧(Gq m g).2.2≤300):=by
    have:=Rb (X6 m (Cz m g).1)
    unfold Gq
    omega
  have hs: ∀x, -(Gq m g).2.2≤x→x≤(Gq m g).2.1→Ax g (Gq m g).1 x≤g.V+ (Gq m g).2.1∧g.V - (Gq m g).2.2≤Ax g (Gq m g).1 x:=fun x h1 h2=>by
    rw [gL (by omega) (by omega)]
    omega
  unfold Hm
  dsimp only
  split
  ·have:=YA (K:=fun x=>Qn (WF m (Cz m g).1 tick) (Cz m g).2 g.V (Ax g (Gq m g).1 x) (Gq m g).2.2) (low:= -(Gq m g).2.2) (max (-(Gq m g).2.2) (min act (Gq m g).2.1)+ (Gq m g).2.2).toNat (max (-(Gq m g).2.2) (min act (Gq m g).2.1)) (by omega)
   exact hs _ this.1 (by omega)
  ·exact hs _ (by omega) (by omega)
/-- What a tick does to an agent. -/
theorem WT {m:Map}(K:KitM m){s:State}(O:StateOK m s)(i:Nat){g:Agent}(hg:s.Agents[i]? =some g)(act:Int){a:Int}{t:List Int}(hR:g.Route=a::t)(R:RouteOK m a t):
    g.S≤(Lz m s i act).S∧0≤(Lz m s i act).V∧(Lz m s i act).V≤(U6 (X6 m a)).1∧
    (R9 s i=true→(Lz m s i act).S=g.S+ (Lz m s i act).V∧(Lz m s i act).V≤g.V+ (U6 (X6 m a)).2.1∧g.V - (U6 (X6 m a)).2.2≤(Lz m s i act).V):=by
  have A:=O.agent i g hg
  have hc:Qc m s=0:=(Jp K).2 O
  have e1:=Vd R hR A.S.1
  unfold Lz
  rw [C3 hg]
  dsimp only
  by_cases th:R9 s (i:Int)=true
  ·rw [bQ ⟨th,hc⟩]
   have hv:=TP (m:=m) g s.Tick act
   have hn:=WS A.V s.Tick act
   have ht2:=Rb (X6 m a)
   have hL:=Ly R
   have hS:=A.S
   have hl:=A.len
   rw [hR]at hS
   rw [e1]at hv hn
   have hw:D6 (g.S+Hm m g s.Tick act)=g.S+Hm m g s.Tick act:=F2 (by omega)
   refine ⟨?_,hv.1,hv.2,fun _=>⟨hw,hn.1,hn.2⟩⟩
   show g.S≤D6 _
   rw [hw];omega
  ·rw [bR fun h=>th h.1]
   have hV:=A.V
   rw [e1]at hV
   exact ⟨Int.le_refl _,hV.1,hV.2,fun h=>absurd h th⟩
theorem aY {α:Type}(l:List α):l.any (fun _=>false)=false:=by
  induction l with
  |nil=>rfl
  |cons a l ih=>rw [bH,ih];rfl
theorem YI {m:Map}{s:State}(O:StateOK m s): ∀g∈s.Agents,g.S≤9223372036854775807:=fun g hg=>by
  obtain ⟨i,hi⟩:=bG hg
  have k:=O.agent i g hi
  obtain ⟨a,t,hR,R⟩:=k.route
  have h1:=Ly R
  have h2:=k.S
  have h3:=k.len
  rw [hR]at h2
  omega
theorem gY {m:Map}(K:KitM m){s:State}(O:StateOK m s)(ht:s.Tick<1099511627776)(acts:List Int)(k:Int):loop (X5 m (k,s) (Of m s acts)) 0=some (.inl ()):=by
  obtain ⟨_,_,e3,_⟩:=YH K O ht acts
  have hn:=O.num
  have hA:(Of m s acts).1.Agents=Ci m s acts:=by rw [e3]
  have:=GY (F:=X5 m (k,s) (Of m s acts)) (Of m s acts).1.Agents (fun _=>false) false (fun i g' hg'=>by
    rw [hA]at hg'
    have hi:=H5 hg'
    rw [Jq]at hi
    obtain ⟨g,hg⟩: ∃g,s.Agents[i]? =some g:=⟨_,lH hi⟩
    have A:=O.agent i g hg
    obtain ⟨a,t,hR,R⟩:=A.route
    obtain ⟨f1,f2,f3,f4⟩:=WT K O i hg (acts.getD i 0) hR R
    obtain ⟨l,hl⟩: ∃l,m.Lanes[a.toNat]? =some l:=⟨_,lH (by have:=R.first;omega)⟩
    have hgl:=C3 hl
    rw [wG R.first.1]at hgl
    have hk:X6 m a=l.Kind:=by unfold X6;rw [hl];rfl
    have hT:=Rb (X6 m a)
    have hV:=A.V
    have e1:=Vd R hR A.S.1
    have hS:=A.S
    have hL:=Ly R
    have hlen:=A.len
    rw [hR]at hS
    rw [e1]at hV
    unfold X5
    dsimp only
    rw [hA,Jq,J9 hi,bO,C3 hg,lB,GI hg,lB,hR,show C0 (a::t) 0=some a from rfl,lB,hgl,lB,Mq,lB,← hk,G8 hi (by omega)]
    rw [bK (show ¬(Lz m s i (acts.getD i 0)).S<g.S by omega),bK (show ¬(Lz m s i (acts.getD i 0)).V<0 by omega),bK (show ¬(Lz m s i (acts.getD i 0)).V>(U6 (X6 m a)).1 by omega)]
    simp only [Bool.or_self,bX,bO,bY]
    rw [(Od s i).1,lB]
    cases th:R9 s (i:Int)
    ·rfl
    ·obtain ⟨q1,q2,q3⟩:=f4 th
     rw [bS,F2 (by omega),F2 (by omega),F2 (by omega),q1,bK (by omega),bK (by omega)]
     simp) (by unfold X5;rw [H9];rfl)
  rw [this,aY];rfl
theorem TQ {m:Map}(K:KitM m)(ps:List (List Int))(hp:ps.length≤1000): ∀(n k:Nat) (s:State),k+n=ps.length→StateOK m s→s.Tick=(k:Int)→s.In.length≤1000000→loop (V0 ps m) ((k:Int),s)=some (.inl ())
  |0,k,s,hk,_,_,_=>by
   obtain rfl:k=ps.length:=by omega
   exact C5 (by unfold V0;dsimp only;rw [H9];rfl)
  |n+1,k,s,hk,O,ht,hI=>by
   have hkl:k<ps.length:=by omega
   obtain ⟨acts,ha⟩: ∃acts,ps[k]? =some acts:=⟨_,lH hkl⟩
   have S:=O.size K hI
   obtain ⟨e1,O',e3,_⟩:=YH K O (by omega) acts
   have S':=(aV K S acts).1
   have c:=(EX K.toBearM S' (YI O')).1
   rw [(Jp K).2 O']at c
   have key:V0 ps m ((k:Int),s)=some (.go (((k+1:Nat):Int),(Of m s acts).1)):=by
     unfold V0
     dsimp only
     rw [J9 hkl,bO,C3 ha,lB,gP K S (YI O) acts,lB,e1]
     rw [show ((0:Int) !=0)=false from rfl,bX,bO,c,lB,show ((0:Int) !=0)=false from rfl]
     have h1:((Of m s acts).1.Agents.length:Int)=(s.Agents.length:Int):=by rw [e3];dsimp only;rw [Jq]
     have h2:(Of m s acts).1.Tick=D6 (s.Tick+1):=by rw [e3,F2 (by omega)]
     rw [h1,h2]
     simp only [bne_self_eq_false,Bool.or_self,bP]
     rw [gY K O (by omega) acts,G8 hkl (by omega)];rfl
   rw [J2 key]
   refine TQ K ps hp n (k+1) _ (by omega) O' ?_ S'.ins
   rw [e3];dsimp only;omega
theorem Wm (n:Int)(ps:List KitActor)(acts:List (List Int)):Ld n ps acts=some true:=by
  obtain ⟨m,hm,K,_⟩:=kU n
  unfold Ld
  rw [fT]
  by_cases q:7<ps.length∨6<acts.length
  ·rw [show (decide ((ps.length:Int)>7)||decide ((acts.length:Int)>6))=true by simp only [bV,bM];omega];rfl
  ·rw [show (decide ((ps.length:Int)>7)||decide ((acts.length:Int)>6))=false by simp only [wA,wC];omega,bP,hm,lB]
   obtain ⟨A,e,h0,L⟩:=gX K ps (by omega)
   obtain ⟨n1,O⟩:=gV K h0
   have h:=TQ K acts (by omega) acts.length 0 (Pg m A).1 (by omega) O (by rw [n1];rfl) (gS K L.size).ins
   have h:loop (V0 acts m) (0,(Pg m A).1)=some (.inl ()):=h
   rw [e,lB,h];rfl
end
end Go.Abs.World
