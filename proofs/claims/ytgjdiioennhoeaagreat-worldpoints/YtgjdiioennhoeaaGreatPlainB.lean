/-
  Plain facts, second part: the law itself.
-/
import Derived.Test.YtgjdiioennhoeaaGreatPlain
set_option linter.all false
/-! Places and passes. -/
namespace Go.Abs.World
noncomputable section
open Go Go.Abs
theorem Yf (m:Map): ∀(r:List Int) (s:Int),Es m s r=s+Es m 0 r
  | [],s=>by simp [Es]
  |a::r,s=>by rw [Es,Es,Yf m r (s+Q5 m a),Yf m r (0+Q5 m a)];omega
theorem Lf (m:Map): ∀(r:List Int) (s:Int) (i:Nat),i<r.length→(N6 m s r)[i]? =some (s+Es m 0 (r.take i))
  | [],_,_,h=>absurd h (by simp)
  |a::r,s,0,_=>by simp [N6,Es]
  |a::r,s,i+1,h=>by
   rw [N6,List.getElem?_cons_succ,Lf m r _ i (by simpa using h),List.take_succ_cons,Es,Yf m _ (0+Q5 m a)]
   congr 1;omega
def Lg (m:Map)(r:List Int)(i:Nat):Int:=Es m 0 (r.take i)
theorem Uu (m:Map)(r:List Int):Lg m r 0=0:=rfl
theorem JG (m:Map)(x:Int): ∀(l:List Int) (s:Int),Es m s (l++ [x])=Es m s l+Q5 m x
  | [],s=>rfl
  |a::l,s=>by rw [lV,Es,Es,JG m x l]
theorem Uv {m:Map}{r:List Int}{i:Nat}{a:Int}(h:r[i]? =some a):Lg m r (i+1)=Lg m r i+Q5 m a:=by
  unfold Lg
  rw [List.take_add_one,h]
  exact JG m a _ _
theorem oF (m:Map)(r:List Int):Lg m r r.length=Es m 0 r:=by rw [Lg,List.take_length]
theorem RouteOK.len {m:Map}{a:Int}{t:List Int}(R:RouteOK m a t){i:Nat}{x:Int}(h:(a::t)[i]? =some x):1000≤Q5 m x∧Q5 m x≤16777216:=by
  have:=R.mem (lG h)
  exact R.val.long this.1 this.2
theorem RouteOK.mono {m:Map}{a:Int}{t:List Int}(R:RouteOK m a t): ∀(j i:Nat),i+j≤(a::t).length→Lg m (a::t) i+1000*j≤Lg m (a::t) (i+j)∧Lg m (a::t) (i+j)≤Lg m (a::t) i+16777216*j
  |0,i,_=>by simp
  |j+1,i,h=>by
   have:=R.mono j i (by omega)
   have e:(a::t)[i+j]? =some (a::t)[i+j]:=lH (by omega)
   have hl:=R.len e
   rw [← Nat.add_assoc,Uv e]
   omega
theorem RouteOK.lt {m:Map}{a:Int}{t:List Int}(R:RouteOK m a t){i j:Nat}(hij:i<j)(hj:j≤(a::t).length):Lg m (a::t) i+1000≤Lg m (a::t) j:=by
  have:=(R.mono (j - i) i (by omega)).1
  rw [show i+ (j - i)=j by omega]at this
  omega
theorem RouteOK.bd {m:Map}{a:Int}{t:List Int}(R:RouteOK m a t){i:Nat}(hi:i≤(a::t).length):0≤Lg m (a::t) i∧Lg m (a::t) i≤134217728:=by
  have:=R.mono i 0 (by omega)
  have h7:=R.most
  simp only [lL]at hi
  rw [wI,Uu]at this
  omega
theorem RouteOK.follow {m:Map}{a:Int}{t:List Int}(R:RouteOK m a t):Y1 m (a::t)=⟨m,a::t,N6 m 0 (a::t),Lg m (a::t) (a::t).length⟩:=by
  unfold Y1
  rw [bN (chkRoute_zero.2 ⟨a,t,rfl,R⟩),oF]
theorem RouteOK.starts {m:Map}{a:Int}{t:List Int}{i:Nat}(hi:i< (a::t).length):C3 (N6 m 0 (a::t)) (i:Int)=some (Lg m (a::t) i):=by
  rw [C9 (Lf m _ 0 i hi),Int.zero_add];rfl
/-- The place of a coordinate. -/
theorem jV {m:Map}(B:BearM m){a:Int}{t:List Int}(R:RouteOK m a t){s:Int}(h0:0≤s)(h1:s≤Lg m (a::t) (a::t).length):
    ∃(k:Nat) (x:Int),(a::t)[k]? =some x∧Oc m (a::t) s=some (x,s - Lg m (a::t) k,true)∧Lg m (a::t) k≤s∧∀j,k<j→j< (a::t).length→s<Lg m (a::t) j:=by
  have hm7:=R.most
  have hbd:=R.bd (wF _)
  have key: ∀(k:Nat),k< (a::t).length→(∀j,k<j→j< (a::t).length→s<Lg m (a::t) j)→
   ∃k',k'< (a::t).length∧loop (Em s (Y1 m (a::t))) (k:Int)=some (k':Int)∧Lg m (a::t) k'≤s∧∀j,k'<j→j< (a::t).length→s<Lg m (a::t) j:=by
    intro k
    induction k with
    |zero=>
     intro hk hj
     refine ⟨0,hk,D2 ?_,by rw [Uu];exact h0,hj⟩
     unfold Em
     rw [R.follow]
     dsimp only
     rw [RouteOK.starts hk,lB,Uu,show decide ((0:Int)>s)=false from bH (by omega)];rfl
    |succ k ih=>
     intro hk hj
     by_cases hc:s<Lg m (a::t) (k+1)
     ·obtain ⟨k',g1,g2,g3,g4⟩:=ih (by omega) (fun j h1 h2=>by
        rcases Nat.lt_or_ge (k+1) j with h|h
        ·exact hj j h h2
        ·obtain rfl:j=k+1:=by omega
         exact hc)
      refine ⟨k',g1,?_,g3,g4⟩
      rw [← g2]
      refine H8 ?_
      unfold Em
      rw [R.follow]
      dsimp only
      rw [RouteOK.starts hk,lB,show decide (Lg m (a::t) (k+1)>s)=true from bG (by omega),bK,E6 (by simp only [lL]at hk;omega)]
      congr 2;omega
     ·refine ⟨k+1,hk,D2 ?_,by omega,hj⟩
      unfold Em
      rw [R.follow]
      dsimp only
      rw [RouteOK.starts hk,lB,show decide (Lg m (a::t) (k+1)>s)=false from bH (by omega)];rfl
  obtain ⟨k,g1,g2,g3,g4⟩:=key ((a::t).length - 1) (by simp) (fun j h1 h2=>by omega)
  have hx:(a::t)[k]? =some (a::t)[k]:=lH g1
  refine ⟨k,(a::t)[k],hx,?_,g3,g4⟩
  unfold Oc
  rw [Qm B _ (by simp;omega),lB]
  have hl:(Y1 m (a::t)).lanes=a::t:=by rw [R.follow]
  have hst:(Y1 m (a::t)).starts=N6 m 0 (a::t):=by rw [R.follow]
  have htl:(Y1 m (a::t)).length=Lg m (a::t) (a::t).length:=by rw [R.follow]
  rw [hl,hst,htl,show (((a::t).length:Int)==0)=false by simp;omega]
  simp only [bV,bK,Ql,lB,bW]
  rw [show Wf s 0 (Lg m (a::t) (a::t).length)=true by unfold Wf;rw [bG h0,bG h1];rfl,show D4 (((a::t).length:Int) - 1)=(((a::t).length - 1:Nat):Int) by rw [E6 (by simp only [lL];omega)];simp only [lL];omega,g2]
  simp only [bU,bM,lB]
  rw [C9 hx,RouteOK.starts g1,lB,lB,E6 (by have:=R.bd (Nat.le_of_lt g1);omega)]
/-! ### Passes -/
def Pr (lane s:Int)(zi:Nat):Nat→List Part→List Pass
  |_,[]=> []
  |k,p::r=>(if p.Lane_==lane then [⟨(zi:Int),(k:Int),s+p.From,s+p.To⟩]else [])++Pr lane s zi (k+1) r
def Sp (lane s:Int):Nat→List Zone→List Pass
  |_,[]=> []
  |zi,z::r=>Pr lane s zi 0 z.Parts++Sp lane s (zi+1) r
def Mg (m:Map):Int→List Int→List Pass
  |_,[]=> []
  |s,a::r=>Sp a s 0 m.Zones++Mg m (s+Q5 m a) r
theorem CC (lane s:Int)(zi:Nat): ∀(l:List Part) (k:Nat),(l.map (·.Lane_)).Pairwise (· < ·)→(Pr lane s zi k l).length≤1
  | [],_,_=>by simp [Pr]
  |p::r,k,h=>by
   obtain ⟨h1,h2⟩:=bC.1 h
   have nil: ∀(r:List Part) (k:Nat),(∀q∈r,q.Lane_≠lane)→Pr lane s zi k r= []:=by
     intro r
     induction r with
     |nil=>intro k _;rfl
     |cons q r ih=>
      intro k hq
      rw [Pr,ih (k+1) (fun y hy=>hq y (List.mem_cons_of_mem _ hy)),show (q.Lane_==lane)=false by simp [hq q (by simp)]]
      rfl
   rw [Pr]
   by_cases e:p.Lane_=lane
   ·rw [nil r (k+1) (fun q hq=>by
    have:p.Lane_<q.Lane_:=h1 q.Lane_ (List.mem_map_of_mem hq)
    omega)]
    simp [e]
   ·rw [show (p.Lane_==lane)=false by simp [e]]
    exact CC lane s zi r (k+1) h2
theorem CD {m:Map}(lane s:Int): ∀(l:List Zone) (zi:Nat),(∀z∈l,ZoneOK m z)→(Sp lane s zi l).length≤l.length
  | [],_,_=>by simp [Sp]
  |z::r,zi,h=>by
   have:=CC lane s zi z.Parts 0 (Ut (h z (by simp)).rise)
   have:=CD lane s r (zi+1) fun y hy=>h y (List.mem_cons_of_mem _ hy)
   rw [Sp,lM,lL]
   omega
theorem QJ (lane s:Int)(zi:Nat): ∀(l:List Part) (k:Nat) (x:Pass),x∈Pr lane s zi k l→∃(j:Nat) (p:Part),l[j]? =some p∧p.Lane_=lane∧x=⟨(zi:Int),((k+j:Nat):Int),s+p.From,s+p.To⟩
  | [],_,x,h=>by simp [Pr]at h
  |p::r,k,x,h=>by
   rw [Pr,lT]at h
   rcases h with h|h
   ·by_cases e:p.Lane_=lane
    ·rw [bN (by simp [e]),bF]at h
     exact ⟨0,p,rfl,e,h⟩
    ·rw [bO (by simp [e])]at h;simp at h
   ·obtain ⟨j,q,h1,h2,h3⟩:=QJ lane s zi r (k+1) x h
    exact ⟨j+1,q,by simpa using h1,h2,by rw [h3];congr 1;omega⟩
theorem QK (lane s:Int): ∀(l:List Zone) (zi:Nat) (x:Pass),x∈Sp lane s zi l→∃(j:Nat) (z:Zone) (k:Nat) (p:Part),l[j]? =some z∧z.Parts[k]? =some p∧p.Lane_=lane∧x=⟨((zi+j:Nat):Int),(k:Int),s+p.From,s+p.To⟩
  | [],_,x,h=>by simp [Sp]at h
  |z::r,zi,x,h=>by
   rw [Sp,lT]at h
   rcases h with h|h
   ·obtain ⟨k,p,h1,h2,h3⟩:=QJ lane s zi z.Parts 0 x h
    exact ⟨0,z,k,p,rfl,h1,h2,by rw [h3,wI];rfl⟩
   ·obtain ⟨j,y,k,p,h0,h1,h2,h3⟩:=QK lane s r (zi+1) x h
    exact ⟨j+1,y,k,p,by simpa using h0,h1,h2,by rw [h3];congr 1;omega⟩
theorem CE (m:Map): ∀(r:List Int) (s:Int) (x:Pass),x∈Mg m s r→∃(i:Nat) (lane:Int) (j:Nat) (z:Zone) (k:Nat) (p:Part),r[i]? =some lane∧m.Zones[j]? =some z∧z.Parts[k]? =some p∧p.Lane_=lane∧x=⟨(j:Int),(k:Int),s+Es m 0 (r.take i)+p.From,s+Es m 0 (r.take i)+p.To⟩
  | [],_,x,h=>by simp [Mg]at h
  |a::r,s,x,h=>by
   rw [Mg,lT]at h
   rcases h with h|h
   ·obtain ⟨j,z,k,p,h1,h2,h3,h4⟩:=QK a s m.Zones 0 x h
    exact ⟨0,a,j,z,k,p,rfl,h1,h2,h3,by rw [h4];simp [Es]⟩
   ·obtain ⟨i,lane,j,z,k,p,h0,h1,h2,h3,h4⟩:=CE m r _ x h
    refine ⟨i+1,lane,j,z,k,p,by simpa using h0,h1,h2,h3,?_⟩
    rw [h4,List.take_succ_cons,Es,Yf m _ (0+Q5 m a)]
    congr 1<;>omega
section
variable {m:Map}{a:Int}{t:List Int}
theorem oG (B:BearM m)(R:RouteOK m a t){i:Nat}{lane:Int}(hi:i< (a::t).length)(zi:Nat){z:Zone}(hz:m.Zones[zi]? =some z)(o1 o2:List Pass):
    ∀(r:List Part) (k:Nat) (out:List Pass),z.Parts.drop k=r→k≤z.Parts.length→out.length+r.length≤1000→
     loop (Ay (Y1 m (a::t)) (o1,(i:Int)) lane (o2,(zi:Int)) z) (out,(k:Int))=some (out++Pr lane (Lg m (a::t) i) zi k r):=by
  have Z:=R.val.zoneOK (lG hz)
  have h6:=Z.six
  intro r
  induction r with
  |nil=>
   intro k out hk hkl hl
   have:=N0 hk
   obtain rfl:k=z.Parts.length:=by omega
   refine D2 ?_
   unfold Ay
   rw [J2];simp [Pr]
  |cons p r ih=>
   intro k out hk hkl hl
   have hlt:=L3 hk
   have hp:=S6 hk
   have hpm:=lG hp
   have hpt:=Z.part p hpm
   have hln:=Mc Z.rise p.Lane_ (List.mem_map_of_mem hpm)
   have hll:=R.val.long hln.1 hln.2
   have hb:=R.bd (Nat.le_of_lt hi)
   simp only [lL]at hl
   have hs:Ay (Y1 m (a::t)) (o1,(i:Int)) lane (o2,(zi:Int)) z (out,(k:Int))=some (.go (out++ (if p.Lane_==lane then [⟨(zi:Int),(k:Int),Lg m (a::t) i+p.From,Lg m (a::t) i+p.To⟩]else []),((k+1:Nat):Int))):=by
     unfold Ay
     dsimp only
     rw [K7 hlt,C9 hp,bK,lB,H5 hlt (by omega)]
     cases p.Lane_==lane
     ·simp
     ·rw [R.follow]
      dsimp only
      rw [bK,RouteOK.starts hi,lB,lB,E6 (by omega),E6 (by omega),Di (by simp;omega)]
      rfl
   rw [H8 hs,ih (k+1) _ (I4 hk) (by omega) (by rw [lM];split<;>simp<;>omega),Pr,lO]
theorem oH (B:BearM m)(R:RouteOK m a t){i:Nat}{lane:Int}(hi:i< (a::t).length)(o1:List Pass):
    ∀(r:List Zone) (zi:Nat) (out:List Pass),m.Zones.drop zi=r→zi≤m.Zones.length→out.length+r.length≤500→
     loop (U7 m (Y1 m (a::t)) (o1,(i:Int)) lane) (out,(zi:Int))=some (out++Sp lane (Lg m (a::t) i) zi r):=by
  intro r
  induction r with
  |nil=>
   intro zi out hk hkl hl
   have:=N0 hk
   obtain rfl:zi=m.Zones.length:=by omega
   refine D2 ?_
   unfold U7
   rw [J2];simp [Sp]
  |cons z r ih=>
   intro zi out hk hkl hl
   have hlt:=L3 hk
   have hz:=S6 hk
   have Z:=R.val.zoneOK (lG hz)
   have h6:=Z.six
   have hnz:=R.val.zones
   simp only [lL]at hl
   have h1:=CC lane (Lg m (a::t) i) zi z.Parts 0 (Ut Z.rise)
   have h3:loop (Ay (Y1 m (a::t)) (o1,(i:Int)) lane (out,(zi:Int)) z) (out,0)=_:=oG B R hi zi hz o1 out z.Parts 0 out rfl (by omega) (by omega)
   have hs:U7 m (Y1 m (a::t)) (o1,(i:Int)) lane (out,(zi:Int))=some (.go (out++Pr lane (Lg m (a::t) i) zi 0 z.Parts,((zi+1:Nat):Int))):=by
     unfold U7
     dsimp only
     rw [K7 hlt,C9 hz,bK,lB,h3,lB,H5 hlt (by omega)]
   rw [H8 hs,ih (zi+1) _ (I4 hk) (by omega) (by rw [lM];omega),Sp,lO]
theorem oI (B:BearM m)(R:RouteOK m a t):
    ∀(r:List Int) (i:Nat) (out:List Pass),(a::t).drop i=r→i≤(a::t).length→out.length+12*r.length≤200→
     loop (O4 m (Y1 m (a::t))) (out,(i:Int))=some (out++Mg m (Lg m (a::t) i) r):=by
  have hl:(Y1 m (a::t)).lanes=a::t:=by rw [R.follow]
  intro r
  induction r with
  |nil=>
   intro i out hk hkl hle
   have:=N0 hk
   obtain rfl:i=(a::t).length:=by omega
   refine D2 ?_
   unfold O4
   dsimp only
   rw [hl,J2];simp [Mg]
  |cons x r ih=>
   intro i out hk hkl hle
   have hlt:=L3 hk
   have hx:=S6 hk
   have hm7:=R.most
   have hnz:=R.val.zones
   simp only [lL]at hle hlt
   have h2:loop (U7 m (Y1 m (a::t)) (out,(i:Int)) x) (out,0)=_:=oH B R (lane:=x) (L3 hk) out m.Zones 0 out rfl (by omega) (by omega)
   have hs:O4 m (Y1 m (a::t)) (out,(i:Int))=some (.go (out++Sp x (Lg m (a::t) i) 0 m.Zones,((i+1:Nat):Int))):=by
     unfold O4
     dsimp only
     rw [hl,K7 (L3 hk),C9 hx,bK,lB,h2,lB,H5 (L3 hk) (by simp only [lL];omega)]
   have:=CD (m:=m) x (Lg m (a::t) i) m.Zones 0 fun z hz=>R.val.zoneOK hz
   rw [H8 hs,ih (i+1) _ (I4 hk) (by simp only [lL];omega) (by rw [lM];omega),Uv hx,Mg,lO]
/-- A map with so few zones as the kit's. -/
structure BearK (m:Map):Prop extends BearM m where
  zones2:m.Zones.length≤2
theorem NP {m:Map}(V:ValR m): ∀(r:List Int) (s:Int),(Mg m s r).length≤m.Zones.length*r.length
  | [],s=>by simp [Mg]
  |a::r,s=>by
   have h1:=CD (m:=m) a s m.Zones 0 fun z hz=>V.zoneOK hz
   have h2:=NP V r (s+Q5 m a)
   rw [Mg,lM,lL,Nat.mul_add,Nat.mul_one];omega
/-- The passes: sorted, and those that there are. -/
theorem QL (B:BearK m)(R:RouteOK m a t): ∃ps,V7 m (a::t)=some ps∧ps.Perm (Mg m 0 (a::t))∧Srt Yy ps∧ps.length≤16:=by
  have hm7:=R.most
  have hlen:(Mg m 0 (a::t)).length≤16:=by
    have:=NP R.val (a::t) 0
    have h2:m.Zones.length* (a::t).length≤2*8:=Nat.mul_le_mul B.zones2 (by simp only [lL];omega)
    omega
  have h1:loop (O4 m (Y1 m (a::t))) ([],0)=some (Mg m 0 (a::t)):=by
    have:=oI B.toBearM R (a::t) 0 [] rfl (by omega) (by simp;omega)
    rw [lQ,Uu]at this
    exact this
  unfold V7
  rw [Qm B.toBearM _ (by simp;omega),lB,h1,lB]
  cases q:Mg m 0 (a::t)with
  |nil=>exact ⟨[],by rw [EN];rfl, .refl _,List.Pairwise.nil,by simp⟩
  |cons x l=>
   rw [q]at hlen
   obtain ⟨ys,g1,g2,g3⟩:=dP (x::l) (by omega)
   exact ⟨ys,by rw [show List.isEmpty (x::l)=false from rfl,bM,g1];rfl,g2,g3,by rw [g2.length_eq];exact hlen⟩
end
theorem VO {m:Map}(B:BearM m)(V:ValR m)(l:List Int)(hl:l.length≤1000000): ∀(r:List Int) (i:Nat) (a:Int),l.drop (i+1)=r→l[i]? =some a→0≤a→a<m.Lanes.length→thenS (loop (Y0 m l) ((i+1:Nat):Int)) (fun _=>some 0) (fun r=>some r)=some (if Kd m a r=true then 0 else 13):=by
  intro r
  induction r with
  |nil=>
   intro i a hi ha h0 h1
   have h2:=N0 hi
   have h3:=(lI.1 ha).1
   have h4:i+1=l.length:=by omega
   rw [D2 (t:= .inl ())]
   ·rfl
   ·unfold Y0
    rw [show decide (((i+1:Nat):Int)< (l.length:Int))=false from bH (by omega)];rfl
  |cons b r ih=>
   intro i a hi ha h0 h1
   have hlt:=L3 hi
   have hb:=S6 hi
   obtain ⟨ln,e1,e2⟩:=Vn h0 h1
   have hw:D4 (((i+1:Nat):Int) - 1)=(i:Int):=by rw [E6 (by omega)];omega
   have hs:Y0 m l ((i+1:Nat):Int)=some (if ln.Next.contains b=true then .go (((i+1+1:Nat):Int))else .out (.inr 13)):=by
     unfold Y0
     rw [K7 hlt,bK,hw,C9 ha,lB,e2,lB,C9 hb,lB,YJ _ (B.toBear.pts _ (lG e1)).2,lB,H5 hlt (by omega)]
     cases ln.Next.contains b<;>rfl
   have hn:nextOf m a.toNat=ln.Next:=by unfold nextOf;rw [e1];rfl
   rw [Kd,hn]
   cases q:ln.Next.contains b
   ·rw [q]at hs;rw [D2 hs];rfl
   ·rw [q]at hs
    have hbm:=V.next e1 (List.contains_iff_mem.1 q)
    rw [H8 hs,ih (i+1) b (I4 hi) hb (by omega) (by omega),bP]
theorem Pj {m:Map}(B:BearM m)(r:List Int)(hr:r.length≤1000000):Ab m r=some (P2 m r):=by
  unfold Ab P2
  rw [Up B,lB]
  by_cases q:Wv m=0
  ·have V:=chkR_zero.1 q
   rw [bO (by simpa using q),show (Wv m !=0)=false by simpa using q,bM]
   cases r with
   |nil=>rfl
   |cons a t=>
    dsimp only
    simp only [lL]at hr ⊢
    by_cases h8:7<t.length
    ·rw [bN (.inl h8),show ((((t.length+1:Nat):Int)==0)||(decide (((t.length+1:Nat):Int)>8)))=true by simp;omega];rfl
    ·rw [show ((((t.length+1:Nat):Int)==0)||(decide (((t.length+1:Nat):Int)>8)))=false by simp;omega]
     rw [show C3 (a::t) 0=some a from rfl]
     simp only [bV,bK,lB,bW]
     by_cases h0:a<0
     ·rw [bN (.inr (.inl h0)),bG h0];rfl
     ·rw [bH h0]
      simp only [bV,bK,lB,bW]
      by_cases h1:(m.Lanes.length:Int)≤a
      ·rw [bN (.inr (.inr (.inl h1))),show decide (a≥(m.Lanes.length:Int))=true from bG h1];rfl
      ·rw [show decide (a≥(m.Lanes.length:Int))=false from bH (by omega)]
       simp only [bV,bK,bW]
       rw [lB,NN B,lB]
       by_cases hb:Cr m a= []
       ·rw [hb,show decide ((([]:List Int).length:Int)>0)=false from rfl,bM]
        have:=VO B V (a::t) (by simpa using hr) t 0 a rfl rfl (by omega) (by omega)
        rw [show ((0+1:Nat):Int)=1 from rfl]at this
        rw [this]
        by_cases hc:Kd m a t=true
        ·rw [bN hc,bO (by rw [hc];simp;omega)]
        ·rw [bO hc,bN (.inr (.inr (.inr (.inr (by simpa using hc)))))]
       ·rw [bN (.inr (.inr (.inr (.inl hb)))),show decide (((Cr m a).length:Int)>0)=true from bG (by have:=List.length_pos_iff.2 hb;omega)];rfl
  ·rw [bN q,show (Wv m !=0)=true by simpa using q];rfl
theorem QM {m:Map}(B:BearM m){a:Int}{t:List Int}(R:RouteOK m a t):Lx m (a::t)=some (N6 m 0 (a::t),Lg m (a::t) (a::t).length):=by
  have hm7:=R.most
  have key: ∀(l:List Int) (i:Nat) (st:List Int),(a::t).drop i=l→i≤(a::t).length→st.length=i→loop (De m (a::t)) (st,Lg m (a::t) i,(i:Int))=some (st++N6 m (Lg m (a::t) i) l,Lg m (a::t) (a::t).length):=by
    intro l
    induction l with
    |nil=>
     intro i st hi hil _
     have:=N0 hi
     obtain rfl:i=(a::t).length:=by omega
     refine D2 ?_
     unfold De
     dsimp only
     rw [J2,N6,lP];rfl
    |cons x l ih=>
     intro i st hi hil h2
     have hlt:=L3 hi
     have hx:=S6 hi
     have hm:=R.mem (lG hx)
     have hl:=R.len hx
     have hb:=R.bd (Nat.le_of_lt hlt)
     simp only [lL]at hlt
     rw [H8 (s':=(st++ [Lg m (a::t) i],Lg m (a::t) (i+1),((i+1:Nat):Int)))]
     ·rw [ih (i+1) _ (I4 hi) (by simp;omega) (by simp [h2]),N6,Uv hx,lO];rfl
     ·unfold De
      dsimp only
      rw [K7 (by simpa using hlt),Di (by simp;omega),bK,lB,C9 hx,lB,Yw B hm.1 hm.2,lB,H5 hlt (by omega),E6 (by omega),Uv hx]
  have:=key (a::t) 0 [] rfl (by omega) rfl
  rw [Uu]at this
  have this':loop (De m (a::t)) ([],0,0)=_:=this
  unfold Lx
  rw [this',lB,lQ]
def StartsM (m:Map)(r:List Int):List Int:=(Y1 m r).starts
def LongM (m:Map)(r:List Int):Int:=(Y1 m r).length
theorem QN {m:Map}(B:BearM m)(r:List Int)(hr:r.length≤1000000):Bx m r=some (StartsM m r):=by
  unfold Bx StartsM
  rw [Qm B r hr];rfl
theorem SS {m:Map}(B:BearM m)(r:List Int)(hr:r.length≤1000000):T8 m r=some (LongM m r):=by
  unfold T8 LongM
  rw [Qm B r hr];rfl
theorem Uw {m:Map}{r:List Int}(q:P2 m r≠0):Y1 m r=⟨⟨0,[],[],[],[]⟩,[],[],0⟩:=by unfold Y1;rw [bO q]
theorem Ux {m:Map}(B:BearM m)(r:List Int)(hr:r.length≤1000000):Fx m r=some (StartsM m r):=by
  unfold Fx
  rw [Pj B r hr,lB]
  by_cases q:P2 m r=0
  ·obtain ⟨a,t,rfl,R⟩:=chkRoute_zero.1 q
   rw [q,show ((0:Int) !=0)=false from rfl,bM,QM B R,lB,StartsM,R.follow]
  ·rw [show (P2 m r !=0)=true by simpa using q,bK,StartsM,Uw q]
theorem BO {m:Map}(B:BearM m)(r:List Int)(hr:r.length≤1000000):V8 m r=some (LongM m r):=by
  unfold V8
  rw [Pj B r hr,lB]
  by_cases q:P2 m r=0
  ·obtain ⟨a,t,rfl,R⟩:=chkRoute_zero.1 q
   rw [q,show ((0:Int) !=0)=false from rfl,bM,QM B R,lB,LongM,R.follow]
  ·rw [show (P2 m r !=0)=true by simpa using q,bK,LongM,Uw q]
theorem IE {m:Map}(B:BearM m)(r:List Int)(hr:r.length≤1000000)(k:Int):Kz m r k=some (Fe m r k):=by
  unfold Kz Fe
  rw [Pj B r hr,lB]
  by_cases h:k<0∨(m.Zones.length:Int)≤k
  ·have e:(((P2 m r !=0)||(decide (k<0)))||(decide (k≥(m.Zones.length:Int))))=true:=by
     rcases h with h|h
     ·rw [bG h];simp
     ·rw [show decide (k≥(m.Zones.length:Int))=true from bG h];simp
   rw [e,bK]
   cases hz:m.Zones[k.toNat]? with
   |none=>rfl
   |some z=>
    have:=J1 hz
    dsimp only
    rw [bO (fun x=>by have:=x.1;omega)]
  ·obtain ⟨z,z1,z2⟩:=aE (m:=m) (k:=k) (by omega) (by omega)
   rw [show decide (k<0)=false from bH (by omega),show decide (k≥(m.Zones.length:Int))=false from bH (by omega),Bool.or_false,Bool.or_false,z1]
   dsimp only
   have hp:=B.toBearZ.parts z (lG z1)
   by_cases q:P2 m r=0
   ·rw [bN ⟨by omega,q⟩,q,show ((0:Int) !=0)=false from rfl,bM]
    exact Uo r (fun l=>(Oe z l).2) (by omega) (fun i a h=>by
      have hi:=J1 h
      unfold Ky
      rw [K7 hi,z2,bK,lB,C9 h,lB,jU hp,lB]
      cases (Oe z a).2<;>rfl) (by unfold Ky;rw [J2];rfl)
   ·rw [bO (fun x=>q x.2),show (P2 m r !=0)=true by simpa using q];rfl
def rH {α τ:Type}:Stp (List α×Int) τ→Stp (Int×List α) τ
  | .go x=> .go (x.2,x.1)
  | .out t=> .out t
theorem dQ {α τ:Type}(F:List α×Int→Option (Stp (List α×Int) τ))(l:List α)(i:Int)(t:τ)(h:loop (fun s:Int×List α=>(F (s.2,s.1)).map rH) (i,l)=some t):loop F (l,i)=some t:=by
  obtain ⟨n,hn⟩:=loop_some.1 h
  refine loop_some.2 ⟨n,?_⟩
  clear h
  induction n generalizing l i with
  |zero=>cases hn
  |succ n ih=>
   rw [loopN]at hn ⊢
   dsimp only at hn
   cases hf:F (l,i)with
   |none=>rw [hf]at hn;cases hn
   |some x=>
    rw [hf]at hn
    cases x with
    |go s=>exact ih s.1 s.2 hn
    |out t'=>exact hn
theorem VP: ∀{l l':List Pass},Srt Yy l→Srt Yy l'→l.Perm l'→(∀x∈l,∀y∈l,Yy x y=false→Yy y x=false→x=y)→l=l'
  | [],l',_,_,h,_=>(List.Perm.nil_eq h)
  |a::l,[],_,_,h,_=>absurd h.length_eq (by simp)
  |a::l,b::l',h1,h2,h,hk=>by
   obtain ⟨a1,a2⟩:=bC.1 h1
   obtain ⟨b1,b2⟩:=bC.1 h2
   have hbl:b∈a::l:=h.mem_iff.2 (by simp)
   have hal:a∈b::l':=h.mem_iff.1 (by simp)
   have e1:Yy b a=false:=by
     rcases lU.1 hbl with e|e
     ·rw [e];exact ltP_ok.irr a
     ·exact a1 b e
   have e2:Yy a b=false:=by
     rcases lU.1 hal with e|e
     ·rw [e];exact ltP_ok.irr b
     ·exact b1 a e
   have hab:=hk a (by simp) b hbl e2 e1
   subst hab
   congr 1
   exact VP a2 b2 (List.Perm.cons_inv h) fun x hx y hy=>hk x (List.mem_cons_of_mem _ hx) y (List.mem_cons_of_mem _ hy)
section
variable {m:Map}{a:Int}{t:List Int}
theorem dR (R:RouteOK m a t): ∀x∈Mg m 0 (a::t),∀y∈Mg m 0 (a::t),Yy x y=false→Yy y x=false→x=y:=by
  intro x hx y hy h1 h2
  obtain ⟨i,l,j,z,k,p,e1,e2,e3,e4,e5⟩:=CE m _ 0 x hx
  obtain ⟨i',l',j',z',k',p',f1,f2,f3,f4,f5⟩:=CE m _ 0 y hy
  subst e4 f4
  have hx1:x.From=Lg m (a::t) i+p.From:=by rw [e5];show 0+Lg m (a::t) i+p.From=_;omega
  have hy1:y.From=Lg m (a::t) i'+p'.From:=by rw [f5];show 0+Lg m (a::t) i'+p'.From=_;omega
  have hx2:x.Zone_=(j:Int):=by rw [e5]
  have hy2:y.Zone_=(j':Int):=by rw [f5]
  simp only [Yy,wA]at h1 h2
  have hj:j=j':=by omega
  subst hj
  rw [e2]at f2
  obtain rfl:=lD f2
  have Z:=R.val.zoneOK (lG e2)
  have g1:=Z.part p (lG e3)
  have g2:=Z.part p' (lG f3)
  have n1:=Uv (m:=m) e1
  have n2:=Uv (m:=m) f1
  have hil:=(lI.1 e1).1
  have hil':=(lI.1 f1).1
  have hii:i=i':=by
    rcases Nat.lt_trichotomy i i' with h|h|h
    ·exfalso
     have:Lg m (a::t) (i+1)≤Lg m (a::t) i':=by
       rcases Nat.lt_or_ge (i+1) i' with h'|h'
       ·have:=R.lt h' (Nat.le_of_lt hil');omega
       ·rw [show i'=i+1 by omega];omega
     omega
    ·exact h
    ·exfalso
     have:Lg m (a::t) (i'+1)≤Lg m (a::t) i:=by
       rcases Nat.lt_or_ge (i'+1) i with h'|h'
       ·have:=R.lt h' (Nat.le_of_lt hil);omega
       ·rw [show i=i'+1 by omega];omega
     omega
  subst hii
  rw [e1]at f1
  have hlane:=lD f1
  have hkk:k=k':=by
    have hp:=Ut Z.rise
    have hk1:=(lI.1 e3).1
    have hk2:=(lI.1 f3).1
    have q1:z.Parts[k]=p:=(lI.1 e3).2
    have q2:z.Parts[k']=p':=(lI.1 f3).2
    have hpi:=List.pairwise_iff_getElem.1 hp
    rcases Nat.lt_trichotomy k k' with h|h|h
    ·have:=hpi k k' (by simpa using hk1) (by simpa using hk2) h
     simp only [List.getElem_map,q1,q2]at this;omega
    ·exact h
    ·have:=hpi k' k (by simpa using hk2) (by simpa using hk1) h
     simp only [List.getElem_map,q1,q2]at this;omega
  subst hkk
  rw [e3]at f3
  obtain rfl:=lD f3
  rw [e5,f5]
theorem sJ (B:BearM m)(R:RouteOK m a t){i:Nat}{lane:Int}(hx:(a::t)[i]? =some lane)(zi:Nat){z:Zone}(hz:m.Zones[zi]? =some z)(o1 o2:List Pass):
    ∀(r:List Part) (k:Nat) (out:List Pass),z.Parts.drop k=r→k≤z.Parts.length→out.length+r.length≤1000→
     loop (Bb m (a::t) (N6 m 0 (a::t)) (o1,(i:Int)) (o2,(zi:Int))) (out,(k:Int))=some (out++Pr lane (Lg m (a::t) i) zi k r):=by
  have Z:=R.val.zoneOK (lG hz)
  have h6:=Z.six
  have hi:i< (a::t).length:=(lI.1 hx).1
  intro r
  induction r with
  |nil=>
   intro k out hk hkl hl
   have:=N0 hk
   obtain rfl:k=z.Parts.length:=by omega
   refine D2 ?_
   unfold Bb
   dsimp only
   rw [C9 hz,lB,J2];simp [Pr]
  |cons p r ih=>
   intro k out hk hkl hl
   have hlt:=L3 hk
   have hp:=S6 hk
   have hpm:=lG hp
   have hpt:=Z.part p hpm
   have hln:=Mc Z.rise p.Lane_ (List.mem_map_of_mem hpm)
   have hll:=R.val.long hln.1 hln.2
   have hb:=R.bd (Nat.le_of_lt hi)
   simp only [lL]at hl
   have hs:Bb m (a::t) (N6 m 0 (a::t)) (o1,(i:Int)) (o2,(zi:Int)) (out,(k:Int))=some (.go (out++ (if p.Lane_==lane then [⟨(zi:Int),(k:Int),Lg m (a::t) i+p.From,Lg m (a::t) i+p.To⟩]else []),((k+1:Nat):Int))):=by
     unfold Bb
     dsimp only
     rw [C9 hz,lB,K7 hlt,bK,lB,C9 hp,lB,C9 hx,lB,H5 hlt (by omega)]
     cases p.Lane_==lane
     ·simp
     ·rw [bK,RouteOK.starts hi,lB,lB,E6 (by omega),E6 (by omega),Di (by simp;omega)]
      rfl
   rw [H8 hs,ih (k+1) _ (I4 hk) (by omega) (by rw [lM];split<;>simp<;>omega),Pr,lO]
theorem sK (B:BearM m)(R:RouteOK m a t){i:Nat}{lane:Int}(hx:(a::t)[i]? =some lane)(o1:List Pass):
    ∀(r:List Zone) (zi:Nat) (out:List Pass),m.Zones.drop zi=r→zi≤m.Zones.length→out.length+r.length≤500→
     loop (Bc m (a::t) (N6 m 0 (a::t)) (o1,(i:Int))) (out,(zi:Int))=some (out++Sp lane (Lg m (a::t) i) zi r):=by
  intro r
  induction r with
  |nil=>
   intro zi out hk hkl hl
   have:=N0 hk
   obtain rfl:zi=m.Zones.length:=by omega
   refine D2 ?_
   unfold Bc
   rw [J2];simp [Sp]
  |cons z r ih=>
   intro zi out hk hkl hl
   have hlt:=L3 hk
   have hz:=S6 hk
   have Z:=R.val.zoneOK (lG hz)
   have h6:=Z.six
   have hnz:=R.val.zones
   simp only [lL]at hl
   have h1:=CC lane (Lg m (a::t) i) zi z.Parts 0 (Ut Z.rise)
   have h3:loop (Bb m (a::t) (N6 m 0 (a::t)) (o1,(i:Int)) (out,(zi:Int))) (out,0)=_:=sJ B R hx zi hz o1 out z.Parts 0 out rfl (by omega) (by omega)
   have hs:Bc m (a::t) (N6 m 0 (a::t)) (o1,(i:Int)) (out,(zi:Int))=some (.go (out++Pr lane (Lg m (a::t) i) zi 0 z.Parts,((zi+1:Nat):Int))):=by
     unfold Bc
     dsimp only
     rw [K7 hlt,bK,h3,lB,H5 hlt (by omega)]
   rw [H8 hs,ih (zi+1) _ (I4 hk) (by omega) (by rw [lM];omega),Sp,lO]
theorem sL (B:BearM m)(R:RouteOK m a t):
    ∀(r:List Int) (i:Nat) (out:List Pass),(a::t).drop i=r→i≤(a::t).length→out.length+12*r.length≤200→
     loop (Z3 m (a::t) (N6 m 0 (a::t))) (out,(i:Int))=some (out++Mg m (Lg m (a::t) i) r):=by
  have hlen:(N6 m 0 (a::t)).length=(a::t).length:=Ld _ _ _
  intro r
  induction r with
  |nil=>
   intro i out hk hkl hle
   have:=N0 hk
   have hii:i=(a::t).length:=by omega
   refine D2 ?_
   unfold Z3
   dsimp only
   rw [hlen,hii,J2];simp [Mg]
  |cons x r ih=>
   intro i out hk hkl hle
   have hlt:=L3 hk
   have hx:=S6 hk
   have hm7:=R.most
   have hnz:=R.val.zones
   simp only [lL]at hle hlt
   have h2:loop (Bc m (a::t) (N6 m 0 (a::t)) (out,(i:Int))) (out,0)=_:=sK B R hx out m.Zones 0 out rfl (by omega) (by omega)
   have hs:Z3 m (a::t) (N6 m 0 (a::t)) (out,(i:Int))=some (.go (out++Sp x (Lg m (a::t) i) 0 m.Zones,((i+1:Nat):Int))):=by
     unfold Z3
     dsimp only
     rw [hlen,K7 (L3 hk),bK,h2,lB,H5 (L3 hk) (by simp only [lL];omega)]
   have:=CD (m:=m) x (Lg m (a::t) i) m.Zones 0 fun z hz=>R.val.zoneOK hz
   rw [H8 hs,ih (i+1) _ (I4 hk) (by simp only [lL];omega) (by rw [lM];omega),Uv hx,Mg,lO]
end
/-- The document's insertion sort. -/
theorem jW (T:List Pass)(x:Pass)(Q:List Pass)(hs:Srt Yy Q)(hN:(Q++x::T).length≤1000000):
    ∃Q',loop U9 (Q++x::T,(Q.length:Int))=some (Q'++T)∧Q'.Perm (x::Q)∧Srt Yy Q':=by
  have hstop: ∀xs:List Pass,(fun s:Int×List Pass=>(U9 (s.2,s.1)).map rH) ((([]:List Pass).length:Int),xs)=some (.out xs):=fun xs=>by
    show (U9 (xs,0)).map rH=_
    unfold U9
    rfl
  have hF: ∀(U V:List Pass) (q y:Pass),([]:List Pass).length≤U.length→(U++q::y::V).length=(Q++x::T).length→(fun s:Int×List Pass=>(U9 (s.2,s.1)).map rH) (((U.length:Int)+1),U++q::y::V)=some (if Yy y q then .go ((U.length:Int),U++y::q::V)else .out (U++q::y::V)):=fun U V q y _ hl=>by
    show (U9 (U++q::y::V,(U.length:Int)+1)).map rH=_
    unfold U9
    have hb:U.length+2≤1000000:=by rw [← hl]at hN;simp at hN;omega
    have e1:D4 ((U.length:Int)+1 - 1)=(U.length:Int):=by rw [E6 (by omega)];omega
    have g1:C3 (U++q::y::V) ((U.length:Int)+1)=some y:=by rw [nY];exact Wx _ _ _ _ (by simp)
    have g2:C3 (U++q::y::V) (U.length:Int)=some q:=Wx _ _ _ _ rfl
    have s1:Oh (U++q::y::V) ((U.length:Int)+1) q=U++q::q::V:=by rw [nY,BN _ _ _ _ _ (by simp)];simp
    have g3:C3 (U++q::q::V) (U.length:Int)=some q:=Wx _ _ _ _ rfl
    have s2:Oh (U++q::q::V) (U.length:Int) y=U++y::q::V:=BN _ _ _ _ _ rfl
    simp only [show decide (((U.length:Int)+1)>0)=true from bG (by omega),bK,bP,e1,g1,g2,s1,g3,s2,lB]
    by_cases h1:y.From<q.From
    ·rw [bG h1,show Yy y q=true from bG (.inl h1)];rfl
    ·rw [bH h1]
     simp only [bV,bK,lB,bP,bW]
     by_cases h2:y.From=q.From
     ·rw [show (y.From==q.From)=true by simp [h2]]
      simp only [bK,lB,bP]
      by_cases h3:y.Zone_<q.Zone_
      ·rw [bG h3,show Yy y q=true from bG (.inr ⟨h2,h3⟩)];rfl
      ·rw [bH h3,show Yy y q=false from bH (by omega)];rfl
     ·rw [show (y.From==q.From)=false by simp [h2],show Yy y q=false from bH (by omega)];rfl
  obtain ⟨Q',h1,h2,h3⟩:=QI ltP_ok (F:=fun s:Int×List Pass=>(U9 (s.2,s.1)).map rH) (P:= []) (T:=T) (Q++x::T).length hstop hF x Q.length Q [] rfl (by simpa using hs) (by simp) (by simp)
  refine ⟨Q',dQ _ _ _ _ ?_,by simpa using h2,h3⟩
  have e:(((([]:List Pass).length+Q.length:Nat):Int),[]++Q++ [x]++T)=((Q.length:Int),Q++x::T):=by simp
  rw [e]at h1
  rw [h1];rfl
theorem pN (A:List Pass)(hN:A.length≤1000000): ∃A',loop Ba (A,1)=some A'∧A'.Perm A∧Srt Yy A':=by
  have hend: ∀(xs:List Pass) (i:Nat),xs.length≤i→Ba (xs,(i:Int))=some (.out xs):=fun xs i hi=>by
    unfold Ba
    rw [show decide ((i:Int)< (xs.length:Int))=false from bH (by omega)];rfl
  have key: ∀(R Q:List Pass),(Q++R).length≤1000000→Srt Yy Q→∃A',loop Ba (Q++R,(Q.length:Int))=some A'∧A'.Perm (Q++R)∧Srt Yy A':=by
    intro R
    induction R with
    |nil=>
     intro Q hl hs
     exact ⟨Q,by rw [lP];exact D2 (hend _ _ (wF _)),by simp,hs⟩
    |cons x R ih=>
     intro Q hl hs
     obtain ⟨Q',k1,k2,k3⟩:=jW R x Q hs hl
     have hlq:Q'.length=Q.length+1:=by rw [k2.length_eq];simp
     simp only [lM,lL]at hl
     obtain ⟨A',g1,g2,g3⟩:=ih Q' (by rw [lM];omega) k3
     refine ⟨A',?_,g2.trans ((k2.append_right R).trans (List.perm_middle (a:=x) (l₁:=Q) (l₂:=R)).symm),g3⟩
     rw [← g1,hlq]
     refine H8 ?_
     unfold Ba
     dsimp only
     rw [show decide ((Q.length:Int)< ((Q++x::R).length:Int))=true from bG (by simp;omega),bK,k1,lB,E6 (by omega)]
     congr 2
  cases A with
  |nil=>exact ⟨[],D2 (hend [] 1 (by simp)), .refl _,List.Pairwise.nil⟩
  |cons a A=>
   obtain ⟨A',g1,g2,g3⟩:=key A [a] (by simpa using hN) (List.pairwise_singleton _ _)
   exact ⟨A',g1,g2,g3⟩
theorem YS {m:Map}(B:BearK m)(r:List Int)(hr:r.length≤1000000): ∃ps,V7 m r=some ps∧Fy m r=some ps∧ps.length≤16:=by
  by_cases q:P2 m r=0
  ·obtain ⟨a,t,rfl,R⟩:=chkRoute_zero.1 q
   obtain ⟨ps,p1,p2,p3,p4⟩:=QL B R
   refine ⟨ps,p1,?_,p4⟩
   have hm7:=R.most
   have hlen:(Mg m 0 (a::t)).length≤16:=by rw [← p2.length_eq];exact p4
   have h1:loop (Z3 m (a::t) (N6 m 0 (a::t))) ([],0)=some (Mg m 0 (a::t)):=by
     have:=sL B.toBearM R (a::t) 0 [] rfl (by omega) (by simp;omega)
     rw [lQ,Uu]at this
     exact this
   obtain ⟨A',g1,g2,g3⟩:=pN (Mg m 0 (a::t)) (by omega)
   have:ps=A':=VP p3 g3 (p2.trans g2.symm) fun x hx y hy=>dR R x (p2.mem_iff.1 hx) y (p2.mem_iff.1 hy)
   unfold Fy
   rw [Ux B.toBearM _ hr,lB,show StartsM m (a::t)=N6 m 0 (a::t) by unfold StartsM;rw [R.follow],h1,lB,g1,this];rfl
  ·refine ⟨[],?_,?_,by simp⟩
   ·have h1:loop (O4 m (Y1 m r)) ([],0)=some []:=by
      refine D2 ?_
      unfold O4
      rw [Uw q];rfl
    unfold V7
    rw [Qm B.toBearM r hr,lB,h1,lB,EN];rfl
   ·have h1:loop (Z3 m r []) ([],0)=some []:=D2 rfl
    obtain ⟨A',g1,g2,_⟩:=pN [] (by simp)
    obtain rfl:A'= []:=List.length_eq_zero_iff.1 g2.length_eq
    unfold Fy
    rw [Ux B.toBearM r hr,lB,StartsM,Uw q]
    dsimp only
    rw [h1,lB,g1];rfl
structure SmallS (s:State):Prop where
  agents:s.Agents.length≤10
  ins:s.In.length≤20
  routes: ∀a∈s.Agents,a.Route.length≤10
theorem qT {n k:Int}(hk:0<k)(hk2:k≤1000000):Ws n k=some (n % k):=by
  have h1:=IB (n:=n) hk
  have a:=Gv n hk
  have b: -k≤n.tmod k∧n.tmod k<k:=by
    have:=Int.tmod_lt_of_pos n hk
    split at h1<;>omega
  unfold Ws Re
  rw [bO (by omega),lB,E6 (by omega),bO (by omega),lB]
  congr 1
  rw [h1]
  by_cases q:n.tmod k<0
  ·rw [bN q,Int.tmod_eq_of_lt (by omega) (by omega)]
  ·rw [bO q,wO (by omega),Int.add_emod_right]
   exact Int.emod_eq_of_lt (by omega) (by omega)
/-! ### Copies -/
theorem NQ {α:Type}{l:List α}(h:l.length≤1000000):Ah ([]:List α) l=some l:=by
  rw [Di (by simp;omega),lQ]
structure SizeS (s:State):Prop where
  agents:s.Agents.length≤1000
  ins:s.In.length≤1000000
  routes: ∀a∈s.Agents,a.Route.length≤1000
theorem SmallS.size {s:State}(h:SmallS s):SizeS s:=⟨by have:=h.agents;omega,by have:=h.ins;omega,fun a ha=>by have:=h.routes a ha;omega⟩
theorem dS (F:Int×State→Option (Stp (Int×State) State))(s:State)(h:SizeS s)(l0:List Stay)
    (hF: ∀(i:Nat) (a:Agent) (t:State),s.Agents[i]? =some a→F ((i:Int),t)=(Ah t.Agents [a]).bind fun v=>some (.go (D4 ((i:Int)+1),⟨t.Tick,v,t.In⟩))) (h0: ∀t:State,F ((s.Agents.length:Int),t)=some (.out t)):
    loop F (0,⟨s.Tick,[],l0⟩)=some ⟨s.Tick,s.Agents,l0⟩:=by
  have key: ∀(r:List Agent) (i:Nat),s.Agents.drop i=r→i≤s.Agents.length→loop F ((i:Int),⟨s.Tick,s.Agents.take i,l0⟩)=some ⟨s.Tick,s.Agents,l0⟩:=by
    intro r
    induction r with
    |nil=>
     intro i hi hil
     have:=N0 hi
     obtain rfl:i=s.Agents.length:=by omega
     rw [D2 (h0 _),List.take_length]
    |cons a r ih=>
     intro i hi hil
     have hlt:=L3 hi
     have ha:=S6 hi
     have hh:=h.agents
     rw [H8 (s':=(((i+1:Nat):Int),⟨s.Tick,s.Agents.take (i+1),l0⟩)),ih (i+1) (I4 hi) hlt]
     rw [hF i a _ ha,Di (by rw [lW];simp;omega),lB,H5 hlt (by omega),List.take_add_one,ha];rfl
  exact key s.Agents 0 rfl (by omega)
theorem jX {s:State}(h:SizeS s):MU s=some s:=by
  unfold MU
  rw [NQ h.ins,lB,dS (Qx s) s h s.In (fun i a t ha=> ?_) (fun t=>by unfold Qx;dsimp only;rw [J2];rfl)]
  ·rfl
  ·unfold Qx
   dsimp only
   rw [K7 (J1 ha),C9 ha,bK,lB,NQ (by have:=h.routes a (lG ha);omega),lB]
/-- The last place up to a number. -/
def Sj (S:Int):Nat→Nat→List Int→Nat
  |_,b,[]=>b
  |i,b,x::r=>Sj S (i+1) (if x≤S then i else b) r
theorem VQ (st:List Int)(S:Int): ∀(r:List Int) (i b:Nat),st.drop i=r→i≤st.length→(i=0→b=0)→(0<i→b<i∧(∃y,st[b]? =some y∧y≤S)∧∀(j:Nat) y,b<j→j<i→st[j]? =some y→S<y)→(∃y,st[0]? =some y∧y≤S)→
    (∃y,st[Sj S i b r]? =some y∧y≤S)∧∀(j:Nat) y,Sj S i b r<j→st[j]? =some y→S<y:=by
  intro r
  induction r with
  |nil=>
   intro i b hi hil h0 h1 hne
   have:=N0 hi
   obtain ⟨y0,g0,_⟩:=hne
   have:=J1 g0
   obtain ⟨q1,q2,q3⟩:=h1 (by omega)
   exact ⟨q2,fun j y hj hy=>q3 j y hj (by have:=J1 hy;omega) hy⟩
  |cons x r ih=>
   intro i b hi hil h0 h1 hne
   have hx:=S6 hi
   have hlt:=L3 hi
   unfold Sj
   refine ih (i+1) _ (I4 hi) hlt (by omega) (fun _=> ?_) hne
   by_cases q:x≤S
   ·rw [bN q]
    exact ⟨by omega,⟨x,hx,q⟩,fun j y h2 h3=>by omega⟩
   ·rw [bO q]
    by_cases z:i=0
    ·subst z
     obtain ⟨y0,g0,g1⟩:=hne
     rw [hx]at g0;cases g0;exact absurd g1 q
    ·obtain ⟨q1,q2,q3⟩:=h1 (by omega)
     refine ⟨by omega,q2,fun j y h2 h3 hy=> ?_⟩
     by_cases e:j=i
     ·subst e;rw [hx]at hy;cases hy;omega
     ·exact q3 j y h2 (by omega) hy
theorem dU {st:List Int}{S:Int}(hne: ∃y,st[0]? =some y∧y≤S):(∃y,st[Sj S 0 0 st]? =some y∧y≤S)∧∀(j:Nat) y,Sj S 0 0 st<j→st[j]? =some y→S<y:=
  VQ st S st 0 0 rfl (by omega) (fun _=>rfl) (fun h=>by omega) hne
theorem aH (g:Agent)(st:List Int)(hl:st.length≤1000000): ∀(r:List Int) (i b:Nat),st.drop i=r→i≤st.length→loop (Gi g st) ((b:Int),(i:Int))=some ((Sj g.S i b r:Nat):Int):=by
  intro r
  induction r with
  |nil=>
   intro i b hi hil
   have:=N0 hi
   obtain rfl:i=st.length:=by omega
   exact D2 (by unfold Gi;dsimp only;rw [J2];rfl)
  |cons x r ih=>
   intro i b hi hil
   have hx:=S6 hi
   have hlt:=L3 hi
   unfold Sj
   by_cases q:x≤g.S
   ·rw [bN q,H8 (s':=((i:Int),((i+1:Nat):Int))),ih (i+1) i (I4 hi) hlt]
    unfold Gi;dsimp only
    rw [K7 hlt,C9 hx,bK,lB,bG q,bK,H5 hlt (by omega)]
   ·rw [bO q,H8 (s':=((b:Int),((i+1:Nat):Int))),ih (i+1) b (I4 hi) hlt]
    unfold Gi;dsimp only
    rw [K7 hlt,C9 hx,bK,lB,bH q,bM,H5 hlt (by omega)]
theorem dV (g:Agent)(st:List Int)(hl:st.length≤1000000)(k:Nat)(hk: ∃y,st[k]? =some y∧y≤g.S)(hj: ∀(j:Nat) y,k<j→st[j]? =some y→g.S<y): ∀(n i:Nat),i=k+n→i<st.length→loop (Jq g st) (i:Int)=some (k:Int):=by
  intro n
  induction n with
  |zero=>
   intro i hi hil
   obtain ⟨y,h1,h2⟩:=hk
   obtain rfl:i=k:=by omega
   exact D2 (by unfold Jq;rw [C9 h1,lB,bH (show ¬y>g.S by omega)];rfl)
  |succ n ih=>
   intro i hi hil
   have h1:st[i]? =some st[i]:=lH hil
   have h2:=hj i _ (by omega) h1
   rw [H8 (s':=((i - 1:Nat):Int)) (by unfold Jq;rw [C9 h1,lB,bG (show st[i]>g.S by omega),bK,E6 (by omega)];congr 2;omega)]
   exact ih (i - 1) (by omega) (by omega)
def EO (m:Map)(g:Agent):Nat:=Sj g.S 0 0 (StartsM m g.Route)
/-- The lane of an agent, and its offset. -/
def Vo (m:Map)(g:Agent):Int×Int:=(g.Route.getD (EO m g) 0,g.S - (StartsM m g.Route).getD (EO m g) 0)
theorem RouteOK.StartsM {m:Map}{a:Int}{t:List Int}(R:RouteOK m a t):StartsM m (a::t)=N6 m 0 (a::t):=by unfold World.StartsM;rw [R.follow]
theorem RouteOK.LongM {m:Map}{a:Int}{t:List Int}(R:RouteOK m a t):LongM m (a::t)=Lg m (a::t) (a::t).length:=by unfold World.LongM;rw [R.follow]
theorem Wy {m:Map}{a:Int}{t:List Int}(R:RouteOK m a t){g:Agent}(hg:g.Route=a::t)(h0:0≤g.S):
    ∃x,EO m g< (a::t).length∧(a::t)[EO m g]? =some x∧Vo m g=(x,g.S - Lg m (a::t) (EO m g))∧Lg m (a::t) (EO m g)≤g.S∧(∀j,EO m g<j→j< (a::t).length→g.S<Lg m (a::t) j):=by
  have hl:=Ld m (a::t) 0
  have h00:(N6 m 0 (a::t))[0]? =some 0:=by rw [N6];rfl
  obtain ⟨⟨y,y1,y2⟩,y3⟩:=dU (st:=N6 m 0 (a::t)) (S:=g.S) ⟨0,h00,h0⟩
  have e:EO m g=Sj g.S 0 0 (N6 m 0 (a::t)):=by unfold EO;rw [hg,R.StartsM]
  rw [← e]at y1 y3
  have hlt:=J1 y1
  rw [hl]at hlt
  have hy:y=Lg m (a::t) (EO m g):=by
    have:=Lf m (a::t) 0 (EO m g) hlt
    rw [y1,Int.zero_add]at this
    exact lD this
  refine ⟨(a::t)[EO m g],hlt,lH hlt,?_,by omega,fun j hj hjl=> ?_⟩
  ·unfold Vo
   rw [hg,R.StartsM,List.getD,List.getD,lH hlt,y1,hy];rfl
  ·have:=Lf m (a::t) 0 j hjl
   rw [Int.zero_add]at this
   exact y3 j _ hj this
theorem jY {m:Map}(B:BearM m){a:Int}{t:List Int}(R:RouteOK m a t){g:Agent}(hg:g.Route=a::t)(h0:0≤g.S)(h1:g.S≤9223372036854775807):Io m g=some (Vo m g)∧Ui m g=some (Vo m g):=by
  obtain ⟨x,q1,q2,q3,q4,q5⟩:=Wy R hg h0
  have hm7:=R.most
  have hr:g.Route.length≤1000000:=by rw [hg];simp;omega
  have hl:=Ld m (a::t) 0
  have hbd:=R.bd (i:=EO m g) (by omega)
  have hs:C3 (N6 m 0 (a::t)) ((EO m g:Nat):Int)=some (Lg m (a::t) (EO m g)):=RouteOK.starts q1
  have hk:(N6 m 0 (a::t))[EO m g]? =some (Lg m (a::t) (EO m g)):=by rw [Lf m _ 0 _ q1,Int.zero_add];rfl
  constructor
  ·unfold Io
   rw [QN B _ hr,lB,hg,R.StartsM]
   have hn:D4 (((N6 m 0 (a::t)).length:Int) - 1)=((t.length:Nat):Int):=by rw [hl,E6 (by simp;omega)];simp
   rw [hn,dV g _ (by rw [hl];simp;omega) (EO m g) ⟨_,hk,q4⟩ (fun j y hj hy=>by
    have hjl:=J1 hy
    rw [hl]at hjl
    have:=Lf m (a::t) 0 j hjl
    rw [hy,Int.zero_add]at this
    cases this
    exact q5 j hj hjl) (t.length - EO m g) t.length (by simp only [lL]at q1;omega) (by rw [hl];simp),lB,C9 q2,lB,hs,lB,q3,E6 (by omega)]
  ·unfold Ui
   rw [Ux B _ hr,lB,hg,R.StartsM]
   have:=aH g (N6 m 0 (a::t)) (by rw [hl];simp;omega) (N6 m 0 (a::t)) 0 0 rfl (by omega)
   have e:EO m g=Sj g.S 0 0 (N6 m 0 (a::t)):=by unfold EO;rw [hg,R.StartsM]
   rw [← e]at this
   rw [show ((0:Int),(0:Int))=(((0:Nat):Int),((0:Nat):Int)) from rfl,this,lB,C9 q2,lB,hs,lB,q3,E6 (by omega)]
def Ff (m:Map)(x:Int):Int:=((m.Lanes[x.toNat]?).map (·.Kind)).getD 0
/-- The greatest speed, acceleration and braking where an agent is. -/
def ST (m:Map)(g:Agent):Int×Int×Int:=Hp (Ff m (Vo m g).1)
def GO (m:Map)(g:Agent):Bool:=decide (D4 (g.S - g.Len)>LongM m g.Route)
def SU (g:Agent):Bool:=(((decide (g.Len<300)||decide (g.Len>20000))||decide (g.Begin<0))||decide (g.Begin>1099511627776))||decide (g.S<0)
/-- The error of an agent of a state. -/
def Et (m:Map)(s:State)(i:Int)(g:Agent):Int:=
  if P2 m g.Route=0 then
   if SU g=true∨g.S>LongM m g.Route+g.Len+2000 then 2
   else if g.V<0∨g.V>(ST m g).1 then 2
   else if g.Gone≠GO m g∨(g.Begin>s.Tick∧g.S≠0)∨(i=0∧g.Begin≠0)then 10 else 0
  else 13
theorem Pk {m:Map}{a:Int}{t:List Int}(R:RouteOK m a t):1000≤LongM m (a::t)∧LongM m (a::t)≤134217728:=by
  have h1:=R.bd (wF _)
  have h2:=R.lt (i:=0) (j:=(a::t).length) (by simp) (wF _)
  rw [Uu]at h2
  rw [R.LongM];omega
theorem aI {m:Map}(B:BearM m){g:Agent}(hr:g.Route.length≤1000000):Ip m g=some (GO m g)∧Uj m g=some (GO m g):=by
  constructor
  ·unfold Ip Da
   rw [lB,SS B _ hr];rfl
  ·unfold Uj
   rw [BO B _ hr];rfl
theorem dW {m:Map}{a:Int}{t:List Int}(R:RouteOK m a t){g:Agent}(hg:g.Route=a::t)(h0:0≤g.S): ∃l,C3 m.Lanes (Vo m g).1=some l∧Ff m (Vo m g).1=l.Kind∧m.Lanes[(Vo m g).1.toNat]? =some l:=by
  obtain ⟨x,q1,q2,q3,_⟩:=Wy R hg h0
  have hx:=R.mem (lG q2)
  have hl:m.Lanes[x.toNat]? =some m.Lanes[x.toNat]:=lH (by omega)
  have hg:=C9 hl
  rw [wE hx.1]at hg
  refine ⟨_,by rw [q3];exact hg,?_,by rw [q3];exact hl⟩
  rw [q3];unfold Ff
  dsimp only
  rw [hl];rfl
theorem NR {g:Agent}(h:SU g=false):300≤g.Len∧g.Len≤20000∧0≤g.Begin∧g.Begin≤1099511627776∧0≤g.S:=by
  unfold SU at h
  simp only [bY,wA]at h
  omega
theorem VR {m:Map}(B:BearM m)(s:State){i:Int}{g:Agent}(hi:C3 s.Agents i=some g)(hr:g.Route.length≤1000)(hS:g.S≤9223372036854775807):
    Z9 m s i=some (Et m s i g)∧Hg m s i=some (Et m s i g):=by
  have hr':g.Route.length≤1000000:=by omega
  unfold Z9 Hg Et
  rw [hi,lB,lB,DL B _ hr',Pj B _ hr',lB,lB]
  by_cases q:P2 m g.Route=0
  case neg=>
    rw [bO q,show (P2 m g.Route !=0)=true by simpa using q]
    exact ⟨rfl,rfl⟩
  rw [bN q,q,show ((0:Int) !=0)=false from rfl,bM,bM]
  obtain ⟨a,t,ht,R⟩:=chkRoute_zero.1 q
  have hL:=Pk R
  rw [← ht]at hL
  rw [SS B _ hr',BO B _ hr']
  have e:((((decide (g.Len<300)||decide (g.Len>20000))||decide (g.Begin<0))||decide (g.Begin>1099511627776))||decide (g.S<0))=SU g:=rfl
  rw [e]
  by_cases o:SU g=true
  ·rw [bN (.inl o),o];exact ⟨rfl,rfl⟩
  have o':SU g=false:=by simpa using o
  obtain ⟨o1,o2,o3,o4,o5⟩:=NR o'
  rw [o',bV,bK,lB,lB,bW,E6 (n:=LongM m g.Route+g.Len) (by omega),E6 (n:=LongM m g.Route+g.Len+2000) (by omega)]
  by_cases l:g.S>LongM m g.Route+g.Len+2000
  ·rw [bN (.inr l),bG l];exact ⟨rfl,rfl⟩
  rw [bO (fun h=>h.elim (fun h=>by cases h) l),bH l,bM,bM]
  obtain ⟨l1,l2⟩:=jY B R ht o5 hS
  obtain ⟨ln,k1,k2,_⟩:=dW R ht o5
  rw [l1,l2,lB,lB,k1,lB,lB,HW,Yd,lB,lB]
  have ev:(ST m g).1=(Hp ln.Kind).1:=by unfold ST;rw [k2]
  rw [ev]
  by_cases v:g.V<0∨g.V>(Hp ln.Kind).1
  ·rw [bN v,show (decide (g.V<0)||decide (g.V>(Hp ln.Kind).1))=true by simpa using v];exact ⟨rfl,rfl⟩
  rw [bO v,show (decide (g.V<0)||decide (g.V>(Hp ln.Kind).1))=false by rw [bX];simpa using v,bM,bM,(aI B hr').1,(aI B hr').2,lB,lB]
  have hb: ∀b:Bool,(b=true↔g.Gone≠GO m g∨(g.Begin>s.Tick∧g.S≠0)∨(i=0∧g.Begin≠0))→cond b (some (10:Int)) (some 0)=some (if g.Gone≠GO m g∨(g.Begin>s.Tick∧g.S≠0)∨(i=0∧g.Begin≠0)then 10 else 0):=by
    intro b hb
    by_cases h:g.Gone≠GO m g∨(g.Begin>s.Tick∧g.S≠0)∨(i=0∧g.Begin≠0)
    ·rw [bN h,hb.2 h];rfl
    ·rw [bO h]
     cases b
     ·rfl
     ·exact absurd (hb.1 rfl) h
  exact ⟨hb _ (by simp),hb _ (by simp [or_assoc])⟩
/-! ### The whole check -/
def Sq (a b:Stay):Bool:=decide (a.Agent_<b.Agent_)||(a.Agent_==b.Agent_&&decide (a.Zone_<b.Zone_))
theorem qU (a b:Int):Db [a,b]=some (if a≠0 then a else b):=by
  unfold Db
  by_cases h:a=0
  ·subst h
   rw [H8 (s':=1) rfl,bO (by simp)]
   by_cases h:b=0
   ·subst h;rw [H8 (s':=2) rfl,D2 (t:= .inl ()) rfl];rfl
   ·rw [D2 (t:= .inr b) (by unfold Af;rw [show C3 [(0:Int),b] 1=some b from rfl,lB,show (b !=0)=true by simpa using h];rfl)];rfl
  ·rw [D2 (t:= .inr a) (by unfold Af;rw [show C3 [a,b] 0=some a from rfl,lB,show (a !=0)=true by simpa using h];rfl),bN h];rfl
/-- What the order of two stays is. -/
def oJ (a b:Stay):Int:=if KD a.Agent_ b.Agent_≠0 then KD a.Agent_ b.Agent_ else KD a.Zone_ b.Zone_
theorem jZ (a b:Stay):Dr a b=some (oJ a b):=by
  unfold Dr oJ
  rw [EM,lB,EM,lB,qU,lB]
theorem kA (a b:Stay):decide (oJ a b≥0)= !Sq a b:=by
  unfold oJ Sq KD
  by_cases h1:a.Agent_<b.Agent_
  ·simp [h1]
  ·by_cases h2:a.Agent_>b.Agent_
   ·have:a.Agent_≠b.Agent_:=by omega
    simp [h1,h2,this]
   ·have:a.Agent_=b.Agent_:=by omega
    by_cases h3:a.Zone_<b.Zone_
    ·simp [this,h3]
    ·by_cases h4:a.Zone_>b.Zone_
     ·simp [this,h3,h4]
     ·simp [this,h3,h4]
def Yz (m:Map)(s:State)(x:Stay):Bool:=((decide (x.Agent_<0)||decide (x.Agent_≥(s.Agents.length:Int)))||decide (x.Zone_<0))||decide (x.Zone_≥(m.Zones.length:Int))
def eT (m:Map)(s:State)(i:Nat)(x:Stay):Option Int:=if Yz m s x=true∨(0<i∧∃y,s.In[i - 1]? =some y∧Sq y x=false)then some 11 else none
def Vc (s:State)(x:Stay):Bool:=((decide (x.Since<0)||decide (x.Since>s.Tick))||decide (x.Rank<0))||decide (x.Rank>100)
def GP (m:Map)(s:State):Int:=
  if Wv m=0 then
   if s.Tick<0∨s.Tick>1099511627776 then 2 else if s.Agents.length=0 then 6 else if 8<s.Agents.length then 8
   else match K0 (fun i g=>if Et m s (i:Int) g=0 then none else some (Et m s (i:Int) g)) 0 s.Agents with
     |some e=>e
     |none=>match K0 (eT m s) 0 s.In with
      |some e=>e
      |none=>if s.In.any (Vc s)=true then 2 else 0
  else Wv m
theorem VS {m:Map}(B:BearM m){s:State}(h:SizeS s)(hw: ∀g∈s.Agents,g.S≤9223372036854775807):
    loop (Ak m s) 0=some (NF (K0 (fun i g=>if Et m s (i:Int) g=0 then none else some (Et m s (i:Int) g)) 0 s.Agents))∧
    loop (Hl m s) 0=some (NF (K0 (fun i g=>if Et m s (i:Int) g=0 then none else some (Et m s (i:Int) g)) 0 s.Agents)):=by
  have hh:=h.agents
  constructor
  ·refine As s.Agents _ _ (fun i g hg=> ?_) (by unfold Ak;rw [J2];rfl)
   have hm:=lG hg
   unfold Ak
   rw [K7 (J1 hg),bK,(VR B s (C9 hg) (h.routes g hm) (hw g hm)).1,lB]
   by_cases q:Et m s (i:Int) g=0
   ·rw [bN q,q,show ((0:Int) !=0)=false from rfl,bM,H5 (J1 hg) (by omega)]
   ·rw [bO q,show (Et m s (i:Int) g !=0)=true by simpa using q];rfl
  ·refine As s.Agents _ _ (fun i g hg=> ?_) (by unfold Hl;rw [J2];rfl)
   have hm:=lG hg
   unfold Hl
   rw [K7 (J1 hg),bK,(VR B s (C9 hg) (h.routes g hm) (hw g hm)).2,lB]
   by_cases q:Et m s (i:Int) g=0
   ·rw [bN q,q,show ((0:Int) !=0)=false from rfl,bM,H5 (J1 hg) (by omega)]
   ·rw [bO q,show (Et m s (i:Int) g !=0)=true by simpa using q];rfl
theorem VT {α:Type}{l:List α}{i:Nat}{a:α}(h:l[i]? =some a)(h0:0<i): ∃y,l[i - 1]? =some y∧C3 l (D4 ((i:Int) - 1))=some y∨1000000000000<i:=by
  by_cases hb:1000000000000<i
  ·exact ⟨a, .inr hb⟩
  ·have:=J1 h
   have e:l[i - 1]? =some l[i - 1]:=lH (by omega)
   refine ⟨_, .inl ⟨e,?_⟩⟩
   rw [E6 (by omega),show (i:Int) - 1=((i - 1:Nat):Int) by omega]
   exact C9 e
theorem kB (m:Map){s:State}(h:SizeS s):
    loop (Aj m s) 0=some (NF (K0 (eT m s) 0 s.In))∧loop (Hj m s) 0=some (NF (K0 (eT m s) 0 s.In)):=by
  have hh:=h.ins
  constructor
  ·refine As s.In _ _ (fun i x hx=> ?_) (by unfold Aj;rw [J2];rfl)
   have hi:=J1 hx
   unfold Aj
   rw [K7 hi,bK,C9 hx,lB]
   have e:(((decide (x.Agent_<0)||decide (x.Agent_≥(s.Agents.length:Int)))||decide (x.Zone_<0))||decide (x.Zone_≥(m.Zones.length:Int)))=Yz m s x:=rfl
   rw [e]
   unfold eT
   by_cases hb:Yz m s x=true
   ·rw [hb,bN (.inl rfl)];rfl
   have hb':Yz m s x=false:=by simpa using hb
   rw [hb',bV,bP]
   by_cases h0:0<i
   ·obtain ⟨y,hy⟩:=VT hx h0
    rcases hy with ⟨y1,y2⟩|hy
    ·rw [bG (show (i:Int)>0 by omega),bK,y2,lB,bK,jZ,lB,bW,bP,kA]
     by_cases q:Sq y x=true
     ·rw [q,bO (by rintro (h|⟨_,z,z1,z2⟩);exact (by cases h);rw [y1]at z1;cases z1;rw [q]at z2;cases z2),bU,bM,H5 hi (by omega)]
     ·have q':Sq y x=false:=by simpa using q
      rw [q',bN (.inr ⟨h0,y,y1,q'⟩)];rfl
    ·omega
   ·rw [bH (show ¬(i:Int)>0 by omega),bM,lB,bM,lB,bW,bR,bM,bO (by rintro (h|⟨h,_⟩);exact (by cases h);exact h0 h),H5 hi (by omega)]
  ·refine As s.In _ _ (fun i x hx=> ?_) (by unfold Hj;rw [J2];rfl)
   have hi:=J1 hx
   unfold Hj
   rw [K7 hi,bK,C9 hx,lB]
   have e:(((decide (x.Agent_<0)||decide (x.Agent_≥(s.Agents.length:Int)))||decide (x.Zone_<0))||decide (x.Zone_≥(m.Zones.length:Int)))=Yz m s x:=rfl
   rw [e]
   unfold eT
   by_cases hb:Yz m s x=true
   ·rw [hb,bN (.inl rfl)];rfl
   have hb':Yz m s x=false:=by simpa using hb
   rw [hb',bM]
   by_cases h0:0<i
   ·obtain ⟨y,hy⟩:=VT hx h0
    rcases hy with ⟨y1,y2⟩|hy
    ·rw [bG (show (i:Int)>0 by omega),bK,y2,lB,bP]
     have hc: ∀b:Bool,(cond b (some y) (some default)).bind (fun v=>some v)=some (cond b y default):=by intro b;cases b<;>rfl
     by_cases q1:x.Agent_<y.Agent_
     ·rw [bG q1,bN (.inr ⟨h0,y,y1,by unfold Sq;simp;omega⟩)];rfl
     ·rw [bH q1,bV,bK,lB,bP]
      by_cases q2:x.Agent_=y.Agent_
      ·rw [show (x.Agent_==y.Agent_)=true by simpa using q2,bK,lB,bW,bP,bP]
       by_cases q3:x.Zone_≤y.Zone_
       ·rw [bG q3,bN (.inr ⟨h0,y,y1,by unfold Sq;simp;omega⟩)];rfl
       ·rw [bH q3,bO (by rintro (h|⟨_,z,z1,z2⟩);exact (by cases h);rw [y1]at z1;cases z1;unfold Sq at z2;simp at z2;omega),bM,H5 hi (by omega)]
      ·rw [show (x.Agent_==y.Agent_)=false by simpa using q2,bM,lB,bW,bP,bR,bM,bO (by rintro (h|⟨_,z,z1,z2⟩);exact (by cases h);rw [y1]at z1;cases z1;unfold Sq at z2;simp at z2;omega),H5 hi (by omega)]
    ·omega
   ·rw [bH (show ¬(i:Int)>0 by omega),bM,lB]
    simp only [bR,bM,lB]
    rw [bO (by rintro (h|⟨h,_⟩);exact (by cases h);exact h0 h),H5 hi (by omega)]
theorem Tc {α:Type}(l:List α)(P:α→Bool)(F:Int→Option (Stp Int (Sum Unit Int)))(hl:l.length≤1000000000)(hF: ∀(i:Nat) a,l[i]? =some a→F (i:Int)=some (if P a then .out (.inr (i:Int))else .go (D4 ((i:Int)+1))))(h0:F (l.length:Int)=some (.out (.inl ()))):
    (thenS (loop F 0) (fun _=>some (-1)) (fun r=>some r)).bind (fun v=>some (decide (v≥0)))=some (l.any P):=by
  rw [NI l P hl hF h0]
  have:=Wt P l
  unfold HZ at this
  cases hq:l.findIdx? P with
  |some i=>rw [hq]at this;show some _=_;rw [← this]
  |none=>rw [hq]at this;show some _=_;rw [← this]
theorem oK {s:State}(h:SizeS s):F8 s.In s=some (s.In.any (Vc s)):=by
  have hh:=h.ins
  unfold F8 J8
  refine Tc s.In (Vc s) _ (by omega) (fun i x hx=> ?_) (by unfold M2;rw [J2];rfl)
  unfold M2 Ng
  rw [K7 (J1 hx),C9 hx,bK,lB,lB]
  have e:(((decide (x.Since<0)||decide (x.Since>s.Tick))||decide (x.Rank<0))||decide (x.Rank>100))=Vc s x:=rfl
  rw [e]
  cases Vc s x<;>rfl
theorem kC {s:State}(h:SizeS s):thenS (loop (Hh s) 0) (fun _=>some 0) (fun r=>some r)=some (if s.In.any (Vc s)=true then 2 else 0):=by
  have hh:=h.ins
  rw [As s.In _ (fun _ x=>if Vc s x=true then some 2 else none) (fun i x hx=> ?_) (by unfold Hh;rw [J2];rfl)]
  ·by_cases q:s.In.any (Vc s)=true
   ·rw [bN q]
    cases hf:K0 (fun _ x=>if Vc s x=true then some (2:Int)else none) 0 s.In with
    |some e=>
     have: ∀(l:List Stay) (i:Nat),K0 (fun _ x=>if Vc s x=true then some (2:Int)else none) i l=some e→e=2:=by
       intro l
       induction l with
       |nil=>intro i h;cases h
       |cons a l ih=>
        intro i h
        unfold K0 at h
        by_cases z:Vc s a=true
        ·rw [bN z]at h;cases h;rfl
        ·rw [bO z]at h;exact ih _ h
     rw [this _ _ hf];rfl
    |none=>
     obtain ⟨x,x1,x2⟩:=l7.1 q
     obtain ⟨j,hj⟩:=bE x1
     have:=firstE_none.1 hf j x hj
     rw [bN x2]at this;cases this
   ·rw [bO q,firstE_none.2 fun j x hj=> ?_]
    ·rfl
    ·by_cases z:Vc s x=true
     ·exact absurd (l7.2 ⟨x,lG hj,z⟩) q
     ·rw [bO z]
  ·unfold Hh
   rw [K7 (J1 hx),C9 hx,bK,lB]
   have e:(((decide (x.Since<0)||decide (x.Since>s.Tick))||decide (x.Rank<0))||decide (x.Rank>100))=Vc s x:=rfl
   rw [e]
   by_cases z:Vc s x=true
   ·rw [bN z,z];rfl
   ·rw [bO z,show Vc s x=false by simpa using z,bM,H5 (J1 hx) (by omega)]
theorem VU {m:Map}(B:BearM m){s:State}(h:SizeS s)(hw: ∀g∈s.Agents,g.S≤9223372036854775807):Cd m s=some (GP m s)∧Rn m s=some (GP m s):=by
  obtain ⟨a1,a2⟩:=VS B h hw
  obtain ⟨i1,i2⟩:=kB m h
  unfold Cd Rn GP
  rw [Ph B,Up B,lB,lB]
  by_cases q:Wv m=0
  case neg=>rw [bO q,show (Wv m !=0)=true by simpa using q];exact ⟨rfl,rfl⟩
  rw [bN q,q,show ((0:Int) !=0)=false from rfl,bM,bM]
  by_cases t:s.Tick<0∨s.Tick>1099511627776
  ·rw [bN t,show (decide (s.Tick<0)||decide (s.Tick>1099511627776))=true by simpa using t];exact ⟨rfl,rfl⟩
  rw [bO t,show (decide (s.Tick<0)||decide (s.Tick>1099511627776))=false by rw [bX];simpa using t,bM,bM]
  by_cases n0:s.Agents.length=0
  ·rw [bN n0,show (((s.Agents.length:Nat):Int)==0)=true by rw [n0];rfl];exact ⟨rfl,rfl⟩
  rw [bO n0,show (((s.Agents.length:Nat):Int)==0)=false by simpa using (show ((s.Agents.length:Nat):Int)≠0 by omega),bM,bM]
  by_cases n8:8<s.Agents.length
  ·rw [bN n8,bG (show (s.Agents.length:Int)>8 by omega)];exact ⟨rfl,rfl⟩
  rw [bO n8,bH (show ¬(s.Agents.length:Int)>8 by omega),bM,bM,a1,a2]
  cases K0 (fun i g=>if Et m s (i:Int) g=0 then none else some (Et m s (i:Int) g)) 0 s.Agents with
  |some e=>exact ⟨rfl,rfl⟩
  |none=>
   show thenS _ _ _=_∧thenS _ _ _=_
   rw [i1,i2]
   cases K0 (eT m s) 0 s.In with
   |some e=>exact ⟨rfl,rfl⟩
   |none=>
    refine ⟨?_,kC h⟩
    show (F8 s.In s).bind _=_
    rw [oK h,lB]
    cases s.In.any (Vc s)<;>rfl
/-- A map of the kit. -/
structure KitM (m:Map):Prop extends BearK m where
  val:ValR m
theorem oL (n:Int): ∃m,BZ n=some m∧KitM m∧∃k p,k<8∧ParOK p∧m=GN k p:=by
  obtain ⟨k,p,hk,hp,hm⟩:=YL n
  exact ⟨_,hm,⟨⟨jM hp,(JC k p.r).1⟩,nW hk hp⟩,k,p,hk,hp,rfl⟩
theorem KitM.chk {m:Map}(K:KitM m):Wv m=0:=chkR_zero.2 K.val
/-- Who is there. -/
def R7 (s:State)(i:Int):Bool:=match C3 s.Agents i with
  |some g=> !g.Gone&&decide (g.Begin≤s.Tick)
  |none=>false
theorem QO {α:Type}{l:List α}{i:Int}(h: ¬(0≤i∧i<l.length)):C3 l i=none:=by
  unfold C3
  by_cases h0:0≤i
  ·rw [bN h0]
   exact lJ (by omega)
  ·rw [bO h0]
theorem CF {α:Type}{l:List α}{i:Int}(h0:0≤i)(h1:i<l.length): ∃a,C3 l i=some a∧l[i.toNat]? =some a:=by
  have:l[i.toNat]? =some l[i.toNat]:=lH (by omega)
  exact ⟨_,by unfold C3;rw [bN h0];exact this,this⟩
theorem Uy (s:State)(i:Int):Ds s i=some (R7 s i)∧If s i=some (R7 s i):=by
  unfold Ds If R7
  by_cases h:0≤i∧i<s.Agents.length
  ·obtain ⟨g,hg,_⟩:=CF h.1 h.2
   rw [show (decide (i≥0)&&decide (i< (s.Agents.length:Int)))=true by simp only [bS,bI];exact h,bK,hg,lB,lB]
   simp only [bK,lB,bP]
   constructor
   ·cases g.Gone<;>simp
   ·by_cases q:g.Begin≤s.Tick<;>simp [q]
  ·rw [show (decide (i≥0)&&decide (i< (s.Agents.length:Int)))=false by rw [bX];simp only [ne_eq,bS,bI];exact h,QO h]
   exact ⟨rfl,rfl⟩
theorem KO (k:Int):0≤(Hp k).1∧(Hp k).1≤2000∧0≤(Hp k).2.1∧(Hp k).2.1≤100∧0≤(Hp k).2.2∧(Hp k).2.2≤300:=by
  unfold Hp
  repeat' split
  all_goals simp
/-- What is known of an agent of a valid state. -/
structure AgentOK (m:Map)(s:State)(i:Int)(g:Agent):Prop where
  route: ∃a t,g.Route=a::t∧RouteOK m a t
  len:300≤g.Len∧g.Len≤20000
  begin:0≤g.Begin∧g.Begin≤1099511627776
  S:0≤g.S∧g.S≤LongM m g.Route+g.Len+2000
  V:0≤g.V∧g.V≤(ST m g).1
  gone:g.Gone=GO m g
  late: ¬(g.Begin>s.Tick∧g.S≠0)
  first:i=0→g.Begin=0
theorem agentM_zero {m:Map}{s:State}{i:Int}{g:Agent}:Et m s i g=0↔AgentOK m s i g:=by
  unfold Et
  constructor
  ·intro h
   by_cases q:P2 m g.Route=0
   ·rw [bN q]at h
    by_cases o:SU g=true∨g.S>LongM m g.Route+g.Len+2000
    ·rw [bN o]at h;cases h
    ·rw [bO o]at h
     by_cases v:g.V<0∨g.V>(ST m g).1
     ·rw [bN v]at h;cases h
     ·rw [bO v]at h
      by_cases z:g.Gone≠GO m g∨(g.Begin>s.Tick∧g.S≠0)∨(i=0∧g.Begin≠0)
      ·rw [bN z]at h;cases h
      ·obtain ⟨o1,o2,o3,o4,o5⟩:=NR (g:=g) (by cases hq:SU g<;>simp_all)
       refine ⟨chkRoute_zero.1 q,⟨o1,o2⟩,⟨o3,o4⟩,⟨o5,?_⟩,?_,?_,fun h=>z (.inr (.inl h)),fun h=> ?_⟩
       ·exact Int.not_lt.1 fun h=>o (.inr h)
       ·omega
       ·exact Classical.byContradiction fun h=>z (.inl h)
       ·exact Classical.byContradiction fun h'=>z (.inr (.inr ⟨h,h'⟩))
   ·rw [bO q]at h;cases h
  ·intro A
   have l:=A.len;have b:=A.begin;have S:=A.S;have V:=A.V
   rw [bN (chkRoute_zero.2 A.route),bO,bO,bO]
   ·rintro (h|h|h)
    ·exact h A.gone
    ·exact A.late h
    ·exact h.2 (A.first h.1)
   ·omega
   ·rintro (h|h)
    ·unfold SU at h
     simp only [bT,bI]at h
     omega
    ·omega
structure StateOK (m:Map)(s:State):Prop where
  tick:0≤s.Tick∧s.Tick≤1099511627776
  num:0<s.Agents.length∧s.Agents.length≤8
  agent: ∀(i:Nat) g,s.Agents[i]? =some g→AgentOK m s (i:Int) g
  ins: ∀(i:Nat) x,s.In[i]? =some x→Yz m s x=false
  sorted: ∀(i:Nat) x y,s.In[i]? =some x→s.In[i+1]? =some y→Sq x y=true
  rank: ∀x∈s.In,Vc s x=false
theorem CG {m:Map}(K:KitM m){s:State}:GP m s=0↔StateOK m s:=by
  unfold GP
  rw [bN K.chk]
  constructor
  ·intro h
   by_cases t:s.Tick<0∨s.Tick>1099511627776
   ·rw [bN t]at h;cases h
   rw [bO t]at h
   by_cases n0:s.Agents.length=0
   ·rw [bN n0]at h;cases h
   rw [bO n0]at h
   by_cases n8:8<s.Agents.length
   ·rw [bN n8]at h;cases h
   rw [bO n8]at h
   cases ha:K0 (fun i g=>if Et m s (i:Int) g=0 then none else some (Et m s (i:Int) g)) 0 s.Agents with
   |some e=>
    rw [ha]at h
    have: ∀(l:List Agent) (i:Nat),K0 (fun i g=>if Et m s (i:Int) g=0 then none else some (Et m s (i:Int) g)) i l=some e→e≠0:=by
      intro l
      induction l with
      |nil=>intro i h;cases h
      |cons a l ih=>
       intro i h
       unfold K0 at h
       by_cases z:Et m s (i:Int) a=0
       ·rw [bN z]at h;exact ih _ h
       ·rw [bO z]at h;cases h;exact z
    exact absurd h (this _ _ ha)
   |none=>
    rw [ha]at h
    cases hi:K0 (eT m s) 0 s.In with
    |some e=>
     rw [hi]at h
     have: ∀(l:List Stay) (i:Nat),K0 (eT m s) i l=some e→e≠0:=by
       intro l
       induction l with
       |nil=>intro i h;cases h
       |cons a l ih=>
        intro i h
        unfold K0 at h
        cases z:eT m s i a with
        |none=>rw [z]at h;exact ih _ h
        |some e'=>
         rw [z]at h;cases h
         unfold eT at z
         split at z
         ·cases z;decide
         ·cases z
     exact absurd h (this _ _ hi)
    |none=>
     rw [hi]at h
     have ha':=firstE_none.1 ha
     have hi':=firstE_none.1 hi
     simp only [wI]at ha' hi'
     have hin: ∀(i:Nat) x,s.In[i]? =some x→¬(Yz m s x=true∨(0<i∧∃y,s.In[i - 1]? =some y∧Sq y x=false)):=by
       intro i x hx q
       have:=hi' i x hx
       unfold eT at this
       rw [bN q]at this;cases this
     have hr:s.In.any (Vc s)=false:=by
       cases q:s.In.any (Vc s)with
       |false=>rfl
       |true=>rw [q]at h;cases h
     refine ⟨by omega,by omega,fun i g hg=>agentM_zero.1 ?_,fun i x hx=> ?_,fun i x y hx hy=> ?_,fun x hx=> ?_⟩
     ·have:=ha' i g hg
      by_cases z:Et m s (i:Int) g=0
      ·exact z
      ·rw [bO z]at this;cases this
     ·have:=hin i x hx
      cases q:Yz m s x with
      |false=>rfl
      |true=>exact absurd (.inl q) this
     ·have:=hin (i+1) y hy
      cases q:Sq x y with
      |true=>rfl
      |false=>exact absurd (.inr ⟨by omega,x,hx,q⟩) this
     ·have:=List.any_eq_false.1 hr x hx
      simpa using this
  ·intro O
   have t:=O.tick;have n:=O.num
   rw [bO (by omega),bO (by omega),bO (by omega)]
   rw [firstE_none.2 fun i g hg=>by rw [wI,bN (agentM_zero.2 (O.agent i g hg))]]
   rw [firstE_none.2 fun i x hx=> ?_]
   ·dsimp only
    rw [bO]
    intro h
    obtain ⟨x,x1,x2⟩:=l7.1 h
    rw [O.rank x x1]at x2;cases x2
   ·rw [wI]
    unfold eT
    rw [bO]
    rintro (h|⟨h0,y,y1,y2⟩)
    ·rw [O.ins i x hx]at h;cases h
    ·have:=O.sorted (i - 1) y x y1 (by rw [show i - 1+1=i by omega];exact hx)
     rw [this]at y2;cases y2
theorem AgentOK.bd {m:Map}{s:State}{i:Int}{g:Agent}(A:AgentOK m s i g):1000≤LongM m g.Route∧LongM m g.Route≤134217728:=by
  obtain ⟨a,t,h,R⟩:=A.route
  rw [h];exact Pk R
def DM (g:Agent):Bool:=(((decide (g.S≥0))&& (decide (g.S≤1099511627776)))&& (decide (g.Len≥0)))&& (decide (g.Len≤1099511627776))
def Md (m:Map)(r:List Int):List Pass:=(V7 m r).getD []
theorem dX {m:Map}(B:BearK m)(r:List Int)(hr:r.length≤1000000):V7 m r=some (Md m r)∧Fy m r=some (Md m r)∧(Md m r).length≤16:=by
  obtain ⟨ps,h1,h2,h3⟩:=YS B r hr
  unfold Md
  rw [h1,h2]
  exact ⟨rfl,rfl,h3⟩
def Wd (g g':Agent)(z:Int)(p:Pass):Bool:=((p.Zone_==z)&&decide (p.From≤g'.S))&&decide (D4 (g.S - g.Len)≤p.To)
/-- Whether an agent is present in a zone during a tick. -/
def Jn (m:Map)(g g':Agent)(z:Int):Bool:=(DM g&&DM g')&& (Md m g.Route).any (Wd g g' z)
theorem EP {m:Map}(B:BearK m){g g':Agent}(hr:g.Route.length≤1000)(z:Int):Dt m g g' z=some (Jn m g g' z)∧Gj m g g' z=some (Jn m g g' z):=by
  obtain ⟨p1,p2,p3⟩:=dX B g.Route (by omega)
  have s1: ∀g,No g=some (DM g):=fun _=>rfl
  have s2: ∀g,Np g=some (DM g):=fun _=>rfl
  have hc:G1 (Md m g.Route) z ⟨D4 (g.S - g.Len),g'.S⟩=some ((Md m g.Route).any (Wd g g' z)):=by
    unfold G1 I9
    refine Tc _ (Wd g g' z) _ (by omega) (fun i x hx=> ?_) (by unfold L4;rw [J2];rfl)
    unfold L4 Gs
    rw [K7 (J1 hx),C9 hx,bK,lB,lB]
    show cond (Wd g g' z x) _ _=_
    cases Wd g g' z x<;>rfl
  have hd:thenS (loop (Eb g g' z (Md m g.Route)) 0) (fun _=>some false) (fun r=>some r)=some ((Md m g.Route).any (Wd g g' z)):=by
    rw [IZ (Md m g.Route) (Wd g g' z) true (fun i x hx=> ?_) (by unfold Eb;rw [J2];rfl)]
    ·cases (Md m g.Route).any (Wd g g' z)<;>rfl
    ·unfold Eb Wd
     rw [K7 (J1 hx),C9 hx,bK,lB,H5 (J1 hx) (by omega)]
     by_cases q1:x.Zone_=z
     ·rw [show (x.Zone_==z)=true by simpa using q1,bK,lB,bP]
      by_cases q2:D4 (g.S - g.Len)≤x.To
      ·rw [bG q2,bK,lB,bP,bQ]
       by_cases q3:x.From≤g'.S
       ·rw [bG (show g'.S≥x.From from q3)];rfl
       ·rw [bH (show ¬g'.S≥x.From from q3)];rfl
      ·rw [bH q2,Bool.and_false];rfl
     ·rw [show (x.Zone_==z)=false by simpa using q1];rfl
  unfold Dt Gj Jn
  rw [s1,s2,lB,lB]
  cases hs:DM g
  ·exact ⟨rfl,rfl⟩
  ·rw [bU,bV,bK,bK,s1,s2,lB,lB]
   cases hs':DM g'
   ·exact ⟨rfl,rfl⟩
   ·simp only [bU,Bool.or_self,bM,bP]
    constructor
    ·show (Da g).bind _=_
     unfold Da
     rw [lB,p1,lB,hc];rfl
    ·show (Fy m g.Route).bind _=_
     rw [p2,lB,hd]
/-! ### The entry, and the rank -/
theorem aJ {α:Type}{P:α→Bool}{l:List α}(h:0≤HZ P l): ∃x,l[(HZ P l).toNat]? =some x∧P x=true∧l.find? P=some x:=by
  unfold HZ at h ⊢
  cases hq:l.findIdx? P with
  |none=>rw [hq]at h;exact absurd h (by simp)
  |some i=>
   obtain ⟨h1,h2,h3⟩:=List.findIdx?_eq_some_iff_getElem.1 hq
   refine ⟨l[i],by rw [wD];exact lH h1,h2,?_⟩
   exact List.find?_eq_some_iff_getElem.2 ⟨h2,i,h1,rfl,fun j hj=>by simpa using h3 j hj⟩
theorem dY {m:Map}{r:List Int}{z:Int}(h:0≤Fe m r z): ∃zn l,0≤z∧m.Zones[z.toNat]? =some zn∧P2 m r=0∧r[(Fe m r z).toNat]? =some l∧(Oe zn l).2=true:=by
  unfold Fe at h ⊢
  cases hz:m.Zones[z.toNat]? with
  |none=>rw [hz]at h;exact absurd h (by simp)
  |some zn=>
   rw [hz]at h
   dsimp only at h ⊢
   by_cases q:0≤z∧P2 m r=0
   ·rw [bN q]at h ⊢
    obtain ⟨l,h1,h2,_⟩:=aJ h
    exact ⟨zn,l,q.1,rfl,q.2,h1,h2⟩
   ·rw [bO q]at h;exact absurd h (by simp)
/-- The lane on which a route enters a zone; -1 if it does not. -/
def Na (m:Map)(r:List Int)(z:Int):Int:=if 0≤Fe m r z then r.getD (Fe m r z).toNat 0 else -1
theorem GQ {m:Map}{r:List Int}{z:Int}(h:0≤Fe m r z): ∃zn,0≤z∧m.Zones[z.toNat]? =some zn∧r[(Fe m r z).toNat]? =some (Na m r z)∧(Oe zn (Na m r z)).2=true∧0≤Na m r z:=by
  obtain ⟨zn,l,h0,h1,h2,h3,h4⟩:=dY h
  have e:Na m r z=l:=by unfold Na;rw [bN h,List.getD,h3];rfl
  obtain ⟨a,t,rfl,R⟩:=chkRoute_zero.1 h2
  have:=R.mem (lG h3)
  rw [e]
  exact ⟨zn,h0,h1,h3,h4,this.1⟩
theorem dZ {m:Map}(B:BearM m){r:List Int}(hr:r.length≤1000000)(z:Int):Du m r z=some (Na m r z):=by
  unfold Du
  rw [jR B r hr,lB]
  by_cases q:0≤Fe m r z
  ·obtain ⟨zn,_,_,h3,_⟩:=GQ q
   have hg:=C9 h3
   rw [wE q]at hg
   rw [bG (show Fe m r z≥0 from q),bK,hg];rfl
  ·rw [bH (show ¬Fe m r z≥0 from q)]
   unfold Na;rw [bO q];rfl
/-- The rank of an agent in a zone. -/
def JH (m:Map)(r:List Int)(z tick:Int):Int:=
  if 0≤Fe m r z then
   match m.Zones[z.toNat]? with
   |some zn=>if zn.Signal_>0 then (if IC m (zn.Signal_ - 1) (Na m r z) tick=true then 2 else 0)else (Oe zn (Na m r z)).1.Rank
   |none=>0
  else 0
theorem oM {m:Map}(K:KitM m){g:Agent}(hr:g.Route.length≤1000)(z tick:Int):Is m g z tick=some (JH m g.Route z tick)∧Ul m g z tick=some (JH m g.Route z tick):=by
  have B:=K.toBearM
  have hr':g.Route.length≤1000000:=by omega
  unfold Is Ul JH
  rw [dZ B hr',IE B _ hr',lB,lB]
  by_cases q:0≤Fe m g.Route z
  case neg=>
    rw [bO q,bG (show Fe m g.Route z<0 by omega)]
    have:Na m g.Route z= -1:=by unfold Na;rw [bO q]
    rw [this]
    exact ⟨rfl,rfl⟩
  obtain ⟨zn,h0,h1,h3,h4,h5⟩:=GQ q
  have hz:=C9 h1
  rw [wE h0]at hz
  have hg:=C9 h3
  rw [wE q]at hg
  have Z:=K.val.zoneOK (lG h1)
  have hS:=Z.sig
  have hsl:=K.val.signals
  have hp:=B.toBearZ.parts zn (lG h1)
  rw [bN q,h1,bH (show ¬Na m g.Route z<0 by omega),bH (show ¬Fe m g.Route z<0 by omega),bM,bM,hz,lB,lB]
  dsimp only
  by_cases s:zn.Signal_>0
  ·rw [bN s,bG s,E6 (by omega),jT B,hg]
   simp only [lB,bK,dO B,bP]
   cases IC m (zn.Signal_ - 1) (Na m g.Route z) tick<;>exact ⟨rfl,rfl⟩
  ·rw [bO s,bH s,bM,bM,lB,bR,bM]
   have hany:zn.Parts.any (fun p=>p.Lane_==Na m g.Route z)=true:=by
     unfold Oe at h4
     cases hf:zn.Parts.find? (fun p=>p.Lane_==Na m g.Route z)with
     |none=>rw [hf]at h4;cases h4
     |some p=>
      exact l7.2 ⟨p,l8 hf,List.find?_some (p:=fun p:Part=>p.Lane_==Na m g.Route z) hf⟩
   have hidx:0≤HZ (fun p:Part=>p.Lane_==Na m g.Route z) zn.Parts:=by
     have:=Wt (fun p:Part=>p.Lane_==Na m g.Route z) zn.Parts
     rw [hany]at this
     simpa using this
   obtain ⟨p,p1,p2,p3⟩:=aJ hidx
   have hpr:(Oe zn (Na m g.Route z)).1.Rank=p.Rank:=by unfold Oe;rw [p3]
   constructor
   ·have e:I6 zn.Parts (Na m g.Route z)=some (HZ (fun p:Part=>p.Lane_==Na m g.Route z) zn.Parts):=by
      unfold I6
      refine Uo zn.Parts (fun p:Part=>p.Lane_==Na m g.Route z) (by omega) (fun i a h=> ?_) (by unfold M7;rw [J2];rfl)
      unfold M7 Ov
      rw [K7 (J1 h),C9 h,bK,lB,lB]
      cases a.Lane_==Na m g.Route z<;>rfl
    have hgp:=C9 p1
    rw [wE hidx]at hgp
    rw [e,lB,hgp,lB,hpr]
   ·have key: ∀(l:List Part) (i:Nat),zn.Parts.drop i=l→i≤zn.Parts.length→thenS (loop (Gl g (Fe m g.Route z) zn) (i:Int)) (fun _=>some 0) (fun r=>some r)=some (match l.find? (fun p=>p.Lane_==Na m g.Route z)with|some p=>p.Rank|none=>0):=by
      intro l
      induction l with
      |nil=>
       intro i hi hil
       have:=N0 hi
       obtain rfl:i=zn.Parts.length:=by omega
       rw [D2 (t:= .inl ()) (by unfold Gl;rw [J2];rfl)];rfl
      |cons x l ih=>
       intro i hi hil
       have hx:=S6 hi
       have hlt:=L3 hi
       rw [List.find?_cons]
       cases hq:x.Lane_==Na m g.Route z with
       |true=>
        rw [D2 (t:= .inr x.Rank) (by unfold Gl;rw [K7 hlt,C9 hx,bK,lB,hg,lB,hq,bK,lB])];rfl
       |false=>
        rw [H8 (s':=((i+1:Nat):Int)) (by unfold Gl;rw [K7 hlt,C9 hx,bK,lB,hg,lB,hq,bM,H5 hlt (by omega)])]
        exact ih (i+1) (I4 hi) hlt
    have:=key zn.Parts 0 rfl (wG _)
    rw [p3]at this
    rw [show ((0:Nat):Int)=0 from rfl]at this
    rw [bM,this,hpr]
/-! ### Stays -/
def oN (i z:Int)(x:Stay):Bool:=x.Agent_==i&&x.Zone_==z
def sM (l:List Stay):Prop:=l.Pairwise fun a b=>Sq a b=true
theorem qV {S α β τ:Type}{F:S→Option (Stp S τ)}(pk:Nat→List β→S)(l:List α)(g:Nat→α→Option β)(fin:List β→τ)(s0:List β)(B:Nat){S0:S}(hS:pk 0 s0=S0)(hB:s0.length+l.length≤B)
    (hF: ∀(i:Nat) a (s:List β),l[i]? =some a→s.length+1≤B→F (pk i s)=some (.go (pk (i+1) (match g i a with|some b=>s++ [b]|none=>s))))
    (h0: ∀s,F (pk l.length s)=some (.out (fin s))):loop F S0=some (fin (s0++Bi g 0 l)):=by
  have:=aD (F:=F) pk l (fun i s=>s.length≤s0.length+i) (fun i s a=>match g i a with|some b=>s++ [b]|none=>s) fin (s0:=s0) (S0:=S0) hS (by simp) (fun i a s h hs=>hF i a s h (by have:=(lI.1 h).1;omega)) (fun i a s _ hs=>by
    cases g i a<;>simp<;>omega) (fun s _=>h0 s)
  exact this.trans (congrArg (fun x=>some (fin x)) (EK g l 0 s0))
theorem qW {S α β τ:Type}{F:S→Option (Stp S τ)}(pk:Nat→List β→S)(l:List α)(g:Nat→α→List β)(fin:List β→τ)(s0:List β)(C B:Nat){S0:S}(hS:pk 0 s0=S0)(hB:s0.length+l.length*C≤B)(hC: ∀(i:Nat) a,l[i]? =some a→(g i a).length≤C)
    (hF: ∀(i:Nat) a (s:List β),l[i]? =some a→s.length+C≤B→F (pk i s)=some (.go (pk (i+1) (s++g i a))))
    (h0: ∀s,F (pk l.length s)=some (.out (fin s))):loop F S0=some (fin (s0++Pi g 0 l)):=by
  have key: ∀(r:List α) (i:Nat) (s:List β),Yv (fun i s a=>s++g i a) i s r=s++Pi g i r:=by
    intro r
    induction r with
    |nil=>intro i s;simp [Yv,Pi]
    |cons a r ih=>intro i s;simp [Yv,Pi,ih]
  have:=aD (F:=F) pk l (fun i s=>s.length≤s0.length+i*C) (fun i s a=>s++g i a) fin (s0:=s0) (S0:=S0) hS (by simp) (fun i a s h hs=>hF i a s h (by
    have h1:=(lI.1 h).1
    have h2:(i+1)*C≤l.length*C:=Nat.mul_le_mul_right C h1
    rw [wH,Nat.one_mul]at h2;omega)) (fun i a s h hs=>by
    have h3:=hC i a h
    rw [lM,wH,Nat.one_mul];omega) (fun s _=>h0 s)
  exact this.trans (congrArg (fun x=>some (fin x)) (key l 0 s0))
/-- Present at both ends of a tick. -/
def JI (m:Map)(s:State)(A:List Agent)(i z:Int):Bool:=R7 s i&& (match C3 s.Agents i,C3 A i with
  |some g,some g'=>Jn m g g' z
  |_,_=>false)
theorem NS {s:State}{i:Int}(h:R7 s i=true): ∃g,C3 s.Agents i=some g∧s.Agents[i.toNat]? =some g∧0≤i∧i<s.Agents.length∧g.Gone=false∧g.Begin≤s.Tick:=by
  unfold R7 at h
  by_cases q:0≤i∧i<s.Agents.length
  ·obtain ⟨g,h1,h2⟩:=CF q.1 q.2
   rw [h1]at h
   dsimp only at h
   rw [bS,bI]at h
   exact ⟨g,h1,h2,q.1,q.2,by simpa using h.1,h.2⟩
  ·rw [QO q]at h;cases h
/-- The stay of who is present. -/
def eU (m:Map)(s:State)(i z:Int):Stay:=match s.In.find? (oN i z)with
  |some x=>x
  |none=>⟨i,z,s.Tick,match C3 s.Agents i with|some g=>JH m g.Route z s.Tick|none=>0⟩
theorem aK (m:Map)(s:State)(i z:Int):(eU m s i z).Agent_=i∧(eU m s i z).Zone_=z:=by
  unfold eU
  cases h:s.In.find? (oN i z)with
  |none=>exact ⟨rfl,rfl⟩
  |some x=>
   have:=List.find?_some h
   unfold oN at this
   simpa using this
def JJ (m:Map)(s:State)(A:List Agent)(i:Nat)(z:Nat)(_:Zone):Option Stay:=if JI m s A i z=true then some (eU m s i z)else none
def Yg (m:Map)(s:State)(A:List Agent)(i:Nat)(_:Agent):List Stay:=Bi (JJ m s A i) 0 m.Zones
/-- The stays after a tick. -/
def Qn (m:Map)(s:State)(A:List Agent):List Stay:=Pi (Yg m s A) 0 s.Agents
theorem NT (m:Map)(s:State)(A:List Agent)(i:Nat)(a:Agent):(Yg m s A i a).length≤m.Zones.length:=Wu _ _ _
theorem Cs {α β:Type}{g:Nat→α→Option β}{b:β}: ∀(l:List α) (k:Nat),b∈Bi g k l↔∃(i:Nat) (a:α),l[i]? =some a∧g (k+i) a=some b
  | [],k=>by simp [Bi]
  |a::r,k=>by
   have ih:=Cs (g:=g) (b:=b) r (k+1)
   have e:(∃(i:Nat) (a':α),(a::r)[i]? =some a'∧g (k+i) a'=some b)↔g k a=some b∨∃(i:Nat) (a':α),r[i]? =some a'∧g (k+1+i) a'=some b:=by
     constructor
     ·rintro ⟨i,a',h1,h2⟩
      cases i with
      |zero=>simp at h1;subst h1;exact .inl h2
      |succ i=>exact .inr ⟨i,a',by simpa using h1,by rw [show k+1+i=k+ (i+1) by omega];exact h2⟩
     ·rintro (h|⟨i,a',h1,h2⟩)
      ·exact ⟨0,a,rfl,h⟩
      ·exact ⟨i+1,a',by simpa using h1,by rw [show k+ (i+1)=k+1+i by omega];exact h2⟩
   rw [e,Bi]
   cases hg:g k a with
   |none=>simp [ih]
   |some c=>simp [ih,eq_comm]
theorem Qo {α β:Type}{g:Nat→α→List β}{b:β}: ∀(l:List α) (k:Nat),b∈Pi g k l↔∃(i:Nat) (a:α),l[i]? =some a∧b∈g (k+i) a
  | [],k=>by simp [Pi]
  |a::r,k=>by
   have ih:=Qo (g:=g) (b:=b) r (k+1)
   rw [Pi,lT,ih]
   constructor
   ·rintro (h|⟨i,a',h1,h2⟩)
    ·exact ⟨0,a,rfl,h⟩
    ·exact ⟨i+1,a',by simpa using h1,by rw [show k+ (i+1)=k+1+i by omega];exact h2⟩
   ·rintro ⟨i,a',h1,h2⟩
    cases i with
    |zero=>simp at h1;subst h1;exact .inl h2
    |succ i=>exact .inr ⟨i,a',by simpa using h1,by rw [show k+1+i=k+ (i+1) by omega];exact h2⟩
theorem stays_mem {m:Map}{s:State}{A:List Agent}{x:Stay}:x∈Qn m s A↔∃i z:Nat,i<s.Agents.length∧z<m.Zones.length∧JI m s A i z=true∧x=eU m s i z:=by
  unfold Qn
  rw [Qo]
  constructor
  ·rintro ⟨i,a,h1,h2⟩
   unfold Yg at h2
   rw [Cs]at h2
   obtain ⟨z,zn,h3,h4⟩:=h2
   unfold JJ at h4
   rw [wI,wI]at h4
   split at h4
   ·rename_i h5
    cases h4
    exact ⟨i,z,J1 h1,J1 h3,h5,rfl⟩
   ·cases h4
  ·rintro ⟨i,z,h1,h2,h3,rfl⟩
   refine ⟨i,s.Agents[i],lH h1,?_⟩
   unfold Yg
   rw [Cs]
   refine ⟨z,m.Zones[z],lH h2,?_⟩
   unfold JJ
   rw [wI,wI,bN h3]
theorem NU {α β:Type}{g:Nat→α→Option β}{R:β→β→Prop}(h: ∀i j a a' b b',i<j→g i a=some b→g j a'=some b'→R b b'): ∀(l:List α) (k:Nat),(Bi g k l).Pairwise R
  | [],k=>List.Pairwise.nil
  |a::r,k=>by
   have ih:=NU h r (k+1)
   rw [Bi]
   cases hg:g k a with
   |none=>exact ih
   |some b=>
    refine bC.2 ⟨fun b' hb'=> ?_,ih⟩
    obtain ⟨i,a',_,h2⟩:=(Cs r (k+1)).1 hb'
    exact h k (k+1+i) a a' b b' (by omega) hg h2
theorem NV {α β:Type}{g:Nat→α→List β}{R:β→β→Prop}(h0: ∀i a,(g i a).Pairwise R)(h: ∀i j a a' b b',i<j→b∈g i a→b'∈g j a'→R b b'): ∀(l:List α) (k:Nat),(Pi g k l).Pairwise R
  | [],k=>List.Pairwise.nil
  |a::r,k=>by
   rw [Pi]
   refine List.pairwise_append.2 ⟨h0 k a,NV h0 h r (k+1),fun b hb b' hb'=> ?_⟩
   obtain ⟨i,a',_,h2⟩:=(Qo r (k+1)).1 hb'
   exact h k (k+1+i) a a' b b' (by omega) hb h2
theorem YT (m:Map)(s:State)(A:List Agent):sM (Qn m s A):=by
  have key: ∀(i z:Nat) zn b,JJ m s A i z zn=some b→b.Agent_=(i:Int)∧b.Zone_=(z:Int):=by
    intro i z zn b h
    unfold JJ at h
    split at h
    ·cases h;exact aK m s i z
    ·cases h
  refine NV (fun i a=>NU (fun z z' _ _ b b' hz h1 h2=> ?_) _ _) (fun i j a a' b b' hij h1 h2=> ?_) _ _
  ·have k1:=key i z _ b h1
   have k2:=key i z' _ b' h2
   unfold Sq
   rw [k1.1,k1.2,k2.1,k2.2]
   simp [hz]
  ·unfold Yg at h1 h2
   obtain ⟨z,zn,_,h1⟩:=(Cs _ _).1 h1
   obtain ⟨z',zn',_,h2⟩:=(Cs _ _).1 h2
   have k1:=key i _ zn b h1
   have k2:=key j _ zn' b' h2
   unfold Sq
   rw [k1.1,k2.1]
   simp only [bT,bI,bS,bZ]
   omega
theorem QP (m:Map)(s:State)(A:List Agent):(Qn m s A).length≤s.Agents.length*m.Zones.length:=ID _ _ _ _ fun _ _ _=>NT _ _ _ _ _
theorem YU {m:Map}{s:State}{A:List Agent}{i:Nat}(h:R7 s i=false)(a:Agent):Yg m s A i a= []:=by
  apply List.eq_nil_iff_forall_not_mem.2
  intro x hx
  unfold Yg at hx
  obtain ⟨z,zn,_,h2⟩:=(Cs _ _).1 hx
  unfold JJ JI at h2
  rw [h,bR,bO (by simp)]at h2
  cases h2
theorem YV {m:Map}(B:BearK m){r:List Int}(hr:r.length≤1000000){p:Pass}(hp:p∈Md m r):0≤Fe m r p.Zone_:=by
  unfold Md at hp
  by_cases q:P2 m r=0
  ·obtain ⟨a,t,rfl,R⟩:=chkRoute_zero.1 q
   obtain ⟨ps,p1,p2,_⟩:=QL B R
   rw [p1]at hp
   obtain ⟨i,lane,j,z,k,pt,h1,h2,h3,h4,rfl⟩:=CE m (a::t) 0 p (p2.mem_iff.1 hp)
   unfold Fe
   dsimp only
   rw [wD,h2]
   dsimp only
   rw [bN ⟨by omega,q⟩]
   have hz:(Oe z lane).2=true:=by
     unfold Oe
     cases hf:z.Parts.find? (fun p=>p.Lane_==lane)with
     |some _=>rfl
     |none=>
      have:=List.find?_eq_none.1 hf pt (lG h3)
      exact absurd (by simpa using h4) this
   have h5:=Wt (fun l=>(Oe z l).2) (a::t)
   rw [show ((a::t).any fun l=>(Oe z l).2)=true from l7.2 ⟨lane,lG h1,hz⟩]at h5
   exact bJ h5
  ·have h1:loop (O4 m (Y1 m r)) ([],0)=some []:=by
     refine D2 ?_
     unfold O4
     rw [Uw q];rfl
   have:V7 m r=some []:=by
     unfold V7
     rw [Qm B.toBearM r hr,lB,h1,lB,EN];rfl
   rw [this]at hp
   cases hp
theorem DN {m:Map}(B:BearK m){g g':Agent}(hr:g.Route.length≤1000){z:Int}(h:Jn m g g' z=true):0≤Fe m g.Route z:=by
  unfold Jn at h
  rw [bS]at h
  obtain ⟨p,h1,h2⟩:=l7.1 h.2
  unfold Wd at h2
  simp only [bS,bZ]at h2
  rw [← h2.1.1]
  exact YV B (by omega) h1
/-! ### Along a lane -/
/-- Two agents in a tick: what is known of them. -/
structure Two (m:Map)(s:State)(A:List Agent)(i j:Int)(gi gj gi' gj':Agent):Prop where
  hi:C3 s.Agents i=some gi
  hj:C3 s.Agents j=some gj
  hi':C3 A i=some gi'
  hj':C3 A j=some gj'
  ti:R7 s i=true
  tj:R7 s j=true
  ri:gi.Route.length≤1000
  rj:gj.Route.length≤1000
  oi: ∃a t,gi.Route=a::t∧RouteOK m a t
  oj: ∃a t,gj.Route=a::t∧RouteOK m a t
def EQ (m:Map)(s:State)(A:List Agent)(i j:Int)(gi gj:Agent)(z:Int):Bool:=(JI m s A i z&&JI m s A j z)&& (Na m gi.Route z !=Na m gj.Route z)
def ER (m:Map)(s:State)(A:List Agent)(i j:Int)(gi gj:Agent):List Int:=Bi (fun z (_:Zone)=>if EQ m s A i j gi gj z=true then some (z:Int)else none) 0 m.Zones
theorem eA {m:Map}(B:BearK m){s s':State}{A:List Agent}(hA:s'.Agents=A){i j:Int}{gi gj gi' gj':Agent}(T:Two m s A i j gi gj gi' gj'):Rr m s s' i j=some (ER m s A i j gi gj):=by
  have h2:=B.zones2
  have e:loop (Hm m s s' i j) ([],0)=some (ER m s A i j gi gj):=by
    refine IA m.Zones (fun z (_:Zone)=>if EQ m s A i j gi gj z=true then some (z:Int)else none) id (fun z zn l hz hb=> ?_) (fun l=> ?_)
    ·have ec:EQ m s A i j gi gj (z:Int)=((Jn m gi gi' (z:Int)&&Jn m gj gj' (z:Int))&& (Na m gi.Route (z:Int) !=Na m gj.Route (z:Int))):=by
       unfold EQ JI
       rw [T.hi,T.hj,T.hi',T.hj',T.ti,T.tj,bP,bP]
     have hno:EQ m s A i j gi gj (z:Int)=false→(if EQ m s A i j gi gj (z:Int)=true then some (z:Int)else none)=none:=fun h=>bO (by rw [h];simp)
     unfold Hm
     dsimp only
     rw [K7 (J1 hz),bK,hA,T.hi,lB,T.hj,lB,T.hi',lB,(EP B T.ri z).2,lB,H5 (J1 hz) (by omega),T.hj']
     cases h1:Jn m gi gi' (z:Int)
     ·rw [hno (by rw [ec,h1];rfl)];rfl
     ·simp only [bU,bV,bK,bM,lB,bW,bP]
      rw [(EP B T.rj z).2,lB]
      cases h3:Jn m gj gj' (z:Int)
      ·rw [hno (by rw [ec,h1,h3];rfl)];rfl
      ·have q1:=DN B T.ri h1
       have q2:=DN B T.rj h3
       obtain ⟨_,_,_,g1,_⟩:=GQ q1
       obtain ⟨_,_,_,g2,_⟩:=GQ q2
       have g1:=C9 g1
       have g2:=C9 g2
       rw [wE q1]at g1
       rw [wE q2]at g2
       rw [bU,bM,IE B.toBearM _ (by have:=T.ri;omega),lB,g1,lB,IE B.toBearM _ (by have:=T.rj;omega),lB,g2,lB]
       cases e:(Na m gi.Route (z:Int) !=Na m gj.Route (z:Int))
       ·rw [hno (by rw [ec,h1,h3,e];rfl)];rfl
       ·rw [bN (show EQ m s A i j gi gj (z:Int)=true by rw [ec,h1,h3,e];rfl),bK,Ah,bN (by have:=J1 hz;simp;omega)];rfl
    ·unfold Hm
     dsimp only
     rw [J2];rfl
  unfold Rr
  rw [e];rfl
theorem qX {m:Map}{s:State}(O: ∀g∈s.Agents,∃a t,g.Route=a::t∧RouteOK m a t)(S:SizeS s){A:List Agent}(hA:A.length=s.Agents.length){i j:Int}(hi:R7 s i=true)(hj:R7 s j=true): ∃gi gj gi' gj',Two m s A i j gi gj gi' gj':=by
  obtain ⟨gi,a1,a2,a3,a4,_⟩:=NS hi
  obtain ⟨gj,b1,b2,b3,b4,_⟩:=NS hj
  obtain ⟨gi',c1,_⟩:=CF (l:=A) a3 (by omega)
  obtain ⟨gj',d1,_⟩:=CF (l:=A) b3 (by omega)
  have mi:=lG a2
  have mj:=lG b2
  exact ⟨gi,gj,gi',gj',a1,b1,c1,d1,hi,hj,S.routes gi mi,S.routes gj mj,O gi mi,O gj mj⟩
def KE (s:State)(i:Nat):Nat→Nat→List (Int×Int)
  |0,_=> []
  |k+1,j=>cond (R7 s i&&R7 s j) (((i:Int),(j:Int))::KE s i k (j+1)) (KE s i k (j+1))
def DO (s:State)(n:Nat):Nat→Nat→List (Int×Int)
  |0,_=> []
  |k+1,i=>KE s i (n - (i+1)) (i+1)++DO s n k (i+1)
def Sk (m:Map)(g:Agent)(i:Nat)(st:Int):Option Span:=
  if max 0 (D4 (D4 (g.S - g.Len) - st))≤min (D4 (g.S - st)) (Iz m (g.Route.getD i 0))then some ⟨g.Route.getD i 0,max 0 (D4 (D4 (g.S - g.Len) - st)),min (D4 (g.S - st)) (Iz m (g.Route.getD i 0))⟩else none
/-- The spans of lanes that an agent covers. -/
def R6 (m:Map)(g:Agent):List Span:=if DM g=true then Bi (Sk m g) 0 (StartsM m g.Route)else []
theorem ES {m:Map}(r:List Int):(StartsM m r).length≤r.length:=by
  unfold StartsM Y1
  split
  ·dsimp only;rw [Ld];exact wF _
  ·simp
theorem GR {m:Map}(B:BearM m){g:Agent}(hr:g.Route.length≤1000):Eh m g=some (R6 m g)∧Nq m g=some (R6 m g):=by
  have s1:No g=some (DM g):=rfl
  have s2:Np g=some (DM g):=rfl
  have hsl:=ES (m:=m) g.Route
  have hrt: ∀(i:Nat) st,(StartsM m g.Route)[i]? =some st→C3 g.Route (i:Int)=some (g.Route.getD i 0):=fun i st h=>by
    have:=J1 h
    apply C9
    rw [List.getD,lH (by omega)];rfl
  have e1:loop (Bz m g (StartsM m g.Route)) ([],0)=some (Bi (Sk m g) 0 (StartsM m g.Route)):=by
    refine IA (StartsM m g.Route) (Sk m g) id (fun i st l h hl=> ?_) (fun l=> ?_)
    ·have hi:=J1 h
     unfold Bz Sk
     dsimp only
     rw [K7 hi,bK,C9 h,lB,hrt i st h,H5 hi (by omega)]
     simp only [lB,Da,Dc,Cg,Aa,Yx B,Nb,Il]
     rw [Int.max_comm 0]
     by_cases q:max (D4 (D4 (g.S - g.Len) - st)) 0≤min (D4 (g.S - st)) (Iz m (g.Route.getD i 0))
     ·rw [bN q,bH (by omega),bV,bK,Ah,bN (by simp;omega)];rfl
     ·rw [bO q,bG (by omega)];rfl
    ·unfold Bz
     dsimp only
     rw [J2];rfl
  have e2:loop (Jz m g (StartsM m g.Route)) ([],0)=some (Bi (Sk m g) 0 (StartsM m g.Route)):=by
    refine IA (StartsM m g.Route) (Sk m g) id (fun i st l h hl=> ?_) (fun l=> ?_)
    ·have hi:=J1 h
     unfold Jz Sk
     dsimp only
     rw [K7 hi,bK,C9 h,lB,lB,hrt i st h,H5 hi (by omega)]
     simp only [lB,KC B,Nb,Il]
     by_cases q:max 0 (D4 (D4 (g.S - g.Len) - st))≤min (D4 (g.S - st)) (Iz m (g.Route.getD i 0))
     ·rw [bN q,bG q,bK,Ah,bN (by simp;omega)];rfl
     ·rw [bO q,bH q];rfl
    ·unfold Jz
     dsimp only
     rw [J2];rfl
  unfold Eh Nq R6
  rw [s1,s2,lB,lB]
  cases hs:DM g
  ·exact ⟨rfl,rfl⟩
  ·simp only [bU,bM,if_true]
   rw [QN B _ (by omega),Ux B _ (by omega),lB,lB,e1,e2]
   exact ⟨rfl,rfl⟩
theorem BP (m:Map)(g:Agent):(R6 m g).length≤g.Route.length:=by
  unfold R6
  split
  ·exact wJ (Wu _ _ _) (ES _)
  ·simp
theorem aL {m:Map}{g:Agent}{x:Span}(h:x∈R6 m g):x.From≤x.To:=by
  unfold R6 at h
  split at h
  ·obtain ⟨i,st,_,h⟩:=(Cs _ _).1 h
   unfold Sk at h
   split at h
   ·cases h;assumption
   ·cases h
  ·cases h
def Wz (x y:Span):Bool:=((x.Lane_==y.Lane_)&&decide (x.From≤y.To))&&decide (y.From≤x.To)
def BQ (m:Map)(g g':Agent):Bool:=(R6 m g).any fun x=>(R6 m g').any fun y=>Wz x y
theorem VV {m:Map}(B:BearM m){g g':Agent}(hr:g.Route.length≤1000)(hr':g'.Route.length≤1000):Ci m g g'=some (BQ m g g')∧La m g g'=some (BQ m g g'):=by
  obtain ⟨b1,b2⟩:=GR B hr
  obtain ⟨c1,c2⟩:=GR B hr'
  have l1:=BP m g
  have l2:=BP m g'
  constructor
  ·have inner: ∀x∈R6 m g,F7 (R6 m g') x=some ((R6 m g').any fun y=>Wz x y):=by
     intro x hx
     unfold F7 H7
     refine Tc _ (fun y=>Wz x y) _ (by omega) (fun i y hy=> ?_) (by unfold K9;rw [J2];rfl)
     have o1:=aL hx
     have o2:=aL (lG hy)
     unfold K9 Ft
     rw [K7 (J1 hy),bK,C9 hy,lB]
     simp only [Cg,Aa,Nb,Il]
     unfold Wz
     by_cases e:x.Lane_=y.Lane_
     ·rw [e]
      simp only [beq_self_eq_true,bK,lB,bP]
      by_cases q:x.From≤y.To∧y.From≤x.To
      ·rw [bG q.1,bG q.2,bH (by omega)];rfl
      ·rw [show (decide (x.From≤y.To)&&decide (y.From≤x.To))=false by rw [bX];simpa using q,bG (by omega)];rfl
     ·rw [show (x.Lane_==y.Lane_)=false by simpa using e];rfl
   have outer:G3 (R6 m g) (R6 m g')=some (BQ m g g'):=by
     unfold G3 J0 BQ
     refine Tc _ (fun x=>(R6 m g').any fun y=>Wz x y) _ (by omega) (fun i x hx=> ?_) (by unfold G2;rw [J2];rfl)
     unfold G2 Z4
     rw [K7 (J1 hx),bK,C9 hx,lB,inner x (lG hx)]
     simp only [lB]
     cases (R6 m g').any fun y=>Wz x y<;>rfl
   unfold Ci
   rw [c1,lB,b1,lB,outer];rfl
  ·have inner: ∀(i:Nat) x,(R6 m g)[i]? =some x→loop (Co (R6 m g) (R6 m g') (i:Int)) 0=some (if (R6 m g').any (fun y=>Wz x y)then .inr true else .inl ()):=by
     intro i x hx
     refine IZ (R6 m g') (fun y=>Wz x y) true (fun j y hy=> ?_) (by unfold Co;rw [J2];rfl)
     unfold Co Wz
     rw [K7 (J1 hy),bK,C9 hx,lB,C9 hy,lB,H5 (J1 hy) (by omega)]
     cases e:(x.Lane_==y.Lane_)
     ·rfl
     ·simp only [bK,lB,bP]
      cases e2:decide (x.From≤y.To)
      ·rfl
      ·simp only [bK,lB,bP]
       cases decide (y.From≤x.To)<;>rfl
   have outer:loop (Cp (R6 m g) (R6 m g')) 0=some (if (R6 m g).any (fun x=>(R6 m g').any fun y=>Wz x y)then .inr true else .inl ()):=by
     refine IZ (R6 m g) (fun x=>(R6 m g').any fun y=>Wz x y) true (fun i x hx=> ?_) (by unfold Cp;rw [J2];rfl)
     unfold Cp
     rw [K7 (J1 hx),bK,inner i x hx,H5 (J1 hx) (by omega)]
     cases (R6 m g').any fun y=>Wz x y<;>rfl
   unfold La BQ
   rw [b2,lB,c2,lB,outer]
   cases (R6 m g).any fun x=>(R6 m g').any fun y=>Wz x y<;>rfl
/-- Two agents that may not begin together. -/
def GS (m:Map)(s:State)(A:List Agent)(i j:Int):Bool:=match C3 s.Agents i,C3 s.Agents j with
  |some gi,some gj=>BQ m gi gj||decide (0< (ER m s A i j gi gj).length)
  |_,_=>false
abbrev Nl:State:=⟨0,[],[]⟩
theorem YW {m:Map}(K:KitM m){A:List Agent}(S:SizeS ⟨0,A,[]⟩):loop (Iy m A) (0,(⟨0,A,[]⟩:State))=some ⟨0,A,Qn m ⟨0,A,[]⟩ A⟩:=by
  have hl:A.length≤1000:=S.agents
  have hz:=K.zones2
  refine qW (fun i l=>((i:Int),(⟨0,A,l⟩:State))) A (Yg m ⟨0,A,[]⟩ A) (fun l=>(⟨0,A,l⟩:State)) [] 2 1000000 rfl (by simp;omega) (fun i a _=>wJ (NT _ _ _ _ _) hz) (fun i g l h hb=> ?_) (fun l=> ?_)
  ·have hg:C3 A (i:Int)=some g:=C9 h
   have hr:g.Route.length≤1000:=S.routes g (lG h)
   have e:loop (Ix m A ((i:Int),(⟨0,A,l⟩:State))) (0,(⟨0,A,l⟩:State))=some ⟨0,A,l++Yg m ⟨0,A,[]⟩ A i g⟩:=by
     have th: ∀l',R7 ⟨0,A,l'⟩ (i:Int)=R7 ⟨0,A,[]⟩ (i:Int):=fun _=>rfl
     cases ht:R7 ⟨0,A,[]⟩ (i:Int)
     ·rw [D2 (t:=(⟨0,A,l⟩:State)),YU ht,lP]
      unfold Ix
      dsimp only
      rw [(Uy _ _).2,th,ht]
      cases decide ((0:Int)< (m.Zones.length:Int))<;>rfl
     ·refine qV (fun z l=>((z:Int),(⟨0,A,l⟩:State))) m.Zones (JJ m ⟨0,A,[]⟩ A i) (fun l=>(⟨0,A,l⟩:State)) l 1000000 rfl (by omega) (fun z zn l' hz' hb'=> ?_) (fun l'=> ?_)
      ·unfold Ix JJ
       dsimp only
       rw [K7 (J1 hz'),bK,(Uy _ _).2,lB,th,ht,bP,bK,hg,lB,lB,(EP K.toBearK hr z).2,lB,H5 (J1 hz') (by omega)]
       have e:JI m ⟨0,A,[]⟩ A i z=Jn m g g z:=by
         unfold JI;rw [ht,bP];dsimp only;rw [hg]
       rw [e]
       cases hh:Jn m g g z
       ·rfl
       ·have es:eU m ⟨0,A,[]⟩ (i:Int) (z:Int)=⟨(i:Int),(z:Int),0,JH m g.Route z 0⟩:=by
          unfold eU
          simp only [List.find?_nil,hg]
        rw [bK,lB,(oM K hr z 0).2,lB,Ah,bN (by simp;omega),bN rfl,es];rfl
      ·unfold Ix
       dsimp only
       rw [J2];rfl
   unfold Iy
   dsimp only
   rw [K7 (J1 h),bK,e,lB,H5 (J1 h) (by omega)]
  ·unfold Iy
   dsimp only
   rw [J2];rfl
theorem YX {m:Map}(B:BearK m){s:State}(S:SizeS s)(O: ∀g∈s.Agents,∃a t,g.Route=a::t∧RouteOK m a t)(i:Nat): ∀(k j:Nat),j+k=s.Agents.length→
    loop (Iw m s.Agents ((i:Int),s)) (j:Int)=some (if (KE s i k j).any (fun p=>GS m s s.Agents p.1 p.2)=true then .inr (Nl,12)else .inl ())
  |0,j,hj=>by
   obtain rfl:j=s.Agents.length:=by omega
   rw [D2 (t:= .inl ()) (by unfold Iw;rw [J2];rfl)];rfl
  |k+1,j,hj=>by
   have hjl:j<s.Agents.length:=by omega
   have hn:=S.agents
   have key:Iw m s.Agents ((i:Int),s) (j:Int)=some (if (R7 s i&&R7 s j)&&GS m s s.Agents i j=true then .out (.inr (Nl,12))else .go ((j+1:Nat):Int)):=by
     unfold Iw
     dsimp only
     rw [K7 hjl,bK,(Uy s i).2,lB,H5 hjl (by omega)]
     cases h1:R7 s i
     ·rfl
     ·simp only [bU,bV,bK,bW,bP]
      rw [(Uy s j).2,lB]
      cases h2:R7 s j
      ·rfl
      ·obtain ⟨gi,gj,gi',gj',T⟩:=qX O S rfl h1 h2
       have hbad:GS m s s.Agents i j=(BQ m gi gj||decide (0< (ER m s s.Agents i j gi gj).length)):=by unfold GS;rw [T.hi,T.hj]
       rw [bU,bM,T.hi,T.hj,lB,lB,(VV B.toBearM T.ri T.rj).2,lB,hbad]
       cases BQ m gi gj
       ·rw [bV,bK,eA B rfl T,lB]
        by_cases q:0< (ER m s s.Agents i j gi gj).length
        ·rw [bG (show ((ER m s s.Agents i j gi gj).length:Int)>0 by omega),bG q];rfl
        ·rw [bH (show ¬((ER m s s.Agents i j gi gj).length:Int)>0 by omega),bH q];rfl
       ·rfl
   rw [KE]
   cases h1:(R7 s i&&R7 s j)
   ·rw [h1]at key
    rw [H8 (s':=((j+1:Nat):Int)) (by rw [key];rfl),bM]
    exact YX B S O i k (j+1) (by omega)
   ·rw [h1]at key
    rw [bK,List.any_cons]
    cases h2:GS m s s.Agents i j
    ·rw [h2]at key
     rw [H8 (s':=((j+1:Nat):Int)) (by rw [key];rfl),bW]
     exact YX B S O i k (j+1) (by omega)
    ·rw [h2]at key
     rw [D2 (t:= .inr (Nl,12)) (by rw [key];rfl)];rfl
theorem kD {m:Map}(B:BearK m){s:State}(S:SizeS s)(O: ∀g∈s.Agents,∃a t,g.Route=a::t∧RouteOK m a t): ∀(k i:Nat),i+k=s.Agents.length→
    loop (Fz m s.Agents) ((i:Int),s)=some (if (DO s s.Agents.length k i).any (fun p=>GS m s s.Agents p.1 p.2)=true then .inr (Nl,12)else .inl s)
  |0,i,hi=>by
   obtain rfl:i=s.Agents.length:=by omega
   rw [D2 (t:= .inl s) (by unfold Fz;dsimp only;rw [J2];rfl)];rfl
  |k+1,i,hi=>by
   have hil:i<s.Agents.length:=by omega
   have hn:=S.agents
   have key:Fz m s.Agents ((i:Int),s)=some (if (KE s i (s.Agents.length - (i+1)) (i+1)).any (fun p=>GS m s s.Agents p.1 p.2)=true then .out (.inr (Nl,12))else .go (((i+1:Nat):Int),s)):=by
     unfold Fz
     dsimp only
     rw [K7 hil,bK,H5 hil (by omega),YX B S O i (s.Agents.length - (i+1)) (i+1) (by omega)]
     cases (KE s i (s.Agents.length - (i+1)) (i+1)).any (fun p=>GS m s s.Agents p.1 p.2)<;>rfl
   rw [DO,List.any_append]
   cases h:(KE s i (s.Agents.length - (i+1)) (i+1)).any (fun p=>GS m s s.Agents p.1 p.2)
   ·rw [h]at key
    rw [H8 (s':=(((i+1:Nat):Int),s)) (by rw [key];rfl),bW]
    exact kD B S O k (i+1) (by omega)
   ·rw [h]at key
    rw [D2 (t:= .inr (Nl,12)) (by rw [key];rfl)];rfl
theorem aM (A:List Agent)(l:List Stay)(i:Nat): ∀k j,KE ⟨0,A,l⟩ i k j=KE ⟨0,A,[]⟩ i k j
  |0,_=>rfl
  |k+1,j=>by rw [KE,KE,aM A l i k (j+1)];rfl
theorem VW (A:List Agent)(l:List Stay)(n:Nat): ∀k i,DO ⟨0,A,l⟩ n k i=DO ⟨0,A,[]⟩ n k i
  |0,_=>rfl
  |k+1,i=>by rw [DO,DO,aM,VW A l n k (i+1)]
/-- The first state. -/
def Ns (m:Map)(A:List Agent):State×Int:=
  if GP m ⟨0,A,[]⟩≠0 then (Nl,GP m ⟨0,A,[]⟩)
  else if A.any (fun g=>g.Gone)=true then (Nl,10)
  else if (DO ⟨0,A,[]⟩ A.length A.length 0).any (fun p=>GS m ⟨0,A,[]⟩ A p.1 p.2)=true then (Nl,12)
  else (⟨0,A,Qn m ⟨0,A,[]⟩ A⟩,0)
theorem SV {m:Map}(K:KitM m){A:List Agent}(S:SizeS ⟨0,A,[]⟩)(w: ∀g∈A,g.S≤9223372036854775807):Qg m A=some (Ns m A):=by
  have c2:=(VU K.toBearM S w).2
  have hl:A.length≤1000:=S.agents
  have e2:Qv ⟨0,A,[]⟩=some ⟨0,A,[]⟩:=jX S
  unfold Qg Ns
  rw [e2,lB,c2,lB]
  by_cases q:GP m ⟨0,A,[]⟩=0
  case neg=>
    rw [bN q,show (GP m ⟨0,A,[]⟩ !=0)=true by simpa using q];rfl
  rw [bO (by simp [q]),show (GP m ⟨0,A,[]⟩ !=0)=false by simp [q],bM]
  have O:=(CG K).1 q
  have OR: ∀g∈A,∃a t,g.Route=a::t∧RouteOK m a t:=fun g hg=>by
    obtain ⟨i,hi⟩:=bE hg
    exact (O.agent i g hi).route
  have g2:loop (Ly A) 0=some (if A.any (fun g=>g.Gone)then .inr (Nl,10)else .inl ()):=by
    refine IZ A (fun g=>g.Gone) (Nl,10) (fun i x hx=> ?_) (by unfold Ly;rw [J2];rfl)
    unfold Ly
    rw [K7 (J1 hx),bK,C9 hx,lB,H5 (J1 hx) (by omega)]
    cases x.Gone<;>rfl
  rw [g2]
  cases hG:A.any (fun g=>g.Gone)
  case true=>rfl
  have S':SizeS ⟨0,A,Qn m ⟨0,A,[]⟩ A⟩:=by
    have h1:=QP m ⟨0,A,[]⟩ A
    have h2:A.length*m.Zones.length≤1000*2:=Nat.mul_le_mul hl K.zones2
    exact ⟨hl,by dsimp only at h1 ⊢;omega,S.routes⟩
  have h4:loop (Fz m A) (0,⟨0,A,Qn m ⟨0,A,[]⟩ A⟩)=_:=kD (s:=⟨0,A,Qn m ⟨0,A,[]⟩ A⟩) K.toBearK S' OR A.length 0 (by dsimp only;omega)
  dsimp only at h4
  rw [VW]at h4
  have e5:(fun p:Int×Int=>GS m ⟨0,A,Qn m ⟨0,A,[]⟩ A⟩ A p.1 p.2)=fun p=>GS m ⟨0,A,[]⟩ A p.1 p.2:=rfl
  rw [e5]at h4
  rw [bO (by simp)]
  show (loop (Iy m A) (0,⟨0,A,[]⟩)).bind _=_
  rw [YW K S,lB,h4]
  cases (DO ⟨0,A,[]⟩ A.length A.length 0).any (fun p=>GS m ⟨0,A,[]⟩ A p.1 p.2)<;>rfl
theorem kE {m:Map}(K:KitM m){A:List Agent}(S:SizeS ⟨0,A,[]⟩):SizeS (Ns m A).1:=by
  have h0:SizeS Nl:=⟨by simp,by simp,by simp⟩
  unfold Ns
  split
  ·exact h0
  split
  ·exact h0
  split
  ·exact h0
  have hl:A.length≤1000:=S.agents
  have h1:=QP m ⟨0,A,[]⟩ A
  have h2:A.length*m.Zones.length≤1000*2:=Nat.mul_le_mul hl K.zones2
  exact ⟨hl,by dsimp only at h1 ⊢;omega,S.routes⟩
theorem eB {m:Map}(V:ValR m){a b:Int}(ha:0≤a)(hb:b∈nextOf m a.toNat):Ff m b=Ff m a:=by
  unfold nextOf at hb
  cases h:m.Lanes[a.toNat]? with
  |none=>rw [h]at hb;cases hb
  |some l=>
   rw [h]at hb
   have hb:b∈l.Next:=hb
   have h1:=(firstE_none.1 V.nextE) a.toNat l h
   rw [wI]at h1
   unfold nextE at h1
   obtain ⟨j,hj⟩:=bE hb
   have h2:=(firstE_none.1 h1) j b hj
   have hk:=V.next h hb
   have hn:m.Lanes[b.toNat]? =some m.Lanes[b.toNat]:=lH (by omega)
   unfold BL at h2
   rw [hn]at h2
   dsimp only at h2
   split at h2
   ·cases h2
   ·rename_i q
    unfold Ff
    rw [hn,h]
    exact Decidable.not_not.1 q
theorem NW {m:Map}(V:ValR m): ∀(t:List Int) (a:Int),0≤a→Kd m a t=true→∀x∈a::t,Ff m x=Ff m a
  | [],a,_,_,x,hx=>by simp at hx;rw [hx]
  |b::t,a,ha,h,x,hx=>by
   rw [Kd,bS]at h
   have hb:b∈nextOf m a.toNat:=by simpa using h.1
   have hk:=V.nextOf hb
   rcases lU.1 hx with rfl|hx
   ·rfl
   ·rw [NW V t b (by omega) h.2 x hx,eB V ha hb]
/-- Where an agent is does not matter to how fast it may go. -/
theorem eC {m:Map}{a:Int}{t:List Int}(R:RouteOK m a t){g:Agent}(hg:g.Route=a::t)(h0:0≤g.S):ST m g=Hp (Ff m a):=by
  obtain ⟨x,h1,h2,h3,_⟩:=Wy R hg h0
  unfold ST
  rw [h3]
  dsimp only
  rw [NW R.val t a R.first.1 R.chain x (lG h2)]
theorem oO {m:Map}(V:ValR m)(r:List Int)(z tick:Int):0≤JH m r z tick∧JH m r z tick≤100:=by
  unfold JH
  split
  ·cases hz:m.Zones[z.toNat]? with
   |none=>simp
   |some zn=>
    dsimp only
    split
    ·split<;>simp
    ·have Z:=V.zoneOK (lG hz)
     unfold Oe
     cases hf:zn.Parts.find? (fun p=>p.Lane_==Na m r z)with
     |none=>simp
     |some p=>have:=Z.part p (l8 hf);dsimp only;omega
  ·simp
theorem qY {m:Map}(K:KitM m){s:State}(O:StateOK m s)(i z:Int):0≤(eU m s i z).Since∧(eU m s i z).Since≤s.Tick∧0≤(eU m s i z).Rank∧(eU m s i z).Rank≤100:=by
  unfold eU
  cases hf:s.In.find? (oN i z)with
  |some x=>
   have:=O.rank x (l8 hf)
   unfold Vc at this
   simp only [bY,wA]at this
   dsimp only
   omega
  |none=>
   have:=O.tick
   dsimp only
   cases C3 s.Agents i with
   |none=>dsimp only;omega
   |some g=>have:=oO K.val g.Route z s.Tick;dsimp only;omega
theorem qZ {m:Map}(K:KitM m){s s':State}(O:StateOK m s)(A:List Agent)(hn:s'.Agents.length=s.Agents.length)(ht:s.Tick≤s'.Tick)(hI:s'.In=Qn m s A):
    (∀(i:Nat) x,s'.In[i]? =some x→Yz m s' x=false)∧(∀(i:Nat) x y,s'.In[i]? =some x→s'.In[i+1]? =some y→Sq x y=true)∧(∀x∈s'.In,Vc s' x=false):=by
  rw [hI]
  refine ⟨fun i x hx=> ?_,fun i x y hx hy=> ?_,fun x hx=> ?_⟩
  ·obtain ⟨a,z,h1,h2,_,rfl⟩:=stays_mem.1 (lG hx)
   have k:=aK m s a z
   unfold Yz
   rw [k.1,k.2]
   simp only [bY,wA]
   omega
  ·have hs:=YT m s A
   have h1:=J1 hy
   have:=List.pairwise_iff_getElem.1 hs i (i+1) (by omega) h1 (by omega)
   rw [lH (by omega)]at hx hy
   rw [lD hx,lD hy]at this
   exact this
  ·obtain ⟨a,z,h1,h2,_,rfl⟩:=stays_mem.1 hx
   have:=qY K O a z
   unfold Vc
   simp only [bY,wA]
   omega
theorem IF {m:Map}{a:Int}{t:List Int}(R:RouteOK m a t):(a::t).length≤8:=by
  have:=R.most
  rw [lL];omega
theorem IG {m:Map}(K:KitM m)(n:Int): ∃a t,Ka m n=some (a::t)∧RouteOK m a t:=by
  obtain ⟨a,t,h1,h2,h3⟩:=SP K.toBearM K.val n
  exact ⟨a,t,h1,jS K.val h2 h3⟩
theorem SW {m:Map}(K:KitM m)(n:Int): ∃a t,Dv m n=some (a::t)∧RouteOK m a t:=by
  have step: ∀x:Int,0≤x→x<4→∃a t,RouteOK m a t∧(Ac m n x=some (.out (.inr (a::t)))∨Ac m n x=some (.go (x+1))):=by
    intro x h0 h1
    obtain ⟨a,t,e,R⟩:=IG K (D4 (n % 1048576+x))
    obtain ⟨l,hl⟩: ∃l,m.Lanes[a.toNat]? =some l:=⟨_,lH (by have:=R.first;omega)⟩
    have hg:=C9 hl
    rw [wE R.first.1]at hg
    refine ⟨a,t,R,?_⟩
    unfold Ac
    rw [bG h1,bK,Us (by omega) (by omega),lB,e,lB,bG (show (((a::t).length:Nat):Int)>0 by rw [lL];omega),bK,show C3 (a::t) 0=some a from rfl,lB,bK,hg,lB,E6 (by omega)]
    cases l.Kind==1
    ·exact .inr rfl
    ·exact .inl rfl
  have key: ∀(k:Nat) (x:Int),0≤x→x+k=4→∃a t,RouteOK m a t∧thenS (loop (Ac m n) x) (fun _=>(Ka m 0).bind fun v5=>some v5) (fun r=>some r)=some (a::t):=by
    intro k
    induction k with
    |zero=>
     intro x h0 hx
     obtain ⟨a,t,e,R⟩:=IG K 0
     refine ⟨a,t,R,?_⟩
     rw [D2 (t:= .inl ()) (by unfold Ac;rw [bH (by omega)];rfl)]
     show (Ka m 0).bind _=_
     rw [e];rfl
    |succ k ih=>
     intro x h0 hx
     obtain ⟨a,t,R,h|h⟩:=step x h0 (by omega)
     ·refine ⟨a,t,R,?_⟩
      rw [D2 h];rfl
     ·obtain ⟨a,t,R,e⟩:=ih (x+1) (by omega) (by omega)
      refine ⟨a,t,R,?_⟩
      rw [H8 h];exact e
  obtain ⟨a,t,R,e⟩:=key 4 0 (by omega) (by omega)
  exact ⟨a,t,e,R⟩
/-- What the kit makes of an actor. -/
structure KAgent (m:Map)(first:Bool)(g:Agent):Prop where
  route: ∃a t,g.Route=a::t∧RouteOK m a t
  len:300≤g.Len∧g.Len≤5000
  begin:0≤g.Begin∧g.Begin≤40
  S:0≤g.S∧g.S≤LongM m g.Route
  V:0≤g.V∧g.V≤(ST m g).1
  gone:g.Gone=false
  late:g.Begin>0→g.S=0
  first:first=true→g.Begin=0∧g.Obey=false
theorem QQ {m:Map}(K:KitM m)(p:KitActor)(first:Bool): ∃g,Tk m p first=some g∧KAgent m first g∧(p.Len=0→g.Len=300)∧(first=true→Dv m p.R=some g.Route):=by
  obtain ⟨a1,t1,e1,R1⟩:=IG K p.R
  obtain ⟨a2,t2,e2,R2⟩:=SW K p.R
  have hy: ∃a t o,(cond first ((Dv m p.R).bind fun v3=>some (v3,false)) (some (a1::t1,(!p.Disobeys))))=some (a::t,o)∧RouteOK m a t∧(first=true→o=false)∧(first=true→Dv m p.R=some (a::t)):=by
    cases first
    ·exact ⟨a1,t1,_,rfl,R1,nofun,nofun⟩
    ·rw [e2];exact ⟨a2,t2,_,rfl,R2,fun _=>rfl,fun _=>rfl⟩
  obtain ⟨a,t,o,e3,R,ho,hrr⟩:=hy
  obtain ⟨l,hl⟩: ∃l,m.Lanes[a.toNat]? =some l:=⟨_,lH (by have:=R.first;omega)⟩
  have hg:=C9 hl
  rw [wE R.first.1]at hg
  have hk:Ff m a=l.Kind:=by unfold Ff;rw [hl];rfl
  have hT:=KO (Ff m a)
  have hL:=Pk R
  have hr:=IF R
  have m1: ∀n:Int,0≤n % ((Hp (Ff m a)).1+1)∧n % ((Hp (Ff m a)).1+1)≤(Hp (Ff m a)).1:=fun n=>by
    have h1:=wP n (show (Hp (Ff m a)).1+1≠0 by omega)
    have h2:=wQ n (show 0< (Hp (Ff m a)).1+1 by omega)
    omega
  have m2: ∀n:Int,0≤n % (LongM m (a::t)+1)∧n % (LongM m (a::t)+1)≤LongM m (a::t):=fun n=>by
    have h1:=wP n (show LongM m (a::t)+1≠0 by omega)
    have h2:=wQ n (show 0<LongM m (a::t)+1 by omega)
    omega
  have len: ∃L,(cond (decide ((Hp (Ff m a)).1<1000)) (some 300) (some (D4 (300+p.Len % 4700))))=some L∧(300≤L∧L≤5000)∧(p.Len=0→L=300):=by
    cases decide ((Hp (Ff m a)).1<1000)
    ·exact ⟨_,rfl,by rw [E6 (by omega)];omega,fun h=>by rw [h];rfl⟩
    ·exact ⟨_,rfl,by omega,fun _=>rfl⟩
  obtain ⟨L,eL,bL,bL0⟩:=len
  have hv:=m1 p.V
  have hs:=m2 p.S
  have fin: ∀S B:Int,0≤S→S≤LongM m (a::t)→0≤B→B≤40→(B>0→S=0)→(first=true→B=0)→KAgent m first ⟨a::t,S,p.V % ((Hp (Ff m a)).1+1),L,B,o,false⟩∧(p.Len=0→L=300)∧(first=true→Dv m p.R=some (a::t)):=by
    intro S B h1 h2 h3 h4 h5 h6
    refine ⟨?_,bL0,hrr⟩
    refine ⟨⟨a,t,rfl,R⟩,bL,⟨h3,h4⟩,⟨h1,h2⟩,?_,rfl,h5,fun h=>⟨h6 h,ho h⟩⟩
    rw [eC R rfl h1]
    exact hv
  unfold Tk
  rw [e1,lB,Tb (by omega) (by omega),lB,e3,lB]
  dsimp only
  rw [show C3 (a::t) 0=some a from rfl,lB,hg,lB,Yd,lB,← hk,E6 (by omega),Tb (by omega) (by omega),lB,eL,lB,BO K.toBearM _ (by omega),lB,E6 (by omega),Tb (by omega) (by omega),lB]
  cases hf:first
  ·rw [bV,bK,Us (by omega) (by omega),lB,bP]
   by_cases q:p.Begin % 4=3
   ·rw [show (p.Begin % 4==3)=true by simpa using q,bK,Us (by omega) (by omega),lB]
    rw [hf]at fin
    exact ⟨_,rfl,fin 0 (p.Begin % 40) (by omega) (by omega) (by omega) (by omega) (fun _=>rfl) nofun⟩
   ·rw [show (p.Begin % 4==3)=false by simpa using q,bM]
    rw [hf]at fin
    exact ⟨_,rfl,fin _ 0 hs.1 hs.2 (by omega) (by omega) (fun h=>absurd h (by omega)) nofun⟩
  ·rw [hf]at fin
   exact ⟨_,rfl,fin _ 0 hs.1 hs.2 (by omega) (by omega) (fun h=>absurd h (by omega)) fun _=>rfl⟩
structure KList (m:Map)(A:List Agent):Prop where
  few:A.length≤8
  ok: ∀(i:Nat) g,A[i]? =some g→KAgent m (decide (i=0)) g
theorem KList.size {m:Map}{A:List Agent}(h:KList m A):SizeS ⟨0,A,[]⟩:=by
  refine ⟨by have:=h.few;dsimp only;omega,by simp,fun g hg=> ?_⟩
  obtain ⟨i,hi⟩:=bE hg
  obtain ⟨a,t,hR,R⟩:=(h.ok i g hi).route
  have:=IF R
  rw [hR];omega
theorem KList.wf {m:Map}{A:List Agent}(h:KList m A): ∀g∈A,g.S≤9223372036854775807:=fun g hg=>by
  obtain ⟨i,hi⟩:=bE hg
  have k:=h.ok i g hi
  obtain ⟨a,t,hR,R⟩:=k.route
  have h1:=Pk R
  have h2:=k.S
  rw [hR]at h2
  omega
theorem KList.chk {m:Map}(K:KitM m){A:List Agent}(h:KList m A)(hn:A≠ []):StateOK m ⟨0,A,[]⟩:=by
  refine ⟨by dsimp only;omega,⟨List.length_pos_iff.2 hn,h.few⟩,fun i g hg=> ?_,fun i x hx=>by simp at hx,fun i x y hx=>by simp at hx,fun x hx=>by simp at hx⟩
  have k:=h.ok i g hg
  obtain ⟨a,t,hR,R⟩:=k.route
  have hL:=Pk R
  rw [← hR]at hL
  have hS:=k.S
  have hl:=k.len
  have hb:=k.begin
  refine ⟨k.route,by omega,by omega,by omega,k.V,?_,?_,fun h0=>(k.first (by simpa using h0)).1⟩
  ·rw [k.gone];unfold GO;rw [E6 (by omega),bH (by omega)]
  ·rintro ⟨q,q2⟩
   exact q2 (k.late q)
theorem kF {m:Map}(K:KitM m){A:List Agent}(h:(Ns m A).2=0):(Ns m A).1=⟨0,A,Qn m ⟨0,A,[]⟩ A⟩∧StateOK m (Ns m A).1:=by
  unfold Ns at h ⊢
  by_cases q:GP m ⟨0,A,[]⟩=0
  case neg=>rw [bN q]at h;exact absurd h q
  rw [bO (by simp [q])]at h ⊢
  by_cases g:A.any (fun g=>g.Gone)=true
  ·rw [bN g]at h;cases h
  rw [bO g]at h ⊢
  by_cases b:(DO ⟨0,A,[]⟩ A.length A.length 0).any (fun p=>GS m ⟨0,A,[]⟩ A p.1 p.2)=true
  ·rw [bN b]at h;cases h
  rw [bO b]
  have O:=(CG K).1 q
  refine ⟨rfl,?_⟩
  obtain ⟨i1,i2,i3⟩:=qZ K (s':=⟨0,A,Qn m ⟨0,A,[]⟩ A⟩) O A rfl (Int.le_refl _) rfl
  exact ⟨O.tick,O.num,fun i g hg=>by have x:=O.agent i g hg;exact ⟨x.route,x.len,x.begin,x.S,x.V,x.gone,x.late,x.first⟩,i1,i2,i3⟩
theorem oP {m:Map}(K:KitM m){g:Agent}(h:KAgent m true g):(Ns m [g]).2=0:=by
  have L:KList m [g]:=⟨by simp,fun i g' hg=>by
    cases i with
    |zero=>cases hg;exact h
    |succ i=>simp at hg⟩
  have q:=(CG K).2 (L.chk K (by simp))
  unfold Ns
  rw [bO (by simp [q]),bO (by simp [h.gone])]
  rfl
theorem StateOK.size {m:Map}(K:KitM m){s:State}(O:StateOK m s)(h:s.In.length≤1000000):SizeS s:=by
  refine ⟨by have:=O.num;omega,h,fun g hg=> ?_⟩
  obtain ⟨i,hi⟩:=bE hg
  obtain ⟨a,t,hR,R⟩:=(O.agent i g hi).route
  have:=IF R
  rw [hR];omega
def sN (m:Map)(l:List Agent)(s:State):Prop:=KList m l∧(l≠ []→s=(Ns m l).1∧(Ns m l).2=0)
theorem ET {m:Map}(K:KitM m)(ps:List KitActor)(hp:ps.length≤7): ∀(k idx:Nat) (l:List Agent) (s:State),idx+k=ps.length→l.length≤idx→sN m l s→∃l' s',loop (Ga m ps) (l,(idx:Int),s)=some (l',s')∧sN m l' s'∧l'.length≤ps.length
  |0,idx,l,s,hi,hl,I=>by
   obtain rfl:idx=ps.length:=by omega
   exact ⟨l,s,D2 (by unfold Ga;dsimp only;rw [J2];rfl),I,hl⟩
  |k+1,idx,l,s,hi,hl,I=>by
   have hidx:idx<ps.length:=by omega
   have hlen:l.length≤7:=by omega
   obtain ⟨p,hpx⟩: ∃p,ps[idx]? =some p:=⟨_,lH hidx⟩
   obtain ⟨g,hg,kg,_⟩:=QQ K p ((l.length:Int)==0)
   have L':KList m (l++ [g]):=by
     refine ⟨by simp;omega,fun i g' hg'=> ?_⟩
     by_cases q:i<l.length
     ·rw [lZ q]at hg';exact I.1.ok i g' hg'
     ·have hlt:=J1 hg'
      rw [lM,List.length_singleton]at hlt
      obtain rfl:i=l.length:=by omega
      rw [lY (wF _),Nat.sub_self]at hg'
      cases hg'
      have:decide (l.length=0)=((l.length:Int)==0):=by
        by_cases h0:l.length=0
        ·simp [h0]
        ·simp [h0]
      rw [this];exact kg
   have e:=SV K L'.size L'.wf
   have key:Ga m ps (l,(idx:Int),s)=some (if (Ns m (l++ [g])).2=0 then .go ((Ns m (l++ [g])).1.Agents,((idx+1:Nat):Int),(Ns m (l++ [g])).1)else .go (l,((idx+1:Nat):Int),s)):=by
     unfold Ga
     dsimp only
     rw [K7 hidx,bG (show (l.length:Int)<8 by omega),Bool.and_self,bK,NQ (by omega),lB,C9 hpx,lB,hg,lB,Ah,bN (by simp;omega),lB,e,lB,H5 hidx (by omega)]
     by_cases q:(Ns m (l++ [g])).2=0
     ·rw [bN q,q];rfl
     ·rw [bO q,show ((Ns m (l++ [g])).2==0)=false by simpa using q];rfl
   by_cases q:(Ns m (l++ [g])).2=0
   ·rw [bN q]at key
    have n:=kF K q
    have ea:(Ns m (l++ [g])).1.Agents=l++ [g]:=by rw [n.1]
    rw [ea]at key
    rw [H8 key]
    exact ET K ps hp k (idx+1) _ _ (by omega) (by simp;omega) ⟨L',fun _=>⟨rfl,q⟩⟩
   ·rw [bO q]at key
    rw [H8 key]
    exact ET K ps hp k (idx+1) _ _ (by omega) (by omega) I
theorem eD {m:Map}(K:KitM m)(ps:List KitActor)(hp:ps.length≤7): ∃A,Tl m ps=some (Ns m A).1∧(Ns m A).2=0∧KList m A∧0<A.length∧(A.length≤1∨A.length≤ps.length):=by
  have L0:KList m []:=⟨by simp,fun i g h=>by simp at h⟩
  have e0:=SV K L0.size L0.wf
  obtain ⟨l,s,e,I,hll⟩:=ET K ps hp ps.length 0 [] (Ns m []).1 (by omega) (by simp) ⟨L0,fun h=>absurd rfl h⟩
  have e:loop (Ga m ps) ([],0,(Ns m []).1)=some (l,s):=e
  unfold Tl
  rw [e0,lB,e,lB]
  dsimp only
  by_cases h:l= []
  ·subst h
   obtain ⟨g,hg,kg,h300⟩:=QQ K ⟨0,1048576,0,0,0,false⟩ true
   have hlen:=h300.1 rfl
   have kg':KAgent m true ⟨g.Route,D4 (g.Len+1),0,g.Len,g.Begin,g.Obey,g.Gone⟩:=by
     obtain ⟨a,t,hR,R⟩:=kg.route
     have hL:=Pk R
     rw [← hR]at hL
     have hT:=KO
     refine ⟨kg.route,kg.len,kg.begin,?_,?_,kg.gone,fun h=> ?_,kg.first⟩
     ·show 0≤D4 (g.Len+1)∧D4 (g.Len+1)≤LongM m g.Route
      rw [hlen,E6 (by omega)];omega
     ·have:=KO (Ff m (Vo m ⟨g.Route,D4 (g.Len+1),0,g.Len,g.Begin,g.Obey,g.Gone⟩).1)
      exact ⟨Int.le_refl _,this.1⟩
     ·have:=(kg.first rfl).1
      dsimp only at h
      omega
   have L:KList m [⟨g.Route,D4 (g.Len+1),0,g.Len,g.Begin,g.Obey,g.Gone⟩]:=⟨by simp,fun i g' hg=>by
     cases i with
     |zero=>cases hg;exact kg'
     |succ i=>simp at hg⟩
   refine ⟨_,?_,oP K kg',L,by simp, .inl (by simp)⟩
   rw [show (((([]:List Agent).length:Nat):Int)==0)=true from rfl,bK,hg,lB,SV K L.size L.wf];rfl
  ·have:=I.2 h
   have hl:=List.length_pos_iff.2 h
   refine ⟨l,?_,this.2,I.1,hl, .inr hll⟩
   rw [show ((l.length:Int)==0)=false by simp;exact h,bM,this.1]
theorem kG {m:Map}(K:KitM m)(ps:List KitActor)(hp:ps.length≤7): ∃A,Tl m ps=some (Ns m A).1∧(Ns m A).2=0∧KList m A:=by
  obtain ⟨A,h1,h2,h3,_⟩:=eD K ps hp
  exact ⟨A,h1,h2,h3⟩
theorem oQ {m:Map}{s:State}(O:StateOK m s): ∀g∈s.Agents,g.S≤9223372036854775807:=fun g hg=>by
  obtain ⟨i,hi⟩:=bE hg
  have k:=O.agent i g hi
  obtain ⟨a,t,hR,R⟩:=k.route
  have h1:=Pk R
  have h2:=k.S
  have h3:=k.len
  rw [hR]at h2
  omega
theorem eE {m:Map}(B:BearM m){a:Int}{t:List Int}(R:RouteOK m a t){g:Agent}(hg:g.Route=a::t)(h0:0≤g.S)(h1:g.S≤9223372036854775807):BG m g.Route g.S=some (if g.S≤LongM m g.Route then ((Vo m g).1,(Vo m g).2,true)else (0,0,false)):=by
  obtain ⟨x,q1,q2,q3,q4,q5⟩:=Wy R hg h0
  have hm7:=R.most
  have hr:g.Route.length≤1000000:=by rw [hg];simp;omega
  have hl:=Ld m (a::t) 0
  have hbd:=R.bd (i:=EO m g) (by omega)
  have hs:C3 (N6 m 0 (a::t)) ((EO m g:Nat):Int)=some (Lg m (a::t) (EO m g)):=RouteOK.starts q1
  unfold BG
  rw [Ux B _ hr,lB,BO B _ hr,bH (show ¬g.S<0 by omega)]
  have e0:((StartsM m g.Route).length:Int)=((a::t).length:Nat):=by rw [hg,R.StartsM,hl]
  rw [e0,show ((((a::t).length:Nat):Int)==0)=false by simp;omega]
  simp only [Bool.or_self,bV,bK,lB,bW]
  by_cases q:g.S≤LongM m g.Route
  ·rw [bN q,bH (show ¬g.S>LongM m g.Route by omega),bM,hg,R.StartsM]
   have:=aH g (N6 m 0 (a::t)) (by rw [hl];simp;omega) (N6 m 0 (a::t)) 0 0 rfl (by omega)
   have e:EO m g=Sj g.S 0 0 (N6 m 0 (a::t)):=by unfold EO;rw [hg,R.StartsM]
   rw [← e]at this
   have this:loop (BF g.S (N6 m 0 (a::t))) (0,0)=some ((EO m g:Nat):Int):=this
   rw [this,lB,C9 q2,lB,hs,lB,q3,E6 (by omega)]
  ·rw [bO q,bG (show g.S>LongM m g.Route by omega)];rfl
/-- The spot of an offset of a lane. -/
def Ct (m:Map)(x s:Int):Spot:=((C3 m.Lanes x).bind fun l=>Jl l.Curve_ s).getD ⟨0,0⟩
theorem CH {m:Map}(V:ValR m){x:Int}(h0:0≤x)(h1:x<m.Lanes.length){s:Int}(hs:Ik s): ∃l,C3 m.Lanes x=some l∧Jl l.Curve_ s=some (Ct m x s)∧Um l.Curve_ s=some (Ct m x s)∧Kk (Ct m x s)=true:=by
  have hl:m.Lanes[x.toNat]? =some m.Lanes[x.toNat]:=lH (by omega)
  have hg:=C9 hl
  rw [wE h0]at hg
  have hV:Valid m.Lanes[x.toNat].Curve_.Pts:=checkM_zero.1 (V.laneOK hl).curve
  have hm:=hV.most
  obtain ⟨A,e⟩:=VE hV (by omega) hs
  obtain ⟨p,e1,e2⟩:=nS m.Lanes[x.toNat].Curve_ (by omega) s hs
  have h:Ct m x s=p:=by unfold Ct;rw [hg,lB,e1];rfl
  refine ⟨_,hg,by rw [h,e1],by rw [h,e2],?_⟩
  rw [h]
  obtain rfl:=lD (e1.symm.trans e)
  obtain ⟨o1,o2⟩:=iW A hV
  have:=A.l1
  have:=A.hs
  exact iZ o1 o2 (by omega) (by omega)
/-- The spot of a coordinate of a route. -/
def SX (m:Map)(r:List Int)(s:Int):Spot:=Ct m (Vo m ⟨r,max 0 (min s (LongM m r)),0,0,0,false,false⟩).1 (Vo m ⟨r,max 0 (min s (LongM m r)),0,0,0,false,false⟩).2
theorem YY {m:Map}(B:BearM m){a:Int}{t:List Int}(R:RouteOK m a t)(s:Int):Rs m (a::t) s=some (SX m (a::t) s)∧MV m (a::t) s=some (SX m (a::t) s)∧Kk (SX m (a::t) s)=true:=by
  have hL:=Pk R
  have hm7:=R.most
  have hr:(a::t).length≤1000000:=by simp;omega
  unfold SX
  generalize hg:(⟨a::t,max 0 (min s (LongM m (a::t))),0,0,0,false,false⟩:Agent)=g
  have hR:g.Route=a::t:=by rw [← hg]
  have hS:g.S=max 0 (min s (LongM m (a::t))):=by rw [← hg]
  obtain ⟨x,q1,q2,q3,q4,q5⟩:=Wy R hR (by omega)
  have hx:=R.mem (lG q2)
  have hb:=R.bd (Nat.le_of_lt q1)
  obtain ⟨l,k1,k2,k3,k4⟩:=CH R.val hx.1 hx.2 (s:=g.S - Lg m (a::t) (EO m g)) (by unfold Ik;omega)
  have h1:Oc m (a::t) g.S=some (x,g.S - Lg m (a::t) (EO m g),true):=by
    obtain ⟨k,y,p1,p2,p3,p4⟩:=jV B R (s:=g.S) (by omega) (by rw [← R.LongM];omega)
    have hk:k=EO m g:=by
      have:=J1 p1
      rcases Nat.lt_trichotomy k (EO m g)with h|h|h
      ·have:=p4 _ h q1;omega
      ·exact h
      ·have:=q5 _ h this;omega
    subst hk
    rw [q2]at p1
    obtain rfl:=lD p1
    exact p2
  have h2:=eE B R hR (by omega) (by omega)
  rw [hR,bN (show g.S≤LongM m (a::t) by omega),q3]at h2
  refine ⟨?_,?_,by rw [q3];exact k4⟩
  ·unfold Rs
   rw [SS B _ hr,lB,Nb,Il,← hS,h1,lB,k1,lB,k2,q3];rfl
  ·unfold MV
   rw [BO B _ hr,lB,Nb,Il,← hS,h2,lB,k1,lB,k3,q3];rfl
/-! ### The part of a body on a span -/
/-- Two spans of a lane together. -/
def PA (x p:Span):Option Span:=if max p.From x.From≤min p.To x.To then some ⟨x.Lane_,max p.From x.From,min p.To x.To⟩else none
def eF (m:Map)(g:Agent)(x:Span):Option Span:=((R6 m g).find? fun p=>p.Lane_==x.Lane_).bind (PA x)
theorem JK {α β:Type}(P:α→Bool)(f:α→β): ∀(l:List α) (k:Nat),K0 (fun _ a=>if P a=true then some (f a)else none) k l=(l.find? P).map f
  | [],_=>rfl
  |a::r,k=>by
   rw [K0,List.find?_cons]
   cases P a
   ·exact JK P f r (k+1)
   ·rfl
theorem kH (m:Map)(g:Agent)(hl:(R6 m g).length≤1000)(x:Span): ∃y,Ru (R6 m g) x=some (y,(eF m g x).isSome)∧∀z,eF m g x=some z→y=⟨z.From,z.To⟩:=by
  unfold Ru
  rw [As (R6 m g) (Od (R6 m g) x) (fun _ p=>if (p.Lane_==x.Lane_)=true then some (⟨max p.From x.From,min p.To x.To⟩,!decide (max p.From x.From>min p.To x.To))else none) (fun i p hp=>by
   unfold Od
   rw [K7 (J1 hp),bK,C9 hp,lB]
   cases p.Lane_==x.Lane_
   ·rw [bM,H5 (J1 hp) (by omega)];rfl
   ·simp only [bK,Cg,Aa,Nb,Il,lB];rfl) (by unfold Od;rw [J2];rfl),JK]
  unfold eF
  cases (R6 m g).find? fun p=>p.Lane_==x.Lane_ with
  |none=>exact ⟨_,rfl,nofun⟩
  |some p=>
   refine ⟨⟨max p.From x.From,min p.To x.To⟩,?_,fun z hz=> ?_⟩
   ·show some (_,!decide _)=_
    rw [lB]
    unfold PA
    by_cases q:max p.From x.From≤min p.To x.To
    ·rw [bN q,bH (by omega)];rfl
    ·rw [bO q,bG (by omega)];rfl
   ·rw [lB]at hz
    unfold PA at hz
    split at hz
    ·cases hz;rfl
    ·cases hz
theorem VX {m:Map}(V:ValR m): ∀(t:List Int) (a:Int),0≤a→Kd m a t=true→(a::t).Pairwise (· < ·)
  | [],a,_,_=>by simp
  |b::t,a,ha,h=>by
   rw [Kd,bS]at h
   have hk:=V.nextOf (a:=a.toNat) (k:=b) (by simpa using h.1)
   have ih:=VX V t b (by omega) h.2
   refine bC.2 ⟨fun x hx=> ?_,ih⟩
   rcases lU.1 hx with rfl|hx
   ·omega
   ·have:=(bC.1 ih).1 x hx;omega
theorem VY (m:Map)(g:Agent): ∀(l:List Int) (k:Nat),k+l.length≤g.Route.length→((Bi (Sk m g) k l).map (·.Lane_)).Sublist (g.Route.drop k)
  | [],k,_=>by simp [Bi]
  |a::l,k,hk=>by
   rw [lL]at hk
   rw [Bi]
   have ih:=VY m g l (k+1) (by omega)
   rw [List.drop_eq_getElem_cons (show k<g.Route.length by omega)]
   cases h:Sk m g k a with
   |none=>exact ih.cons _
   |some p=>
    have:p.Lane_=g.Route[k]:=by
      unfold Sk at h
      split at h
      ·cases h;simp [List.getD,lH (show k<g.Route.length by omega)]
      ·cases h
    dsimp only
    rw [lR,this]
    exact ih.cons_cons _
/-- The spans of a body lie on lanes of their own. -/
theorem oR {m:Map}{a:Int}{t:List Int}(R:RouteOK m a t){g:Agent}(hg:g.Route=a::t):((R6 m g).map (·.Lane_)).Pairwise (· < ·):=by
  unfold R6
  split
  ·refine List.Pairwise.sublist (VY m g (StartsM m g.Route) 0 (by have:=ES (m:=m) g.Route;omega)) ?_
   rw [List.drop_zero,hg]
   exact VX R.val t a R.first.1 R.chain
  ·exact List.Pairwise.nil
theorem oT {m:Map}{g:Agent}{x y:Span}(h:eF m g x=some y):y.Lane_=x.Lane_∧y.From≤y.To∧x.From≤y.From∧y.To≤x.To:=by
  unfold eF at h
  cases hf:(R6 m g).find? fun p=>p.Lane_==x.Lane_ with
  |none=>rw [hf]at h;cases h
  |some p=>
   rw [hf,lB]at h
   unfold PA at h
   split at h
   ·cases h;dsimp only;omega
   ·cases h
/-- The others that are there. -/
def Cu (s:State):List Agent:=Bi (fun i g=>if R7 s (i:Int)=true then some g else none) 1 (s.Agents.drop 1)
theorem YZ (s:State):Cu s=Bi (fun i g=>if 0<i∧R7 s (i:Int)=true then some g else none) 0 s.Agents:=by
  have key: ∀(l:List Agent) (k:Nat),0<k→Bi (fun i g=>if R7 s (i:Int)=true then some g else none) k l=Bi (fun i g=>if 0<i∧R7 s (i:Int)=true then some g else none) k l:=by
    intro l
    induction l with
    |nil=>intro k _;rfl
    |cons a r ih=>
     intro k hk
     rw [Bi,Bi,ih (k+1) (by omega)]
     by_cases h:R7 s (k:Int)=true
     ·rw [bN h,bN ⟨hk,h⟩]
     ·rw [bO h,bO (fun q=>h q.2)]
  unfold Cu
  cases s.Agents with
  |nil=>rfl
  |cons a r=>
   rw [List.drop_one,List.tail_cons,key r 1 (by omega)]
   symm
   rw [Bi,bO (by omega)]
theorem ZA {s:State}{g:Agent}(h:g∈Cu s): ∃i:Nat,0<i∧s.Agents[i]? =some g∧R7 s (i:Int)=true:=by
  obtain ⟨j,a,h1,h2⟩:=(Cs _ _).1 h
  split at h2
  ·cases h2
   rename_i q
   refine ⟨1+j,by omega,?_,q⟩
   rw [bA]at h1
   exact h1
  ·cases h2
/-- Does a body hide a spot of a cell from the eye? -/
def QR (m:Map)(eye p:Spot)(x:Span)(g:Agent):Bool:=(!(eF m g x).isSome)&&GL eye p (SX m g.Route g.S) (SX m g.Route (D4 (g.S - g.Len)))
def aN (m:Map)(s:State)(eye:Spot)(view:Int)(p:Spot)(x:Span):Bool:=DH eye p view&& !((Cu s).any (QR m eye p x))
/-- The eye. -/
def IH (m:Map)(s:State):Spot:=SX m (s.Agents.getD 0 default).Route (s.Agents.getD 0 default).S
def Xa (m:Map)(s:State)(view:Int)(x:Span):Bool:=aN m s (IH m s) view (Ct m x.Lane_ x.From) x&&aN m s (IH m s) view (Ct m x.Lane_ x.To) x
/-- What a vehicle looks with. -/
def Pl (m:Map)(s:State)(view:Int):WorldLooks:=⟨m,IH m s,view,(Cu s).map (R6 m),(Cu s).map fun g=>⟨SX m g.Route g.S,SX m g.Route (D4 (g.S - g.Len))⟩⟩
section
variable {m:Map}{s:State}
theorem StateOK.eye (O:StateOK m s): ∃g,C3 s.Agents 0=some g∧s.Agents[0]? =some g∧s.Agents.getD 0 default=g:=by
  have:=O.num
  have h:s.Agents[0]? =some s.Agents[0]:=lH (by omega)
  exact ⟨_,C9 h,h,by rw [List.getD,h];rfl⟩
theorem oU (B:BearM m)(O:StateOK m s)(view:Int):Mx m s view=some (Pl m s view):=by
  obtain ⟨g0,e1,e2,e3⟩:=O.eye
  have hn:=O.num
  unfold Mx
  obtain ⟨a,t,hR,R⟩:=(O.agent 0 g0 e2).route
  have he:Rs m g0.Route g0.S=some (IH m s):=by
    unfold IH
    rw [e3,hR];exact (YY B R _).1
  rw [e1,lB,lB,he,lB]
  rw [jD (F:=Kb m s) (S0:=(0,([],[]))) (fun i l=>((i:Int),(l.map (R6 m),l.map fun g=>(⟨SX m g.Route g.S,SX m g.Route (D4 (g.S - g.Len))⟩:WorldBar)))) s.Agents (fun i g=>if 0<i∧R7 s (i:Int)=true then some g else none) (fun l=>(l.map (R6 m),l.map fun g=>(⟨SX m g.Route g.S,SX m g.Route (D4 (g.S - g.Len))⟩:WorldBar))) rfl (fun i g l hg hl=>by
   have hi:=J1 hg
   obtain ⟨a,t,hR,R⟩:=(O.agent i g hg).route
   have hm7:=R.most
   have hw:D4 ((i:Int)+1)=((i+1:Nat):Int):=H5 hi (by omega)
   unfold Kb
   dsimp only
   rw [K7 hi,bK,C9 hg,lB,(Uy s i).1]
   by_cases h0:0<i
   ·rw [bG (show (i:Int)>0 by omega),bK,lB,bP]
    by_cases th:R7 s (i:Int)=true
    ·rw [bN ⟨h0,th⟩,th,bK,(GR B (show g.Route.length≤1000 by rw [hR];simp;omega)).1,lB,Di (by simp;omega),lB,hR,(YY B R _).1,(YY B R _).1,lB,lB,Di (by simp;omega),lB,hw]
     simp [hR]
    ·rw [bO fun h=>th h.2,show R7 s (i:Int)=false by simpa using th,bM,hw]
   ·rw [bH (show ¬(i:Int)>0 by omega),bM,lB,bR,bM,bO fun h=>h0 h.1,hw]) (fun l=>by unfold Kb;dsimp only;rw [J2];rfl),← YZ]
  rfl
theorem QS {x:Span}{eye p:Spot}(hl: ∀g∈Cu s,(R6 m g).length≤1000)(hn:(Cu s).length≤1000)(F:Int→Option (Stp Int (Sum Unit Bool)))
    (hF: ∀(i:Nat) g y b,(Cu s)[i]? =some g→Ru (R6 m g) x=some (y,b)→F (i:Int)=cond ((!b)&&GL eye p (SX m g.Route g.S) (SX m g.Route (D4 (g.S - g.Len)))) (some (.out (.inr false))) (some (.go (D4 ((i:Int)+1)))))
    (h0:F ((Cu s).length:Int)=some (.out (.inl ()))):loop F 0=some (if (Cu s).any (QR m eye p x)=true then .inr false else .inl ()):=by
  refine IZ (Cu s) (QR m eye p x) false (fun i g hg=> ?_) h0
  obtain ⟨y,h1,_⟩:=kH m g (hl g (lG hg)) x
  rw [hF i g y _ hg h1,H5 (J1 hg) (by omega)]
  unfold QR
  cases (!(eF m g x).isSome)&&GL eye p (SX m g.Route g.S) (SX m g.Route (D4 (g.S - g.Len)))<;>rfl
theorem ZB (O:StateOK m s):(Cu s).length≤8:=by
  have:=O.num
  unfold Cu
  have:=Wu (fun (i:Nat) g=>if R7 s (i:Int)=true then some g else none) (s.Agents.drop 1) 1
  rw [lX]at this
  omega
theorem VZ (O:StateOK m s): ∀g∈Cu s,(R6 m g).length≤1000:=fun g hg=>by
  obtain ⟨i,_,h2,_⟩:=ZA hg
  obtain ⟨a,t,hR,R⟩:=(O.agent i g h2).route
  have:=R.most
  have:=BP m g
  rw [hR]at this
  simp at this
  omega
theorem oV (V:ValR m)(O:StateOK m s)(view:Int){x:Span}(h0:0≤x.Lane_)(h1:x.Lane_<m.Lanes.length)(hf:Ik x.From)(ht:Ik x.To):Eo (Pl m s view) x=some (Xa m s view x):=by
  have hn:=ZB O
  have hb:=VZ O
  obtain ⟨l,k1,k2,_,_⟩:=CH V h0 h1 hf
  obtain ⟨l',k1',k3,_,_⟩:=CH V h0 h1 ht
  rw [k1]at k1'
  obtain rfl:=lD k1'
  have g1: ∀(i:Nat) g,(Cu s)[i]? =some g→C3 (Pl m s view).bars (i:Int)=some ⟨SX m g.Route g.S,SX m g.Route (D4 (g.S - g.Len))⟩:=fun i g h=>C9 (by simp [Pl,h])
  have g2: ∀(i:Nat) g,(Cu s)[i]? =some g→C3 (Pl m s view).bodies (i:Int)=some (R6 m g):=fun i g h=>C9 (by simp [Pl,h])
  have g3:(Pl m s view).bars.length=(Cu s).length:=by simp [Pl]
  have step: ∀(b c:Bool) (i:Int),((cond (!b) (some c) (some default)).bind fun v13=>cond ((!b)&&v13) (some (Stp.out (Sum.inr false:Sum Unit Bool))) (some (.go (D4 (i+1)))))=cond ((!b)&&c) (some (.out (.inr false))) (some (.go (D4 (i+1)))):=by
    intro b c i;cases b<;>cases c<;>rfl
  have e1:loop (Y5 (Pl m s view) x (Ct m x.Lane_ x.From)) 0=_:=QS (x:=x) (eye:=IH m s) (p:=Ct m x.Lane_ x.From) hb (by omega) _ (fun i g y b hg hy=>by
    unfold Y5
    rw [g3,K7 (J1 hg),bK,g1 i g hg,lB,g2 i g hg,lB,hy,lB,Yt]
    exact step _ _ _) (by unfold Y5;rw [g3,J2];rfl)
  have e2:loop (Y4 (Pl m s view) x (Ct m x.Lane_ x.To)) 0=_:=QS (x:=x) (eye:=IH m s) (p:=Ct m x.Lane_ x.To) hb (by omega) _ (fun i g y b hg hy=>by
    unfold Y4
    rw [g3,K7 (J1 hg),bK,g1 i g hg,lB,g2 i g hg,lB,hy,lB,Yt]
    exact step _ _ _) (by unfold Y4;rw [g3,J2];rfl)
  unfold Eo Xa aN
  rw [show (Pl m s view).m=m from rfl,k1,lB,k2,lB,k3,lB,DI,DI,e1,e2,lB,lB]
  show thenS (cond (!DH (IH m s) _ view) _ _) _ _=_
  cases DH (IH m s) (Ct m x.Lane_ x.From) view
  ·rfl
  cases (Cu s).any (QR m (IH m s) (Ct m x.Lane_ x.From) x)
  ·show thenS (cond (!DH (IH m s) _ view) _ _) _ _=_
   cases DH (IH m s) (Ct m x.Lane_ x.To) view
   ·rfl
   cases (Cu s).any (QR m (IH m s) (Ct m x.Lane_ x.To) x)<;>rfl
  ·rfl
end
theorem Qp {α:Type}(l:List α):l= []∨∃(i:List α) (y:α),l=i++ [y]:=by
  rcases List.eq_nil_or_concat l with h|⟨i,y,h⟩
  ·exact .inl h
  ·exact .inr ⟨i,y,by rw [h,List.concat_eq_append]⟩
/-- A cell more. -/
def GU (l:Int)(out:List Span)(frm to:Int):List Span:=
  match out.getLast? with
  |some y=>if y.To=frm then out.dropLast++ [⟨y.Lane_,y.From,to⟩]else out++ [⟨l,frm,to⟩]
  |none=>out++ [⟨l,frm,to⟩]
def Sl (P:Span→Bool)(l n:Int):Nat→Int→List Span→List Span
  |0,_,out=>out
  |k+1,frm,out=>if frm<n then Sl P l n k (frm+1000) (if P ⟨l,frm,min (frm+1000) n⟩=true then GU l out frm (min (frm+1000) n)else out)else out
theorem GV (l frm to:Int):GU l [] frm to= [⟨l,frm,to⟩]:=rfl
theorem Ry (l:Int)(i:List Span)(y:Span)(frm to:Int):GU l (i++ [y]) frm to=if y.To=frm then i++ [⟨y.Lane_,y.From,to⟩]else i++ [y]++ [⟨l,frm,to⟩]:=by
  unfold GU
  rw [List.getLast?_concat]
  dsimp only
  rw [List.dropLast_concat]
theorem WA (l:Int)(out:List Span)(frm to:Int):(GU l out frm to).length≤out.length+1:=by
  rcases Qp out with rfl|⟨i,y,rfl⟩
  ·simp [GV]
  ·rw [Ry]
   split<;>simp
theorem eG {l:Int}{out:List Span}(h: ∀y∈out,y.Lane_=l)(frm to:Int): ∀y∈GU l out frm to,y.Lane_=l:=by
  rcases Qp out with rfl|⟨i,z,rfl⟩
  ·simp [GV]
  ·rw [Ry]
   intro y hy
   have hz:=h z (by simp)
   split at hy
   ·rcases lT.1 hy with q|q
    ·exact h y (by simp [q])
    ·simp at q;rw [q];exact hz
   ·rcases lT.1 hy with q|q
    ·exact h y q
    ·simp at q;rw [q]
theorem kI {α:Type}(l:List α)(a:α)(h:l.length≤1000000000000):C3 (l++ [a]) (D4 (((l++ [a]).length:Int) - 1))=some a:=by
  rw [lM,E6 (by simp;omega),show ((l.length+ [a].length:Nat):Int) - 1=((l.length:Nat):Int) by simp]
  exact C9 List.getElem?_concat_length
theorem kJ {α:Type}(l:List α)(a b:α)(h:l.length≤1000000000000):Oh (l++ [a]) (D4 (((l++ [a]).length:Int) - 1)) b=l++ [b]:=by
  rw [lM,E6 (by simp;omega)]
  exact BN l [] a b _ (by simp)
section
variable {m:Map}{s:State}
theorem eH (V:ValR m)(O:StateOK m s)(view:Int){l:Int}(h0:0≤l)(h1:l<m.Lanes.length){n:Int}(hn:n≤16777216)(o:List Span)(out:List Span){frm:Int}(hf:0≤frm)(hfn:frm<n)(hl:(out.length:Int)≤frm):
    Dx (Pl m s view) (o,l) n (out,frm)=some (.go (if Xa m s view ⟨l,frm,min (frm+1000) n⟩=true then GU l out frm (min (frm+1000) n)else out,frm+1000)):=by
  unfold Dx
  dsimp only
  rw [bG hfn,bK,Il,E6 (n:=frm+1000) (by omega),oV V O view h0 h1 (by unfold Ik;dsimp only;omega) (by unfold Ik;dsimp only;omega),lB]
  cases Xa m s view ⟨l,frm,min (frm+1000) n⟩
  ·rfl
  ·simp only [bU,bM,if_true]
   rcases Qp out with rfl|⟨i,y,rfl⟩
   ·rw [GV,Di (by simp)];rfl
   ·have hil:i.length≤1000000000 - 10:=by simp at hl;omega
    rw [kI i y (by omega),bG (show ((i++ [y]).length:Int)>0 by simp),bK,lB,bP,lB,kJ i y _ (by omega),Di (by simp;omega),lB,Ry]
    by_cases q:y.To=frm
    ·rw [bN q,show (y.To==frm)=true by simpa using q,bK]
    ·rw [bO q,show (y.To==frm)=false by simpa using q,bM]
theorem NX (V:ValR m)(O:StateOK m s)(view:Int){l:Int}(h0:0≤l)(h1:l<m.Lanes.length){n:Int}(hn:n≤16777216)(o:List Span): ∀(k:Nat) (frm:Int) (out:List Span),0≤frm→(out.length:Int)≤frm→n≤frm+1000*k→
    loop (Dx (Pl m s view) (o,l) n) (out,frm)=some (Sl (Xa m s view) l n k frm out)
  |0,frm,out,hf,hl,hk=>D2 (by unfold Dx;dsimp only;rw [bH (by omega)];rfl)
  |k+1,frm,out,hf,hl,hk=>by
   rw [Sl]
   by_cases q:frm<n
   ·rw [bN q,H8 (eH V O view h0 h1 hn o out hf q hl)]
    refine NX V O view h0 h1 hn o k _ _ (by omega) ?_ (by omega)
    have:=WA l out frm (min (frm+1000) n)
    split<;>omega
   ·rw [bO q]
    exact D2 (by unfold Dx;dsimp only;rw [bH q];rfl)
theorem NY (P:Span→Bool)(l n:Int): ∀(k:Nat) (frm:Int) (out:List Span),(∀y∈out,y.Lane_=l)→∀y∈Sl P l n k frm out,y.Lane_=l
  |0,_,_,h=>h
  |k+1,frm,out,h=>by
   rw [Sl]
   split
   ·refine NY P l n k _ _ ?_
    split
    ·exact eG h _ _
    ·exact h
   ·exact h
theorem CI (P:Span→Bool)(l n:Int): ∀(k:Nat) (frm:Int) (out:List Span),(Sl P l n k frm out).length≤out.length+k
  |0,_,_=>wF _
  |k+1,frm,out=>by
   rw [Sl]
   split
   ·refine wJ (CI P l n k _ _) ?_
    have:=WA l out frm (min (frm+1000) n)
    split<;>omega
   ·omega
/-- What is seen of a lane. -/
def BR (m:Map)(s:State)(view:Int)(l:Int):List Span:=Sl (Xa m s view) l (Iz m l) 16778 0 []
def Xb (m:Map)(s:State)(view:Int):List Span:=Pi (fun i (_:Lane)=>BR m s view (i:Int)) 0 m.Lanes
theorem eI (V:ValR m){l:Int}(h0:0≤l)(h1:l<m.Lanes.length):1000≤Iz m l∧Iz m l≤16777216:=by
  have:=V.long h0 h1
  unfold Iz
  rw [bN (isM_true.2 ⟨h0,h1,V⟩)]
  exact this
theorem aO (B:BearM m)(Z:SizeS s)(hw: ∀g∈s.Agents,g.S≤9223372036854775807)(view:Int):Qh m s view=some ((decide (view≥0)&&decide (view≤16777216))&& (GP m s==0)):=by
  unfold Qh
  rw [(VU B Z hw).1]
  cases (decide (view≥0)&&decide (view≤16777216))<;>rfl
theorem kK (B:BearM m)(V:ValR m)(O:StateOK m s)(Z:SizeS s)(hw: ∀g∈s.Agents,g.S≤9223372036854775807)(hc:GP m s=0){view:Int}(hv:0≤view∧view≤16777216):Qk m s view=some (Xb m s view):=by
  have hm:=V.lanes
  unfold Qk
  rw [aO B Z hw,hc,bG (show view≥0 by omega),bG hv.2,lB]
  show (Mx m s view).bind _=_
  rw [oU B O view,lB,sE m.Lanes (fun i (_:Lane)=>BR m s view (i:Int)) id [] 16778 1000000 (by simp;omega) (fun i a _=>by have:=CI (Xa m s view) (i:Int) (Iz m i) 16778 0 [];rw [lN,wI]at this;exact this) (fun i a o hi hl=>by
   have h1:=J1 hi
   have hlen:=eI V (l:=(i:Int)) (by omega) (by omega)
   unfold Mw Wb
   dsimp only
   rw [K7 h1,bK,show (Pl m s view).m=m from rfl,Yx B,lB,NX V O view (l:=(i:Int)) (by omega) (by omega) hlen.2 o 16778 0 [] (by omega) (by simp) (by omega)]
   rw [lB,lB,Di,lB,H5 h1 (by omega)]
   ·rfl
   ·have:=CI (Xa m s view) (i:Int) (Iz m i) 16778 0 []
    simp at this;omega) (fun o=>by unfold Mw;dsimp only;rw [J2];rfl)]
  rfl
end
theorem QT {eye p:Spot}{v v':Int}(h:DH eye p v=true)(hv:v≤v')(hb:v'≤33554432):DH eye p v'=true:=by
  unfold DH at h ⊢
  simp only [bS,bI]at h ⊢
  obtain ⟨h1,⟨h2,h3⟩,h4⟩:=h
  refine ⟨h1,⟨by omega,hb⟩,?_⟩
  have:=Int.mul_le_mul hv hv (by omega) (by omega)
  omega
theorem eJ {m:Map}{s:State}{v v':Int}(hv:v≤v')(hb:v'≤33554432){x:Span}(h:Xa m s v x=true):Xa m s v' x=true:=by
  unfold Xa aN at h ⊢
  simp only [bS]at h ⊢
  exact ⟨⟨QT h.1.1 hv hb,h.1.2⟩,⟨QT h.2.1 hv hb,h.2.2⟩⟩
/-- A span lies in another one. -/
def sU (x y:Span):Prop:=x.Lane_=y.Lane_∧y.From≤x.From∧x.To≤y.To
structure Cov (l:Int)(out out':List Span)(frm:Int):Prop where
  cov: ∀x∈out,∃y∈out',sU x y
  ok: ∀x∈out,x.Lane_=l∧x.From≤x.To∧x.To≤frm
  ok': ∀x∈out',x.Lane_=l∧x.From≤x.To∧x.To≤frm
  last: ∀i x,out=i++ [x]→x.To=frm→∃i' y,out'=i'++ [y]∧y.To=frm∧y.From≤x.From
theorem kL {l:Int}{out:List Span}{frm to:Int}(ht:frm≤to){x:Span}(hx:x∈out): ∃y∈GU l out frm to,sU x y:=by
  rcases Qp out with rfl|⟨i,z,rfl⟩
  ·simp at hx
  ·rw [Ry]
   split
   ·rename_i e
    rcases lT.1 hx with q|q
    ·exact ⟨x,by simp [q],rfl,Int.le_refl _,Int.le_refl _⟩
    ·simp at q;subst q
     exact ⟨⟨x.Lane_,x.From,to⟩,by simp,rfl,Int.le_refl _,by dsimp only;omega⟩
   ·exact ⟨x,by simp only [lT]at hx ⊢;exact .inl hx,rfl,Int.le_refl _,Int.le_refl _⟩
theorem oW {l:Int}{out:List Span}{frm to:Int}(h: ∀x∈out,x.Lane_=l∧x.From≤x.To∧x.To≤frm): ∃i y,GU l out frm to=i++ [y]∧y.Lane_=l∧y.From≤frm∧y.To=to:=by
  rcases Qp out with rfl|⟨i,z,rfl⟩
  ·exact ⟨[],_,rfl,rfl,Int.le_refl _,rfl⟩
  ·have hz:=h z (by simp)
   rw [Ry]
   split
   ·exact ⟨i,_,rfl,hz.1,by dsimp only;omega,rfl⟩
   ·exact ⟨i++ [z],_,rfl,rfl,Int.le_refl _,rfl⟩
theorem ZC {l:Int}{out:List Span}{frm to:Int}(ht:frm≤to)(h: ∀x∈out,x.Lane_=l∧x.From≤x.To∧x.To≤frm): ∀x∈GU l out frm to,x.Lane_=l∧x.From≤x.To∧x.To≤to:=by
  intro x hx
  rcases Qp out with rfl|⟨i,z,rfl⟩
  ·rw [GV]at hx;simp at hx;subst hx;exact ⟨rfl,ht,Int.le_refl _⟩
  ·rw [Ry]at hx
   have hz:=h z (by simp)
   split at hx
   ·rcases lT.1 hx with q|q
    ·have:=h x (by simp [q]);omega
    ·simp at q;subst q;dsimp only;omega
   ·rcases lT.1 hx with q|q
    ·have:=h x q;omega
    ·simp at q;subst q;dsimp only;omega
theorem kM {l:Int}{out out':List Span}{frm to:Int}(C:Cov l out out' frm)(ht:frm<to)(b b':Bool)(hb:b=true→b'=true):Cov l (if b=true then GU l out frm to else out) (if b'=true then GU l out' frm to else out') to:=by
  cases b'
  ·cases b
   ·refine ⟨C.cov,fun x hx=>by have:=C.ok x hx;omega,fun x hx=>by have:=C.ok' x hx;omega,fun i x e q=> ?_⟩
    have:=C.ok x (by simp at e;rw [e];simp);omega
   ·cases hb rfl
  ·cases b
   ·refine ⟨fun x hx=> ?_,fun x hx=>by have:=C.ok x hx;omega,ZC (by omega) C.ok',fun i x e q=> ?_⟩
    ·obtain ⟨y,hy,h1⟩:=C.cov x hx
     obtain ⟨z,hz,h2⟩:=kL (l:=l) (frm:=frm) (to:=to) (by omega) hy
     exact ⟨z,hz,h1.1.trans h2.1,Int.le_trans h2.2.1 h1.2.1,Int.le_trans h1.2.2 h2.2.2⟩
    ·have:=C.ok x (by simp at e;rw [e];simp);omega
   ·simp only [if_true]
    obtain ⟨i',y,e',h1,h2,h3⟩:=oW (to:=to) C.ok'
    have hold: ∀x∈out,∃z∈GU l out' frm to,sU x z:=fun x hx=>by
      obtain ⟨y,hy,h1⟩:=C.cov x hx
      obtain ⟨z,hz,h2⟩:=kL (l:=l) (frm:=frm) (to:=to) (by omega) hy
      exact ⟨z,hz,h1.1.trans h2.1,Int.le_trans h2.2.1 h1.2.1,Int.le_trans h1.2.2 h2.2.2⟩
    have hnew: ∃i x,GU l out frm to=i++ [x]∧(∀z∈i,z∈out)∧x.Lane_=l∧y.From≤x.From∧x.To=to:=by
      rcases Qp out with rfl|⟨i,z,rfl⟩
      ·exact ⟨[],_,rfl,by simp,rfl,h2,rfl⟩
      ·have hz:=C.ok z (by simp)
       rw [Ry]
       split
       ·rename_i q
        obtain ⟨j,w,g1,g2,g3⟩:=C.last i z rfl q
        subst g1
        rw [Ry,bN g2]at e'
        have:=(List.append_inj' e' rfl).2
        simp at this
        refine ⟨i,_,rfl,fun z hz=>by simp [hz],hz.1,?_,rfl⟩
        rw [← this];exact g3
       ·exact ⟨i++ [z],_,rfl,fun z hz=>hz,rfl,h2,rfl⟩
    obtain ⟨i,x,e,g1,g2,g3,g4⟩:=hnew
    refine ⟨fun w hw=> ?_,ZC (by omega) C.ok,ZC (by omega) C.ok',fun j w ej q=> ?_⟩
    ·rw [e]at hw
     rcases lT.1 hw with q|q
     ·exact hold w (g1 w q)
     ·simp at q;subst q
      exact ⟨y,by rw [e'];simp,by rw [g2,h1],g3,by omega⟩
    ·rw [e]at ej
     have:=(List.append_inj' ej rfl).2
     simp at this;subst this
     exact ⟨i',y,e',h3,g3⟩
theorem oX {l:Int}{out out':List Span}{frm to:Int}(C:Cov l out out' frm)(ht:frm<to):Cov l out out' to:=
  ⟨C.cov,fun x hx=>by have:=C.ok x hx;omega,fun x hx=>by have:=C.ok' x hx;omega,fun i x e q=>by have:=C.ok x (by rw [e];simp);omega⟩
theorem QU (P P':Span→Bool)(hP: ∀x,P x=true→P' x=true)(l n:Int): ∀(k:Nat) (frm:Int) (out out':List Span),Cov l out out' frm→∃f,Cov l (Sl P l n k frm out) (Sl P' l n k frm out') f
  |0,frm,out,out',C=>⟨frm,C⟩
  |k+1,frm,out,out',C=>by
   rw [Sl,Sl]
   split
   ·rename_i q
    refine QU P P' hP l n k _ _ _ ?_
    have h:=kM C (to:=min (frm+1000) n) (by omega) _ _ (hP ⟨l,frm,min (frm+1000) n⟩)
    by_cases e:frm+1000≤n
    ·rw [show min (frm+1000) n=frm+1000 by omega]at h ⊢;exact h
    ·exact oX h (by omega)
   ·exact ⟨frm,C⟩
theorem eK {m:Map}{s:State}{v v':Int}(hv:v≤v')(hb:v'≤33554432):(∀x∈Xb m s v,∃y∈Xb m s v',sU x y)∧∀x∈Xb m s v,x.From≤x.To:=by
  have key: ∀i:Nat,∃f,Cov (i:Int) (BR m s v i) (BR m s v' i) f:=fun i=>
    QU _ _ (fun x h=>eJ hv hb h) _ _ _ 0 [] [] ⟨by simp,by simp,by simp,fun i x h=>by simp at h⟩
  constructor
  ·intro x hx
   obtain ⟨i,a,h1,h2⟩:=(Qo _ _).1 hx
   obtain ⟨f,C⟩:=key (0+i)
   obtain ⟨y,h3,h4⟩:=C.cov x h2
   exact ⟨y,(Qo _ _).2 ⟨i,a,h1,h3⟩,h4⟩
  ·intro x hx
   obtain ⟨i,a,h1,h2⟩:=(Qo _ _).1 hx
   obtain ⟨f,C⟩:=key (0+i)
   exact (C.ok x h2).2.1
theorem NZ (m:Map)(s:State)(v:Int)(hm:m.Lanes.length≤12):(Xb m s v).length≤1000000:=by
  have:=ID (fun i (_:Lane)=>BR m s v (i:Int)) 16778 m.Lanes 0 (fun j a _=>wJ (CI (Xa m s v) ((0+j:Nat):Int) (Iz m ((0+j:Nat):Int)) 16778 0 []) (by simp))
  have:(Xb m s v).length≤m.Lanes.length*16778:=this
  omega
/-- The next error, and the numbers behind it. -/
def Of (k:Int):List Int→Int×List Int
  | []=>(0,[])
  |a::r=>(a % (2*k+1) - k,r)
theorem II (k:Int)(ns:List Int):(Of k ns).2.length≤ns.length:=by
  cases ns<;>simp [Of]
theorem OA {k:Int}(hk:0≤k)(ns:List Int): -k≤(Of k ns).1∧(Of k ns).1≤k:=by
  cases ns with
  |nil=>simp [Of];omega
  |cons a r=>
   have:=wP a (show 2*k+1≠0 by omega)
   have:=wQ a (show 0<2*k+1 by omega)
   unfold Of
   dsimp only
   omega
theorem ZD {k:Int}(hk:0<k)(hk2:k≤1000)(noise:List Int)(hn:noise.length≤1000)(i:Nat)(hi:i≤noise.length): ∃j:Nat,j≤noise.length∧noise.drop j=(Of k (noise.drop i)).2∧Ao k (i:Int) noise=some ((Of k (noise.drop i)).1,(j:Int)):=by
  unfold Ao
  cases h:noise.drop i with
  |nil=>
   have:=N0 h
   refine ⟨i,hi,by rw [h];rfl,?_⟩
   rw [bG (show (i:Int)≥(noise.length:Int) by omega)];rfl
  |cons a r=>
   have hlt:=L3 h
   have ha:=S6 h
   have h1:=wP a (show 2*k+1≠0 by omega)
   have h2:=wQ a (show 0<2*k+1 by omega)
   refine ⟨i+1,hlt,I4 h,?_⟩
   rw [bH (by omega),bM,E6 (n:=(i:Int)+1) (by omega),E6 (n:=(i:Int)+1 - 1) (by omega),show (i:Int)+1 - 1=(i:Int) by omega,C9 ha,lB,E6 (n:=2*k) (by omega),E6 (n:=2*k+1) (by omega),qT (by omega) (by omega),lB,E6 (by omega)]
   rfl
def QV (p:Spot)(v:Int)(ns:List Int):Point×List Int:=
  (⟨D4 (p.X+ (Of 50 ns).1),D4 (p.Y+ (Of 50 (Of 50 ns).2).1),D4 (v+ (Of 5 (Of 50 (Of 50 ns).2).2).1)⟩,(Of 5 (Of 50 (Of 50 ns).2).2).2)
theorem oY (p:Spot)(v:Int)(ns:List Int):(QV p v ns).2.length≤ns.length:=
  wJ (II _ _) (wJ (II _ _) (II _ _))
/-- The points of a part of a body. -/
def We (q:Int→Spot)(v to:Int):Nat→Int→List Int→List Point×List Int
  |0,_,ns=>([],ns)
  |n+1,f,ns=>if f=to then ([(QV (q f) v ns).1],(QV (q f) v ns).2)else ((QV (q f) v ns).1::(We q v to n (min (f+500) to) (QV (q f) v ns).2).1,(We q v to n (min (f+500) to) (QV (q f) v ns).2).2)
theorem WB (q:Int→Spot)(v to:Int): ∀(n:Nat) (f:Int) (ns:List Int),(We q v to n f ns).1.length≤n∧(We q v to n f ns).2.length≤ns.length
  |0,_,_=>⟨by simp [We],wF _⟩
  |n+1,f,ns=>by
   have h:=oY (q f) v ns
   rw [We]
   split
   ·exact ⟨by simp,h⟩
   ·obtain ⟨h1,h2⟩:=WB q v to n (min (f+500) to) (QV (q f) v ns).2
    exact ⟨by simpa using h1,wJ h2 h⟩
section
variable {m:Map}{s:State}
theorem WC (V:ValR m){l:Int}(h0:0≤l)(h1:l<m.Lanes.length){ln:Lane}(hln:C3 m.Lanes l=some ln)(noise:List Int)(hn:noise.length≤1000)(g:Agent)(y:WorldSpan)(st:Int)(sn:List Span):
    ∀(n:Nat) (f:Int) (i:Nat) (out:List Point),i≤noise.length→f≤y.to→y.to - f+500≤500*n→Ik f→y.to≤1000000000→out.length+n≤900000000→
     ∃j:Nat,j≤noise.length∧noise.drop j=(We (Ct m l) g.V y.to n f (noise.drop i)).2∧loop (Ep noise ln g (y,true)) (f,(i:Int),⟨st,sn,out⟩)=some ((j:Int),⟨st,sn,out++ (We (Ct m l) g.V y.to n f (noise.drop i)).1⟩)
  |0,f,i,out,_,hf,hk,_,_,_=>by omega
  |n+1,f,i,out,hi,hf,hk,hw,hy,hl=>by
   obtain ⟨ln',k1,k2,_,_⟩:=CH V h0 h1 hw
   rw [hln]at k1
   obtain rfl:=lD k1
   obtain ⟨i1,a1,a2,a3⟩:=ZD (k:=50) (by omega) (by omega) noise hn i hi
   obtain ⟨i2,b1,b2,b3⟩:=ZD (k:=50) (by omega) (by omega) noise hn i1 a1
   obtain ⟨i3,c1,c2,c3⟩:=ZD (k:=5) (by omega) (by omega) noise hn i2 b1
   rw [a2]at b2 b3
   rw [b2]at c2 c3
   have hs:Ep noise ln g (y,true) (f,(i:Int),⟨st,sn,out⟩)=some (if f=y.to then .out ((i3:Int),⟨st,sn,out++ [(QV (Ct m l f) g.V (noise.drop i)).1]⟩)else .go (min (f+500) y.to,(i3:Int),⟨st,sn,out++ [(QV (Ct m l f) g.V (noise.drop i)).1]⟩)):=by
     unfold Ep
     dsimp only
     rw [bK,k2,lB,a3,lB,b3,lB,c3,lB,Di (by simp;omega),lB]
     unfold Ik at hw
     rw [Il,E6 (n:=f+500) (by omega)]
     by_cases q:f=y.to
     ·rw [bN q,show (f==y.to)=true by simpa using q];rfl
     ·rw [bO q,show (f==y.to)=false by simpa using q];rfl
   rw [We]
   by_cases q:f=y.to
   ·rw [bN q]at hs
    rw [bN q]
    exact ⟨i3,c1,c2,D2 hs⟩
   ·rw [bO q]at hs
    rw [bO q]
    have e:(QV (Ct m l f) g.V (noise.drop i)).2=noise.drop i3:=c2.symm
    obtain ⟨j,d1,d2,d3⟩:=WC V h0 h1 hln noise hn g y st sn n (min (f+500) y.to) i3 (out++ [(QV (Ct m l f) g.V (noise.drop i)).1]) c1 (by omega) (by omega) (by unfold Ik at*;omega) hy (by simp;omega)
    refine ⟨j,d1,?_,?_⟩
    ·rw [d2,e]
    ·rw [H8 hs,d3,e];simp
/-- The points of an agent on a span. -/
def Mi (m:Map)(s:State)(x:Span)(i:Nat)(g:Agent)(ns:List Int):List Point×List Int:=
  if R7 s (i:Int)=true then match eF m g x with
   |some y=>We (Ct m x.Lane_) g.V y.To 42 y.From ns
   |none=>([],ns)
  else ([],ns)
def Bg (m:Map)(s:State)(x:Span):Nat→List Agent→List Int→List Point×List Int
  |_,[],ns=>([],ns)
  |i,g::r,ns=>((Mi m s x i g ns).1++ (Bg m s x (i+1) r (Mi m s x i g ns).2).1,(Bg m s x (i+1) r (Mi m s x i g ns).2).2)
def Pm (m:Map)(s:State):List Span→List Int→List Point×List Int
  | [],ns=>([],ns)
  |x::r,ns=>((Bg m s x 1 (s.Agents.drop 1) ns).1++ (Pm m s r (Bg m s x 1 (s.Agents.drop 1) ns).2).1,(Pm m s r (Bg m s x 1 (s.Agents.drop 1) ns).2).2)
theorem aP (m:Map)(s:State)(x:Span)(i:Nat)(g:Agent)(ns:List Int):(Mi m s x i g ns).1.length≤42∧(Mi m s x i g ns).2.length≤ns.length:=by
  unfold Mi
  split
  ·split
   ·exact WB _ _ _ _ _ _
   ·exact ⟨by simp,wF _⟩
  ·exact ⟨by simp,wF _⟩
theorem IJ (m:Map)(s:State)(x:Span): ∀(l:List Agent) (i:Nat) (ns:List Int),(Bg m s x i l ns).1.length≤42*l.length∧(Bg m s x i l ns).2.length≤ns.length
  | [],_,_=>⟨by simp [Bg],wF _⟩
  |g::r,i,ns=>by
   obtain ⟨h1,h2⟩:=aP m s x i g ns
   obtain ⟨h3,h4⟩:=IJ m s x r (i+1) (Mi m s x i g ns).2
   rw [Bg]
   exact ⟨by simp;omega,wJ h4 h2⟩
/-- No part of a body is longer than it. -/
theorem OB (O:StateOK m s){i:Nat}{g:Agent}(hg:s.Agents[i]? =some g){p:Span}(hp:p∈R6 m g):p.To - p.From≤20000∧p.To≤1000000000∧0≤p.From:=by
  have A:=O.agent i g hg
  obtain ⟨a,t,hR,R⟩:=A.route
  have hL:=Pk R
  have hS:=A.S
  have hlen:=A.len
  rw [hR]at hS
  unfold R6 at hp
  split at hp
  ·obtain ⟨j,q,h1,h⟩:=(Cs _ _).1 hp
   rw [hR,R.StartsM]at h1
   have hj:=J1 h1
   rw [Ld]at hj
   have hq:=Lf m (a::t) 0 j hj
   rw [h1,Int.zero_add]at hq
   have hb:=R.bd (i:=j) (Nat.le_of_lt hj)
   have:q=Lg m (a::t) j:=lD hq
   unfold Sk at h
   split at h
   ·cases h
    dsimp only
    rw [E6 (n:=g.S - g.Len) (by omega),E6 (n:=g.S - g.Len - q) (by omega),E6 (n:=g.S - q) (by omega)]
    omega
   ·cases h
  ·cases hp
theorem kN (O:StateOK m s){i:Nat}{g:Agent}(hg:s.Agents[i]? =some g){x y:Span}(h:eF m g x=some y):y.To - y.From≤20000∧y.To≤1000000000∧0≤y.From:=by
  unfold eF at h
  cases hf:(R6 m g).find? fun p=>p.Lane_==x.Lane_ with
  |none=>rw [hf]at h;cases h
  |some p=>
   have:=OB O hg (l8 hf)
   rw [hf,lB]at h
   unfold PA at h
   split at h
   ·cases h;dsimp only;omega
   ·cases h
theorem eM (B:BearM m)(V:ValR m)(O:StateOK m s){x:Span}(h0:0≤x.Lane_)(h1:x.Lane_<m.Lanes.length){ln:Lane}(hln:C3 m.Lanes x.Lane_=some ln)(noise:List Int)(hn:noise.length≤1000)(st:Int)(sn:List Span):
    ∀(r:List Agent) (i k:Nat) (out:List Point),0<i→s.Agents.drop i=r→i≤s.Agents.length→k≤noise.length→out.length+42*r.length≤800000000→
     ∃j:Nat,j≤noise.length∧noise.drop j=(Bg m s x i r (noise.drop k)).2∧loop (Ap m s noise x ln) ((i:Int),(k:Int),⟨st,sn,out⟩)=some ((j:Int),⟨st,sn,out++ (Bg m s x i r (noise.drop k)).1⟩):=by
  have hnum:=O.num
  intro r
  induction r with
  |nil=>
   intro i k out hi hd hil hk hl
   have:=N0 hd
   obtain rfl:i=s.Agents.length:=by omega
   refine ⟨k,hk,rfl,D2 ?_⟩
   unfold Ap
   dsimp only
   rw [J2];simp [Bg]
  |cons g r ih=>
   intro i k out hi hd hil hk hl
   have hlt:=L3 hd
   have hg:=S6 hd
   rw [lL]at hl
   obtain ⟨a,t,hR,R⟩:=(O.agent i g hg).route
   have hr:g.Route.length≤1000:=by have:=R.most;rw [hR];simp;omega
   have hbl:=BP m g
   have key: ∃j:Nat,j≤noise.length∧noise.drop j=(Mi m s x i g (noise.drop k)).2∧Ap m s noise x ln ((i:Int),(k:Int),⟨st,sn,out⟩)=some (.go (((i+1:Nat):Int),(j:Int),⟨st,sn,out++ (Mi m s x i g (noise.drop k)).1⟩)):=by
     unfold Ap Mi
     dsimp only
     rw [K7 hlt,bK,C9 hg,lB,(Uy s i).1,show ((i:Int)==0)=false by simp;omega,bV,bK,lB,bW,H5 hlt (by omega)]
     cases th:R7 s (i:Int)
     ·exact ⟨k,hk,rfl,by simp⟩
     ·simp only [bU,bM,if_true]
      obtain ⟨y,y1,y2⟩:=kH m g (by omega) x
      rw [(GR B hr).1,lB,y1,lB]
      cases ho:eF m g x with
      |none=>
       refine ⟨k,hk,rfl,?_⟩
       rw [D2 (t:=((k:Int),(⟨st,sn,out⟩:Scan))) rfl]
       simp
      |some z=>
       obtain rfl:=y2 z ho
       have hz:=oT ho
       have hz2:=kN O hg ho
       obtain ⟨j,d1,d2,d3⟩:=WC V h0 h1 hln noise hn g ⟨z.From,z.To⟩ st sn 42 z.From k out hk (by dsimp only;omega) (by dsimp only;omega) (by unfold Ik;omega) (by dsimp only;omega) (by omega)
       refine ⟨j,d1,d2,?_⟩
       show (loop (Ep noise ln g (⟨z.From,z.To⟩,true)) (z.From,(k:Int),⟨st,sn,out⟩)).bind _=_
       rw [d3];rfl
   obtain ⟨j,j1,j2,j3⟩:=key
   obtain ⟨o1,_⟩:=aP m s x i g (noise.drop k)
   obtain ⟨j',e1,e2,e3⟩:=ih (i+1) j (out++ (Mi m s x i g (noise.drop k)).1) (by omega) (I4 hd) hlt j1 (by rw [lM];omega)
   rw [j2]at e2 e3
   refine ⟨j',e1,e2,?_⟩
   rw [H8 j3,e3,Bg,lO]
theorem ZE (B:BearM m)(V:ValR m)(O:StateOK m s){x:Span}(h0:0≤x.Lane_)(h1:x.Lane_<m.Lanes.length){ln:Lane}(hln:C3 m.Lanes x.Lane_=some ln)(noise:List Int)(hn:noise.length≤1000)(st:Int)(sn:List Span)(k:Nat)(out:List Point)(hk:k≤noise.length)(hl:out.length+336≤800000000):
    ∃j:Nat,j≤noise.length∧noise.drop j=(Bg m s x 1 (s.Agents.drop 1) (noise.drop k)).2∧loop (Ap m s noise x ln) (0,(k:Int),⟨st,sn,out⟩)=some ((j:Int),⟨st,sn,out++ (Bg m s x 1 (s.Agents.drop 1) (noise.drop k)).1⟩):=by
  have hnum:=O.num
  obtain ⟨g0,e1,e2,_⟩:=O.eye
  obtain ⟨j,h2,h3,h4⟩:=eM B V O h0 h1 hln noise hn st sn (s.Agents.drop 1) 1 k out (by omega) rfl (by omega) hk (by rw [lX];omega)
  refine ⟨j,h2,h3,?_⟩
  rw [H8 (s':=((1:Int),(k:Int),(⟨st,sn,out⟩:Scan))) ?_]
  ·exact h4
  ·unfold Ap
   dsimp only
   rw [bG (by omega),bK,e1];rfl
theorem QW {v:Int}{x:Span}(h:x∈Xb m s v):0≤x.Lane_∧x.Lane_<m.Lanes.length:=by
  obtain ⟨i,a,h1,h2⟩:=(Qo _ _).1 h
  have:=NY (Xa m s v) ((0+i:Nat):Int) _ _ 0 [] (by simp) x h2
  have:=J1 h1
  omega
def IK (m:Map)(s:State)(view:Int)(noise:List Int):Scan:=⟨s.Tick,Xb m s view,(Pm m s (Xb m s view) noise).1⟩
theorem rA {a b:Nat}(h:a+336* (b+1)≤700000000):a+336≤800000000:=
  wJ (Nat.add_le_add_left (Nat.mul_succ 336 b▸Nat.le_add_left _ _) _) (wJ h (by decide))
theorem eN (B:BearM m)(V:ValR m)(O:StateOK m s)(Z:SizeS s)(hw: ∀g∈s.Agents,g.S≤9223372036854775807)(hc:GP m s=0){view:Int}(hv:0≤view∧view≤16777216)(noise:List Int)(hn:noise.length≤60):Rv m s view noise=some (IK m s view noise):=by
  have z1:=kK B V O Z hw hc hv
  have hlen:=NZ m s view V.lanes
  have hord:=(eK (m:=m) (s:=s) (v:=view) (Int.le_refl _) (by omega)).2
  have hlane: ∀x∈Xb m s view,0≤x.Lane_∧x.Lane_<m.Lanes.length:=fun x hx=>QW hx
  have hnum:=O.num
  generalize hS:Xb m s view=L at*
  unfold Rv IK
  rw [aO B Z hw,hc,bG (show view≥0 by omega),bG hv.2,lB]
  show (Qk m s view).bind _=_
  rw [z1,lB,hS]
  have key: ∀(r:List Span) (i k:Nat) (out:List Point),L.drop i=r→i≤L.length→k≤noise.length→out.length+336*r.length≤700000000→
   loop (Er m s noise L) ((i:Int),(k:Int),⟨s.Tick,L,out⟩)=some ⟨s.Tick,L,out++ (Pm m s r (noise.drop k)).1⟩:=by
    intro r
    induction r with
    |nil=>
     intro i k out hi hil _ _
     have:=N0 hi
     obtain rfl:i=L.length:=by omega
     refine D2 ?_
     unfold Er
     dsimp only
     rw [J2];simp [Pm]
    |cons x r ih=>
     intro i k out hi hil hk hl
     rw [lL]at hl
     have hlt:=L3 hi
     have hx:=S6 hi
     have hxl:=hlane x (lG hx)
     obtain ⟨ln,k1, -⟩:=CH V hxl.1 hxl.2 (s:=0) (by unfold Ik;omega)
     have hl2:=rA hl
     have hn2:noise.length≤1000:=by omega
     obtain ⟨j,h1,h2,h3⟩:=ZE B V O hxl.1 hxl.2 k1 noise hn2 s.Tick L k out hk hl2
     have hp:=(IJ m s x (s.Agents.drop 1) 1 (noise.drop k)).1
     rw [lX]at hp
     rw [H8 (s':=(((i+1:Nat):Int),(j:Int),(⟨s.Tick,L,out++ (Bg m s x 1 (s.Agents.drop 1) (noise.drop k)).1⟩:Scan))),ih (i+1) j _ (I4 hi) hlt h1 (by rw [lM];omega),h2,Pm,lO]
     unfold Er
     dsimp only
     rw [K7 hlt,bK,C9 hx,lB,k1,lB,h3,lB,H5 hlt (by omega)]
  have h:=key L 0 0 [] rfl (by omega) (by omega) (by simp;omega)
  rw [lQ,List.drop_zero]at h
  have h:loop (Er m s noise L) (0,0,⟨s.Tick,L,[]⟩)=_:=h
  rw [h];rfl
end
theorem QX (m:Map)(s:State): ∀(l:List Span) (ns:List Int),(Pm m s l ns).1.length≤42* (s.Agents.drop 1).length*l.length
  | [],_=>by simp [Pm]
  |x::r,ns=>by
   have h1:=(IJ m s x (s.Agents.drop 1) 1 ns).1
   have h2:=QX m s r (Bg m s x 1 (s.Agents.drop 1) ns).2
   rw [Pm,lM,lL,Nat.mul_succ,Nat.add_comm]
   exact Nat.add_le_add h2 h1
theorem eO {m:Map}{s:State}(V:ValR m)(O:StateOK m s)(view:Int)(ns:List Int):(IK m s view ns).Points.length≤1000000000:=by
  have h1:=QX m s (Xb m s view) ns
  have h2:=O.num
  have h3:=NZ m s view V.lanes
  rw [lX]at h1
  refine wJ h1 (wJ (Nat.mul_le_mul (show 42* (s.Agents.length - 1)≤294 by omega) h3) (by decide))
section
variable {m:Map}{s:State}
theorem sO {p:Spot}(hp:Kk p=true){v:Int}(hv:0≤v∧v≤100000)(ns:List Int):
    (-50≤(QV p v ns).1.X - p.X∧(QV p v ns).1.X - p.X≤50)∧(-50≤(QV p v ns).1.Y - p.Y∧(QV p v ns).1.Y - p.Y≤50)∧(-5≤(QV p v ns).1.V - v∧(QV p v ns).1.V - v≤5):=by
  have h:=okS_iff.1 hp
  have h1:=OA (k:=50) (by omega) ns
  have h2:=OA (k:=50) (by omega) (Of 50 ns).2
  have h3:=OA (k:=5) (by omega) (Of 50 (Of 50 ns).2).2
  unfold QV
  dsimp only
  rw [E6 (n:=p.X+_) (by omega),E6 (n:=p.Y+_) (by omega),E6 (n:=v+_) (by omega)]
  omega
theorem QY (V:ValR m){S:Scan}(hS:S.Points.length≤1000000000){k j:Nat}{x p:Span}{g:Agent}{body:List Span}(hj:body[j]? =some p)(hg:s.Agents[k]? =some g)(hv:0≤g.V∧g.V≤100000)(hpl:p.Lane_=x.Lane_)(h0:0≤x.Lane_)(h1:x.Lane_<m.Lanes.length){to:Int}(hto:to=min p.To x.To)(a1 a2:Int):
    ∀(n:Nat) (f:Int) (ns:List Int) (at_:Nat) (rest:List Point),f≤to→to - f+500≤500*n→Ik f→to≤1000000000→S.Points.drop at_=(We (Ct m x.Lane_) g.V to n f ns).1++rest→
     loop (W7 m s S (a1,(k:Int)) body (a2,(j:Int)) p x) ((at_:Int),f)=some (.inl ((at_+ (We (Ct m x.Lane_) g.V to n f ns).1.length:Nat):Int))
  |0,f,ns,at_,rest,hf,hk,_,_,_=>by omega
  |n+1,f,ns,at_,rest,hf,hk,hw,hy,hd=>by
   obtain ⟨ln,k1,_,k2,ok⟩:=CH V h0 h1 hw
   have hpt:=sO ok hv ns
   have hd0: ∃r,S.Points.drop at_=(QV (Ct m x.Lane_ f) g.V ns).1::r:=by
     rw [We]at hd
     split at hd
     ·exact ⟨_,hd⟩
     ·exact ⟨_,hd⟩
   obtain ⟨r,hr⟩:=hd0
   have hlt:=L3 hr
   have hget:=S6 hr
   have hb:=okS_iff.1 ok
   have hs:W7 m s S (a1,(k:Int)) body (a2,(j:Int)) p x ((at_:Int),f)=some (if f=to then .out (.inl ((at_+1:Nat):Int))else .go (((at_+1:Nat):Int),min (f+500) to)):=by
     unfold W7
     dsimp only
     rw [bH (show ¬(at_:Int)≥(S.Points.length:Int) by omega),bM,C9 hj,lB,hpl,k1,lB,k2,lB,C9 hget,lB,C9 hg]
     generalize (QV (Ct m x.Lane_ f) g.V ns).1=z at*
     generalize Ct m x.Lane_ f=c at*
     rw [E6 (n:=z.X - c.X) (by omega),E6 (n:=c.X - z.X) (by omega),E6 (n:=z.Y - c.Y) (by omega),E6 (n:=c.Y - z.Y) (by omega)]
     rw [bH (show ¬z.X - c.X>50 by omega),bH (show ¬c.X - z.X>50 by omega),bH (show ¬z.Y - c.Y>50 by omega),bH (show ¬c.Y - z.Y>50 by omega)]
     simp only [Bool.or_self,bV,bK,lB,bW]
     rw [E6 (n:=z.V - g.V) (by omega),bH (show ¬z.V - g.V>5 by omega)]
     simp only [bV,bK,lB,bW]
     rw [E6 (n:=g.V - z.V) (by omega),bH (show ¬g.V - z.V>5 by omega),bM,Il,← hto,E6 (n:=(at_:Int)+1) (by omega)]
     unfold Ik at hw
     rw [E6 (n:=f+500) (by omega),Il]
     by_cases q:f=to
     ·rw [bN q,show (f==to)=true by simpa using q];rfl
     ·rw [bO q,show (f==to)=false by simpa using q];rfl
   by_cases q:f=to
   ·rw [bN q]at hs
    rw [We,bN q]
    exact D2 hs
   ·rw [bO q]at hs
    rw [We,bO q]at hd ⊢
    dsimp only at hd ⊢
    rw [lV]at hd
    rw [H8 hs,QY V hS hj hg hv hpl h0 h1 hto a1 a2 n (min (f+500) to) _ (at_+1) rest (by omega) (by omega) (by unfold Ik at*;omega) hy (I4 hd),lL]
    congr 3;omega
/-- All points of one agent on a span are met. -/
theorem eP (V:ValR m)(O:StateOK m s){S:Scan}(hS:S.Points.length≤1000000000){k c:Nat}{x:Span}{g:Agent}(hg:s.Agents[k]? =some g)(hx:S.Seen[c]? =some x)(h0:0≤x.Lane_)(h1:x.Lane_<m.Lanes.length)(a1 a2:Int){ns:List Int}{rest:List Point}:
    ∀(r:List Span) (j at_:Nat),(R6 m g).drop j=r→j≤(R6 m g).length→(r.map (·.Lane_)).Pairwise (· < ·)→
     S.Points.drop at_=(if R7 s (k:Int)=true then match (r.find? fun p=>p.Lane_==x.Lane_).bind (PA x)with
       |some y=>(We (Ct m x.Lane_) g.V y.To 42 y.From ns).1
       |none=> []else [])++rest→
     loop (U2 m s S (a1,(c:Int)) (a2,(k:Int)) (R6 m g)) ((at_:Int),(j:Int))=some (.inl ((at_+ (if R7 s (k:Int)=true then match (r.find? fun p=>p.Lane_==x.Lane_).bind (PA x)with
       |some y=>(We (Ct m x.Lane_) g.V y.To 42 y.From ns).1
       |none=> []else []).length:Nat):Int)):=by
  have A:=O.agent k g hg
  obtain ⟨a,t,hR,R⟩:=A.route
  have hm7:=R.most
  have hbl:=BP m g
  rw [hR]at hbl
  simp only [lL]at hbl
  have hT:=KO (Ff m (Vo m g).1)
  have hV:=A.V
  have hv:0≤g.V∧g.V≤100000:=by unfold ST at hV;omega
  intro r
  induction r with
  |nil=>
   intro j at_ hd hjl _ hp
   have:=N0 hd
   obtain rfl:j=(R6 m g).length:=by omega
   refine D2 ?_
   unfold U2
   dsimp only
   rw [J2]
   cases R7 s (k:Int)<;>rfl
  |cons p r ih=>
   intro j at_ hd hjl hpw hp
   obtain ⟨u1,u2⟩:=bC.1 hpw
   have hlt:=L3 hd
   have hjp:=S6 hd
   have hsh:=OB O hg (lG hjp)
   have hstart:U2 m s S (a1,(c:Int)) (a2,(k:Int)) (R6 m g) ((at_:Int),(j:Int))=if R7 s (k:Int)=true∧p.Lane_=x.Lane_∧max p.From x.From≤min p.To x.To then
    thenS (loop (W7 m s S (a2,(k:Int)) (R6 m g) ((at_:Int),(j:Int)) p x) ((at_:Int),max p.From x.From)) (fun y4=>some (.go (y4,((j+1:Nat):Int)))) (fun r=>some (.out (.inr r)))else some (.go ((at_:Int),((j+1:Nat):Int))):=by
     unfold U2
     dsimp only
     rw [K7 hlt,bK,C9 hjp,lB,C9 hx,lB,lB,lB,(Uy s k).2,lB,H5 hlt (by omega),Nb,Il]
     cases th:R7 s (k:Int)
     ·rw [bO fun h=>by cases h.1];rfl
     ·simp only [bU,bV,bK,lB,bW]
      by_cases e:p.Lane_=x.Lane_
      ·rw [show (p.Lane_ !=x.Lane_)=false by simpa using e,bW]
       by_cases q:max p.From x.From≤min p.To x.To
       ·rw [bN ⟨trivial,e,q⟩,bH (by omega),bM]
       ·rw [bO fun h=>q h.2.2,bG (by omega),bK]
      ·rw [bO fun h=>e h.2.1,show (p.Lane_ !=x.Lane_)=true by simpa using e,Bool.true_or,bK]
   by_cases e:p.Lane_=x.Lane_
   ·have hnone:(r.find? fun p=>p.Lane_==x.Lane_)=none:=List.find?_eq_none.2 fun y hy=>by
      have:p.Lane_<y.Lane_:=u1 y.Lane_ (List.mem_map_of_mem hy)
      rw [show (y.Lane_==x.Lane_)=false by simp;omega];simp
    have hfind:((p::r).find? fun p=>p.Lane_==x.Lane_)=some p:=by rw [List.find?_cons,show (p.Lane_==x.Lane_)=true by simpa using e]
    rw [hfind,lB]at hp ⊢
    have htail:=fun at'=>ih (j+1) at' (I4 hd) hlt u2
    rw [hnone]at htail
    have hz:(if R7 s (k:Int)=true then (match (none:Option Span).bind (PA x)with
      |some y=>(We (Ct m x.Lane_) g.V y.To 42 y.From ns).1
      |none=> [])else ([]:List Point))= []:=by split<;>rfl
    rw [hz]at htail
    by_cases th:R7 s (k:Int)=true
    ·rw [bN th]at hp ⊢
     unfold PA at hp ⊢
     by_cases q:max p.From x.From≤min p.To x.To
     ·rw [bN ⟨th,e,q⟩]at hstart
      rw [bN q]at hp ⊢
      dsimp only at hp ⊢
      have h4:=QY (s:=s) V hS hjp hg hv e h0 h1 (to:=min p.To x.To) rfl a2 (at_:Int) 42 (max p.From x.From) ns at_ rest q (by omega) (by unfold Ik;omega) (by omega) hp
      rw [h4]at hstart
      have hdrop:S.Points.drop (at_+ (We (Ct m x.Lane_) g.V (min p.To x.To) 42 (max p.From x.From) ns).1.length)= []++rest:=by
        rw [← List.drop_drop,hp,List.drop_left,lQ]
      rw [H8 hstart,htail _ hdrop]
      simp
     ·rw [bO fun h=>q h.2.2]at hstart
      rw [bO q]at hp ⊢
      rw [H8 hstart,htail at_ hp]
    ·rw [bO fun h=>th h.1]at hstart
     rw [bO th]at hp ⊢
     rw [H8 hstart,htail at_ hp]
   ·rw [bO fun h=>e h.2.1]at hstart
    rw [List.find?_cons,show (p.Lane_==x.Lane_)=false by simpa using e]at hp ⊢
    rw [H8 hstart]
    exact ih (j+1) at_ (I4 hd) hlt u2 hp
theorem eQ (B:BearM m)(V:ValR m)(O:StateOK m s){S:Scan}(hS:S.Points.length≤1000000000){c:Nat}{x:Span}(hx:S.Seen[c]? =some x)(h0:0≤x.Lane_)(h1:x.Lane_<m.Lanes.length)(a1:Int):
    ∀(r:List Agent) (k at_:Nat) (ns:List Int) (rest:List Point),s.Agents.drop k=r→k≤s.Agents.length→S.Points.drop at_=(Bg m s x k r ns).1++rest→
     loop (W8 m s S (a1,(c:Int))) ((at_:Int),(k:Int))=some (.inl ((at_+ (Bg m s x k r ns).1.length:Nat):Int)):=by
  have hnum:=O.num
  intro r
  induction r with
  |nil=>
   intro k at_ ns rest hd hkl hp
   have:=N0 hd
   obtain rfl:k=s.Agents.length:=by omega
   refine D2 ?_
   unfold W8
   dsimp only
   rw [J2];rfl
  |cons g r ih=>
   intro k at_ ns rest hd hkl hp
   have hlt:=L3 hd
   have hg:=S6 hd
   obtain ⟨a,t,hR,R⟩:=(O.agent k g hg).route
   have hr:g.Route.length≤1000:=by have:=R.most;rw [hR];simp;omega
   rw [Bg]at hp ⊢
   dsimp only at hp ⊢
   have hone:(Mi m s x k g ns).1=if R7 s (k:Int)=true then match ((R6 m g).find? fun p=>p.Lane_==x.Lane_).bind (PA x)with
    |some y=>(We (Ct m x.Lane_) g.V y.To 42 y.From ns).1
    |none=> []else []:=by
     unfold Mi
     show _=if R7 s (k:Int)=true then match eF m g x with
       |some y=>(We (Ct m x.Lane_) g.V y.To 42 y.From ns).1
       |none=> []else []
     cases eF m g x<;>split<;>rfl
   rw [lO]at hp
   have h3:=eP V O hS hg hx h0 h1 a1 (at_:Int) (ns:=ns) (R6 m g) 0 at_ rfl (by omega) (oR R hR) (by rw [← hone];exact hp)
   rw [← hone]at h3
   have h3:loop (U2 m s S (a1,(c:Int)) ((at_:Int),(k:Int)) (R6 m g)) ((at_:Int),0)=_:=h3
   have hdrop:S.Points.drop (at_+ (Mi m s x k g ns).1.length)=(Bg m s x (k+1) r (Mi m s x k g ns).2).1++rest:=by
     rw [← List.drop_drop,hp,List.drop_left]
   rw [H8 (s':=(((at_+ (Mi m s x k g ns).1.length:Nat):Int),((k+1:Nat):Int))),ih (k+1) _ _ rest (I4 hd) hlt hdrop,lM,Nat.add_assoc]
   unfold W8
   dsimp only
   rw [K7 hlt,bK,C9 hg,lB,(GR B hr).2,lB,h3,H5 hlt (by omega)]
   rfl
theorem eS (B:BearM m)(V:ValR m)(O:StateOK m s){S:Scan}(hS:S.Points.length≤1000000000)(hL:S.Seen.length≤1000000)(hlane: ∀x∈S.Seen,0≤x.Lane_∧x.Lane_<m.Lanes.length):
    ∀(r:List Span) (c at_:Nat) (ns:List Int),S.Seen.drop c=r→c≤S.Seen.length→S.Points.drop at_=(Pm m s r ns).1→at_≤S.Points.length→
     loop (W9 m s S) ((at_:Int),(c:Int))=some (.inl (S.Points.length:Int)):=by
  have hnum:=O.num
  intro r
  induction r with
  |nil=>
   intro c at_ ns hd hcl hp hal
   have:=N0 hd
   obtain rfl:c=S.Seen.length:=by omega
   have:=N0 hp
   obtain rfl:at_=S.Points.length:=by omega
   refine D2 ?_
   unfold W9
   dsimp only
   rw [J2];rfl
  |cons x r ih=>
   intro c at_ ns hd hcl hp hal
   have hlt:=L3 hd
   have hx:=S6 hd
   have hl:=hlane x (lG hx)
   rw [Pm]at hp
   dsimp only at hp
   have h2:=eQ B V O hS hx hl.1 hl.2 (at_:Int) (s.Agents.drop 1) 1 at_ ns _ rfl (by omega) hp
   have h2:loop (W8 m s S ((at_:Int),(c:Int))) ((at_:Int),1)=_:=h2
   have hlen:=congrArg List.length hp
   rw [lX,lM]at hlen
   rw [H8 (s':=(((at_+ (Bg m s x 1 (s.Agents.drop 1) ns).1.length:Nat):Int),((c+1:Nat):Int))),ih (c+1) _ _ (I4 hd) hlt (by rw [← List.drop_drop,hp,List.drop_left]) (by omega)]
   unfold W9
   dsimp only
   rw [K7 hlt,bK,h2,H5 hlt (by omega)]
   rfl
end
theorem Xc (n:Int)(ps:List KitActor)(v:Int)(ns:List Int):Ki n ps v ns=some true:=by
  obtain ⟨m,hm,K,_⟩:=oL n
  unfold Ki
  rw [jL]
  by_cases q:7<ps.length∨60<ns.length
  ·rw [show (decide ((ps.length:Int)>7)||decide ((ns.length:Int)>60))=true by simp only [bT,bI];omega];rfl
  ·rw [show (decide ((ps.length:Int)>7)||decide ((ns.length:Int)>60))=false by simp only [bY,wA];omega,bM,hm,lB]
   obtain ⟨A,e,h0,L⟩:=kG K ps (by omega)
   obtain ⟨n1,O⟩:=kF K h0
   have Z:=kE K L.size
   have hw:=oQ O
   have hc:=(CG K).2 O
   have hv:=wP v (show (80001:Int)≠0 by decide)
   have hv2:=wQ v (show (0:Int)<80001 by decide)
   rw [e,lB,Tb (by omega) (by omega),lB,eN K.toBearM K.val O Z hw hc (view:=v % 80001) (by omega) ns (by omega),lB]
   have h:=eS K.toBearM K.val O (S:=IK m (Ns m A).1 (v % 80001) ns) (eO K.val O _ _) (NZ m _ _ K.val.lanes) (fun x hx=>QW hx) (Xb m (Ns m A).1 (v % 80001)) 0 0 ns rfl (by omega) rfl (by omega)
   have h:loop (W9 m (Ns m A).1 (IK m (Ns m A).1 (v % 80001) ns)) (0,0)=_:=h
   rw [h]
   have h2:((IK m (Ns m A).1 (v % 80001) ns).Stamp==(Ns m A).1.Tick)=true:=beq_self_eq_true _
   show Option.bind (cond (((_:Int)==_)&&_) _ _) _=_
   rw [beq_self_eq_true,h2]
   rfl
end
end Go.Abs.World
