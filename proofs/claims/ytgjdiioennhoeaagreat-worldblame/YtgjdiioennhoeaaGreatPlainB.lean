/-
  Plain facts, second part: the law itself.
-/
import Derived.Test.YtgjdiioennhoeaaGreatPlain
set_option linter.all false
/-! Places and passes. -/
namespace Go.Abs.World
noncomputable section
open Go Go.Abs
theorem Wi (m:Map): ∀(r:List Int) (s:Int),Ec m s r=s+Ec m 0 r
  | [],s=>by simp [Ec]
  |a::r,s=>by rw [Ec,Ec,Wi m r (s+Q4 m a),Wi m r (0+Q4 m a)];omega
theorem Nc (m:Map): ∀(r:List Int) (s:Int) (i:Nat),i<r.length→(P4 m s r)[i]? =some (s+Ec m 0 (r.take i))
  | [],_,_,h=>absurd h (by simp)
  |a::r,s,0,_=>by simp [P4,Ec]
  |a::r,s,i+1,h=>by
   rw [P4,List.getElem?_cons_succ,Nc m r _ i (by simpa using h),List.take_succ_cons,Ec,Wi m _ (0+Q4 m a)]
   congr 1;omega
def Pe (m:Map)(r:List Int)(i:Nat):Int:=Ec m 0 (r.take i)
theorem Zh (m:Map)(r:List Int):Pe m r 0=0:=rfl
theorem HI (m:Map)(x:Int): ∀(l:List Int) (s:Int),Ec m s (l++ [x])=Ec m s l+Q4 m x
  | [],s=>rfl
  |a::l,s=>by rw [List.cons_append,Ec,Ec,HI m x l]
theorem Su {m:Map}{r:List Int}{i:Nat}{a:Int}(h:r[i]? =some a):Pe m r (i+1)=Pe m r i+Q4 m a:=by
  unfold Pe
  rw [List.take_add_one,h]
  exact HI m a _ _
theorem kP (m:Map)(r:List Int):Pe m r r.length=Ec m 0 r:=by rw [Pe,List.take_length]
theorem RouteOK.len {m:Map}{a:Int}{t:List Int}(R:RouteOK m a t){i:Nat}{x:Int}(h:(a::t)[i]? =some x):1000≤Q4 m x∧Q4 m x≤16777216:=by
  have:=R.mem (lG h)
  exact R.val.long this.1 this.2
theorem RouteOK.mono {m:Map}{a:Int}{t:List Int}(R:RouteOK m a t): ∀(j i:Nat),i+j≤(a::t).length→Pe m (a::t) i+1000*j≤Pe m (a::t) (i+j)∧Pe m (a::t) (i+j)≤Pe m (a::t) i+16777216*j
  |0,i,_=>by simp
  |j+1,i,h=>by
   have:=R.mono j i (by omega)
   have e:(a::t)[i+j]? =some (a::t)[i+j]:=lH (by omega)
   have hl:=R.len e
   rw [← Nat.add_assoc,Su e]
   omega
theorem RouteOK.lt {m:Map}{a:Int}{t:List Int}(R:RouteOK m a t){i j:Nat}(hij:i<j)(hj:j≤(a::t).length):Pe m (a::t) i+1000≤Pe m (a::t) j:=by
  have:=(R.mono (j - i) i (by omega)).1
  rw [show i+ (j - i)=j by omega]at this
  omega
theorem RouteOK.bd {m:Map}{a:Int}{t:List Int}(R:RouteOK m a t){i:Nat}(hi:i≤(a::t).length):0≤Pe m (a::t) i∧Pe m (a::t) i≤134217728:=by
  have:=R.mono i 0 (by omega)
  have h7:=R.most
  simp only [lL]at hi
  rw [wK,Zh]at this
  omega
theorem RouteOK.follow {m:Map}{a:Int}{t:List Int}(R:RouteOK m a t):Av m (a::t)=⟨m,a::t,P4 m 0 (a::t),Pe m (a::t) (a::t).length⟩:=by
  unfold Av
  rw [bQ (chkRoute_zero.2 ⟨a,t,rfl,R⟩),kP]
theorem RouteOK.starts {m:Map}{a:Int}{t:List Int}{i:Nat}(hi:i< (a::t).length):C0 (P4 m 0 (a::t)) (i:Int)=some (Pe m (a::t) i):=by
  rw [C3 (Nc m _ 0 i hi),Int.zero_add];rfl
def Oj (lane s:Int)(zi:Nat):Nat→List Part→List Pass
  |_,[]=> []
  |k,p::r=>(if p.Lane_==lane then [⟨(zi:Int),(k:Int),s+p.From,s+p.To⟩]else [])++Oj lane s zi (k+1) r
def Qt (lane s:Int):Nat→List Zone→List Pass
  |_,[]=> []
  |zi,z::r=>Oj lane s zi 0 z.Parts++Qt lane s (zi+1) r
def Li (m:Map):Int→List Int→List Pass
  |_,[]=> []
  |s,a::r=>Qt a s 0 m.Zones++Li m (s+Q4 m a) r
theorem Zx (lane s:Int)(zi:Nat): ∀(l:List Part) (k:Nat),(l.map (·.Lane_)).Pairwise (· < ·)→(Oj lane s zi k l).length≤1
  | [],_,_=>by simp [Oj]
  |p::r,k,h=>by
   obtain ⟨h1,h2⟩:=bB.1 h
   have nil: ∀(r:List Part) (k:Nat),(∀q∈r,q.Lane_≠lane)→Oj lane s zi k r= []:=by
     intro r
     induction r with
     |nil=>intro k _;rfl
     |cons q r ih=>
      intro k hq
      rw [Oj,ih (k+1) (fun y hy=>hq y (List.mem_cons_of_mem _ hy)),show (q.Lane_==lane)=false by simp [hq q (by simp)]]
      rfl
   rw [Oj]
   by_cases e:p.Lane_=lane
   ·rw [nil r (k+1) (fun q hq=>by
    have:p.Lane_<q.Lane_:=h1 q.Lane_ (List.mem_map_of_mem hq)
    omega)]
    simp [e]
   ·rw [show (p.Lane_==lane)=false by simp [e]]
    exact Zx lane s zi r (k+1) h2
theorem Zy {m:Map}(lane s:Int): ∀(l:List Zone) (zi:Nat),(∀z∈l,ZoneOK m z)→(Qt lane s zi l).length≤l.length
  | [],_,_=>by simp [Qt]
  |z::r,zi,h=>by
   have:=Zx lane s zi z.Parts 0 (Mp (h z (by simp)).rise)
   have:=Zy lane s r (zi+1) fun y hy=>h y (List.mem_cons_of_mem _ hy)
   rw [Qt,lM,lL]
   omega
theorem OD (lane s:Int)(zi:Nat): ∀(l:List Part) (k:Nat) (x:Pass),x∈Oj lane s zi k l→∃(j:Nat) (p:Part),l[j]? =some p∧p.Lane_=lane∧x=⟨(zi:Int),((k+j:Nat):Int),s+p.From,s+p.To⟩
  | [],_,x,h=>by simp [Oj]at h
  |p::r,k,x,h=>by
   rw [Oj,lT]at h
   rcases h with h|h
   ·by_cases e:p.Lane_=lane
    ·rw [bQ (by simp [e]),bI]at h
     exact ⟨0,p,rfl,e,h⟩
    ·rw [bR (by simp [e])]at h;simp at h
   ·obtain ⟨j,q,h1,h2,h3⟩:=OD lane s zi r (k+1) x h
    exact ⟨j+1,q,by simpa using h1,h2,by rw [h3];congr 1;omega⟩
theorem OE (lane s:Int): ∀(l:List Zone) (zi:Nat) (x:Pass),x∈Qt lane s zi l→∃(j:Nat) (z:Zone) (k:Nat) (p:Part),l[j]? =some z∧z.Parts[k]? =some p∧p.Lane_=lane∧x=⟨((zi+j:Nat):Int),(k:Int),s+p.From,s+p.To⟩
  | [],_,x,h=>by simp [Qt]at h
  |z::r,zi,x,h=>by
   rw [Qt,lT]at h
   rcases h with h|h
   ·obtain ⟨k,p,h1,h2,h3⟩:=OD lane s zi z.Parts 0 x h
    exact ⟨0,z,k,p,rfl,h1,h2,by rw [h3,wK];rfl⟩
   ·obtain ⟨j,y,k,p,h0,h1,h2,h3⟩:=OE lane s r (zi+1) x h
    exact ⟨j+1,y,k,p,by simpa using h0,h1,h2,by rw [h3];congr 1;omega⟩
theorem Zz (m:Map): ∀(r:List Int) (s:Int) (x:Pass),x∈Li m s r→∃(i:Nat) (lane:Int) (j:Nat) (z:Zone) (k:Nat) (p:Part),r[i]? =some lane∧m.Zones[j]? =some z∧z.Parts[k]? =some p∧p.Lane_=lane∧x=⟨(j:Int),(k:Int),s+Ec m 0 (r.take i)+p.From,s+Ec m 0 (r.take i)+p.To⟩
  | [],_,x,h=>by simp [Li]at h
  |a::r,s,x,h=>by
   rw [Li,lT]at h
   rcases h with h|h
   ·obtain ⟨j,z,k,p,h1,h2,h3,h4⟩:=OE a s m.Zones 0 x h
    exact ⟨0,a,j,z,k,p,rfl,h1,h2,h3,by rw [h4];simp [Ec]⟩
   ·obtain ⟨i,lane,j,z,k,p,h0,h1,h2,h3,h4⟩:=Zz m r _ x h
    refine ⟨i+1,lane,j,z,k,p,by simpa using h0,h1,h2,h3,?_⟩
    rw [h4,List.take_succ_cons,Ec,Wi m _ (0+Q4 m a)]
    congr 1<;>omega
section
variable {m:Map}{a:Int}{t:List Int}
theorem kQ (B:BearM m)(R:RouteOK m a t){i:Nat}{lane:Int}(hi:i< (a::t).length)(zi:Nat){z:Zone}(hz:m.Zones[zi]? =some z)(o1 o2:List Pass):
    ∀(r:List Part) (k:Nat) (out:List Pass),z.Parts.drop k=r→k≤z.Parts.length→out.length+r.length≤1000→
     loop (Ap (Av m (a::t)) (o1,(i:Int)) lane (o2,(zi:Int)) z) (out,(k:Int))=some (out++Oj lane (Pe m (a::t) i) zi k r):=by
  have Z:=R.val.zoneOK (lG hz)
  have h6:=Z.six
  intro r
  induction r with
  |nil=>
   intro k out hk hkl hl
   have:=N8 hk
   obtain rfl:k=z.Parts.length:=by omega
   refine C6 ?_
   unfold Ap
   rw [I0];simp [Oj]
  |cons p r ih=>
   intro k out hk hkl hl
   have hlt:=M9 hk
   have hp:=U6 hk
   have hpm:=lG hp
   have hpt:=Z.part p hpm
   have hln:=Lc Z.rise p.Lane_ (List.mem_map_of_mem hpm)
   have hll:=R.val.long hln.1 hln.2
   have hb:=R.bd (Nat.le_of_lt hi)
   simp only [lL]at hl
   have hs:Ap (Av m (a::t)) (o1,(i:Int)) lane (o2,(zi:Int)) z (out,(k:Int))=some (.go (out++ (if p.Lane_==lane then [⟨(zi:Int),(k:Int),Pe m (a::t) i+p.From,Pe m (a::t) i+p.To⟩]else []),((k+1:Nat):Int))):=by
     unfold Ap
     dsimp only
     rw [J6 hlt,C3 hp,bO,lB,G7 hlt (by omega)]
     cases p.Lane_==lane
     ·simp
     ·rw [R.follow]
      dsimp only
      rw [bO,RouteOK.starts hi,lB,lB,F5 (by omega),F5 (by omega),Ey (by simp;omega)]
      rfl
   rw [J2 hs,ih (k+1) _ (K5 hk) (by omega) (by rw [lM];split<;>simp<;>omega),Oj,lO]
theorem kR (B:BearM m)(R:RouteOK m a t){i:Nat}{lane:Int}(hi:i< (a::t).length)(o1:List Pass):
    ∀(r:List Zone) (zi:Nat) (out:List Pass),m.Zones.drop zi=r→zi≤m.Zones.length→out.length+r.length≤500→
     loop (U3 m (Av m (a::t)) (o1,(i:Int)) lane) (out,(zi:Int))=some (out++Qt lane (Pe m (a::t) i) zi r):=by
  intro r
  induction r with
  |nil=>
   intro zi out hk hkl hl
   have:=N8 hk
   obtain rfl:zi=m.Zones.length:=by omega
   refine C6 ?_
   unfold U3
   rw [I0];simp [Qt]
  |cons z r ih=>
   intro zi out hk hkl hl
   have hlt:=M9 hk
   have hz:=U6 hk
   have Z:=R.val.zoneOK (lG hz)
   have h6:=Z.six
   have hnz:=R.val.zones
   simp only [lL]at hl
   have h1:=Zx lane (Pe m (a::t) i) zi z.Parts 0 (Mp Z.rise)
   have h3:loop (Ap (Av m (a::t)) (o1,(i:Int)) lane (out,(zi:Int)) z) (out,0)=_:=kQ B R hi zi hz o1 out z.Parts 0 out rfl (by omega) (by omega)
   have hs:U3 m (Av m (a::t)) (o1,(i:Int)) lane (out,(zi:Int))=some (.go (out++Oj lane (Pe m (a::t) i) zi 0 z.Parts,((zi+1:Nat):Int))):=by
     unfold U3
     dsimp only
     rw [J6 hlt,C3 hz,bO,lB,h3,lB,G7 hlt (by omega)]
   rw [J2 hs,ih (zi+1) _ (K5 hk) (by omega) (by rw [lM];omega),Qt,lO]
theorem kS (B:BearM m)(R:RouteOK m a t):
    ∀(r:List Int) (i:Nat) (out:List Pass),(a::t).drop i=r→i≤(a::t).length→out.length+12*r.length≤200→
     loop (O4 m (Av m (a::t))) (out,(i:Int))=some (out++Li m (Pe m (a::t) i) r):=by
  have hl:(Av m (a::t)).lanes=a::t:=by rw [R.follow]
  intro r
  induction r with
  |nil=>
   intro i out hk hkl hle
   have:=N8 hk
   obtain rfl:i=(a::t).length:=by omega
   refine C6 ?_
   unfold O4
   dsimp only
   rw [hl,I0];simp [Li]
  |cons x r ih=>
   intro i out hk hkl hle
   have hlt:=M9 hk
   have hx:=U6 hk
   have hm7:=R.most
   have hnz:=R.val.zones
   simp only [lL]at hle hlt
   have h2:loop (U3 m (Av m (a::t)) (out,(i:Int)) x) (out,0)=_:=kR B R (lane:=x) (M9 hk) out m.Zones 0 out rfl (by omega) (by omega)
   have hs:O4 m (Av m (a::t)) (out,(i:Int))=some (.go (out++Qt x (Pe m (a::t) i) 0 m.Zones,((i+1:Nat):Int))):=by
     unfold O4
     dsimp only
     rw [hl,J6 (M9 hk),C3 hx,bO,lB,h2,lB,G7 (M9 hk) (by simp only [lL];omega)]
   have:=Zy (m:=m) x (Pe m (a::t) i) m.Zones 0 fun z hz=>R.val.zoneOK hz
   rw [J2 hs,ih (i+1) _ (K5 hk) (by simp only [lL];omega) (by rw [lM];omega),Su hx,Li,lO]
/-- A map with so few zones as the kit's. -/
structure BearK (m:Map):Prop extends BearM m where
  zones2:m.Zones.length≤2
theorem LF {m:Map}(V:ValR m): ∀(r:List Int) (s:Int),(Li m s r).length≤m.Zones.length*r.length
  | [],s=>by simp [Li]
  |a::r,s=>by
   have h1:=Zy (m:=m) a s m.Zones 0 fun z hz=>V.zoneOK hz
   have h2:=LF V r (s+Q4 m a)
   rw [Li,lM,lL,Nat.mul_add,Nat.mul_one];omega
/-- The passes: sorted, and those that there are. -/
theorem OF (B:BearK m)(R:RouteOK m a t): ∃ps,V7 m (a::t)=some ps∧ps.Perm (Li m 0 (a::t))∧Srt Xb ps∧ps.length≤16:=by
  have hm7:=R.most
  have hlen:(Li m 0 (a::t)).length≤16:=by
    have:=LF R.val (a::t) 0
    have h2:m.Zones.length* (a::t).length≤2*8:=wM B.zones2 (by simp only [lL];omega)
    omega
  have h1:loop (O4 m (Av m (a::t))) ([],0)=some (Li m 0 (a::t)):=by
    have:=kS B.toBearM R (a::t) 0 [] rfl (by omega) (by simp;omega)
    rw [lQ,Zh]at this
    exact this
  unfold V7
  rw [Ro B.toBearM _ (by simp;omega),lB,h1,lB]
  cases q:Li m 0 (a::t)with
  |nil=>exact ⟨[],by rw [CU];rfl, .refl _,List.Pairwise.nil,by simp⟩
  |cons x l=>
   rw [q]at hlen
   obtain ⟨ys,g1,g2,g3⟩:=aF (x::l) (by omega)
   exact ⟨ys,by rw [show List.isEmpty (x::l)=false from rfl,bP,g1];rfl,g2,g3,by rw [g2.length_eq];exact hlen⟩
end
theorem TG {m:Map}(B:BearM m)(V:ValR m)(l:List Int)(hl:l.length≤1000000): ∀(r:List Int) (i:Nat) (a:Int),l.drop (i+1)=r→l[i]? =some a→0≤a→a<m.Lanes.length→thenS (loop (X4 m l) ((i+1:Nat):Int)) (fun _=>some 0) (fun r=>some r)=some (if Ll m a r=true then 0 else 13):=by
  intro r
  induction r with
  |nil=>
   intro i a hi ha h0 h1
   have h2:=N8 hi
   have h3:=(lI.1 ha).1
   have h4:i+1=l.length:=by omega
   rw [C6 (t:= .inl ())]
   ·rfl
   ·unfold X4
    rw [show decide (((i+1:Nat):Int)< (l.length:Int))=false from bK (by omega)];rfl
  |cons b r ih=>
   intro i a hi ha h0 h1
   have hlt:=M9 hi
   have hb:=U6 hi
   obtain ⟨ln,e1,e2⟩:=Tp h0 h1
   have hw:D6 (((i+1:Nat):Int) - 1)=(i:Int):=by rw [F5 (by omega)];omega
   have hs:X4 m l ((i+1:Nat):Int)=some (if ln.Next.contains b=true then .go (((i+1+1:Nat):Int))else .out (.inr 13)):=by
     unfold X4
     rw [J6 hlt,bO,hw,C3 ha,lB,e2,lB,C3 hb,lB,WB _ (B.toBear.pts _ (lG e1)).2,lB,G7 hlt (by omega)]
     cases ln.Next.contains b<;>rfl
   have hn:nextOf m a.toNat=ln.Next:=by unfold nextOf;rw [e1];rfl
   rw [Ll,hn]
   cases q:ln.Next.contains b
   ·rw [q]at hs;rw [C6 hs];rfl
   ·rw [q]at hs
    have hbm:=V.next e1 (List.contains_iff_mem.1 q)
    rw [J2 hs,ih (i+1) b (K5 hi) hb (by omega) (by omega),bS]
theorem Ob {m:Map}(B:BearM m)(r:List Int)(hr:r.length≤1000000):Y9 m r=some (P3 m r):=by
  unfold Y9 P3
  rw [So B,lB]
  by_cases q:Ux m=0
  ·have V:=chkR_zero.1 q
   rw [bR (by simpa using q),show (Ux m !=0)=false by simpa using q,bP]
   cases r with
   |nil=>rfl
   |cons a t=>
    dsimp only
    simp only [lL]at hr ⊢
    by_cases h8:7<t.length
    ·rw [bQ (.inl h8),show ((((t.length+1:Nat):Int)==0)||(decide (((t.length+1:Nat):Int)>8)))=true by simp;omega];rfl
    ·rw [show ((((t.length+1:Nat):Int)==0)||(decide (((t.length+1:Nat):Int)>8)))=false by simp;omega]
     rw [show C0 (a::t) 0=some a from rfl]
     simp only [bX,bO,lB,bY]
     by_cases h0:a<0
     ·rw [bQ (.inr (.inl h0)),bJ h0];rfl
     ·rw [bK h0]
      simp only [bX,bO,lB,bY]
      by_cases h1:(m.Lanes.length:Int)≤a
      ·rw [bQ (.inr (.inr (.inl h1))),show decide (a≥(m.Lanes.length:Int))=true from bJ h1];rfl
      ·rw [show decide (a≥(m.Lanes.length:Int))=false from bK (by omega)]
       simp only [bX,bO,bY]
       rw [lB,LA B,lB]
       by_cases hb:Cl m a= []
       ·rw [hb,show decide ((([]:List Int).length:Int)>0)=false from rfl,bP]
        have:=TG B V (a::t) (by simpa using hr) t 0 a rfl rfl (by omega) (by omega)
        rw [show ((0+1:Nat):Int)=1 from rfl]at this
        rw [this]
        by_cases hc:Ll m a t=true
        ·rw [bQ hc,bR (by rw [hc];simp;omega)]
        ·rw [bR hc,bQ (.inr (.inr (.inr (.inr (by simpa using hc)))))]
       ·rw [bQ (.inr (.inr (.inr (.inl hb)))),show decide (((Cl m a).length:Int)>0)=true from bJ (by have:=List.length_pos_iff.2 hb;omega)];rfl
  ·rw [bQ q,show (Ux m !=0)=true by simpa using q];rfl
theorem OG {m:Map}(B:BearM m){a:Int}{t:List Int}(R:RouteOK m a t):Kx m (a::t)=some (P4 m 0 (a::t),Pe m (a::t) (a::t).length):=by
  have hm7:=R.most
  have key: ∀(l:List Int) (i:Nat) (st:List Int),(a::t).drop i=l→i≤(a::t).length→st.length=i→loop (Cs m (a::t)) (st,Pe m (a::t) i,(i:Int))=some (st++P4 m (Pe m (a::t) i) l,Pe m (a::t) (a::t).length):=by
    intro l
    induction l with
    |nil=>
     intro i st hi hil _
     have:=N8 hi
     obtain rfl:i=(a::t).length:=by omega
     refine C6 ?_
     unfold Cs
     dsimp only
     rw [I0,P4,lP];rfl
    |cons x l ih=>
     intro i st hi hil h2
     have hlt:=M9 hi
     have hx:=U6 hi
     have hm:=R.mem (lG hx)
     have hl:=R.len hx
     have hb:=R.bd (Nat.le_of_lt hlt)
     simp only [lL]at hlt
     rw [J2 (s':=(st++ [Pe m (a::t) i],Pe m (a::t) (i+1),((i+1:Nat):Int)))]
     ·rw [ih (i+1) _ (K5 hi) (by simp;omega) (by simp [h2]),P4,Su hx,lO];rfl
     ·unfold Cs
      dsimp only
      rw [J6 (by simpa using hlt),Ey (by simp;omega),bO,lB,C3 hx,lB,Wz B hm.1 hm.2,lB,G7 hlt (by omega),F5 (by omega),Su hx]
  have:=key (a::t) 0 [] rfl (by omega) rfl
  rw [Zh]at this
  have this':loop (Cs m (a::t)) ([],0,0)=_:=this
  unfold Kx
  rw [this',lB,lQ]
def StartsM (m:Map)(r:List Int):List Int:=(Av m r).starts
def LongM (m:Map)(r:List Int):Int:=(Av m r).length
theorem GG {m:Map}(B:BearM m)(r:List Int)(hr:r.length≤1000000):Bn m r=some (StartsM m r):=by
  unfold Bn StartsM
  rw [Ro B r hr];rfl
theorem YE {m:Map}(B:BearM m)(r:List Int)(hr:r.length≤1000000):V4 m r=some (LongM m r):=by
  unfold V4 LongM
  rw [Ro B r hr];rfl
theorem Sv {m:Map}{r:List Int}(q:P3 m r≠0):Av m r=⟨⟨0,[],[],[],[]⟩,[],[],0⟩:=by unfold Av;rw [bR q]
theorem Sw {m:Map}(B:BearM m)(r:List Int)(hr:r.length≤1000000):Fl m r=some (StartsM m r):=by
  unfold Fl
  rw [Ob B r hr,lB]
  by_cases q:P3 m r=0
  ·obtain ⟨a,t,rfl,R⟩:=chkRoute_zero.1 q
   rw [q,show ((0:Int) !=0)=false from rfl,bP,OG B R,lB,StartsM,R.follow]
  ·rw [show (P3 m r !=0)=true by simpa using q,bO,StartsM,Sv q]
theorem LG {m:Map}(B:BearM m)(r:List Int)(hr:r.length≤1000000):Ai m r=some (LongM m r):=by
  unfold Ai
  rw [Ob B r hr,lB]
  by_cases q:P3 m r=0
  ·obtain ⟨a,t,rfl,R⟩:=chkRoute_zero.1 q
   rw [q,show ((0:Int) !=0)=false from rfl,bP,OG B R,lB,LongM,R.follow]
  ·rw [show (P3 m r !=0)=true by simpa using q,bO,LongM,Sv q]
theorem Va {m:Map}(B:BearM m)(r:List Int)(hr:r.length≤1000000)(k:Int):Fo m r k=some (Cc m r k):=by
  unfold Fo Cc
  rw [Ob B r hr,lB]
  by_cases h:k<0∨(m.Zones.length:Int)≤k
  ·have e:(((P3 m r !=0)||(decide (k<0)))||(decide (k≥(m.Zones.length:Int))))=true:=by
     rcases h with h|h
     ·rw [bJ h];simp
     ·rw [show decide (k≥(m.Zones.length:Int))=true from bJ h];simp
   rw [e,bO]
   cases hz:m.Zones[k.toNat]? with
   |none=>rfl
   |some z=>
    have:=G9 hz
    dsimp only
    rw [bR (fun x=>by have:=x.1;omega)]
  ·obtain ⟨z,z1,z2⟩:=XZ (m:=m) (k:=k) (by omega) (by omega)
   rw [show decide (k<0)=false from bK (by omega),show decide (k≥(m.Zones.length:Int))=false from bK (by omega),Bool.or_false,Bool.or_false,z1]
   dsimp only
   have hp:=B.toBearZ.parts z (lG z1)
   by_cases q:P3 m r=0
   ·rw [bQ ⟨by omega,q⟩,q,show ((0:Int) !=0)=false from rfl,bP]
    exact Qa r (fun l=>(Jr z l).2) (by omega) (fun i a h=>by
      have hi:=G9 h
      unfold Ki
      rw [J6 hi,z2,bO,lB,C3 h,lB,TF hp,lB]
      cases (Jr z a).2<;>rfl) (by unfold Ki;rw [I0];rfl)
   ·rw [bR (fun x=>q x.2),show (P3 m r !=0)=true by simpa using q];rfl
def oW {α τ:Type}:Stp (List α×Int) τ→Stp (Int×List α) τ
  | .go x=> .go (x.2,x.1)
  | .out t=> .out t
theorem aG {α τ:Type}(F:List α×Int→Option (Stp (List α×Int) τ))(l:List α)(i:Int)(t:τ)(h:loop (fun s:Int×List α=>(F (s.2,s.1)).map oW) (i,l)=some t):loop F (l,i)=some t:=by
  obtain ⟨n,hn⟩:=loop_some.1 h
  refine loop_some.2 ⟨n,?_⟩
  clear h
  induction n generalizing l i with
  |zero=>cases hn
  |succ n ih=>
   rw [loopN]at hn ⊢
   dsimp only at hn
   cases hf:F (l,i)with
   |none=>rw [hf]at hn;cases hn
   |some x=>
    rw [hf]at hn
    cases x with
    |go s=>exact ih s.1 s.2 hn
    |out t'=>exact hn
theorem TH: ∀{l l':List Pass},Srt Xb l→Srt Xb l'→l.Perm l'→(∀x∈l,∀y∈l,Xb x y=false→Xb y x=false→x=y)→l=l'
  | [],l',_,_,h,_=>(List.Perm.nil_eq h)
  |a::l,[],_,_,h,_=>absurd h.length_eq (by simp)
  |a::l,b::l',h1,h2,h,hk=>by
   obtain ⟨a1,a2⟩:=bB.1 h1
   obtain ⟨b1,b2⟩:=bB.1 h2
   have hbl:b∈a::l:=h.mem_iff.2 (by simp)
   have hal:a∈b::l':=h.mem_iff.1 (by simp)
   have e1:Xb b a=false:=by
     rcases lU.1 hbl with e|e
     ·rw [e];exact ltP_ok.irr a
     ·exact a1 b e
   have e2:Xb a b=false:=by
     rcases lU.1 hal with e|e
     ·rw [e];exact ltP_ok.irr b
     ·exact b1 a e
   have hab:=hk a (by simp) b hbl e2 e1
   subst hab
   congr 1
   exact TH a2 b2 (List.Perm.cons_inv h) fun x hx y hy=>hk x (List.mem_cons_of_mem _ hx) y (List.mem_cons_of_mem _ hy)
section
variable {m:Map}{a:Int}{t:List Int}
theorem aH (R:RouteOK m a t): ∀x∈Li m 0 (a::t),∀y∈Li m 0 (a::t),Xb x y=false→Xb y x=false→x=y:=by
  intro x hx y hy h1 h2
  obtain ⟨i,l,j,z,k,p,e1,e2,e3,e4,e5⟩:=Zz m _ 0 x hx
  obtain ⟨i',l',j',z',k',p',f1,f2,f3,f4,f5⟩:=Zz m _ 0 y hy
  subst e4 f4
  have hx1:x.From=Pe m (a::t) i+p.From:=by rw [e5];show 0+Pe m (a::t) i+p.From=_;omega
  have hy1:y.From=Pe m (a::t) i'+p'.From:=by rw [f5];show 0+Pe m (a::t) i'+p'.From=_;omega
  have hx2:x.Zone_=(j:Int):=by rw [e5]
  have hy2:y.Zone_=(j':Int):=by rw [f5]
  simp only [Xb,wC]at h1 h2
  have hj:j=j':=by omega
  subst hj
  rw [e2]at f2
  obtain rfl:=lD f2
  have Z:=R.val.zoneOK (lG e2)
  have g1:=Z.part p (lG e3)
  have g2:=Z.part p' (lG f3)
  have n1:=Su (m:=m) e1
  have n2:=Su (m:=m) f1
  have hil:=(lI.1 e1).1
  have hil':=(lI.1 f1).1
  have hii:i=i':=by
    rcases Nat.lt_trichotomy i i' with h|h|h
    ·exfalso
     have:Pe m (a::t) (i+1)≤Pe m (a::t) i':=by
       rcases Nat.lt_or_ge (i+1) i' with h'|h'
       ·have:=R.lt h' (Nat.le_of_lt hil');omega
       ·rw [show i'=i+1 by omega];omega
     omega
    ·exact h
    ·exfalso
     have:Pe m (a::t) (i'+1)≤Pe m (a::t) i:=by
       rcases Nat.lt_or_ge (i'+1) i with h'|h'
       ·have:=R.lt h' (Nat.le_of_lt hil);omega
       ·rw [show i=i'+1 by omega];omega
     omega
  subst hii
  rw [e1]at f1
  have hlane:=lD f1
  have hkk:k=k':=by
    have hp:=Mp Z.rise
    have hk1:=(lI.1 e3).1
    have hk2:=(lI.1 f3).1
    have q1:z.Parts[k]=p:=(lI.1 e3).2
    have q2:z.Parts[k']=p':=(lI.1 f3).2
    have hpi:=bD.1 hp
    rcases Nat.lt_trichotomy k k' with h|h|h
    ·have:=hpi k k' (by simpa using hk1) (by simpa using hk2) h
     simp only [List.getElem_map,q1,q2]at this;omega
    ·exact h
    ·have:=hpi k' k (by simpa using hk2) (by simpa using hk1) h
     simp only [List.getElem_map,q1,q2]at this;omega
  subst hkk
  rw [e3]at f3
  obtain rfl:=lD f3
  rw [e5,f5]
theorem pX (B:BearM m)(R:RouteOK m a t){i:Nat}{lane:Int}(hx:(a::t)[i]? =some lane)(zi:Nat){z:Zone}(hz:m.Zones[zi]? =some z)(o1 o2:List Pass):
    ∀(r:List Part) (k:Nat) (out:List Pass),z.Parts.drop k=r→k≤z.Parts.length→out.length+r.length≤1000→
     loop (As m (a::t) (P4 m 0 (a::t)) (o1,(i:Int)) (o2,(zi:Int))) (out,(k:Int))=some (out++Oj lane (Pe m (a::t) i) zi k r):=by
  have Z:=R.val.zoneOK (lG hz)
  have h6:=Z.six
  have hi:i< (a::t).length:=(lI.1 hx).1
  intro r
  induction r with
  |nil=>
   intro k out hk hkl hl
   have:=N8 hk
   obtain rfl:k=z.Parts.length:=by omega
   refine C6 ?_
   unfold As
   dsimp only
   rw [C3 hz,lB,I0];simp [Oj]
  |cons p r ih=>
   intro k out hk hkl hl
   have hlt:=M9 hk
   have hp:=U6 hk
   have hpm:=lG hp
   have hpt:=Z.part p hpm
   have hln:=Lc Z.rise p.Lane_ (List.mem_map_of_mem hpm)
   have hll:=R.val.long hln.1 hln.2
   have hb:=R.bd (Nat.le_of_lt hi)
   simp only [lL]at hl
   have hs:As m (a::t) (P4 m 0 (a::t)) (o1,(i:Int)) (o2,(zi:Int)) (out,(k:Int))=some (.go (out++ (if p.Lane_==lane then [⟨(zi:Int),(k:Int),Pe m (a::t) i+p.From,Pe m (a::t) i+p.To⟩]else []),((k+1:Nat):Int))):=by
     unfold As
     dsimp only
     rw [C3 hz,lB,J6 hlt,bO,lB,C3 hp,lB,C3 hx,lB,G7 hlt (by omega)]
     cases p.Lane_==lane
     ·simp
     ·rw [bO,RouteOK.starts hi,lB,lB,F5 (by omega),F5 (by omega),Ey (by simp;omega)]
      rfl
   rw [J2 hs,ih (k+1) _ (K5 hk) (by omega) (by rw [lM];split<;>simp<;>omega),Oj,lO]
theorem pY (B:BearM m)(R:RouteOK m a t){i:Nat}{lane:Int}(hx:(a::t)[i]? =some lane)(o1:List Pass):
    ∀(r:List Zone) (zi:Nat) (out:List Pass),m.Zones.drop zi=r→zi≤m.Zones.length→out.length+r.length≤500→
     loop (At m (a::t) (P4 m 0 (a::t)) (o1,(i:Int))) (out,(zi:Int))=some (out++Qt lane (Pe m (a::t) i) zi r):=by
  intro r
  induction r with
  |nil=>
   intro zi out hk hkl hl
   have:=N8 hk
   obtain rfl:zi=m.Zones.length:=by omega
   refine C6 ?_
   unfold At
   rw [I0];simp [Qt]
  |cons z r ih=>
   intro zi out hk hkl hl
   have hlt:=M9 hk
   have hz:=U6 hk
   have Z:=R.val.zoneOK (lG hz)
   have h6:=Z.six
   have hnz:=R.val.zones
   simp only [lL]at hl
   have h1:=Zx lane (Pe m (a::t) i) zi z.Parts 0 (Mp Z.rise)
   have h3:loop (As m (a::t) (P4 m 0 (a::t)) (o1,(i:Int)) (out,(zi:Int))) (out,0)=_:=pX B R hx zi hz o1 out z.Parts 0 out rfl (by omega) (by omega)
   have hs:At m (a::t) (P4 m 0 (a::t)) (o1,(i:Int)) (out,(zi:Int))=some (.go (out++Oj lane (Pe m (a::t) i) zi 0 z.Parts,((zi+1:Nat):Int))):=by
     unfold At
     dsimp only
     rw [J6 hlt,bO,h3,lB,G7 hlt (by omega)]
   rw [J2 hs,ih (zi+1) _ (K5 hk) (by omega) (by rw [lM];omega),Qt,lO]
theorem pZ (B:BearM m)(R:RouteOK m a t):
    ∀(r:List Int) (i:Nat) (out:List Pass),(a::t).drop i=r→i≤(a::t).length→out.length+12*r.length≤200→
     loop (Y4 m (a::t) (P4 m 0 (a::t))) (out,(i:Int))=some (out++Li m (Pe m (a::t) i) r):=by
  have hlen:(P4 m 0 (a::t)).length=(a::t).length:=Km _ _ _
  intro r
  induction r with
  |nil=>
   intro i out hk hkl hle
   have:=N8 hk
   have hii:i=(a::t).length:=by omega
   refine C6 ?_
   unfold Y4
   dsimp only
   rw [hlen,hii,I0];simp [Li]
  |cons x r ih=>
   intro i out hk hkl hle
   have hlt:=M9 hk
   have hx:=U6 hk
   have hm7:=R.most
   have hnz:=R.val.zones
   simp only [lL]at hle hlt
   have h2:loop (At m (a::t) (P4 m 0 (a::t)) (out,(i:Int))) (out,0)=_:=pY B R hx out m.Zones 0 out rfl (by omega) (by omega)
   have hs:Y4 m (a::t) (P4 m 0 (a::t)) (out,(i:Int))=some (.go (out++Qt x (Pe m (a::t) i) 0 m.Zones,((i+1:Nat):Int))):=by
     unfold Y4
     dsimp only
     rw [hlen,J6 (M9 hk),bO,h2,lB,G7 (M9 hk) (by simp only [lL];omega)]
   have:=Zy (m:=m) x (Pe m (a::t) i) m.Zones 0 fun z hz=>R.val.zoneOK hz
   rw [J2 hs,ih (i+1) _ (K5 hk) (by simp only [lL];omega) (by rw [lM];omega),Su hx,Li,lO]
end
/-- The document's insertion sort. -/
theorem gI (T:List Pass)(x:Pass)(Q:List Pass)(hs:Srt Xb Q)(hN:(Q++x::T).length≤1000000):
    ∃Q',loop U5 (Q++x::T,(Q.length:Int))=some (Q'++T)∧Q'.Perm (x::Q)∧Srt Xb Q':=by
  have hstop: ∀xs:List Pass,(fun s:Int×List Pass=>(U5 (s.2,s.1)).map oW) ((([]:List Pass).length:Int),xs)=some (.out xs):=fun xs=>by
    show (U5 (xs,0)).map oW=_
    unfold U5
    rfl
  have hF: ∀(U V:List Pass) (q y:Pass),([]:List Pass).length≤U.length→(U++q::y::V).length=(Q++x::T).length→(fun s:Int×List Pass=>(U5 (s.2,s.1)).map oW) (((U.length:Int)+1),U++q::y::V)=some (if Xb y q then .go ((U.length:Int),U++y::q::V)else .out (U++q::y::V)):=fun U V q y _ hl=>by
    show (U5 (U++q::y::V,(U.length:Int)+1)).map oW=_
    unfold U5
    have hb:U.length+2≤1000000:=by rw [← hl]at hN;simp at hN;omega
    have e1:D6 ((U.length:Int)+1 - 1)=(U.length:Int):=by rw [F5 (by omega)];omega
    have g1:C0 (U++q::y::V) ((U.length:Int)+1)=some y:=by rw [aC];exact Lw _ _ _ _ (by simp)
    have g2:C0 (U++q::y::V) (U.length:Int)=some q:=Lw _ _ _ _ rfl
    have s1:Ln (U++q::y::V) ((U.length:Int)+1) q=U++q::q::V:=by rw [aC,Uz _ _ _ _ _ (by simp)];simp
    have g3:C0 (U++q::q::V) (U.length:Int)=some q:=Lw _ _ _ _ rfl
    have s2:Ln (U++q::q::V) (U.length:Int) y=U++y::q::V:=Uz _ _ _ _ _ rfl
    simp only [show decide (((U.length:Int)+1)>0)=true from bJ (by omega),bO,bS,e1,g1,g2,s1,g3,s2,lB]
    by_cases h1:y.From<q.From
    ·rw [bJ h1,show Xb y q=true from bJ (.inl h1)];rfl
    ·rw [bK h1]
     simp only [bX,bO,lB,bS,bY]
     by_cases h2:y.From=q.From
     ·rw [show (y.From==q.From)=true by simp [h2]]
      simp only [bO,lB,bS]
      by_cases h3:y.Zone_<q.Zone_
      ·rw [bJ h3,show Xb y q=true from bJ (.inr ⟨h2,h3⟩)];rfl
      ·rw [bK h3,show Xb y q=false from bK (by omega)];rfl
     ·rw [show (y.From==q.From)=false by simp [h2],show Xb y q=false from bK (by omega)];rfl
  obtain ⟨Q',h1,h2,h3⟩:=GD ltP_ok (F:=fun s:Int×List Pass=>(U5 (s.2,s.1)).map oW) (P:= []) (T:=T) (Q++x::T).length hstop hF x Q.length Q [] rfl (by simpa using hs) (by simp) (by simp)
  refine ⟨Q',aG _ _ _ _ ?_,by simpa using h2,h3⟩
  have e:(((([]:List Pass).length+Q.length:Nat):Int),[]++Q++ [x]++T)=((Q.length:Int),Q++x::T):=by simp
  rw [e]at h1
  rw [h1];rfl
theorem mT (A:List Pass)(hN:A.length≤1000000): ∃A',loop Ar (A,1)=some A'∧A'.Perm A∧Srt Xb A':=by
  have hend: ∀(xs:List Pass) (i:Nat),xs.length≤i→Ar (xs,(i:Int))=some (.out xs):=fun xs i hi=>by
    unfold Ar
    rw [show decide ((i:Int)< (xs.length:Int))=false from bK (by omega)];rfl
  have key: ∀(R Q:List Pass),(Q++R).length≤1000000→Srt Xb Q→∃A',loop Ar (Q++R,(Q.length:Int))=some A'∧A'.Perm (Q++R)∧Srt Xb A':=by
    intro R
    induction R with
    |nil=>
     intro Q hl hs
     exact ⟨Q,by rw [lP];exact C6 (hend _ _ (wH _)),by simp,hs⟩
    |cons x R ih=>
     intro Q hl hs
     obtain ⟨Q',k1,k2,k3⟩:=gI R x Q hs hl
     have hlq:Q'.length=Q.length+1:=by rw [k2.length_eq];simp
     simp only [lM,lL]at hl
     obtain ⟨A',g1,g2,g3⟩:=ih Q' (by rw [lM];omega) k3
     refine ⟨A',?_,g2.trans ((k2.append_right R).trans (List.perm_middle (a:=x) (l₁:=Q) (l₂:=R)).symm),g3⟩
     rw [← g1,hlq]
     refine J2 ?_
     unfold Ar
     dsimp only
     rw [show decide ((Q.length:Int)< ((Q++x::R).length:Int))=true from bJ (by simp;omega),bO,k1,lB,F5 (by omega)]
     congr 2
  cases A with
  |nil=>exact ⟨[],C6 (hend [] 1 (by simp)), .refl _,List.Pairwise.nil⟩
  |cons a A=>
   obtain ⟨A',g1,g2,g3⟩:=key A [a] (by simpa using hN) (List.pairwise_singleton _ _)
   exact ⟨A',g1,g2,g3⟩
theorem WL {m:Map}(B:BearK m)(r:List Int)(hr:r.length≤1000000): ∃ps,V7 m r=some ps∧Fm m r=some ps∧ps.length≤16:=by
  by_cases q:P3 m r=0
  ·obtain ⟨a,t,rfl,R⟩:=chkRoute_zero.1 q
   obtain ⟨ps,p1,p2,p3,p4⟩:=OF B R
   refine ⟨ps,p1,?_,p4⟩
   have hm7:=R.most
   have hlen:(Li m 0 (a::t)).length≤16:=by rw [← p2.length_eq];exact p4
   have h1:loop (Y4 m (a::t) (P4 m 0 (a::t))) ([],0)=some (Li m 0 (a::t)):=by
     have:=pZ B.toBearM R (a::t) 0 [] rfl (by omega) (by simp;omega)
     rw [lQ,Zh]at this
     exact this
   obtain ⟨A',g1,g2,g3⟩:=mT (Li m 0 (a::t)) (by omega)
   have:ps=A':=TH p3 g3 (p2.trans g2.symm) fun x hx y hy=>aH R x (p2.mem_iff.1 hx) y (p2.mem_iff.1 hy)
   unfold Fm
   rw [Sw B.toBearM _ hr,lB,show StartsM m (a::t)=P4 m 0 (a::t) by unfold StartsM;rw [R.follow],h1,lB,g1,this];rfl
  ·refine ⟨[],?_,?_,by simp⟩
   ·have h1:loop (O4 m (Av m r)) ([],0)=some []:=by
      refine C6 ?_
      unfold O4
      rw [Sv q];rfl
    unfold V7
    rw [Ro B.toBearM r hr,lB,h1,lB,CU];rfl
   ·have h1:loop (Y4 m r []) ([],0)=some []:=C6 rfl
    obtain ⟨A',g1,g2,_⟩:=mT [] (by simp)
    obtain rfl:A'= []:=List.length_eq_zero_iff.1 g2.length_eq
    unfold Fm
    rw [Sw B.toBearM r hr,lB,StartsM,Sv q]
    dsimp only
    rw [h1,lB,g1];rfl
/-- How far it is to stop, by its sum. -/
def Xc (b:Int):Nat→Int→Int
  |0,_=>0
  |n+1,v=>if v≤b then 0 else (v - b)+Xc b n (v - b)
def Ok (v b:Int):Int:=Xc b v.toNat v
theorem LH {b:Int}(hb:0<b): ∀(n m:Nat) (v:Int),v≤n→v≤m→Xc b n v=Xc b m v
  |0,0,_,_,_=>rfl
  |0,m+1,v,h,_=>by rw [Xc,Xc,bQ (by omega)]
  |n+1,0,v,_,h=>by rw [Xc,Xc,bQ (by omega)]
  |n+1,m+1,v,h1,h2=>by
   rw [Xc,Xc]
   by_cases h:v≤b
   ·rw [bQ h,bQ h]
   ·rw [bR h,bR h,LH hb n m _ (by omega) (by omega)]
theorem Qb {v b:Int}(h:v≤b):Ok v b=0:=by
  unfold Ok
  cases v.toNat with
  |zero=>rfl
  |succ n=>rw [Xc,bQ h]
theorem AA {v b:Int}(hb:0<b)(h:b<v):Ok v b=(v - b)+Ok (v - b) b:=by
  unfold Ok
  obtain ⟨n,hn⟩: ∃n,v.toNat=n+1:=⟨v.toNat - 1,by omega⟩
  rw [hn,Xc,bR (by omega),LH hb n (v - b).toNat _ (by omega) (by omega)]
theorem FA {P:Int→Prop}{b:Int}(hb:0<b)(h0: ∀v,v≤b→P v)(h1: ∀v,b<v→P (v - b)→P v)(v:Int):P v:=by
  have key: ∀(n:Nat) (v:Int),v≤n→P v:=by
    intro n
    induction n with
    |zero=>intro v hv;exact h0 v (by omega)
    |succ n ih=>
     intro v hv
     by_cases h:v≤b
     ·exact h0 v h
     ·exact h1 v (by omega) (ih _ (by omega))
  exact key v.toNat v (by omega)
theorem FB {b:Int}(hb:0<b)(v:Int):0≤Ok v b:=by
  refine FA (P:=fun v=>0≤Ok v b) hb (fun v h=>by rw [Qb h];exact Int.le_refl _) (fun v h ih=> ?_) v
  rw [AA hb h];omega
/-- The closed form. -/
theorem gJ (n:Int):(n* (n+1)) % 2=0:=by
  rcases (show n % 2=0∨n % 2=1 by omega)with h|h
  ·rw [Int.mul_emod,h];simp
  ·rw [Int.mul_emod,Int.add_emod,h];simp
theorem WM {b:Int}(hb:0<b)(v:Int)(hv:1≤v):2*Ok v b=2* ((v - 1) / b*v) - b* ((v - 1) / b* ((v - 1) / b+1)):=by
  revert hv
  refine FA (P:=fun v=>1≤v→2*Ok v b=2* ((v - 1) / b*v) - b* ((v - 1) / b* ((v - 1) / b+1))) hb (fun v h hv=> ?_) (fun v h ih hv=> ?_) v
  ·have:(v - 1) / b=0:=Int.ediv_eq_zero_of_lt (by omega) (by omega)
   rw [Qb h,this];simp
  ·have ih:=ih (by omega)
   have e:(v - 1) / b=(v - b - 1) / b+1:=by
     rw [show v - 1=(v - b - 1)+b*1 by omega,Int.add_mul_ediv_left _ _ (by omega)]
   rw [AA hb h,e]
   generalize (v - b - 1) / b=n at ih ⊢
   rw [Int.mul_add,ih]
   have a1:(n+1)*v=n*v+v:=by rw [Int.add_mul,Int.one_mul]
   have a2:n* (v - b)=n*v - n*b:=Int.mul_sub ..
   have a3:b* ((n+1)* (n+1+1))=b* (n* (n+1))+2* (n*b)+2*b:=by
     rw [show (n+1)* (n+1+1)=n* (n+1)+2*n+2 by
      rw [Int.add_mul,Int.mul_add n,Int.one_mul];omega,Int.mul_add,Int.mul_add,Int.mul_left_comm b 2 n,Int.mul_comm b n,Int.mul_comm b 2]
   rw [a1,a2,a3];omega
def Vb (v b:Int):Int:=if v<1∨b<1 then 0 else Ok (min v 1000000) (min b 1000000)
theorem gK {b:Int}(hb:0<b){v:Int}(h1:v≤1000000):0≤Ok v b∧Ok v b≤1000000000000:=by
  refine ⟨FB hb v,?_⟩
  have key: ∀v:Int,0≤v→Ok v b≤v*v:=by
    intro v
    refine FA (P:=fun v=>0≤v→Ok v b≤v*v) hb (fun v h hv=>by rw [Qb h];exact wO hv hv) (fun v h ih hv=> ?_) v
    have ih:=ih (by omega)
    rw [AA hb h]
    have h1:(v - b)* (v - b)≤(v - 1)* (v - b):=Int.mul_le_mul_of_nonneg_right (by omega) (by omega)
    have h2:(v - 1)* (v - b)≤(v - 1)*v:=Int.mul_le_mul_of_nonneg_left (by omega) (by omega)
    have h3:(v - 1)*v=v*v - v:=by rw [Int.sub_mul,Int.one_mul]
    omega
  by_cases h0:0≤v
  ·have:=key v h0
   have:v*v≤1000000*1000000:=Int.mul_le_mul h1 h1 h0 (by omega)
   omega
  ·rw [Qb (by omega)];omega
theorem YF (v b:Int):Mk v b=some (Vb v b):=by
  unfold Mk Vb
  rw [Cx,Cx]
  by_cases h:v<1∨b<1
  ·rw [bQ h,show (decide (v<1)||decide (b<1))=true by simpa using h];rfl
  ·rw [bR h,show (decide (v<1)||decide (b<1))=false by simpa using h,bP]
   have hV:1≤min v 1000000∧min v 1000000≤1000000:=by omega
   have hB:1≤min b 1000000∧min b 1000000≤1000000:=by omega
   generalize min v 1000000=V at hV ⊢
   generalize min b 1000000=B at hB ⊢
   have hq0:0≤(V - 1) / B:=Int.ediv_nonneg (by omega) (by omega)
   have hq1:(V - 1) / B≤V - 1:=Int.ediv_le_self _ (by omega)
   have hq2:B* ((V - 1) / B)≤V - 1:=Int.mul_ediv_self_le (by omega)
   have hf:=WM (b:=B) (by omega) V hV.1
   unfold PN
   rw [F5 (by omega),bR (by omega),lB,wP (by omega)]
   generalize (V - 1) / B=n at hq0 hq1 hq2 hf ⊢
   have e0:IntKind.i64.wrap n=n:=F5 (by omega)
   rw [e0]
   have b1:0≤n*V∧n*V≤1000000*1000000:=⟨wO hq0 (by omega),Int.mul_le_mul (by omega) hV.2 (by omega) (by omega)⟩
   have b2:0≤n* (n+1)∧n* (n+1)≤1000000*1000000:=⟨wO hq0 (by omega),Int.mul_le_mul (by omega) (by omega) (by omega) (by omega)⟩
   have b3:0≤B* (n* (n+1))∧B* (n* (n+1))≤1000000*1000000:=by
     refine ⟨wO (by omega) b2.1,?_⟩
     rw [← Int.mul_assoc]
     exact Int.mul_le_mul (by omega) (by omega) (by omega) (by omega)
   have he:=gJ n
   have b4:B* (n* (n+1))=2* (B* (n* (n+1) / 2)):=by
     rw [Int.mul_left_comm 2 B,Int.mul_ediv_cancel' (Int.dvd_of_emod_eq_zero he)]
   rw [F5 (n:=n+1) (by omega),F5 (n:=n* (n+1)) (by omega),F5 (n:=n*V) (by omega),wP b2.1,F5 (n:=n* (n+1) / 2) (by omega),F5 (n:=B* (n* (n+1) / 2)) (by omega)]
   congr 1
   rw [F5 (by omega)]
   omega
theorem aI {b:Int}(hb:1≤b)(hb2:Mg false b 1000000=b)(v:Int): ∀a:Int,v≤1000000→0≤a→a+Ok v b≤4000000000000→loop (Dl b) (v,a)=some (a+Ok v b):=by
  refine FA (P:=fun v=> ∀a:Int,v≤1000000→0≤a→a+Ok v b≤4000000000000→loop (Dl b) (v,a)=some (a+Ok v b)) (b:=b) (by omega) (fun v h a _ _ _=> ?_) (fun v h ih a h1 h2 h3=> ?_) v
  ·rw [C6 (t:=a) (by unfold Dl;rw [hb2];simp [show ¬v>b by omega]),Qb h,Int.add_zero]
  ·have hr:=AA (by omega) h
   have hn:=FB (b:=b) (by omega) (v - b)
   rw [J2 (s':=(v - b,a+ (v - b))) (by
    unfold Dl;rw [hb2]
    dsimp only
    rw [F5 (n:=v - b) (by omega),F5 (n:=a+ (v - b)) (by omega),bJ (show v>b by omega)];rfl),ih _ (by omega) (by omega) (by omega)]
   congr 1;omega
theorem TI (v b:Int):Vy v b=some (Vb v b):=by
  unfold Vy Vb
  rw [Cx,Cx]
  by_cases h:v<1∨b<1
  ·rw [bQ h,show (decide (min v 1000000<1)||decide (min b 1000000<1))=true by simp only [bV,bM];omega];rfl
  ·rw [bR h,show (decide (min v 1000000<1)||decide (min b 1000000<1))=false by simp only [wA,wC];omega,bP]
   have hB:1≤min b 1000000∧min b 1000000≤1000000:=by omega
   have hbd:=gK (b:=min b 1000000) (by omega) (v:=min v 1000000) (by omega)
   have e:Dl b=Dl (min b 1000000):=by
     funext x;unfold Dl;rw [Cx,Cx,show min (min b 1000000) 1000000=min b 1000000 by omega]
   rw [e,aI hB.1 (by rw [Cx];omega) _ 0 (by omega) (by omega) (by omega)]
   show some (0+_)=_
   rw [Int.zero_add]
structure SmallS (s:State):Prop where
  agents:s.Agents.length≤10
  ins:s.In.length≤20
  routes: ∀a∈s.Agents,a.Route.length≤10
/-! ### Copies -/
theorem Vc {α:Type}{l:List α}(h:l.length≤1000000):X3 ([]:List α) l=some l:=by
  rw [Ey (by simp;omega),lQ]
structure SizeS (s:State):Prop where
  agents:s.Agents.length≤1000
  ins:s.In.length≤1000000
  routes: ∀a∈s.Agents,a.Route.length≤1000
theorem SmallS.size {s:State}(h:SmallS s):SizeS s:=⟨by have:=h.agents;omega,by have:=h.ins;omega,fun a ha=>by have:=h.routes a ha;omega⟩
theorem OH (F:Int×State→Option (Stp (Int×State) State))(s:State)(h:SizeS s)(l0:List Stay)
    (hF: ∀(i:Nat) (a:Agent) (t:State),s.Agents[i]? =some a→F ((i:Int),t)=(X3 t.Agents [a]).bind fun v=>some (.go (D6 ((i:Int)+1),⟨t.Tick,v,t.In⟩))) (h0: ∀t:State,F ((s.Agents.length:Int),t)=some (.out t)):
    loop F (0,⟨s.Tick,[],l0⟩)=some ⟨s.Tick,s.Agents,l0⟩:=by
  have key: ∀(r:List Agent) (i:Nat),s.Agents.drop i=r→i≤s.Agents.length→loop F ((i:Int),⟨s.Tick,s.Agents.take i,l0⟩)=some ⟨s.Tick,s.Agents,l0⟩:=by
    intro r
    induction r with
    |nil=>
     intro i hi hil
     have:=N8 hi
     obtain rfl:i=s.Agents.length:=by omega
     rw [C6 (h0 _),List.take_length]
    |cons a r ih=>
     intro i hi hil
     have hlt:=M9 hi
     have ha:=U6 hi
     have hh:=h.agents
     rw [J2 (s':=(((i+1:Nat):Int),⟨s.Tick,s.Agents.take (i+1),l0⟩)),ih (i+1) (K5 hi) hlt]
     rw [hF i a _ ha,Ey (by rw [lV];simp;omega),lB,G7 hlt (by omega),List.take_add_one,ha];rfl
  exact key s.Agents 0 rfl (by omega)
theorem gL {s:State}(h:SizeS s):KN s=some s:=by
  unfold KN
  rw [Vc h.ins,lB,OH (Pk s) s h s.In (fun i a t ha=> ?_) (fun t=>by unfold Pk;dsimp only;rw [I0];rfl)]
  ·rfl
  ·unfold Pk
   dsimp only
   rw [J6 (G9 ha),C3 ha,bO,lB,Vc (by have:=h.routes a (lG ha);omega),lB]
theorem aJ {l:List Int}(h:l.length≤1000000):Jx l=some l:=Vc h
theorem HJ {a:Agent}(h:a.Route.length≤1000):Du a=some a:=by
  unfold Du
  rw [aJ (by omega),lB]
theorem kT {s:State}(h:SizeS s):If s=some s:=by
  unfold If
  rw [show Z7 s.In=some s.In from Vc h.ins,lB,OH (Jg s) s h s.In (fun i a t ha=> ?_) (fun t=>by unfold Jg;dsimp only;rw [I0];rfl)]
  ·rfl
  ·unfold Jg
   dsimp only
   rw [J6 (G9 ha),C3 ha,bO,lB,HJ (h.routes a (lG ha)),lB]
/-! ### Equal states -/
/-- The last place up to a number. -/
def Sx (S:Int):Nat→Nat→List Int→Nat
  |_,b,[]=>b
  |i,b,x::r=>Sx S (i+1) (if x≤S then i else b) r
theorem TJ (st:List Int)(S:Int): ∀(r:List Int) (i b:Nat),st.drop i=r→i≤st.length→(i=0→b=0)→(0<i→b<i∧(∃y,st[b]? =some y∧y≤S)∧∀(j:Nat) y,b<j→j<i→st[j]? =some y→S<y)→(∃y,st[0]? =some y∧y≤S)→
    (∃y,st[Sx S i b r]? =some y∧y≤S)∧∀(j:Nat) y,Sx S i b r<j→st[j]? =some y→S<y:=by
  intro r
  induction r with
  |nil=>
   intro i b hi hil h0 h1 hne
   have:=N8 hi
   obtain ⟨y0,g0,_⟩:=hne
   have:=G9 g0
   obtain ⟨q1,q2,q3⟩:=h1 (by omega)
   exact ⟨q2,fun j y hj hy=>q3 j y hj (by have:=G9 hy;omega) hy⟩
  |cons x r ih=>
   intro i b hi hil h0 h1 hne
   have hx:=U6 hi
   have hlt:=M9 hi
   unfold Sx
   refine ih (i+1) _ (K5 hi) hlt (by omega) (fun _=> ?_) hne
   by_cases q:x≤S
   ·rw [bQ q]
    exact ⟨by omega,⟨x,hx,q⟩,fun j y h2 h3=>by omega⟩
   ·rw [bR q]
    by_cases z:i=0
    ·subst z
     obtain ⟨y0,g0,g1⟩:=hne
     rw [hx]at g0;cases g0;exact absurd g1 q
    ·obtain ⟨q1,q2,q3⟩:=h1 (by omega)
     refine ⟨by omega,q2,fun j y h2 h3 hy=> ?_⟩
     by_cases e:j=i
     ·subst e;rw [hx]at hy;cases hy;omega
     ·exact q3 j y h2 (by omega) hy
theorem aK {st:List Int}{S:Int}(hne: ∃y,st[0]? =some y∧y≤S):(∃y,st[Sx S 0 0 st]? =some y∧y≤S)∧∀(j:Nat) y,Sx S 0 0 st<j→st[j]? =some y→S<y:=
  TJ st S st 0 0 rfl (by omega) (fun _=>rfl) (fun h=>by omega) hne
theorem kU (g:Agent)(st:List Int)(hl:st.length≤1000000): ∀(r:List Int) (i b:Nat),st.drop i=r→i≤st.length→loop (Gg g st) ((b:Int),(i:Int))=some ((Sx g.S i b r:Nat):Int):=by
  intro r
  induction r with
  |nil=>
   intro i b hi hil
   have:=N8 hi
   obtain rfl:i=st.length:=by omega
   exact C6 (by unfold Gg;dsimp only;rw [I0];rfl)
  |cons x r ih=>
   intro i b hi hil
   have hx:=U6 hi
   have hlt:=M9 hi
   unfold Sx
   by_cases q:x≤g.S
   ·rw [bQ q,J2 (s':=((i:Int),((i+1:Nat):Int))),ih (i+1) i (K5 hi) hlt]
    unfold Gg;dsimp only
    rw [J6 hlt,C3 hx,bO,lB,bJ q,bO,G7 hlt (by omega)]
   ·rw [bR q,J2 (s':=((b:Int),((i+1:Nat):Int))),ih (i+1) b (K5 hi) hlt]
    unfold Gg;dsimp only
    rw [J6 hlt,C3 hx,bO,lB,bK q,bP,G7 hlt (by omega)]
theorem aL (g:Agent)(st:List Int)(hl:st.length≤1000000)(k:Nat)(hk: ∃y,st[k]? =some y∧y≤g.S)(hj: ∀(j:Nat) y,k<j→st[j]? =some y→g.S<y): ∀(n i:Nat),i=k+n→i<st.length→loop (Jh g st) (i:Int)=some (k:Int):=by
  intro n
  induction n with
  |zero=>
   intro i hi hil
   obtain ⟨y,h1,h2⟩:=hk
   obtain rfl:i=k:=by omega
   exact C6 (by unfold Jh;rw [C3 h1,lB,bK (show ¬y>g.S by omega)];rfl)
  |succ n ih=>
   intro i hi hil
   have h1:st[i]? =some st[i]:=lH hil
   have h2:=hj i _ (by omega) h1
   rw [J2 (s':=((i - 1:Nat):Int)) (by unfold Jh;rw [C3 h1,lB,bJ (show st[i]>g.S by omega),bO,F5 (by omega)];congr 2;omega)]
   exact ih (i - 1) (by omega) (by omega)
def MP (m:Map)(g:Agent):Nat:=Sx g.S 0 0 (StartsM m g.Route)
/-- The lane of an agent, and its offset. -/
def Em (m:Map)(g:Agent):Int×Int:=(g.Route.getD (MP m g) 0,g.S - (StartsM m g.Route).getD (MP m g) 0)
theorem RouteOK.StartsM {m:Map}{a:Int}{t:List Int}(R:RouteOK m a t):StartsM m (a::t)=P4 m 0 (a::t):=by unfold World.StartsM;rw [R.follow]
theorem RouteOK.LongM {m:Map}{a:Int}{t:List Int}(R:RouteOK m a t):LongM m (a::t)=Pe m (a::t) (a::t).length:=by unfold World.LongM;rw [R.follow]
theorem GH {m:Map}{a:Int}{t:List Int}(R:RouteOK m a t){g:Agent}(hg:g.Route=a::t)(h0:0≤g.S):
    ∃x,MP m g< (a::t).length∧(a::t)[MP m g]? =some x∧Em m g=(x,g.S - Pe m (a::t) (MP m g))∧Pe m (a::t) (MP m g)≤g.S∧(∀j,MP m g<j→j< (a::t).length→g.S<Pe m (a::t) j):=by
  have hl:=Km m (a::t) 0
  have h00:(P4 m 0 (a::t))[0]? =some 0:=by rw [P4];rfl
  obtain ⟨⟨y,y1,y2⟩,y3⟩:=aK (st:=P4 m 0 (a::t)) (S:=g.S) ⟨0,h00,h0⟩
  have e:MP m g=Sx g.S 0 0 (P4 m 0 (a::t)):=by unfold MP;rw [hg,R.StartsM]
  rw [← e]at y1 y3
  have hlt:=G9 y1
  rw [hl]at hlt
  have hy:y=Pe m (a::t) (MP m g):=by
    have:=Nc m (a::t) 0 (MP m g) hlt
    rw [y1,Int.zero_add]at this
    exact lD this
  refine ⟨(a::t)[MP m g],hlt,lH hlt,?_,by omega,fun j hj hjl=> ?_⟩
  ·unfold Em
   rw [hg,R.StartsM,List.getD,List.getD,lH hlt,y1,hy];rfl
  ·have:=Nc m (a::t) 0 j hjl
   rw [Int.zero_add]at this
   exact y3 j _ hj this
theorem TK {m:Map}(B:BearM m){a:Int}{t:List Int}(R:RouteOK m a t){g:Agent}(hg:g.Route=a::t)(h0:0≤g.S)(h1:g.S≤9223372036854775807):Ig m g=some (Em m g)∧Ox m g=some (Em m g):=by
  obtain ⟨x,q1,q2,q3,q4,q5⟩:=GH R hg h0
  have hm7:=R.most
  have hr:g.Route.length≤1000000:=by rw [hg];simp;omega
  have hl:=Km m (a::t) 0
  have hbd:=R.bd (i:=MP m g) (by omega)
  have hs:C0 (P4 m 0 (a::t)) ((MP m g:Nat):Int)=some (Pe m (a::t) (MP m g)):=RouteOK.starts q1
  have hk:(P4 m 0 (a::t))[MP m g]? =some (Pe m (a::t) (MP m g)):=by rw [Nc m _ 0 _ q1,Int.zero_add];rfl
  constructor
  ·unfold Ig
   rw [GG B _ hr,lB,hg,R.StartsM]
   have hn:D6 (((P4 m 0 (a::t)).length:Int) - 1)=((t.length:Nat):Int):=by rw [hl,F5 (by simp;omega)];simp
   rw [hn,aL g _ (by rw [hl];simp;omega) (MP m g) ⟨_,hk,q4⟩ (fun j y hj hy=>by
    have hjl:=G9 hy
    rw [hl]at hjl
    have:=Nc m (a::t) 0 j hjl
    rw [hy,Int.zero_add]at this
    cases this
    exact q5 j hj hjl) (t.length - MP m g) t.length (by simp only [lL]at q1;omega) (by rw [hl];simp),lB,C3 q2,lB,hs,lB,q3,F5 (by omega)]
  ·unfold Ox
   rw [Sw B _ hr,lB,hg,R.StartsM]
   have:=kU g (P4 m 0 (a::t)) (by rw [hl];simp;omega) (P4 m 0 (a::t)) 0 0 rfl (by omega)
   have e:MP m g=Sx g.S 0 0 (P4 m 0 (a::t)):=by unfold MP;rw [hg,R.StartsM]
   rw [← e]at this
   rw [show ((0:Int),(0:Int))=(((0:Nat):Int),((0:Nat):Int)) from rfl,this,lB,C3 q2,lB,hs,lB,q3,F5 (by omega)]
def Df (m:Map)(x:Int):Int:=((m.Lanes[x.toNat]?).map (·.Kind)).getD 0
/-- The greatest speed, acceleration and braking where an agent is. -/
def Xj (m:Map)(g:Agent):Int×Int×Int:=V9 (Df m (Em m g).1)
def Vd (m:Map)(g:Agent):Bool:=decide (D6 (g.S - g.Len)>LongM m g.Route)
def QI (g:Agent):Bool:=(((decide (g.Len<300)||decide (g.Len>20000))||decide (g.Begin<0))||decide (g.Begin>1099511627776))||decide (g.S<0)
/-- The error of an agent of a state. -/
def Ed (m:Map)(s:State)(i:Int)(g:Agent):Int:=
  if P3 m g.Route=0 then
   if QI g=true∨g.S>LongM m g.Route+g.Len+2000 then 2
   else if g.V<0∨g.V>(Xj m g).1 then 2
   else if g.Gone≠Vd m g∨(g.Begin>s.Tick∧g.S≠0)∨(i=0∧g.Begin≠0)then 10 else 0
  else 13
theorem Qc {m:Map}{a:Int}{t:List Int}(R:RouteOK m a t):1000≤LongM m (a::t)∧LongM m (a::t)≤134217728:=by
  have h1:=R.bd (wH _)
  have h2:=R.lt (i:=0) (j:=(a::t).length) (by simp) (wH _)
  rw [Zh]at h2
  rw [R.LongM];omega
theorem QJ {m:Map}(B:BearM m){g:Agent}(hr:g.Route.length≤1000000):Fv m g=some (Vd m g)∧Ml m g=some (Vd m g):=by
  constructor
  ·unfold Fv Z9
   rw [lB,YE B _ hr];rfl
  ·unfold Ml
   rw [LG B _ hr];rfl
theorem OI {m:Map}{a:Int}{t:List Int}(R:RouteOK m a t){g:Agent}(hg:g.Route=a::t)(h0:0≤g.S): ∃l,C0 m.Lanes (Em m g).1=some l∧Df m (Em m g).1=l.Kind∧m.Lanes[(Em m g).1.toNat]? =some l:=by
  obtain ⟨x,q1,q2,q3,_⟩:=GH R hg h0
  have hx:=R.mem (lG q2)
  have hl:m.Lanes[x.toNat]? =some m.Lanes[x.toNat]:=lH (by omega)
  have hg:=C3 hl
  rw [wG hx.1]at hg
  refine ⟨_,by rw [q3];exact hg,?_,by rw [q3];exact hl⟩
  rw [q3];unfold Df
  dsimp only
  rw [hl];rfl
theorem LI {g:Agent}(h:QI g=false):300≤g.Len∧g.Len≤20000∧0≤g.Begin∧g.Begin≤1099511627776∧0≤g.S:=by
  unfold QI at h
  simp only [wA,wC]at h
  omega
theorem TL {m:Map}(B:BearM m)(s:State){i:Int}{g:Agent}(hi:C0 s.Agents i=some g)(hr:g.Route.length≤1000)(hS:g.S≤9223372036854775807):
    Y7 m s i=some (Ed m s i g)∧Hc m s i=some (Ed m s i g):=by
  have hr':g.Route.length≤1000000:=by omega
  unfold Y7 Hc Ed
  rw [hi,lB,lB,BK B _ hr',Ob B _ hr',lB,lB]
  by_cases q:P3 m g.Route=0
  case neg=>
    rw [bR q,show (P3 m g.Route !=0)=true by simpa using q]
    exact ⟨rfl,rfl⟩
  rw [bQ q,q,show ((0:Int) !=0)=false from rfl,bP,bP]
  obtain ⟨a,t,ht,R⟩:=chkRoute_zero.1 q
  have hL:=Qc R
  rw [← ht]at hL
  rw [YE B _ hr',LG B _ hr']
  have e:((((decide (g.Len<300)||decide (g.Len>20000))||decide (g.Begin<0))||decide (g.Begin>1099511627776))||decide (g.S<0))=QI g:=rfl
  rw [e]
  by_cases o:QI g=true
  ·rw [bQ (.inl o),o];exact ⟨rfl,rfl⟩
  have o':QI g=false:=by simpa using o
  obtain ⟨o1,o2,o3,o4,o5⟩:=LI o'
  rw [o',bX,bO,lB,lB,bY,F5 (n:=LongM m g.Route+g.Len) (by omega),F5 (n:=LongM m g.Route+g.Len+2000) (by omega)]
  by_cases l:g.S>LongM m g.Route+g.Len+2000
  ·rw [bQ (.inr l),bJ l];exact ⟨rfl,rfl⟩
  rw [bR (fun h=>h.elim (fun h=>by cases h) l),bK l,bP,bP]
  obtain ⟨l1,l2⟩:=TK B R ht o5 hS
  obtain ⟨ln,k1,k2,_⟩:=OI R ht o5
  rw [l1,l2,lB,lB,k1,lB,lB,Uu,Pd,lB,lB]
  have ev:(Xj m g).1=(V9 ln.Kind).1:=by unfold Xj;rw [k2]
  rw [ev]
  by_cases v:g.V<0∨g.V>(V9 ln.Kind).1
  ·rw [bQ v,show (decide (g.V<0)||decide (g.V>(V9 ln.Kind).1))=true by simpa using v];exact ⟨rfl,rfl⟩
  rw [bR v,show (decide (g.V<0)||decide (g.V>(V9 ln.Kind).1))=false by rw [bZ];simpa using v,bP,bP,(QJ B hr').1,(QJ B hr').2,lB,lB]
  have hb: ∀b:Bool,(b=true↔g.Gone≠Vd m g∨(g.Begin>s.Tick∧g.S≠0)∨(i=0∧g.Begin≠0))→cond b (some (10:Int)) (some 0)=some (if g.Gone≠Vd m g∨(g.Begin>s.Tick∧g.S≠0)∨(i=0∧g.Begin≠0)then 10 else 0):=by
    intro b hb
    by_cases h:g.Gone≠Vd m g∨(g.Begin>s.Tick∧g.S≠0)∨(i=0∧g.Begin≠0)
    ·rw [bQ h,hb.2 h];rfl
    ·rw [bR h]
     cases b
     ·rfl
     ·exact absurd (hb.1 rfl) h
  exact ⟨hb _ (by simp),hb _ (by simp [or_assoc])⟩
/-! ### The whole check -/
def Gn (a b:Stay):Bool:=decide (a.Agent_<b.Agent_)||(a.Agent_==b.Agent_&&decide (a.Zone_<b.Zone_))
theorem WN (a b:Int):Bc [a,b]=some (if a≠0 then a else b):=by
  unfold Bc
  by_cases h:a=0
  ·subst h
   rw [J2 (s':=1) rfl,bR (by simp)]
   by_cases h:b=0
   ·subst h;rw [J2 (s':=2) rfl,C6 (t:= .inl ()) rfl];rfl
   ·rw [C6 (t:= .inr b) (by unfold Z3;rw [show C0 [(0:Int),b] 1=some b from rfl,lB,show (b !=0)=true by simpa using h];rfl)];rfl
  ·rw [C6 (t:= .inr a) (by unfold Z3;rw [show C0 [a,b] 0=some a from rfl,lB,show (a !=0)=true by simpa using h];rfl),bQ h];rfl
/-- What the order of two stays is. -/
def MQ (a b:Stay):Int:=if EZ a.Agent_ b.Agent_≠0 then EZ a.Agent_ b.Agent_ else EZ a.Zone_ b.Zone_
theorem LJ (a b:Stay):Dg a b=some (MQ a b):=by
  unfold Dg MQ
  rw [Ss,lB,Ss,lB,WN,lB]
theorem TM (a b:Stay):decide (MQ a b≥0)= !Gn a b:=by
  unfold MQ Gn EZ
  by_cases h1:a.Agent_<b.Agent_
  ·simp [h1]
  ·by_cases h2:a.Agent_>b.Agent_
   ·have:a.Agent_≠b.Agent_:=by omega
    simp [h1,h2,this]
   ·have:a.Agent_=b.Agent_:=by omega
    by_cases h3:a.Zone_<b.Zone_
    ·simp [this,h3]
    ·by_cases h4:a.Zone_>b.Zone_
     ·simp [this,h3,h4]
     ·simp [this,h3,h4]
def Xd (m:Map)(s:State)(x:Stay):Bool:=((decide (x.Agent_<0)||decide (x.Agent_≥(s.Agents.length:Int)))||decide (x.Zone_<0))||decide (x.Zone_≥(m.Zones.length:Int))
def cD (m:Map)(s:State)(i:Nat)(x:Stay):Option Int:=if Xd m s x=true∨(0<i∧∃y,s.In[i - 1]? =some y∧Gn y x=false)then some 11 else none
def Te (s:State)(x:Stay):Bool:=((decide (x.Since<0)||decide (x.Since>s.Tick))||decide (x.Rank<0))||decide (x.Rank>100)
def Qn (m:Map)(s:State):Int:=
  if Ux m=0 then
   if s.Tick<0∨s.Tick>1099511627776 then 2 else if s.Agents.length=0 then 6 else if 8<s.Agents.length then 8
   else match H9 (fun i g=>if Ed m s (i:Int) g=0 then none else some (Ed m s (i:Int) g)) 0 s.Agents with
     |some e=>e
     |none=>match H9 (cD m s) 0 s.In with
      |some e=>e
      |none=>if s.In.any (Te s)=true then 2 else 0
  else Ux m
theorem TN {m:Map}(B:BearM m){s:State}(h:SizeS s)(hw: ∀g∈s.Agents,g.S≤9223372036854775807):
    loop (Ab m s) 0=some (FZ (H9 (fun i g=>if Ed m s (i:Int) g=0 then none else some (Ed m s (i:Int) g)) 0 s.Agents))∧
    loop (Hf m s) 0=some (FZ (H9 (fun i g=>if Ed m s (i:Int) g=0 then none else some (Ed m s (i:Int) g)) 0 s.Agents)):=by
  have hh:=h.agents
  constructor
  ·refine X7 s.Agents _ _ (fun i g hg=> ?_) (by unfold Ab;rw [I0];rfl)
   have hm:=lG hg
   unfold Ab
   rw [J6 (G9 hg),bO,(TL B s (C3 hg) (h.routes g hm) (hw g hm)).1,lB]
   by_cases q:Ed m s (i:Int) g=0
   ·rw [bQ q,q,show ((0:Int) !=0)=false from rfl,bP,G7 (G9 hg) (by omega)]
   ·rw [bR q,show (Ed m s (i:Int) g !=0)=true by simpa using q];rfl
  ·refine X7 s.Agents _ _ (fun i g hg=> ?_) (by unfold Hf;rw [I0];rfl)
   have hm:=lG hg
   unfold Hf
   rw [J6 (G9 hg),bO,(TL B s (C3 hg) (h.routes g hm) (hw g hm)).2,lB]
   by_cases q:Ed m s (i:Int) g=0
   ·rw [bQ q,q,show ((0:Int) !=0)=false from rfl,bP,G7 (G9 hg) (by omega)]
   ·rw [bR q,show (Ed m s (i:Int) g !=0)=true by simpa using q];rfl
theorem TO {α:Type}{l:List α}{i:Nat}{a:α}(h:l[i]? =some a)(h0:0<i): ∃y,l[i - 1]? =some y∧C0 l (D6 ((i:Int) - 1))=some y∨1000000000000<i:=by
  by_cases hb:1000000000000<i
  ·exact ⟨a, .inr hb⟩
  ·have:=G9 h
   have e:l[i - 1]? =some l[i - 1]:=lH (by omega)
   refine ⟨_, .inl ⟨e,?_⟩⟩
   rw [F5 (by omega),show (i:Int) - 1=((i - 1:Nat):Int) by omega]
   exact C3 e
theorem gM (m:Map){s:State}(h:SizeS s):
    loop (Aa m s) 0=some (FZ (H9 (cD m s) 0 s.In))∧loop (He m s) 0=some (FZ (H9 (cD m s) 0 s.In)):=by
  have hh:=h.ins
  constructor
  ·refine X7 s.In _ _ (fun i x hx=> ?_) (by unfold Aa;rw [I0];rfl)
   have hi:=G9 hx
   unfold Aa
   rw [J6 hi,bO,C3 hx,lB]
   have e:(((decide (x.Agent_<0)||decide (x.Agent_≥(s.Agents.length:Int)))||decide (x.Zone_<0))||decide (x.Zone_≥(m.Zones.length:Int)))=Xd m s x:=rfl
   rw [e]
   unfold cD
   by_cases hb:Xd m s x=true
   ·rw [hb,bQ (.inl rfl)];rfl
   have hb':Xd m s x=false:=by simpa using hb
   rw [hb',bX,bS]
   by_cases h0:0<i
   ·obtain ⟨y,hy⟩:=TO hx h0
    rcases hy with ⟨y1,y2⟩|hy
    ·rw [bJ (show (i:Int)>0 by omega),bO,y2,lB,bO,LJ,lB,bY,bS,TM]
     by_cases q:Gn y x=true
     ·rw [q,bR (by rintro (h|⟨_,z,z1,z2⟩);exact (by cases h);rw [y1]at z1;cases z1;rw [q]at z2;cases z2),bW,bP,G7 hi (by omega)]
     ·have q':Gn y x=false:=by simpa using q
      rw [q',bQ (.inr ⟨h0,y,y1,q'⟩)];rfl
    ·omega
   ·rw [bK (show ¬(i:Int)>0 by omega),bP,lB,bP,lB,bY,bT,bP,bR (by rintro (h|⟨h,_⟩);exact (by cases h);exact h0 h),G7 hi (by omega)]
  ·refine X7 s.In _ _ (fun i x hx=> ?_) (by unfold He;rw [I0];rfl)
   have hi:=G9 hx
   unfold He
   rw [J6 hi,bO,C3 hx,lB]
   have e:(((decide (x.Agent_<0)||decide (x.Agent_≥(s.Agents.length:Int)))||decide (x.Zone_<0))||decide (x.Zone_≥(m.Zones.length:Int)))=Xd m s x:=rfl
   rw [e]
   unfold cD
   by_cases hb:Xd m s x=true
   ·rw [hb,bQ (.inl rfl)];rfl
   have hb':Xd m s x=false:=by simpa using hb
   rw [hb',bP]
   by_cases h0:0<i
   ·obtain ⟨y,hy⟩:=TO hx h0
    rcases hy with ⟨y1,y2⟩|hy
    ·rw [bJ (show (i:Int)>0 by omega),bO,y2,lB,bS]
     have hc: ∀b:Bool,(cond b (some y) (some default)).bind (fun v=>some v)=some (cond b y default):=by intro b;cases b<;>rfl
     by_cases q1:x.Agent_<y.Agent_
     ·rw [bJ q1,bQ (.inr ⟨h0,y,y1,by unfold Gn;simp;omega⟩)];rfl
     ·rw [bK q1,bX,bO,lB,bS]
      by_cases q2:x.Agent_=y.Agent_
      ·rw [show (x.Agent_==y.Agent_)=true by simpa using q2,bO,lB,bY,bS,bS]
       by_cases q3:x.Zone_≤y.Zone_
       ·rw [bJ q3,bQ (.inr ⟨h0,y,y1,by unfold Gn;simp;omega⟩)];rfl
       ·rw [bK q3,bR (by rintro (h|⟨_,z,z1,z2⟩);exact (by cases h);rw [y1]at z1;cases z1;unfold Gn at z2;simp at z2;omega),bP,G7 hi (by omega)]
      ·rw [show (x.Agent_==y.Agent_)=false by simpa using q2,bP,lB,bY,bS,bT,bP,bR (by rintro (h|⟨_,z,z1,z2⟩);exact (by cases h);rw [y1]at z1;cases z1;unfold Gn at z2;simp at z2;omega),G7 hi (by omega)]
    ·omega
   ·rw [bK (show ¬(i:Int)>0 by omega),bP,lB]
    simp only [bT,bP,lB]
    rw [bR (by rintro (h|⟨h,_⟩);exact (by cases h);exact h0 h),G7 hi (by omega)]
theorem Oc {α:Type}(l:List α)(P:α→Bool)(F:Int→Option (Stp Int (Sum Unit Int)))(hl:l.length≤1000000000)(hF: ∀(i:Nat) a,l[i]? =some a→F (i:Int)=some (if P a then .out (.inr (i:Int))else .go (D6 ((i:Int)+1))))(h0:F (l.length:Int)=some (.out (.inl ()))):
    (thenS (loop F 0) (fun _=>some (-1)) (fun r=>some r)).bind (fun v=>some (decide (v≥0)))=some (l.any P):=by
  rw [KV l P hl hF h0]
  have:=Uv P l
  unfold EV at this
  cases hq:l.findIdx? P with
  |some i=>rw [hq]at this;show some _=_;rw [← this]
  |none=>rw [hq]at this;show some _=_;rw [← this]
theorem kV {s:State}(h:SizeS s):F8 s.In s=some (s.In.any (Te s)):=by
  have hh:=h.ins
  unfold F8 K0
  refine Oc s.In (Te s) _ (by omega) (fun i x hx=> ?_) (by unfold M1;rw [I0];rfl)
  unfold M1 Mb
  rw [J6 (G9 hx),C3 hx,bO,lB,lB]
  have e:(((decide (x.Since<0)||decide (x.Since>s.Tick))||decide (x.Rank<0))||decide (x.Rank>100))=Te s x:=rfl
  rw [e]
  cases Te s x<;>rfl
theorem gN {s:State}(h:SizeS s):thenS (loop (Hd s) 0) (fun _=>some 0) (fun r=>some r)=some (if s.In.any (Te s)=true then 2 else 0):=by
  have hh:=h.ins
  rw [X7 s.In _ (fun _ x=>if Te s x=true then some 2 else none) (fun i x hx=> ?_) (by unfold Hd;rw [I0];rfl)]
  ·by_cases q:s.In.any (Te s)=true
   ·rw [bQ q]
    cases hf:H9 (fun _ x=>if Te s x=true then some (2:Int)else none) 0 s.In with
    |some e=>
     have: ∀(l:List Stay) (i:Nat),H9 (fun _ x=>if Te s x=true then some (2:Int)else none) i l=some e→e=2:=by
       intro l
       induction l with
       |nil=>intro i h;cases h
       |cons a l ih=>
        intro i h
        unfold H9 at h
        by_cases z:Te s a=true
        ·rw [bQ z]at h;cases h;rfl
        ·rw [bR z]at h;exact ih _ h
     rw [this _ _ hf];rfl
    |none=>
     obtain ⟨x,x1,x2⟩:=lZ.1 q
     obtain ⟨j,hj⟩:=bG x1
     have:=firstE_none.1 hf j x hj
     rw [bQ x2]at this;cases this
   ·rw [bR q,firstE_none.2 fun j x hj=> ?_]
    ·rfl
    ·by_cases z:Te s x=true
     ·exact absurd (lZ.2 ⟨x,lG hj,z⟩) q
     ·rw [bR z]
  ·unfold Hd
   rw [J6 (G9 hx),C3 hx,bO,lB]
   have e:(((decide (x.Since<0)||decide (x.Since>s.Tick))||decide (x.Rank<0))||decide (x.Rank>100))=Te s x:=rfl
   rw [e]
   by_cases z:Te s x=true
   ·rw [bQ z,z];rfl
   ·rw [bR z,show Te s x=false by simpa using z,bP,G7 (G9 hx) (by omega)]
theorem LK {m:Map}(B:BearM m){s:State}(h:SizeS s)(hw: ∀g∈s.Agents,g.S≤9223372036854775807):Dh m s=some (Qn m s)∧Mz m s=some (Qn m s):=by
  obtain ⟨a1,a2⟩:=TN B h hw
  obtain ⟨i1,i2⟩:=gM m h
  unfold Dh Mz Qn
  rw [Oa B,So B,lB,lB]
  by_cases q:Ux m=0
  case neg=>rw [bR q,show (Ux m !=0)=true by simpa using q];exact ⟨rfl,rfl⟩
  rw [bQ q,q,show ((0:Int) !=0)=false from rfl,bP,bP]
  by_cases t:s.Tick<0∨s.Tick>1099511627776
  ·rw [bQ t,show (decide (s.Tick<0)||decide (s.Tick>1099511627776))=true by simpa using t];exact ⟨rfl,rfl⟩
  rw [bR t,show (decide (s.Tick<0)||decide (s.Tick>1099511627776))=false by rw [bZ];simpa using t,bP,bP]
  by_cases n0:s.Agents.length=0
  ·rw [bQ n0,show (((s.Agents.length:Nat):Int)==0)=true by rw [n0];rfl];exact ⟨rfl,rfl⟩
  rw [bR n0,show (((s.Agents.length:Nat):Int)==0)=false by simpa using (show ((s.Agents.length:Nat):Int)≠0 by omega),bP,bP]
  by_cases n8:8<s.Agents.length
  ·rw [bQ n8,bJ (show (s.Agents.length:Int)>8 by omega)];exact ⟨rfl,rfl⟩
  rw [bR n8,bK (show ¬(s.Agents.length:Int)>8 by omega),bP,bP,a1,a2]
  cases H9 (fun i g=>if Ed m s (i:Int) g=0 then none else some (Ed m s (i:Int) g)) 0 s.Agents with
  |some e=>exact ⟨rfl,rfl⟩
  |none=>
   show thenS _ _ _=_∧thenS _ _ _=_
   rw [i1,i2]
   cases H9 (cD m s) 0 s.In with
   |some e=>exact ⟨rfl,rfl⟩
   |none=>
    refine ⟨?_,gN h⟩
    show (F8 s.In s).bind _=_
    rw [kV h,lB]
    cases s.In.any (Te s)<;>rfl
/-- A map of the kit. -/
structure KitM (m:Map):Prop extends BearK m where
  val:ValR m
theorem kW (n:Int): ∃m,Zu n=some m∧KitM m∧∃k p,k<8∧ParOK p∧m=EY k p:=by
  obtain ⟨k,p,hk,hp,hm⟩:=WD n
  exact ⟨_,hm,⟨⟨fX hp,(HE k p.r).1⟩,kC hk hp⟩,k,p,hk,hp,rfl⟩
theorem KitM.chk {m:Map}(K:KitM m):Ux m=0:=chkR_zero.2 K.val
/-- Who is there. -/
def U0 (s:State)(i:Int):Bool:=match C0 s.Agents i with
  |some g=> !g.Gone&&decide (g.Begin≤s.Tick)
  |none=>false
theorem GI {α:Type}{l:List α}{i:Int}(h: ¬(0≤i∧i<l.length)):C0 l i=none:=by
  unfold C0
  by_cases h0:0≤i
  ·rw [bQ h0]
   exact lJ (by omega)
  ·rw [bR h0]
theorem Rp {α:Type}{l:List α}{i:Int}(h0:0≤i)(h1:i<l.length): ∃a,C0 l i=some a∧l[i.toNat]? =some a:=by
  have:l[i.toNat]? =some l[i.toNat]:=lH (by omega)
  exact ⟨_,by unfold C0;rw [bQ h0];exact this,this⟩
theorem Qd (s:State)(i:Int):Hu s i=some (U0 s i)∧Ib s i=some (U0 s i):=by
  unfold Hu Ib U0
  by_cases h:0≤i∧i<s.Agents.length
  ·obtain ⟨g,hg,_⟩:=Rp h.1 h.2
   rw [show (decide (i≥0)&&decide (i< (s.Agents.length:Int)))=true by simp only [bU,bM];exact h,bO,hg,lB,lB]
   simp only [bO,lB,bS]
   constructor
   ·cases g.Gone<;>simp
   ·by_cases q:g.Begin≤s.Tick<;>simp [q]
  ·rw [show (decide (i≥0)&&decide (i< (s.Agents.length:Int)))=false by rw [bZ];simp only [ne_eq,bU,bM];exact h,GI h]
   exact ⟨rfl,rfl⟩
/-- A red line before which an agent could stop, and then cannot. -/
def Ld (f v nxt b line:Int):Bool:=(decide (line>f)&&decide (D6 (f+Vb v b)<line))&&decide (D6 (D6 (f+nxt)+Vb nxt b)≥line)
def Sy (R:List Int)(f v nxt b:Int):Bool:= !R.any (Ld f v nxt b)
theorem TP (R:List Int)(hR:R.length≤1000)(f v nxt b:Int):Hz R f v nxt b=some (Sy R f v nxt b):=by
  unfold Hz H6 I4
  rw [Oc R (Ld f v nxt b) _ (by omega) (fun i x hx=> ?_) (by unfold K9;rw [I0];rfl)]
  ·rfl
  ·unfold K9 Ei
   rw [J6 (G9 hx),C3 hx,bO,lB,YF,YF]
   have e:((cond (decide (x>f)) (some (Vb v b)) (some default)).bind fun v1=>(cond (decide (x>f)&&decide (D6 (f+v1)<x)) (some (Vb nxt b)) (some default)).bind fun v2=>some ((decide (x>f)&&decide (D6 (f+v1)<x))&&decide (D6 (D6 (f+nxt)+v2)≥x)))=some (Ld f v nxt b x):=by
     unfold Ld
     cases decide (x>f)
     ·rfl
     ·simp only [bO,lB,bS]
      cases decide (D6 (f+Vb v b)<x)<;>rfl
   rw [e,lB]
   cases Ld f v nxt b x<;>rfl
theorem TQ (R:List Int)(hR:R.length≤1000)(f v nxt b:Int):Za R f v nxt b=some (Sy R f v nxt b):=by
  unfold Za Sy
  rw [X7 R _ (fun _ x=>if Ld f v nxt b x=true then some false else none) (fun i x hx=> ?_) (by unfold Sl;rw [I0];rfl)]
  ·have key: ∀(l:List Int) (i:Nat),thenS (some (FZ (H9 (fun _ x=>if Ld f v nxt b x=true then some false else none) i l))) (fun _=>some true) (fun r=>some r)=some (!l.any (Ld f v nxt b)):=by
     intro l
     induction l with
     |nil=>intro i;rfl
     |cons x l ih=>
      intro i
      unfold H9
      by_cases z:Ld f v nxt b x=true
      ·rw [bQ z,bH,z];rfl
      ·rw [bR z,bH,show Ld f v nxt b x=false by simpa using z,bY]
       exact ih _
   exact key R 0
  ·unfold Sl
   rw [J6 (G9 hx),C3 hx,bO,lB,TI,TI]
   have e:((cond (decide (x>f)) (some (Vb v b)) (some default)).bind fun v2=>(cond (decide (x>f)) (some x) (some default)).bind fun v3=>(cond (decide (x>f)&&decide (D6 (f+v2)<v3)) (some (Vb nxt b)) (some default)).bind fun v4=>(cond (decide (x>f)&&decide (D6 (f+v2)<v3)) (some x) (some default)).bind fun v5=>cond ((decide (x>f)&&decide (D6 (f+v2)<v3))&&decide (D6 (D6 (f+nxt)+v4)≥v5)) (some (Stp.out (Sum.inr false))) (some (Stp.go (D6 ((i:Int)+1)))))=(some (if Ld f v nxt b x=true then Stp.out (Sum.inr false)else Stp.go (D6 ((i:Int)+1))):Option (Stp Int (Sum Unit Bool))):=by
     unfold Ld
     cases decide (x>f)
     ·rfl
     ·simp only [bO,lB,bS]
      cases decide (D6 (f+Vb v b)<x)
      ·rfl
      ·simp only [bO,lB,bS]
       cases decide (D6 (D6 (f+nxt)+Vb nxt b)≥x)<;>rfl
   rw [e]
   by_cases z:Ld f v nxt b x=true
   ·rw [bQ z,bQ z]
   ·rw [bR z,bR z,G7 (G9 hx) (by omega)]
/-- The red lines of a lane. -/
def aM (m:Map)(lane tick:Int):List Int:=(Es m lane tick).getD []
theorem oJ {m:Map}(B:BearM m)(lane tick:Int):Es m lane tick=some (aM m lane tick)∧Us m lane tick=some (aM m lane tick)∧(aM m lane tick).length≤1000:=by
  obtain ⟨R,h1,h2,h3⟩:=kK B lane tick
  unfold aM
  rw [h1,h2]
  exact ⟨rfl,rfl,h3⟩
def Ee (g:Agent)(most act:Int):Int:=max 0 (min (D6 (g.V+act)) most)
/-- The acceleration, made less as long as it has to be. -/
def FC (K:Int→Bool)(low:Int):Nat→Int→Int
  |0,act=>act
  |n+1,act=>if act>low∧K act=false then FC K low n (act - 1)else act
/-- An agent that is there, after a tick. -/
def Lj (m:Map)(g:Agent)(tick act:Int):Int:=
  let L:=Em m g;let t:=Xj m g;let act0:=max (-t.2.2) (min act t.2.1)
  if g.Obey=true∧L.2≤De m L.1 then Ee g t.1 (FC (fun x=>Sy (aM m L.1 tick) L.2 g.V (Ee g t.1 x) t.2.2) (-t.2.2) (act0+t.2.2).toNat act0)else Ee g t.1 act0
def HK (m:Map)(g:Agent)(tick act:Int):Agent:=
  {g with V:=Lj m g tick act,S:=D6 (g.S+Lj m g tick act),Gone:=Vd m {g with V:=Lj m g tick act,S:=D6 (g.S+Lj m g tick act)}}
theorem AB (k:Int):0≤(V9 k).1∧(V9 k).1≤2000∧0≤(V9 k).2.1∧(V9 k).2.1≤100∧0≤(V9 k).2.2∧(V9 k).2.2≤300:=by
  unfold V9
  repeat' split
  all_goals simp
theorem aN {g:Agent}{L:Int×Int}{t:Int×Int×Int}{R:List Int}(hR:R.length≤1000)(ht:0≤t.2.2∧t.2.2≤300): ∀(n:Nat) (act:Int), -t.2.2≤act→act≤100→(act+t.2.2).toNat≤n→
    loop (W7 g L t R) act=some (FC (fun x=>Sy R L.2 g.V (Ee g t.1 x) t.2.2) (-t.2.2) n act):=by
  intro n
  induction n with
  |zero=>
   intro act h1 h2 h3
   rw [FC]
   refine C6 ?_
   unfold W7
   rw [F5 (n:=0 - t.2.2) (by omega),bK (show ¬act>0 - t.2.2 by omega)];rfl
  |succ n ih=>
   intro act h1 h2 h3
   rw [FC]
   by_cases q:act> -t.2.2
   ·have hs:Y8 act g t.1=some (Ee g t.1 act):=by unfold Y8 Ee;rw [Lx,Cx]
    by_cases k:Sy R L.2 g.V (Ee g t.1 act) t.2.2=false
    ·rw [bQ ⟨q,k⟩,← ih (act - 1) (by omega) (by omega) (by omega)]
     refine J2 ?_
     unfold W7
     rw [F5 (n:=0 - t.2.2) (by omega),bJ (show act>0 - t.2.2 by omega),bO,hs,lB,bO,TP R hR,lB,k,F5 (by omega)];rfl
    ·rw [bR (fun x=>k x.2)]
     refine C6 ?_
     unfold W7
     rw [F5 (n:=0 - t.2.2) (by omega),bJ (show act>0 - t.2.2 by omega),bO,hs,lB,bO,TP R hR,lB,show Sy R L.2 g.V (Ee g t.1 act) t.2.2=true by simpa using k];rfl
   ·rw [bR (fun x=>q x.1)]
    refine C6 ?_
    unfold W7
    rw [F5 (n:=0 - t.2.2) (by omega),bK (show ¬act>0 - t.2.2 by omega)];rfl
theorem WO {g:Agent}{L:Int×Int}{t:Int×Int×Int}{R:List Int}(hR:R.length≤1000)(ht:0≤t.2.2∧t.2.2≤300): ∀(n:Nat) (act:Int), -t.2.2≤act→act≤100→(act+t.2.2).toNat≤n→
    loop (Jn g L t R) (act,Ee g t.1 act)=some (Ee g t.1 (FC (fun x=>Sy R L.2 g.V (Ee g t.1 x) t.2.2) (-t.2.2) n act)):=by
  intro n
  induction n with
  |zero=>
   intro act h1 h2 h3
   rw [FC]
   refine C6 ?_
   unfold Jn
   dsimp only
   rw [F5 (n:=0 - t.2.2) (by omega),bK (show ¬act>0 - t.2.2 by omega)];rfl
  |succ n ih=>
   intro act h1 h2 h3
   rw [FC]
   by_cases q:act> -t.2.2
   ·by_cases k:Sy R L.2 g.V (Ee g t.1 act) t.2.2=false
    ·rw [bQ ⟨q,k⟩,← ih (act - 1) (by omega) (by omega) (by omega)]
     refine J2 ?_
     unfold Jn
     dsimp only
     rw [F5 (n:=0 - t.2.2) (by omega),bJ (show act>0 - t.2.2 by omega),bO,TQ R hR,lB,k,F5 (n:=act - 1) (by omega),Lx,Cx];rfl
    ·rw [bR (fun x=>k x.2)]
     refine C6 ?_
     unfold Jn
     dsimp only
     rw [F5 (n:=0 - t.2.2) (by omega),bJ (show act>0 - t.2.2 by omega),bO,TQ R hR,lB,show Sy R L.2 g.V (Ee g t.1 act) t.2.2=true by simpa using k];rfl
   ·rw [bR (fun x=>q x.1)]
    refine C6 ?_
    unfold Jn
    dsimp only
    rw [F5 (n:=0 - t.2.2) (by omega),bK (show ¬act>0 - t.2.2 by omega)];rfl
/-- What is known of an agent of a valid state. -/
structure AgentOK (m:Map)(s:State)(i:Int)(g:Agent):Prop where
  route: ∃a t,g.Route=a::t∧RouteOK m a t
  len:300≤g.Len∧g.Len≤20000
  begin:0≤g.Begin∧g.Begin≤1099511627776
  S:0≤g.S∧g.S≤LongM m g.Route+g.Len+2000
  V:0≤g.V∧g.V≤(Xj m g).1
  gone:g.Gone=Vd m g
  late: ¬(g.Begin>s.Tick∧g.S≠0)
  first:i=0→g.Begin=0
theorem agentM_zero {m:Map}{s:State}{i:Int}{g:Agent}:Ed m s i g=0↔AgentOK m s i g:=by
  unfold Ed
  constructor
  ·intro h
   by_cases q:P3 m g.Route=0
   ·rw [bQ q]at h
    by_cases o:QI g=true∨g.S>LongM m g.Route+g.Len+2000
    ·rw [bQ o]at h;cases h
    ·rw [bR o]at h
     by_cases v:g.V<0∨g.V>(Xj m g).1
     ·rw [bQ v]at h;cases h
     ·rw [bR v]at h
      by_cases z:g.Gone≠Vd m g∨(g.Begin>s.Tick∧g.S≠0)∨(i=0∧g.Begin≠0)
      ·rw [bQ z]at h;cases h
      ·obtain ⟨o1,o2,o3,o4,o5⟩:=LI (g:=g) (by cases hq:QI g<;>simp_all)
       refine ⟨chkRoute_zero.1 q,⟨o1,o2⟩,⟨o3,o4⟩,⟨o5,?_⟩,?_,?_,fun h=>z (.inr (.inl h)),fun h=> ?_⟩
       ·exact Int.not_lt.1 fun h=>o (.inr h)
       ·omega
       ·exact Classical.byContradiction fun h=>z (.inl h)
       ·exact Classical.byContradiction fun h'=>z (.inr (.inr ⟨h,h'⟩))
   ·rw [bR q]at h;cases h
  ·intro A
   have l:=A.len;have b:=A.begin;have S:=A.S;have V:=A.V
   rw [bQ (chkRoute_zero.2 A.route),bR,bR,bR]
   ·rintro (h|h|h)
    ·exact h A.gone
    ·exact A.late h
    ·exact h.2 (A.first h.1)
   ·omega
   ·rintro (h|h)
    ·unfold QI at h
     simp only [bV,bM]at h
     omega
    ·omega
structure StateOK (m:Map)(s:State):Prop where
  tick:0≤s.Tick∧s.Tick≤1099511627776
  num:0<s.Agents.length∧s.Agents.length≤8
  agent: ∀(i:Nat) g,s.Agents[i]? =some g→AgentOK m s (i:Int) g
  ins: ∀(i:Nat) x,s.In[i]? =some x→Xd m s x=false
  sorted: ∀(i:Nat) x y,s.In[i]? =some x→s.In[i+1]? =some y→Gn x y=true
  rank: ∀x∈s.In,Te s x=false
theorem Nd {m:Map}(K:KitM m){s:State}:Qn m s=0↔StateOK m s:=by
  unfold Qn
  rw [bQ K.chk]
  constructor
  ·intro h
   by_cases t:s.Tick<0∨s.Tick>1099511627776
   ·rw [bQ t]at h;cases h
   rw [bR t]at h
   by_cases n0:s.Agents.length=0
   ·rw [bQ n0]at h;cases h
   rw [bR n0]at h
   by_cases n8:8<s.Agents.length
   ·rw [bQ n8]at h;cases h
   rw [bR n8]at h
   cases ha:H9 (fun i g=>if Ed m s (i:Int) g=0 then none else some (Ed m s (i:Int) g)) 0 s.Agents with
   |some e=>
    rw [ha]at h
    have: ∀(l:List Agent) (i:Nat),H9 (fun i g=>if Ed m s (i:Int) g=0 then none else some (Ed m s (i:Int) g)) i l=some e→e≠0:=by
      intro l
      induction l with
      |nil=>intro i h;cases h
      |cons a l ih=>
       intro i h
       unfold H9 at h
       by_cases z:Ed m s (i:Int) a=0
       ·rw [bQ z]at h;exact ih _ h
       ·rw [bR z]at h;cases h;exact z
    exact absurd h (this _ _ ha)
   |none=>
    rw [ha]at h
    cases hi:H9 (cD m s) 0 s.In with
    |some e=>
     rw [hi]at h
     have: ∀(l:List Stay) (i:Nat),H9 (cD m s) i l=some e→e≠0:=by
       intro l
       induction l with
       |nil=>intro i h;cases h
       |cons a l ih=>
        intro i h
        unfold H9 at h
        cases z:cD m s i a with
        |none=>rw [z]at h;exact ih _ h
        |some e'=>
         rw [z]at h;cases h
         unfold cD at z
         split at z
         ·cases z;decide
         ·cases z
     exact absurd h (this _ _ hi)
    |none=>
     rw [hi]at h
     have ha':=firstE_none.1 ha
     have hi':=firstE_none.1 hi
     simp only [wK]at ha' hi'
     have hin: ∀(i:Nat) x,s.In[i]? =some x→¬(Xd m s x=true∨(0<i∧∃y,s.In[i - 1]? =some y∧Gn y x=false)):=by
       intro i x hx q
       have:=hi' i x hx
       unfold cD at this
       rw [bQ q]at this;cases this
     have hr:s.In.any (Te s)=false:=by
       cases q:s.In.any (Te s)with
       |false=>rfl
       |true=>rw [q]at h;cases h
     refine ⟨by omega,by omega,fun i g hg=>agentM_zero.1 ?_,fun i x hx=> ?_,fun i x y hx hy=> ?_,fun x hx=> ?_⟩
     ·have:=ha' i g hg
      by_cases z:Ed m s (i:Int) g=0
      ·exact z
      ·rw [bR z]at this;cases this
     ·have:=hin i x hx
      cases q:Xd m s x with
      |false=>rfl
      |true=>exact absurd (.inl q) this
     ·have:=hin (i+1) y hy
      cases q:Gn x y with
      |true=>rfl
      |false=>exact absurd (.inr ⟨by omega,x,hx,q⟩) this
     ·have:=List.any_eq_false.1 hr x hx
      simpa using this
  ·intro O
   have t:=O.tick;have n:=O.num
   rw [bR (by omega),bR (by omega),bR (by omega)]
   rw [firstE_none.2 fun i g hg=>by rw [wK,bQ (agentM_zero.2 (O.agent i g hg))]]
   rw [firstE_none.2 fun i x hx=> ?_]
   ·dsimp only
    rw [bR]
    intro h
    obtain ⟨x,x1,x2⟩:=lZ.1 h
    rw [O.rank x x1]at x2;cases x2
   ·rw [wK]
    unfold cD
    rw [bR]
    rintro (h|⟨h0,y,y1,y2⟩)
    ·rw [O.ins i x hx]at h;cases h
    ·have:=O.sorted (i - 1) y x y1 (by rw [show i - 1+1=i by omega];exact hx)
     rw [this]at y2;cases y2
theorem AgentOK.bd {m:Map}{s:State}{i:Int}{g:Agent}(A:AgentOK m s i g):1000≤LongM m g.Route∧LongM m g.Route≤134217728:=by
  obtain ⟨a,t,h,R⟩:=A.route
  rw [h];exact Qc R
theorem kX {m:Map}(B:BearM m){s:State}{i:Int}{g:Agent}(A:AgentOK m s i g)(hr:g.Route.length≤1000)(tick act:Int):Fy m g tick act=some (HK m g tick act)∧Vz m g tick act=some (HK m g tick act):=by
  obtain ⟨a,t,ht,R⟩:=A.route
  have hL:=A.bd;have hS:=A.S;have hl:=A.len;have hV:=A.V
  obtain ⟨l1,l2⟩:=TK B R ht hS.1 (by omega)
  obtain ⟨ln,k1,k2,_⟩:=OI R ht hS.1
  have ev:Xj m g=V9 ln.Kind:=by unfold Xj;rw [k2]
  have htb:=AB ln.Kind
  obtain ⟨r1,r2,r3⟩:=oJ B (Em m g).1 tick
  have hlow:D6 (0 - (V9 ln.Kind).2.2)= -(V9 ln.Kind).2.2:=by rw [F5 (by omega)];omega
  have hact: -(V9 ln.Kind).2.2≤max (-(V9 ln.Kind).2.2) (min act (V9 ln.Kind).2.1)∧max (-(V9 ln.Kind).2.2) (min act (V9 ln.Kind).2.1)≤100:=by omega
  have hg: ∀g':Agent,g'.Route=g.Route→Fv m g'=some (Vd m g')∧Ml m g'=some (Vd m g'):=fun g' h=>QJ B (by rw [h];omega)
  have hmv: ∀x,Y8 x g (V9 ln.Kind).1=some (Ee g (V9 ln.Kind).1 x):=by intro x;unfold Y8 Ee;rw [Lx,Cx]
  have hlow': ∀X,(Mg true 0 (Mg false (D6 (g.V+X)) (V9 ln.Kind).1))=Ee g (V9 ln.Kind).1 X:=by intro X;unfold Ee;rw [Lx,Cx]
  by_cases q:g.Obey=true∧(Em m g).2≤De m (Em m g).1
  ·have hN:Lj m g tick act=Ee g (V9 ln.Kind).1 (FC (fun x=>Sy (aM m (Em m g).1 tick) (Em m g).2 g.V (Ee g (V9 ln.Kind).1 x) (V9 ln.Kind).2.2) (-(V9 ln.Kind).2.2) (max (-(V9 ln.Kind).2.2) (min act (V9 ln.Kind).2.1)+ (V9 ln.Kind).2.2).toNat (max (-(V9 ln.Kind).2.2) (min act (V9 ln.Kind).2.1))):=by
     unfold Lj;rw [ev];exact bQ q
   constructor
   ·unfold Fy HK
    rw [l1,lB,k1,lB,Uu,lB,q.1,bO,Je B,lB,bS,bJ q.2,bO,r1,lB,Lx,Cx,hlow,aN r3 ⟨htb.2.2.2.2.1,htb.2.2.2.2.2⟩ _ _ hact.1 hact.2 (wH _)]
    simp only [lB]
    rw [hmv,lB,← hN,(hg ⟨g.Route,D6 (g.S+Lj m g tick act),Lj m g tick act,g.Len,g.Begin,true,g.Gone⟩ rfl).1]
    simp only [lB,q.1]
   ·unfold Vz HK
    rw [l2,lB,k1,lB,Pd,lB,q.1,bO,Qm B,lB,bS,bJ q.2,bO,r2,lB,hlow',Lx,Cx,hlow,WO r3 ⟨htb.2.2.2.2.1,htb.2.2.2.2.2⟩ _ _ hact.1 hact.2 (wH _)]
    simp only [lB]
    rw [← hN,(hg ⟨g.Route,D6 (g.S+Lj m g tick act),Lj m g tick act,g.Len,g.Begin,true,g.Gone⟩ rfl).2]
    simp only [lB,q.1]
  ·have hN:Lj m g tick act=Ee g (V9 ln.Kind).1 (max (-(V9 ln.Kind).2.2) (min act (V9 ln.Kind).2.1)):=by
     unfold Lj;rw [ev];exact bR q
   have hc: ∀{α:Type} (o:Bool) (x y:α),(cond o (some (De m (Em m g).1)) (some default)).bind (fun v4=>some (cond (o&&decide ((Em m g).2≤v4)) x y))=some (cond (o&&decide ((Em m g).2≤De m (Em m g).1)) x y):=by intro α o x y;cases o<;>rfl
   have hf:(g.Obey&&decide ((Em m g).2≤De m (Em m g).1))=false:=by
     rw [bZ];simpa using q
   constructor
   ·unfold Fy HK
    rw [l1,lB,k1,lB,Uu,lB,Je B]
    have e: ∀F:Int→Option Agent,((cond g.Obey (some (De m (Em m g).1)) (some default)).bind fun v4=>(cond (g.Obey&&decide ((Em m g).2≤v4)) ((Es m (Em m g).1 tick).bind fun v5=>(loop (W7 g (Em m g) (V9 ln.Kind) v5) (Mg true (D6 (0 - (V9 ln.Kind).2.2)) (Mg false act (V9 ln.Kind).2.1))).bind fun y2=>some y2) (some (Mg true (D6 (0 - (V9 ln.Kind).2.2)) (Mg false act (V9 ln.Kind).2.1)))).bind F)=F (Mg true (D6 (0 - (V9 ln.Kind).2.2)) (Mg false act (V9 ln.Kind).2.1)):=by
      intro F
      cases ho:g.Obey
      ·rfl
      ·rw [ho]at hf
       rw [bO,lB,hf];rfl
    rw [e,hmv,Lx,Cx,hlow,← hN,lB,(hg ⟨g.Route,D6 (g.S+Lj m g tick act),Lj m g tick act,g.Len,g.Begin,g.Obey,g.Gone⟩ rfl).1]
    rfl
   ·unfold Vz HK
    rw [l2,lB,k1,lB,Pd,lB,Qm B]
    have e: ∀(F:Int→Option Agent) (Y:List Int→Option Int) (X:Int),((cond g.Obey (some (De m (Em m g).1)) (some default)).bind fun v4=>(cond (g.Obey&&decide ((Em m g).2≤v4)) ((Us m (Em m g).1 tick).bind Y) (some X)).bind F)=F X:=by
      intro F Y X
      cases ho:g.Obey
      ·rfl
      ·rw [ho]at hf
       rw [bO,lB,hf];rfl
    rw [e,hlow',Lx,Cx,hlow,← hN,(hg ⟨g.Route,D6 (g.S+Lj m g tick act),Lj m g tick act,g.Len,g.Begin,g.Obey,g.Gone⟩ rfl).2]
    rfl
def kY:Agent:=⟨[],0,0,0,0,false,false⟩
def BN (m:Map)(s:State)(i act:Int):Agent:=match C0 s.Agents i with
  |none=>kY
  |some g=>if U0 s i=true∧Qn m s=0 then HK m g s.Tick act else g
theorem kZ {m:Map}(K:KitM m){s:State}(S:SizeS s)(w: ∀g∈s.Agents,g.S≤9223372036854775807)(i act:Int):Kd m s i act=some (BN m s i act)∧KO m s i act=some (BN m s i act):=by
  obtain ⟨c1,c2⟩:=LK K.toBearM S w
  obtain ⟨t1,t2⟩:=Qd s i
  unfold Kd KO BN
  by_cases h:0≤i∧i<s.Agents.length
  case neg=>
    rw [show (decide (i<0)||decide (i≥(s.Agents.length:Int)))=true by simp only [bV,bM];omega,GI h]
    exact ⟨rfl,rfl⟩
  obtain ⟨g,hg,hg'⟩:=Rp h.1 h.2
  have hr:=S.routes g (lG hg')
  rw [show (decide (i<0)||decide (i≥(s.Agents.length:Int)))=false by rw [bZ];simp only [ne_eq,bV,bM];omega,bP,bP,hg,lB,lB,HJ hr,lB,t1,lB,Vc (by omega),lB,c1,c2,lB,t2]
  dsimp only
  have eg:(⟨g.Route,g.S,g.V,g.Len,g.Begin,g.Obey,g.Gone⟩:Agent)=g:=rfl
  by_cases q:U0 s i=true∧Qn m s=0
  ·rw [bQ q,q.1,q.2]
   have O:=(Nd K).1 q.2
   have A:=O.agent i.toNat g hg'
   obtain ⟨m1,m2⟩:=kX K.toBearM A hr s.Tick act
   rw [eg,m2]
   refine ⟨?_,rfl⟩
   show (Fy m g s.Tick act).bind _=_
   rw [m1];rfl
  ·rw [bR q]
   constructor
   ·cases ht:U0 s i
    ·rfl
    ·have:Qn m s≠0:=fun h=>q ⟨ht,h⟩
     show cond (!true||(Qn m s !=0)) _ _=_
     rw [show (!true||(Qn m s !=0))=true by simpa using this];rfl
   ·cases hz:(Qn m s !=0)
    ·have hz':Qn m s=0:=by simpa using hz
     have:U0 s i=false:=by
       cases ht:U0 s i
       ·rfl
       ·exact absurd ⟨ht,hz'⟩ q
     rw [this];rfl
    ·rfl
def BO (g:Agent):Bool:=(((decide (g.S≥0))&& (decide (g.S≤1099511627776)))&& (decide (g.Len≥0)))&& (decide (g.Len≤1099511627776))
def Lf (m:Map)(r:List Int):List Pass:=(V7 m r).getD []
theorem aO {m:Map}(B:BearK m)(r:List Int)(hr:r.length≤1000000):V7 m r=some (Lf m r)∧Fm m r=some (Lf m r)∧(Lf m r).length≤16:=by
  obtain ⟨ps,h1,h2,h3⟩:=WL B r hr
  unfold Lf
  rw [h1,h2]
  exact ⟨rfl,rfl,h3⟩
def Ug (g g':Agent)(z:Int)(p:Pass):Bool:=((p.Zone_==z)&&decide (p.From≤g'.S))&&decide (D6 (g.S - g.Len)≤p.To)
/-- Whether an agent is present in a zone during a tick. -/
def Hm (m:Map)(g g':Agent)(z:Int):Bool:=(BO g&&BO g')&& (Lf m g.Route).any (Ug g g' z)
theorem Wj {m:Map}(B:BearK m){g g':Agent}(hr:g.Route.length≤1000)(z:Int):Di m g g' z=some (Hm m g g' z)∧Gh m g g' z=some (Hm m g g' z):=by
  obtain ⟨p1,p2,p3⟩:=aO B g.Route (by omega)
  have s1: ∀g,Mj g=some (BO g):=fun _=>rfl
  have s2: ∀g,Mm g=some (BO g):=fun _=>rfl
  have hc:G2 (Lf m g.Route) z ⟨D6 (g.S - g.Len),g'.S⟩=some ((Lf m g.Route).any (Ug g g' z)):=by
    unfold G2 J0
    refine Oc _ (Ug g g' z) _ (by omega) (fun i x hx=> ?_) (by unfold L3;rw [I0];rfl)
    unfold L3 Gs
    rw [J6 (G9 hx),C3 hx,bO,lB,lB]
    show cond (Ug g g' z x) _ _=_
    cases Ug g g' z x<;>rfl
  have hd:thenS (loop (Dq g g' z (Lf m g.Route)) 0) (fun _=>some false) (fun r=>some r)=some ((Lf m g.Route).any (Ug g g' z)):=by
    rw [HC (Lf m g.Route) (Ug g g' z) true (fun i x hx=> ?_) (by unfold Dq;rw [I0];rfl)]
    ·cases (Lf m g.Route).any (Ug g g' z)<;>rfl
    ·unfold Dq Ug
     rw [J6 (G9 hx),C3 hx,bO,lB,G7 (G9 hx) (by omega)]
     by_cases q1:x.Zone_=z
     ·rw [show (x.Zone_==z)=true by simpa using q1,bO,lB,bS]
      by_cases q2:D6 (g.S - g.Len)≤x.To
      ·rw [bJ q2,bO,lB,bS,Bool.and_true]
       by_cases q3:x.From≤g'.S
       ·rw [bJ (show g'.S≥x.From from q3)];rfl
       ·rw [bK (show ¬g'.S≥x.From from q3)];rfl
      ·rw [bK q2,Bool.and_false];rfl
     ·rw [show (x.Zone_==z)=false by simpa using q1];rfl
  unfold Di Gh Hm
  rw [s1,s2,lB,lB]
  cases hs:BO g
  ·exact ⟨rfl,rfl⟩
  ·rw [bW,bX,bO,bO,s1,s2,lB,lB]
   cases hs':BO g'
   ·exact ⟨rfl,rfl⟩
   ·simp only [bW,Bool.or_self,bP,bS]
    constructor
    ·show (Z9 g).bind _=_
     unfold Z9
     rw [lB,p1,lB,hc];rfl
    ·show (Fm m g.Route).bind _=_
     rw [p2,lB,hd]
/-! ### The entry, and the rank -/
theorem YG {α:Type}{P:α→Bool}{l:List α}(h:0≤EV P l): ∃x,l[(EV P l).toNat]? =some x∧P x=true∧l.find? P=some x:=by
  unfold EV at h ⊢
  cases hq:l.findIdx? P with
  |none=>rw [hq]at h;exact absurd h (by simp)
  |some i=>
   obtain ⟨h1,h2,h3⟩:=List.findIdx?_eq_some_iff_getElem.1 hq
   refine ⟨l[i],by rw [wF];exact lH h1,h2,?_⟩
   exact List.find?_eq_some_iff_getElem.2 ⟨h2,i,h1,rfl,fun j hj=>by simpa using h3 j hj⟩
theorem aP {m:Map}{r:List Int}{z:Int}(h:0≤Cc m r z): ∃zn l,0≤z∧m.Zones[z.toNat]? =some zn∧P3 m r=0∧r[(Cc m r z).toNat]? =some l∧(Jr zn l).2=true:=by
  unfold Cc at h ⊢
  cases hz:m.Zones[z.toNat]? with
  |none=>rw [hz]at h;exact absurd h (by simp)
  |some zn=>
   rw [hz]at h
   dsimp only at h ⊢
   by_cases q:0≤z∧P3 m r=0
   ·rw [bQ q]at h ⊢
    obtain ⟨l,h1,h2,_⟩:=YG h
    exact ⟨zn,l,q.1,rfl,q.2,h1,h2⟩
   ·rw [bR q]at h;exact absurd h (by simp)
/-- The lane on which a route enters a zone; -1 if it does not. -/
def Jt (m:Map)(r:List Int)(z:Int):Int:=if 0≤Cc m r z then r.getD (Cc m r z).toNat 0 else -1
theorem Ve {m:Map}{r:List Int}{z:Int}(h:0≤Cc m r z): ∃zn,0≤z∧m.Zones[z.toNat]? =some zn∧r[(Cc m r z).toNat]? =some (Jt m r z)∧(Jr zn (Jt m r z)).2=true∧0≤Jt m r z:=by
  obtain ⟨zn,l,h0,h1,h2,h3,h4⟩:=aP h
  have e:Jt m r z=l:=by unfold Jt;rw [bQ h,List.getD,h3];rfl
  obtain ⟨a,t,rfl,R⟩:=chkRoute_zero.1 h2
  have:=R.mem (lG h3)
  rw [e]
  exact ⟨zn,h0,h1,h3,h4,this.1⟩
theorem GJ {m:Map}(B:BearM m){r:List Int}(hr:r.length≤1000000)(z:Int):Dj m r z=some (Jt m r z):=by
  unfold Dj
  rw [gC B r hr,lB]
  by_cases q:0≤Cc m r z
  ·obtain ⟨zn,_,_,h3,_⟩:=Ve q
   have hg:=C3 h3
   rw [wG q]at hg
   rw [bJ (show Cc m r z≥0 from q),bO,hg];rfl
  ·rw [bK (show ¬Cc m r z≥0 from q)]
   unfold Jt;rw [bR q];rfl
/-- The rank of an agent in a zone. -/
def HL (m:Map)(r:List Int)(z tick:Int):Int:=
  if 0≤Cc m r z then
   match m.Zones[z.toNat]? with
   |some zn=>if zn.Signal_>0 then (if GF m (zn.Signal_ - 1) (Jt m r z) tick=true then 2 else 0)else (Jr zn (Jt m r z)).1.Rank
   |none=>0
  else 0
theorem YH {m:Map}(K:KitM m){g:Agent}(hr:g.Route.length≤1000)(z tick:Int):Fx m g z tick=some (HL m g.Route z tick)∧Sk m g z tick=some (HL m g.Route z tick):=by
  have B:=K.toBearM
  have hr':g.Route.length≤1000000:=by omega
  unfold Fx Sk HL
  rw [GJ B hr',Va B _ hr',lB,lB]
  by_cases q:0≤Cc m g.Route z
  case neg=>
    rw [bR q,bJ (show Cc m g.Route z<0 by omega)]
    have:Jt m g.Route z= -1:=by unfold Jt;rw [bR q]
    rw [this]
    exact ⟨rfl,rfl⟩
  obtain ⟨zn,h0,h1,h3,h4,h5⟩:=Ve q
  have hz:=C3 h1
  rw [wG h0]at hz
  have hg:=C3 h3
  rw [wG q]at hg
  have Z:=K.val.zoneOK (lG h1)
  have hS:=Z.sig
  have hsl:=K.val.signals
  have hp:=B.toBearZ.parts zn (lG h1)
  rw [bQ q,h1,bK (show ¬Jt m g.Route z<0 by omega),bK (show ¬Cc m g.Route z<0 by omega),bP,bP,hz,lB,lB]
  dsimp only
  by_cases s:zn.Signal_>0
  ·rw [bQ s,bJ s,F5 (by omega),gF B,hg]
   simp only [lB,bO,aD B,bS]
   cases GF m (zn.Signal_ - 1) (Jt m g.Route z) tick<;>exact ⟨rfl,rfl⟩
  ·rw [bR s,bK s,bP,bP,lB,bT,bP]
   have hany:zn.Parts.any (fun p=>p.Lane_==Jt m g.Route z)=true:=by
     unfold Jr at h4
     cases hf:zn.Parts.find? (fun p=>p.Lane_==Jt m g.Route z)with
     |none=>rw [hf]at h4;cases h4
     |some p=>
      exact lZ.2 ⟨p,l7 hf,l6 (p:=fun p:Part=>p.Lane_==Jt m g.Route z) hf⟩
   have hidx:0≤EV (fun p:Part=>p.Lane_==Jt m g.Route z) zn.Parts:=by
     have:=Uv (fun p:Part=>p.Lane_==Jt m g.Route z) zn.Parts
     rw [hany]at this
     simpa using this
   obtain ⟨p,p1,p2,p3⟩:=YG hidx
   have hpr:(Jr zn (Jt m g.Route z)).1.Rank=p.Rank:=by unfold Jr;rw [p3]
   constructor
   ·have e:I9 zn.Parts (Jt m g.Route z)=some (EV (fun p:Part=>p.Lane_==Jt m g.Route z) zn.Parts):=by
      unfold I9
      refine Qa zn.Parts (fun p:Part=>p.Lane_==Jt m g.Route z) (by omega) (fun i a h=> ?_) (by unfold M5;rw [I0];rfl)
      unfold M5 Nt
      rw [J6 (G9 h),C3 h,bO,lB,lB]
      cases a.Lane_==Jt m g.Route z<;>rfl
    have hgp:=C3 p1
    rw [wG hidx]at hgp
    rw [e,lB,hgp,lB,hpr]
   ·have key: ∀(l:List Part) (i:Nat),zn.Parts.drop i=l→i≤zn.Parts.length→thenS (loop (Gj g (Cc m g.Route z) zn) (i:Int)) (fun _=>some 0) (fun r=>some r)=some (match l.find? (fun p=>p.Lane_==Jt m g.Route z)with|some p=>p.Rank|none=>0):=by
      intro l
      induction l with
      |nil=>
       intro i hi hil
       have:=N8 hi
       obtain rfl:i=zn.Parts.length:=by omega
       rw [C6 (t:= .inl ()) (by unfold Gj;rw [I0];rfl)];rfl
      |cons x l ih=>
       intro i hi hil
       have hx:=U6 hi
       have hlt:=M9 hi
       rw [List.find?_cons]
       cases hq:x.Lane_==Jt m g.Route z with
       |true=>
        rw [C6 (t:= .inr x.Rank) (by unfold Gj;rw [J6 hlt,C3 hx,bO,lB,hg,lB,hq,bO,lB])];rfl
       |false=>
        rw [J2 (s':=((i+1:Nat):Int)) (by unfold Gj;rw [J6 hlt,C3 hx,bO,lB,hg,lB,hq,bP,G7 hlt (by omega)])]
        exact ih (i+1) (K5 hi) hlt
    have:=key zn.Parts 0 rfl (wI _)
    rw [p3]at this
    rw [show ((0:Nat):Int)=0 from rfl]at this
    rw [bP,this,hpr]
/-! ### Stays -/
def Wk (i z:Int)(x:Stay):Bool:=x.Agent_==i&&x.Zone_==z
def OJ (l:List Stay):Prop:=l.Pairwise fun a b=>Gn a b=true
theorem HM {a b c:Stay}(h1:Gn a b=true)(h2:Gn b c=true):Gn a c=true:=by
  unfold Gn at*
  simp only [bV,bM,bU,wB]at*
  omega
theorem aQ {l:List Stay}(h: ∀(i:Nat) x y,l[i]? =some x→l[i+1]? =some y→Gn x y=true):OJ l:=by
  unfold OJ
  induction l with
  |nil=>exact List.Pairwise.nil
  |cons a l ih=>
   have ih:=ih fun i x y hx hy=>h (i+1) x y (by simpa using hx) (by simpa using hy)
   refine bB.2 ⟨fun b hb=> ?_,ih⟩
   cases l with
   |nil=>cases hb
   |cons c l=>
    have h0:=h 0 a c rfl rfl
    rcases lU.1 hb with rfl|hb
    ·exact h0
    ·exact HM h0 ((bB.1 ih).1 b hb)
theorem mA (a b:Stay):decide (MQ a b<0)=Gn a b:=by
  have:=TM a b
  have e:decide (MQ a b<0)= !decide (MQ a b≥0):=by
    by_cases h:MQ a b<0
    ·rw [bJ h,bK (by omega)];rfl
    ·rw [bK h,bJ (by omega)];rfl
  rw [e,this,Bool.not_not]
theorem gO (a b:Stay):(MQ a b==0)=Wk b.Agent_ b.Zone_ a:=by
  unfold MQ Wk EZ
  by_cases h1:a.Agent_<b.Agent_
  ·have:a.Agent_≠b.Agent_:=by omega
   simp [h1,this]
  ·by_cases h2:a.Agent_>b.Agent_
   ·have:a.Agent_≠b.Agent_:=by omega
    simp [h1,h2,this]
   ·have:a.Agent_=b.Agent_:=by omega
    by_cases h3:a.Zone_<b.Zone_
    ·have:a.Zone_≠b.Zone_:=by omega
     simp [h3,this, *]
    ·by_cases h4:a.Zone_>b.Zone_
     ·have:a.Zone_≠b.Zone_:=by omega
      simp [h3,h4,this, *]
     ·have:a.Zone_=b.Zone_:=by omega
      simp [this, *]
theorem YI {l:List Stay}(hl:l.length≤1000000)(hs:OJ l)(y:Stay): ∃s:Nat,D2 l y=some ((s:Int),(l.find? (Wk y.Agent_ y.Zone_)).isSome)∧∀x,l.find? (Wk y.Agent_ y.Zone_)=some x→l[s]? =some x:=by
  have hget: ∀c,c<l.length→l[c]? =some (l.getD c default):=by
    intro c hc
    rw [List.getD,lH hc];rfl
  obtain ⟨s,h1,_,h3,h4,h5⟩:=kE (F:=D5 l y) (fun c=>Gn (l.getD c default) y) 0 l.length (wI _) (fun a b _ hab hb=>by
    unfold D5
    dsimp only
    have hm:(a+b) / 2<l.length:=by omega
    rw [bJ (show (a:Int)< (b:Int) by omega),bO,kO a b (by omega),C3 (hget _ hm),lB,LJ,lB,mA]
    by_cases q:Gn (l.getD ((a+b) / 2) default) y=true
    ·rw [bQ q,q,bO,G7 hm (by omega)]
    ·rw [bR q,show Gn (l.getD ((a+b) / 2) default) y=false by simpa using q];rfl) (fun a b hab=>by
    unfold D5
    dsimp only
    rw [bK (show ¬(a:Int)< (b:Int) by omega)];rfl) (fun c c' _ hcc hc' q=>by
    rcases Nat.lt_or_eq_of_le hcc with h|h
    ·have h1:=bD.1 hs c c' (by omega) hc' h
     have e1:=hget c (by omega);have e2:=hget c' hc'
     rw [lH (by omega)]at e1 e2
     rw [lD e1,lD e2]at h1
     exact HM h1 q
    ·subst h;exact q)
  have hmem: ∀x,l.find? (Wk y.Agent_ y.Zone_)=some x→l[s]? =some x:=by
    intro x hx
    have k1:=l6 hx
    have k2:=l7 hx
    obtain ⟨j,hj⟩:=bG k2
    have hjl:=G9 hj
    have e1:=hget j hjl
    rw [hj]at e1
    have ex:x=l.getD j default:=lD e1
    have nl:Gn x y=false:=by
      unfold Wk at k1;unfold Gn
      simp only [bU,wB]at k1
      rw [bZ]
      simp only [ne_eq,bV,bM,bU,wB]
      omega
    have hsj:s≤j:=by
      refine Nat.not_lt.1 fun h=> ?_
      have:=h4 j (wI _) h
      rw [← ex,nl]at this;cases this
    rcases Nat.lt_or_eq_of_le hsj with h|h
    ·exfalso
     have h6:=h5 s (wH _) (by omega)
     have h7:=bD.1 hs s j (by omega) hjl h
     have e2:=hget s (by omega)
     rw [lH (by omega)]at e2
     have e3:=hj
     rw [lH hjl]at e3
     rw [lD e2,lD e3]at h7
     unfold Wk at k1;unfold Gn at h6 h7
     simp only [bU,wB]at k1
     rw [bZ]at h6
     simp only [ne_eq,bV,bM,bU,wB]at h6 h7
     omega
    ·subst h;exact hj
  refine ⟨s,?_,hmem⟩
  have h1':loop (D5 l y) (0,(l.length:Int))=some (s:Int):=h1
  unfold D2
  rw [h1',lB]
  by_cases hlt:s<l.length
  ·have e:=hget s hlt
   rw [J6 hlt,bO,C3 e,lB,bO,LJ,lB,gO,bS]
   congr 2
   cases hf:l.find? (Wk y.Agent_ y.Zone_)with
   |some x=>
    have:=hmem x hf
    rw [e]at this
    rw [lD this,l6 hf];rfl
   |none=>
    have:=List.find?_eq_none.1 hf (l.getD s default) (lG e)
    simpa using this
  ·rw [show decide ((s:Int)< (l.length:Int))=false from bK (by omega),bP,lB,bP,lB,bT]
   congr 2
   cases hf:l.find? (Wk y.Agent_ y.Zone_)with
   |some x=>have:=G9 (hmem x hf);omega
   |none=>rfl
theorem WP {S α β τ:Type}{F:S→Option (Stp S τ)}(pk:Nat→List β→S)(l:List α)(g:Nat→α→Option β)(fin:List β→τ)(s0:List β)(B:Nat){S0:S}(hS:pk 0 s0=S0)(hB:s0.length+l.length≤B)
    (hF: ∀(i:Nat) a (s:List β),l[i]? =some a→s.length+1≤B→F (pk i s)=some (.go (pk (i+1) (match g i a with|some b=>s++ [b]|none=>s))))
    (h0: ∀s,F (pk l.length s)=some (.out (fin s))):loop F S0=some (fin (s0++Gm g 0 l)):=by
  have:=XY (F:=F) pk l (fun i s=>s.length≤s0.length+i) (fun i s a=>match g i a with|some b=>s++ [b]|none=>s) fin (s0:=s0) (S0:=S0) hS (by simp) (fun i a s h hs=>hF i a s h (by have:=(lI.1 h).1;omega)) (fun i a s _ hs=>by
    cases g i a<;>simp<;>omega) (fun s _=>h0 s)
  exact this.trans (congrArg (fun x=>some (fin x)) (CR g l 0 s0))
theorem gP {S α β τ:Type}{F:S→Option (Stp S τ)}(pk:Nat→List β→S)(l:List α)(g:Nat→α→List β)(fin:List β→τ)(s0:List β)(C B:Nat){S0:S}(hS:pk 0 s0=S0)(hB:s0.length+l.length*C≤B)(hC: ∀(i:Nat) a,l[i]? =some a→(g i a).length≤C)
    (hF: ∀(i:Nat) a (s:List β),l[i]? =some a→s.length+C≤B→F (pk i s)=some (.go (pk (i+1) (s++g i a))))
    (h0: ∀s,F (pk l.length s)=some (.out (fin s))):loop F S0=some (fin (s0++Tq g 0 l)):=by
  have key: ∀(r:List α) (i:Nat) (s:List β),EW (fun i s a=>s++g i a) i s r=s++Tq g i r:=by
    intro r
    induction r with
    |nil=>intro i s;simp [EW,Tq]
    |cons a r ih=>intro i s;simp [EW,Tq,ih]
  have:=XY (F:=F) pk l (fun i s=>s.length≤s0.length+i*C) (fun i s a=>s++g i a) fin (s0:=s0) (S0:=S0) hS (by simp) (fun i a s h hs=>hF i a s h (by
    have h1:=(lI.1 h).1
    have h2:(i+1)*C≤l.length*C:=Nat.mul_le_mul_right C h1
    rw [wJ,Nat.one_mul]at h2;omega)) (fun i a s h hs=>by
    have h3:=hC i a h
    rw [lM,wJ,Nat.one_mul];omega) (fun s _=>h0 s)
  exact this.trans (congrArg (fun x=>some (fin x)) (key l 0 s0))
/-- Present at both ends of a tick. -/
def Od (m:Map)(s:State)(A:List Agent)(i z:Int):Bool:=U0 s i&& (match C0 s.Agents i,C0 A i with
  |some g,some g'=>Hm m g g' z
  |_,_=>false)
theorem Sz {s:State}{i:Int}(h:U0 s i=true): ∃g,C0 s.Agents i=some g∧s.Agents[i.toNat]? =some g∧0≤i∧i<s.Agents.length∧g.Gone=false∧g.Begin≤s.Tick:=by
  unfold U0 at h
  by_cases q:0≤i∧i<s.Agents.length
  ·obtain ⟨g,h1,h2⟩:=Rp q.1 q.2
   rw [h1]at h
   dsimp only at h
   rw [bU,bM]at h
   exact ⟨g,h1,h2,q.1,q.2,by simpa using h.1,h.2⟩
  ·rw [GI q]at h;cases h
theorem GK {m:Map}{s:State}{A:List Agent}{i z:Int}(h:Od m s A i z=true): ∃g g',C0 s.Agents i=some g∧s.Agents[i.toNat]? =some g∧0≤i∧i<s.Agents.length∧C0 A i=some g'∧Hm m g g' z=true:=by
  unfold Od at h
  rw [bU]at h
  obtain ⟨g,h1,h2,h3,h4,_⟩:=Sz h.1
  rw [h1]at h
  cases hA:C0 A i with
  |none=>rw [hA]at h;exact absurd h.2 (by simp)
  |some g'=>rw [hA]at h;exact ⟨g,g',h1,h2,h3,h4,rfl,h.2⟩
theorem Zi {m:Map}(B:BearK m){s:State}(S:SizeS s){sc:WorldScene}{A:List Agent}(hm:sc.m=m)(hb:sc.before=s)(ha:sc.after.Agents=A)(hl:A.length=s.Agents.length)(i z:Int):N6 sc i z=some (Od m s A i z):=by
  unfold N6 Od
  rw [hm,hb,ha,(Qd s i).1,lB]
  cases h:U0 s i
  ·rfl
  ·obtain ⟨g,h1,h2,h3,h4,_⟩:=Sz h
   obtain ⟨g',h5,_⟩:=Rp (l:=A) h3 (by omega)
   rw [h1,h5]
   simp only [bO,lB,bS]
   rw [(Wj B (S.routes g (lG h2)) z).1];rfl
/-- The stay of who is present. -/
def Ts (m:Map)(s:State)(i z:Int):Stay:=match s.In.find? (Wk i z)with
  |some x=>x
  |none=>⟨i,z,s.Tick,match C0 s.Agents i with|some g=>HL m g.Route z s.Tick|none=>0⟩
theorem IN (m:Map)(s:State)(i z:Int):(Ts m s i z).Agent_=i∧(Ts m s i z).Zone_=z:=by
  unfold Ts
  cases h:s.In.find? (Wk i z)with
  |none=>exact ⟨rfl,rfl⟩
  |some x=>
   have:=l6 h
   unfold Wk at this
   simpa using this
def BP (m:Map)(s:State)(A:List Agent)(i:Nat)(z:Nat)(_:Zone):Option Stay:=if Od m s A i z=true then some (Ts m s i z)else none
def Ta (m:Map)(s:State)(A:List Agent)(i:Nat)(_:Agent):List Stay:=Gm (BP m s A i) 0 m.Zones
/-- The stays after a tick. -/
def Ak (m:Map)(s:State)(A:List Agent):List Stay:=Tq (Ta m s A) 0 s.Agents
theorem CV (m:Map)(s:State)(A:List Agent)(i:Nat)(a:Agent):(Ta m s A i a).length≤m.Zones.length:=Uw _ _ _
theorem Cm {α β:Type}{g:Nat→α→Option β}{b:β}: ∀(l:List α) (k:Nat),b∈Gm g k l↔∃(i:Nat) (a:α),l[i]? =some a∧g (k+i) a=some b
  | [],k=>by simp [Gm]
  |a::r,k=>by
   have ih:=Cm (g:=g) (b:=b) r (k+1)
   have e:(∃(i:Nat) (a':α),(a::r)[i]? =some a'∧g (k+i) a'=some b)↔g k a=some b∨∃(i:Nat) (a':α),r[i]? =some a'∧g (k+1+i) a'=some b:=by
     constructor
     ·rintro ⟨i,a',h1,h2⟩
      cases i with
      |zero=>simp at h1;subst h1;exact .inl h2
      |succ i=>exact .inr ⟨i,a',by simpa using h1,by rw [show k+1+i=k+ (i+1) by omega];exact h2⟩
     ·rintro (h|⟨i,a',h1,h2⟩)
      ·exact ⟨0,a,rfl,h⟩
      ·exact ⟨i+1,a',by simpa using h1,by rw [show k+ (i+1)=k+1+i by omega];exact h2⟩
   rw [e,Gm]
   cases hg:g k a with
   |none=>simp [ih]
   |some c=>simp [ih,eq_comm]
theorem GL {α β:Type}{g:Nat→α→List β}{b:β}: ∀(l:List α) (k:Nat),b∈Tq g k l↔∃(i:Nat) (a:α),l[i]? =some a∧b∈g (k+i) a
  | [],k=>by simp [Tq]
  |a::r,k=>by
   have ih:=GL (g:=g) (b:=b) r (k+1)
   rw [Tq,lT,ih]
   constructor
   ·rintro (h|⟨i,a',h1,h2⟩)
    ·exact ⟨0,a,rfl,h⟩
    ·exact ⟨i+1,a',by simpa using h1,by rw [show k+ (i+1)=k+1+i by omega];exact h2⟩
   ·rintro ⟨i,a',h1,h2⟩
    cases i with
    |zero=>simp at h1;subst h1;exact .inl h2
    |succ i=>exact .inr ⟨i,a',by simpa using h1,by rw [show k+1+i=k+ (i+1) by omega];exact h2⟩
theorem stays_mem {m:Map}{s:State}{A:List Agent}{x:Stay}:x∈Ak m s A↔∃i z:Nat,i<s.Agents.length∧z<m.Zones.length∧Od m s A i z=true∧x=Ts m s i z:=by
  unfold Ak
  rw [GL]
  constructor
  ·rintro ⟨i,a,h1,h2⟩
   unfold Ta at h2
   rw [Cm]at h2
   obtain ⟨z,zn,h3,h4⟩:=h2
   unfold BP at h4
   rw [wK,wK]at h4
   split at h4
   ·rename_i h5
    cases h4
    exact ⟨i,z,G9 h1,G9 h3,h5,rfl⟩
   ·cases h4
  ·rintro ⟨i,z,h1,h2,h3,rfl⟩
   refine ⟨i,s.Agents[i],lH h1,?_⟩
   unfold Ta
   rw [Cm]
   refine ⟨z,m.Zones[z],lH h2,?_⟩
   unfold BP
   rw [wK,wK,bQ h3]
theorem LL {α β:Type}{g:Nat→α→Option β}{R:β→β→Prop}(h: ∀i j a a' b b',i<j→g i a=some b→g j a'=some b'→R b b'): ∀(l:List α) (k:Nat),(Gm g k l).Pairwise R
  | [],k=>List.Pairwise.nil
  |a::r,k=>by
   have ih:=LL h r (k+1)
   rw [Gm]
   cases hg:g k a with
   |none=>exact ih
   |some b=>
    refine bB.2 ⟨fun b' hb'=> ?_,ih⟩
    obtain ⟨i,a',_,h2⟩:=(Cm r (k+1)).1 hb'
    exact h k (k+1+i) a a' b b' (by omega) hg h2
theorem LM {α β:Type}{g:Nat→α→List β}{R:β→β→Prop}(h0: ∀i a,(g i a).Pairwise R)(h: ∀i j a a' b b',i<j→b∈g i a→b'∈g j a'→R b b'): ∀(l:List α) (k:Nat),(Tq g k l).Pairwise R
  | [],k=>List.Pairwise.nil
  |a::r,k=>by
   rw [Tq]
   refine bC.2 ⟨h0 k a,LM h0 h r (k+1),fun b hb b' hb'=> ?_⟩
   obtain ⟨i,a',_,h2⟩:=(GL r (k+1)).1 hb'
   exact h k (k+1+i) a a' b b' (by omega) hb h2
theorem LN (m:Map)(s:State)(A:List Agent):OJ (Ak m s A):=by
  have key: ∀(i z:Nat) zn b,BP m s A i z zn=some b→b.Agent_=(i:Int)∧b.Zone_=(z:Int):=by
    intro i z zn b h
    unfold BP at h
    split at h
    ·cases h;exact IN m s i z
    ·cases h
  refine LM (fun i a=>LL (fun z z' _ _ b b' hz h1 h2=> ?_) _ _) (fun i j a a' b b' hij h1 h2=> ?_) _ _
  ·have k1:=key i z _ b h1
   have k2:=key i z' _ b' h2
   unfold Gn
   rw [k1.1,k1.2,k2.1,k2.2]
   simp [hz]
  ·unfold Ta at h1 h2
   obtain ⟨z,zn,_,h1⟩:=(Cm _ _).1 h1
   obtain ⟨z',zn',_,h2⟩:=(Cm _ _).1 h2
   have k1:=key i _ zn b h1
   have k2:=key j _ zn' b' h2
   unfold Gn
   rw [k1.1,k2.1]
   simp only [bV,bM,bU,wB]
   omega
theorem WQ {m:Map}{s:State}{A:List Agent}{i z:Int}(hz:0≤z∧z<m.Zones.length)(h:Od m s A i z=true):(Ak m s A).find? (Wk i z)=some (Ts m s i z):=by
  obtain ⟨g,g',h1,h2,h3,h4,_⟩:=GK h
  have hm:Ts m s i z∈Ak m s A:=stays_mem.2 ⟨i.toNat,z.toNat,by omega,by omega,by rw [wG h3,wG hz.1];exact h,by rw [wG h3,wG hz.1]⟩
  have hk:Wk i z (Ts m s i z)=true:=by
    have:=IN m s i z
    unfold Wk;rw [this.1,this.2];simp
  cases hf:(Ak m s A).find? (Wk i z)with
  |none=>exact absurd hk (by simpa using List.find?_eq_none.1 hf _ hm)
  |some x=>
   obtain ⟨i',z',_,_,_,rfl⟩:=stays_mem.1 (l7 hf)
   have:=l6 hf
   unfold Wk at this
   have k:=IN m s i' z'
   rw [k.1,k.2]at this
   simp only [bU,wB]at this
   rw [this.1,this.2]
theorem AD (m:Map)(s:State)(A:List Agent):(Ak m s A).length≤s.Agents.length*m.Zones.length:=NZ _ _ _ _ fun _ _ _=>CV _ _ _ _ _
/-- The program's choice of a stay. -/
theorem aR {m:Map}(K:KitM m){s:State}(S:SizeS s)(hs:OJ s.In){i z:Int}{g:Agent}(hg:C0 s.Agents i=some g)(hr:g.Route.length≤1000):
    ∃v8,D2 s.In (Stay.mk i z s.Tick 0)=some v8∧cond v8.2 ((C0 s.In v8.1).bind fun v9=>some v9) ((Fx m g z s.Tick).bind fun v10=>some (Stay.mk i z s.Tick v10))=some (Ts m s i z):=by
  obtain ⟨k,h1,h2⟩:=YI S.ins hs (Stay.mk i z s.Tick 0)
  refine ⟨_,h1,?_⟩
  unfold Ts
  dsimp only at h2 ⊢
  cases hf:s.In.find? (Wk i z)with
  |some x=>rw [C3 (h2 x hf)];rfl
  |none=>rw [(YH K hr z s.Tick).1,hg];rfl
/-- The agents after a tick. -/
def Cd (m:Map)(s:State)(acts:List Int):List Agent:=s.Agents.mapIdx fun i _=>BN m s i (acts.getD i 0)
def BQ (m:Map)(s:State)(acts:List Int)(k:Nat):List Agent:=s.Agents.mapIdx fun i g=>if i<k then BN m s i (acts.getD i 0)else g
theorem WR (m:Map)(s:State)(acts:List Int):BQ m s acts 0=s.Agents:=by
  apply List.ext_getElem?
  intro i
  unfold BQ
  rw [bE]
  cases s.Agents[i]? <;>simp
theorem aS (m:Map)(s:State)(acts:List Int):BQ m s acts s.Agents.length=Cd m s acts:=by
  apply List.ext_getElem?
  intro i
  unfold BQ Cd
  rw [bE,bE]
  cases h:s.Agents[i]? with
  |none=>rfl
  |some g=>simp [G9 h]
theorem Nf (m:Map)(s:State)(acts:List Int):(Cd m s acts).length=s.Agents.length:=by unfold Cd;simp
theorem aT {m:Map}{s:State}{acts:List Int}{k:Nat}{g:Agent}(h:s.Agents[k]? =some g):C0 (BQ m s acts k) (k:Int)=some g:=by
  apply C3
  unfold BQ
  rw [bE,h];simp
theorem OK {m:Map}{s:State}{acts:List Int}{k:Nat}{g:Agent}(h:s.Agents[k]? =some g):C0 (Cd m s acts) (k:Int)=some (BN m s k (acts.getD k 0)):=by
  apply C3
  unfold Cd
  rw [bE,h];simp
theorem aU {m:Map}{s:State}{acts:List Int}{k:Nat}:Ln (BQ m s acts k) (k:Int) (BN m s k (acts.getD k 0))=BQ m s acts (k+1):=by
  apply List.ext_getElem?
  intro i
  unfold Ln BQ
  rw [wF,List.getElem?_set,bE,bE,List.length_mapIdx]
  by_cases q:k=i
  ·subst q
   by_cases h:k<s.Agents.length
   ·rw [bQ rfl,bQ h,lH h];simp
   ·rw [bQ rfl,bR h,lJ (by omega)];rfl
  ·rw [bR q]
   have:i<k↔i<k+1:=by omega
   simp [this]
theorem oK (acts:List Int)(i:Nat):(cond (decide ((i:Int)< (acts.length:Int))) ((C0 acts (i:Int)).bind fun v3=>some v3) (some 0))=some (acts.getD i 0):=by
  by_cases h:i<acts.length
  ·rw [J6 h,C3 (lH h),List.getD,lH h];rfl
  ·rw [bK (by omega),List.getD,lJ (by omega)];rfl
theorem WS {m:Map}(K:KitM m){s:State}(S:SizeS s)(w: ∀g∈s.Agents,g.S≤9223372036854775807)(acts:List Int){v2:State}(hv:v2.Agents=s.Agents):Gd m s acts v2=some (Cd m s acts):=by
  have hl:=S.agents
  have e:loop (Bu m s acts) (0,s.Agents)=some (Cd m s acts):=by
    refine XY (fun i (_:Unit)=>((i:Int),BQ m s acts i)) s.Agents (fun _ _=>True) (fun _ _ _=>()) (fun _=>Cd m s acts) (s0:=()) (by rw [WR];rfl) trivial (fun i a _ h _=> ?_) (fun _ _ _ _ _=>trivial) (fun _ _=> ?_)
    ·unfold Bu
     dsimp only
     rw [J6 (G9 h),bO,oK,lB,(kZ K S w i _).1,lB,aT h,lB,aU,G7 (G9 h) (by omega)]
    ·unfold Bu
     dsimp only
     rw [I0,aS];rfl
  unfold Gd
  rw [hv,e];rfl
theorem WT {m:Map}(K:KitM m){s:State}(S:SizeS s)(hs:OJ s.In)(acts:List Int){A:List Agent}(hA:A.length=s.Agents.length)(v2:State):Gc m s acts v2 A=some (Ak m s A):=by
  have hl:=S.agents
  have hz:=K.zones2
  have e:loop (Bt m s acts v2 A) (0,[])=some (Ak m s A):=by
    refine gP (fun i l=>((i:Int),l)) s.Agents (Ta m s A) id [] 2 1000000 rfl (by simp;omega) (fun i a _=>wL (CV _ _ _ _ _) hz) (fun i a l h hb=> ?_) (fun l=> ?_)
    ·have hg:=C3 h
     have hr:=S.routes a (lG h)
     have e:loop (Bs m s acts v2 A ((i:Int),l) a) (0,l)=some (l++Ta m s A i a):=by
       refine WP (fun z l=>((z:Int),l)) m.Zones (BP m s A i) id l 1000000 rfl (by omega) (fun z zn l' hz' hb'=> ?_) (fun l'=> ?_)
       ·unfold Bs BP
        dsimp only
        rw [J6 (G9 hz'),bO,Zi K.toBearK S rfl rfl rfl hA,lB,G7 (G9 hz') (by omega)]
        cases hh:Od m s A i z
        ·rfl
        ·obtain ⟨v8,p1,p2⟩:=aR K S hs (z:=(z:Int)) hg hr
         rw [bW,bP,p1,lB,p2,lB,X3,bQ (by simp;omega)];rfl
       ·unfold Bs
        dsimp only
        rw [I0];rfl
     unfold Bt
     dsimp only
     rw [J6 (G9 h),bO,hg,lB,e,lB,G7 (G9 h) (by omega)]
    ·unfold Bt
     dsimp only
     rw [I0];rfl
  unfold Gc
  rw [e];rfl
theorem WU {m:Map}{s:State}{A:List Agent}{i:Nat}(h:U0 s i=false)(a:Agent):Ta m s A i a= []:=by
  apply List.eq_nil_iff_forall_not_mem.2
  intro x hx
  unfold Ta at hx
  obtain ⟨z,zn,_,h2⟩:=(Cm _ _).1 hx
  unfold BP Od at h2
  rw [h,bT,bR (by simp)]at h2
  cases h2
theorem WV {m:Map}(B:BearK m){r:List Int}(hr:r.length≤1000000){p:Pass}(hp:p∈Lf m r):0≤Cc m r p.Zone_:=by
  unfold Lf at hp
  by_cases q:P3 m r=0
  ·obtain ⟨a,t,rfl,R⟩:=chkRoute_zero.1 q
   obtain ⟨ps,p1,p2,_⟩:=OF B R
   rw [p1]at hp
   obtain ⟨i,lane,j,z,k,pt,h1,h2,h3,h4,rfl⟩:=Zz m (a::t) 0 p (p2.mem_iff.1 hp)
   unfold Cc
   dsimp only
   rw [wF,h2]
   dsimp only
   rw [bQ ⟨by omega,q⟩]
   have hz:(Jr z lane).2=true:=by
     unfold Jr
     cases hf:z.Parts.find? (fun p=>p.Lane_==lane)with
     |some _=>rfl
     |none=>
      have:=List.find?_eq_none.1 hf pt (lG h3)
      exact absurd (by simpa using h4) this
   have h5:=Uv (fun l=>(Jr z l).2) (a::t)
   rw [show ((a::t).any fun l=>(Jr z l).2)=true from lZ.2 ⟨lane,lG h1,hz⟩]at h5
   exact bN h5
  ·have h1:loop (O4 m (Av m r)) ([],0)=some []:=by
     refine C6 ?_
     unfold O4
     rw [Sv q];rfl
   have:V7 m r=some []:=by
     unfold V7
     rw [Ro B.toBearM r hr,lB,h1,lB,CU];rfl
   rw [this]at hp
   cases hp
theorem Pl {m:Map}(B:BearK m){g g':Agent}(hr:g.Route.length≤1000){z:Int}(h:Hm m g g' z=true):0≤Cc m g.Route z:=by
  unfold Hm at h
  rw [bU]at h
  obtain ⟨p,h1,h2⟩:=lZ.1 h.2
  unfold Ug at h2
  simp only [bU,wB]at h2
  rw [← h2.1.1]
  exact WV B (by omega) h1
/-! ### Along a lane -/
def Ef (m:Map)(r:List Int)(x:Int):Int×Bool:=match r.findIdx? (fun y=>x==y)with
  |some i=>((StartsM m r).getD i 0,true)
  |none=>(0,false)
theorem WW {m:Map}{a:Int}{t:List Int}(R:RouteOK m a t){i:Nat}(hi:i< (a::t).length):(StartsM m (a::t))[i]? =some ((StartsM m (a::t)).getD i 0):=by
  rw [List.getD,lH (by rw [R.StartsM,Km];exact hi)];rfl
theorem TR {m:Map}(B:BearM m){s:State}{sc:WorldScene}{i:Int}{g:Agent}(hm:sc.m=m)(hb:sc.before=s)(hg:C0 s.Agents i=some g)(hr:g.Route.length≤1000){a:Int}{t:List Int}(hR:g.Route=a::t)(R:RouteOK m a t)(x:Int):S7 sc i x=some (Ef m g.Route x):=by
  unfold S7 R4 Ef
  rw [hm,hb,hg,lB,Qa g.Route (fun y=>x==y) (by omega) (fun i y h=>by
   unfold T1
   rw [J6 (G9 h),bO,C3 h,lB]
   cases x==y<;>rfl) (by unfold T1;rw [I0];rfl),lB]
  unfold EV
  cases hf:g.Route.findIdx? (fun y=>x==y)with
  |none=>rfl
  |some k=>
   have hk:=(List.findIdx?_eq_some_iff_getElem.1 hf).1
   dsimp only
   rw [hR]at hk ⊢
   rw [bK (by omega),bP,GG B _ (by rw [← hR];omega),lB,C3 (WW R hk)];rfl
/-- Whether the back's front reaches the front's rear on a lane. -/
def oX (L:Int)(f' b' b:Agent)(fs bs:Int):Bool:=((((decide (D6 (f'.S - fs)≥0))&& (decide (D6 (b'.S - bs)≥0)))&& (decide (D6 (D6 (b.S - b.Len) - bs)≤L)))&& (decide (D6 (D6 (f'.S - f'.Len) - fs)≤L)))&& (decide (D6 (b'.S - bs)≥D6 (D6 (f'.S - f'.Len) - fs)))
def Qo (m:Map)(tick i j:Int)(gi gj gi' gj':Agent)(x:Int):Option Crash:=
  if (Ef m gi.Route x).2=true∧(Ef m gj.Route x).2=true then
   if D6 (gi.S - (Ef m gi.Route x).1)<D6 (gj.S - (Ef m gj.Route x).1)then
    (if oX (De m x) gj' gi' gi (Ef m gj.Route x).1 (Ef m gi.Route x).1=true then some ⟨tick,i,j,x, -1,[i]⟩else none)
   else (if oX (De m x) gi' gj' gj (Ef m gi.Route x).1 (Ef m gj.Route x).1=true then some ⟨tick,i,j,x, -1,[j]⟩else none)
  else none
theorem oL {m:Map}(B:BearM m){s v2:State}{acts:List Int}{A:List Agent}{St:List Stay}{x4:List Crash}(hx4:x4.length≤1000000){i j:Int}{gi gj gi' gj':Agent}(hi:C0 s.Agents i=some gi)(hj:C0 s.Agents j=some gj)(hi':C0 A i=some gi')(hj':C0 A j=some gj')(hri:gi.Route.length≤1000)(hrj:gj.Route.length≤1000)
    {a b:Int} {t u:List Int} (hRi:gi.Route=a::t) (hRj:gj.Route=b::u) (Ri:RouteOK m a t) (Rj:RouteOK m b u) {k:Nat} {l:Lane} (h:m.Lanes[k]? =some l):
    Ah m s acts v2 A St x4 (i,j) (k:Int)=some (match (Qo m s.Tick i j gi gj gi' gj' (k:Int)).map fun c=>x4++ [c]with|some e=> .out (.inr e)|none=> .go ((k+1:Nat):Int)):=by
  have hL:=B.lanes
  unfold Ah Qo
  dsimp only
  rw [J6 (G9 h),bO,TR B rfl rfl hi hri hRi Ri,lB,TR B rfl rfl hj hrj hRj Rj,lB,G7 (G9 h) (by omega),hi,hj]
  cases h1:(Ef m gi.Route (k:Int)).2
  ·rw [bR (by simp)];rfl
  cases h2:(Ef m gj.Route (k:Int)).2
  ·rw [bR (by simp)];rfl
  rw [bQ ⟨rfl,rfl⟩]
  simp only [bW,Bool.or_self,bP,lB]
  by_cases q:D6 (gi.S - (Ef m gi.Route (k:Int)).1)<D6 (gj.S - (Ef m gj.Route (k:Int)).1)
  ·rw [bQ q,bJ q]
   simp only [bO,lB,hi,hj,hi',hj',Z9,Y3,Je B]
   show cond (oX _ _ _ _ _ _) _ _=_
   cases oX (De m (k:Int)) gj' gi' gi (Ef m gj.Route (k:Int)).1 (Ef m gi.Route (k:Int)).1
   ·rfl
   ·rw [bO,X3,bQ (by simp;omega)];rfl
  ·rw [bR q,bK q]
   simp only [bP,lB,hi,hj,hi',hj',Z9,Y3,Je B]
   show cond (oX _ _ _ _ _ _) _ _=_
   cases oX (De m (k:Int)) gi' gj' gj (Ef m gi.Route (k:Int)).1 (Ef m gj.Route (k:Int)).1
   ·rfl
   ·rw [bO,X3,bQ (by simp;omega)];rfl
/-- Two agents in a tick: what is known of them. -/
structure Two (m:Map)(s:State)(A:List Agent)(i j:Int)(gi gj gi' gj':Agent):Prop where
  hi:C0 s.Agents i=some gi
  hj:C0 s.Agents j=some gj
  hi':C0 A i=some gi'
  hj':C0 A j=some gj'
  ti:U0 s i=true
  tj:U0 s j=true
  ri:gi.Route.length≤1000
  rj:gj.Route.length≤1000
  oi: ∃a t,gi.Route=a::t∧RouteOK m a t
  oj: ∃a t,gj.Route=a::t∧RouteOK m a t
theorem LO {α β γ:Type}(g:Nat→α→Option β)(f:β→γ): ∀(l:List α) (k:Nat),H9 (fun i a=>(g i a).map f) k l=(H9 g k l).map f
  | [],_=>rfl
  |a::r,k=>by
   rw [H9,H9]
   cases g k a with
   |none=>exact LO g f r (k+1)
   |some b=>rfl
def HN (m:Map)(tick i j:Int)(gi gj gi' gj':Agent):List Crash:=(H9 (fun k (_:Lane)=>Qo m tick i j gi gj gi' gj' (k:Int)) 0 m.Lanes).toList
theorem OL (m:Map)(tick i j:Int)(gi gj gi' gj':Agent):(HN m tick i j gi gj gi' gj').length≤1:=by
  unfold HN
  cases H9 (fun k (_:Lane)=>Qo m tick i j gi gj gi' gj' (k:Int)) 0 m.Lanes<;>simp
theorem qA {m:Map}(B:BearM m){s v2:State}{acts:List Int}{A:List Agent}{St:List Stay}{x4:List Crash}(hx4:x4.length≤1000000){i j:Int}{gi gj gi' gj':Agent}(T:Two m s A i j gi gj gi' gj'):
    Ga m s acts v2 A St x4 (i,j)=some (x4++HN m s.Tick i j gi gj gi' gj'):=by
  obtain ⟨a,t,hRi,Ri⟩:=T.oi
  obtain ⟨b,u,hRj,Rj⟩:=T.oj
  unfold Ga HN
  rw [X7 m.Lanes _ (fun k (_:Lane)=>(Qo m s.Tick i j gi gj gi' gj' (k:Int)).map fun c=>x4++ [c]) (fun k l h=>by rw [oL B hx4 T.hi T.hj T.hi' T.hj' T.ri T.rj hRi hRj Ri Rj h];cases Qo m s.Tick i j gi gj gi' gj' (k:Int)<;>rfl) (by unfold Ah;rw [I0];rfl),LO (fun k (_:Lane)=>Qo m s.Tick i j gi gj gi' gj' (k:Int))]
  cases H9 (fun k (_:Lane)=>Qo m s.Tick i j gi gj gi' gj' (k:Int)) 0 m.Lanes with
  |none=>simp [FZ,thenS]
  |some c=>rfl
def Mq (m:Map)(s:State)(A:List Agent)(i j:Int)(gi gj:Agent)(z:Int):Bool:=(Od m s A i z&&Od m s A j z)&& (Jt m gi.Route z !=Jt m gj.Route z)
theorem aV {m:Map}(B:BearK m){s:State}(S:SizeS s){sc:WorldScene}{A:List Agent}(hm:sc.m=m)(hb:sc.before=s)(ha:sc.after.Agents=A)(hl:A.length=s.Agents.length){i j:Int}{gi gj:Agent}(hi:C0 s.Agents i=some gi)(hj:C0 s.Agents j=some gj)(hri:gi.Route.length≤1000)(hrj:gj.Route.length≤1000)(z:Int):
    S6 sc i j z=some (Mq m s A i j gi gj z):=by
  unfold S6 Mq
  rw [Zi B S hm hb ha hl,Zi B S hm hb ha hl,hm,hb,lB,hi,hj]
  cases Od m s A i z
  ·rfl
  ·simp only [bO,lB,bS]
   cases Od m s A j z
   ·rfl
   ·simp only [bO,lB,GJ B.toBearM (show gi.Route.length≤1000000 by omega),GJ B.toBearM (show gj.Route.length≤1000000 by omega)]
/-- Who is to blame. -/
def QK (m:Map)(s:State)(i j z:Int):List Int:=
  if (Ts m s i z).Rank< (Ts m s j z).Rank∨(Ts m s i z).Rank=(Ts m s j z).Rank∧(Ts m s i z).Since>(Ts m s j z).Since then [i]
  else if (Ts m s j z).Rank< (Ts m s i z).Rank∨(Ts m s j z).Since>(Ts m s i z).Since then [j]else [i,j]
def LP (m:Map)(s:State)(A:List Agent)(i j:Int)(gi gj:Agent)(z:Nat)(_:Zone):Option Crash:=if Mq m s A i j gi gj z=true then some ⟨s.Tick,i,j, -1,(z:Int),QK m s i j z⟩else none
def LQ (m:Map)(s:State)(A:List Agent)(i j:Int)(gi gj:Agent):List Crash:=Gm (LP m s A i j gi gj) 0 m.Zones
theorem LR {m:Map}{s:State}{A:List Agent}{i j:Int}{gi gj:Agent}{z:Int}(h:Mq m s A i j gi gj z=true):Od m s A i z=true∧Od m s A j z=true:=by
  unfold Mq at h
  simp only [bU]at h
  exact h.1
theorem TS {m:Map}(B:BearK m){s:State}(S:SizeS s){A:List Agent}{sc:WorldScene}(ha:sc.after.In=Ak m s A){i z:Int}(hz:0≤z∧z<m.Zones.length)(h:Od m s A i z=true):T9 sc i z=some (Ts m s i z):=by
  have h2:=B.zones2
  have hl:=AD m s A
  have hlen:(Ak m s A).length≤1000000:=by
    have:=wM S.agents h2
    omega
  obtain ⟨k,h1,h2⟩:=YI hlen (LN m s A) (Stay.mk i z 0 0)
  have hf:=WQ hz h
  unfold T9
  rw [ha,h1,lB,C3 (h2 _ hf)];rfl
theorem oM (m:Map)(s:State)(i j z:Int):((Y2 (Ts m s i z).Rank (Ts m s j z).Rank).bind fun v31=>(Ac (Ts m s j z).Since (Ts m s i z).Since).bind fun v32=>(Bc [v31,v32]).bind fun v33=>(cond (v33==(-1)) (some [i]) (cond (v33==1) (some [j]) (some [i,j]))))=some (QK m s i j z):=by
  rw [Ss,lB,Wh,lB,WN,lB]
  unfold QK EZ
  by_cases a:(Ts m s i z).Rank< (Ts m s j z).Rank
  ·simp [a]
  ·by_cases b:(Ts m s i z).Rank>(Ts m s j z).Rank
   ·have:(Ts m s i z).Rank≠(Ts m s j z).Rank:=by omega
    simp [a,b,this]
   ·have e:(Ts m s i z).Rank=(Ts m s j z).Rank:=by omega
    by_cases c:(Ts m s j z).Since< (Ts m s i z).Since
    ·simp [e,c]
    ·by_cases d:(Ts m s j z).Since>(Ts m s i z).Since
     ·simp [e,c,d]
     ·simp [e,c,d]
theorem aW (m:Map)(s:State)(A:List Agent)(i j:Int)(gi gj:Agent):(LQ m s A i j gi gj).length≤m.Zones.length:=Uw _ _ _
theorem oN {m:Map}(B:BearK m){s v2:State}(S:SizeS s){acts:List Int}{A:List Agent}(hl:A.length=s.Agents.length){y:List Crash}(hy:y.length≤1000001){i j:Int}{gi gj gi' gj':Agent}(T:Two m s A i j gi gj gi' gj'):
    Dy m s acts v2 A (Ak m s A) (i,j) y=some (y++LQ m s A i j gi gj):=by
  have h2:=B.zones2
  have e:loop (Ag m s acts v2 A (Ak m s A) (i,j)) (0,y)=some (y++LQ m s A i j gi gj):=by
    refine WP (fun z l=>((z:Int),l)) m.Zones (LP m s A i j gi gj) id y 1000003 rfl (by omega) (fun z zn l hz hb=> ?_) (fun l=> ?_)
    ·unfold Ag LP
     dsimp only
     rw [J6 (G9 hz),bO,aV B S rfl rfl rfl hl T.hi T.hj T.ri T.rj,lB,G7 (G9 hz) (by omega)]
     cases hc:Mq m s A i j gi gj z
     ·rfl
     ·have hh:=LR hc
      have hzr:(0:Int)≤(z:Int)∧(z:Int)<m.Zones.length:=⟨by omega,by have:=G9 hz;omega⟩
      rw [bW,bP,TS B S rfl hzr hh.1,lB,TS B S rfl hzr hh.2,lB]
      have hw:=oM m s i j z
      rw [Ss,lB,Wh,lB,WN,lB]at hw ⊢
      rw [hw,lB,X3,bQ (by simp;omega)];rfl
    ·unfold Ag
     dsimp only
     rw [I0];rfl
  unfold Dy
  rw [e];rfl
def CW (m:Map)(s:State)(A:List Agent)(i j:Int)(gi gj:Agent):List Int:=Gm (fun z (_:Zone)=>if Mq m s A i j gi gj z=true then some (z:Int)else none) 0 m.Zones
theorem aX {m:Map}(B:BearK m){s s':State}{A:List Agent}(hA:s'.Agents=A){i j:Int}{gi gj gi' gj':Agent}(T:Two m s A i j gi gj gi' gj'):Pz m s s' i j=some (CW m s A i j gi gj):=by
  have h2:=B.zones2
  have e:loop (Hg m s s' i j) ([],0)=some (CW m s A i j gi gj):=by
    refine GC m.Zones (fun z (_:Zone)=>if Mq m s A i j gi gj z=true then some (z:Int)else none) id (fun z zn l hz hb=> ?_) (fun l=> ?_)
    ·have ec:Mq m s A i j gi gj (z:Int)=((Hm m gi gi' (z:Int)&&Hm m gj gj' (z:Int))&& (Jt m gi.Route (z:Int) !=Jt m gj.Route (z:Int))):=by
       unfold Mq Od
       rw [T.hi,T.hj,T.hi',T.hj',T.ti,T.tj,bS,bS]
     have hno:Mq m s A i j gi gj (z:Int)=false→(if Mq m s A i j gi gj (z:Int)=true then some (z:Int)else none)=none:=fun h=>bR (by rw [h];simp)
     unfold Hg
     dsimp only
     rw [J6 (G9 hz),bO,hA,T.hi,lB,T.hj,lB,T.hi',lB,(Wj B T.ri z).2,lB,G7 (G9 hz) (by omega),T.hj']
     cases h1:Hm m gi gi' (z:Int)
     ·rw [hno (by rw [ec,h1];rfl)];rfl
     ·simp only [bW,bX,bO,bP,lB,bY,bS]
      rw [(Wj B T.rj z).2,lB]
      cases h3:Hm m gj gj' (z:Int)
      ·rw [hno (by rw [ec,h1,h3];rfl)];rfl
      ·have q1:=Pl B T.ri h1
       have q2:=Pl B T.rj h3
       obtain ⟨_,_,_,g1,_⟩:=Ve q1
       obtain ⟨_,_,_,g2,_⟩:=Ve q2
       have g1:=C3 g1
       have g2:=C3 g2
       rw [wG q1]at g1
       rw [wG q2]at g2
       rw [bW,bP,Va B.toBearM _ (by have:=T.ri;omega),lB,g1,lB,Va B.toBearM _ (by have:=T.rj;omega),lB,g2,lB]
       cases e:(Jt m gi.Route (z:Int) !=Jt m gj.Route (z:Int))
       ·rw [hno (by rw [ec,h1,h3,e];rfl)];rfl
       ·rw [bQ (show Mq m s A i j gi gj (z:Int)=true by rw [ec,h1,h3,e];rfl),bO,X3,bQ (by have:=G9 hz;simp;omega)];rfl
    ·unfold Hg
     dsimp only
     rw [I0];rfl
  unfold Pz
  rw [e];rfl
/-- The crashes of two agents. -/
def BR (m:Map)(s:State)(A:List Agent)(i j:Int):List Crash:=match C0 s.Agents i,C0 s.Agents j,C0 A i,C0 A j with
  |some gi,some gj,some gi',some gj'=>HN m s.Tick i j gi gj gi' gj'++LQ m s A i j gi gj
  |_,_,_,_=> []
theorem Two.pair {m:Map}{s:State}{A:List Agent}{i j:Int}{gi gj gi' gj':Agent}(T:Two m s A i j gi gj gi' gj'):BR m s A i j=HN m s.Tick i j gi gj gi' gj'++LQ m s A i j gi gj:=by
  unfold BR
  rw [T.hi,T.hj,T.hi',T.hj']
theorem WX {m:Map}{s:State}(O: ∀g∈s.Agents,∃a t,g.Route=a::t∧RouteOK m a t)(S:SizeS s){A:List Agent}(hA:A.length=s.Agents.length){i j:Int}(hi:U0 s i=true)(hj:U0 s j=true): ∃gi gj gi' gj',Two m s A i j gi gj gi' gj':=by
  obtain ⟨gi,a1,a2,a3,a4,_⟩:=Sz hi
  obtain ⟨gj,b1,b2,b3,b4,_⟩:=Sz hj
  obtain ⟨gi',c1,_⟩:=Rp (l:=A) a3 (by omega)
  obtain ⟨gj',d1,_⟩:=Rp (l:=A) b3 (by omega)
  have mi:=lG a2
  have mj:=lG b2
  exact ⟨gi,gj,gi',gj',a1,b1,c1,d1,hi,hj,S.routes gi mi,S.routes gj mj,O gi mi,O gj mj⟩
theorem OM {m:Map}(B:BearK m)(s:State)(A:List Agent)(i j:Int):(BR m s A i j).length≤3:=by
  have h2:=B.zones2
  unfold BR
  split
  ·rename_i gi gj gi' gj' _ _ _ _
   have h1:=OL m s.Tick i j gi gj gi' gj'
   have h3:=aW m s A i j gi gj
   rw [lM];omega
  ·simp
/-! ### All pairs -/
def Wl (s:State)(i:Nat):Nat→Nat→List (Int×Int)
  |0,_=> []
  |k+1,j=>cond (U0 s i&&U0 s j) (((i:Int),(j:Int))::Wl s i k (j+1)) (Wl s i k (j+1))
def Ng (s:State)(n:Nat):Nat→Nat→List (Int×Int)
  |0,_=> []
  |k+1,i=>Wl s i (n - (i+1)) (i+1)++Ng s n k (i+1)
theorem ON (s:State)(i:Nat): ∀k j,Yv s i k j=some (Wl s i k j)
  |0,_=>rfl
  |k+1,j=>by rw [Yv,(Qd s i).1,lB,(Qd s j).1,lB,ON s i k (j+1)];rfl
theorem OO (s:State)(n:Nat): ∀k i,CJ s n k i=some (Ng s n k i)
  |0,_=>rfl
  |k+1,i=>by rw [CJ,ON,lB,OO s n k (i+1)];rfl
theorem aY {s:State}(S:SizeS s):FT s=some (Ng s s.Agents.length s.Agents.length 0):=by
  have:=S.agents
  unfold FT
  rw [bQ (by omega),OO]
theorem LS {s:State}{i:Nat}{p:Int×Int}: ∀{k j},p∈Wl s i k j→p.1=i∧U0 s i=true∧U0 s p.2=true∧∃j':Nat,p.2=j'∧j≤j'∧j'<j+k
  |0,_,h=>by simp [Wl]at h
  |k+1,j,h=>by
   rw [Wl]at h
   cases hc:(U0 s i&&U0 s j)
   ·rw [hc,bP]at h
    obtain ⟨h1,h2,h3,j',h4,h5,h6⟩:=LS h
    exact ⟨h1,h2,h3,j',h4,by omega,by omega⟩
   ·rw [hc,bO]at h
    rw [bU]at hc
    rcases lU.1 h with rfl|h
    ·exact ⟨rfl,hc.1,hc.2,j,rfl,by omega,by omega⟩
    ·obtain ⟨h1,h2,h3,j',h4,h5,h6⟩:=LS h
     exact ⟨h1,h2,h3,j',h4,by omega,by omega⟩
theorem GM {s:State}{n:Nat}{p:Int×Int}: ∀{k i},p∈Ng s n k i→∃a b:Nat,p=((a:Int),(b:Int))∧i≤a∧a<b∧b<n∧U0 s a=true∧U0 s b=true
  |0,_,h=>by simp [Ng]at h
  |k+1,i,h=>by
   rw [Ng]at h
   rcases lT.1 h with h|h
   ·obtain ⟨h1,h2,h3,j',h4,h5,h6⟩:=LS h
    obtain ⟨x,y⟩:=p
    dsimp only at h1 h3 h4
    subst h1 h4
    exact ⟨i,j',rfl,by omega,by omega,by omega,h2,h3⟩
   ·obtain ⟨a,b,h1,h2,h3⟩:=GM h
    exact ⟨a,b,h1,by omega,h3⟩
theorem TT (s:State)(i:Nat): ∀k j,(Wl s i k j).length≤k
  |0,_=>by simp [Wl]
  |k+1,j=>by
   have:=TT s i k (j+1)
   rw [Wl]
   cases U0 s i&&U0 s j
   ·rw [bP];omega
   ·rw [bO,lL];omega
theorem GN (s:State)(n:Nat): ∀k i,(Ng s n k i).length≤k*n
  |0,_=>by simp [Ng]
  |k+1,i=>by
   have h1:=TT s i (n - (i+1)) (i+1)
   have h2:=GN s n k (i+1)
   rw [Ng,lM,wJ,Nat.one_mul];omega
/-- All crashes of a tick. -/
def Oe (m:Map)(s:State)(A:List Agent):List Crash:=(Ng s s.Agents.length s.Agents.length 0).flatMap fun p=>BR m s A p.1 p.2
theorem qB {m:Map}(B:BearK m){s v2:State}(S:SizeS s){acts:List Int}{A:List Agent}(hl:A.length=s.Agents.length){x4:List Crash}(hx:x4.length≤1000000){i j:Int}{gi gj gi' gj':Agent}(T:Two m s A i j gi gj gi' gj'):
    Br m s acts v2 A (Ak m s A) x4 (i,j)=some (.go (x4++BR m s A i j)):=by
  have h1:=OL m s.Tick i j gi gj gi' gj'
  unfold Br
  rw [qA B.toBearM hx T,lB,oN B S hl (by rw [lM];omega) T,lB,T.pair,lO]
theorem BS {m:Map}(B:BearK m){s v2:State}(S:SizeS s)(O: ∀g∈s.Agents,∃a t,g.Route=a::t∧RouteOK m a t){acts:List Int}{A:List Agent}(hl:A.length=s.Agents.length): ∀(L:List (Int×Int)) (x:List Crash),(∀p∈L,U0 s p.1=true∧U0 s p.2=true)→x.length+3*L.length≤1000003→
    loopL (Br m s acts v2 A (Ak m s A)) (fun x4=>x4) L x=some (x++L.flatMap fun p=>BR m s A p.1 p.2)
  | [],x,_,_=>by simp [loopL]
  |p::L,x,h,hx=>by
   obtain ⟨i,j⟩:=p
   have hp:=h (i,j) (by simp)
   obtain ⟨gi,gj,gi',gj',T⟩:=WX O S hl hp.1 hp.2
   rw [lL]at hx
   have h3:=OM B s A i j
   rw [loopL,qB B S hl (by omega) T]
   dsimp only
   rw [BS B S O hl L _ (fun q hq=>h q (by simp [hq])) (by rw [lM];omega),bF,lO]
theorem qC {m:Map}(B:BearK m){s v2:State}(S:SizeS s)(hn:s.Agents.length≤500)(O: ∀g∈s.Agents,∃a t,g.Route=a::t∧RouteOK m a t){acts:List Int}{A:List Agent}(hl:A.length=s.Agents.length):Gb m s acts v2 A (Ak m s A)=some (Oe m s A):=by
  have h1:=GN s s.Agents.length s.Agents.length 0
  have h2:s.Agents.length*s.Agents.length≤500*500:=wM hn hn
  unfold Gb Uc
  rw [lB,aY S,lB,BS B S O hl _ _ (fun p hp=>by
   obtain ⟨a,b,rfl,_,_,_,h3,h4⟩:=GM hp
   exact ⟨h3,h4⟩) (by rw [lN];omega),lB,lQ];rfl
/-- A tick. -/
def Qu (m:Map)(s:State)(acts:List Int):State×List Crash×Int:=
  if Qn m s≠0 then (⟨0,[],[]⟩,[],Qn m s)
  else if s.Tick=1099511627776 then (⟨0,[],[]⟩,[],2)
  else (⟨s.Tick+1,Cd m s acts,Ak m s (Cd m s acts)⟩,Oe m s (Cd m s acts),0)
theorem gQ {m:Map}(K:KitM m){s:State}(S:SizeS s)(w: ∀g∈s.Agents,g.S≤9223372036854775807)(acts:List Int):Il m s acts=some (Qu m s acts):=by
  have c1:=(LK K.toBearM S w).1
  unfold Il Qu
  rw [c1,lB]
  by_cases q:Qn m s=0
  case neg=>
    rw [bQ q,show (Qn m s !=0)=true by simpa using q];rfl
  rw [bR (by simp [q]),show (Qn m s !=0)=false by simp [q],bP]
  have O:=(Nd K).1 q
  have t1:=O.tick
  by_cases t:s.Tick=1099511627776
  ·rw [bQ t,bJ (by omega)];rfl
  rw [bR t,bK (by omega),bP]
  have hn:s.Agents.length≤500:=by have:=O.num;omega
  have OR: ∀g∈s.Agents,∃a t,g.Route=a::t∧RouteOK m a t:=fun g hg=>by
    obtain ⟨i,hi⟩:=bG hg
    exact (O.agent i g hi).route
  have hs:=aQ O.sorted
  have e1:Fz s=some s:=kT S
  have tk:D6 (s.Tick+1)=s.Tick+1:=F5 (by omega)
  rw [e1,lB,WS K S w acts rfl,lB,WT K S hs acts (Nf m s acts),lB,qC K.toBearK S hn OR (Nf m s acts),tk];rfl
theorem gR (m:Map)(s:State)(A:List Agent)(i j:Int): ∀c∈BR m s A i j,c.Who.length≤2:=by
  intro c hc
  unfold BR at hc
  split at hc
  ·rename_i gi gj gi' gj' _ _ _ _
   rcases lT.1 hc with h|h
   ·unfold HN at h
    rw [Option.mem_toList]at h
    have: ∀(l:List Lane) (k:Nat),∀c,H9 (fun k (_:Lane)=>Qo m s.Tick i j gi gj gi' gj' (k:Int)) k l=some c→c.Who.length≤2:=by
      intro l
      induction l with
      |nil=>intro k c h;cases h
      |cons a r ih=>
       intro k c h
       rw [H9]at h
       split at h
       ·rename_i e he
        cases h
        unfold Qo at he
        split at he
        ·split at he
         ·split at he
          ·cases he;simp
          ·cases he
         ·split at he
          ·cases he;simp
          ·cases he
        ·cases he
       ·exact ih (k+1) c h
    exact this _ _ _ h
   ·unfold LQ at h
    obtain ⟨z,zn,_,h⟩:=(Cm _ _).1 h
    unfold LP at h
    split at h
    ·cases h
     unfold QK
     dsimp only
     split
     ·simp
     ·split<;>simp
    ·cases h
  ·cases hc
theorem OP {m:Map}(K:KitM m){s:State}(S:SizeS s)(acts:List Int):SizeS (Qu m s acts).1∧(Qu m s acts).2.1.length≤1000000∧∀c∈(Qu m s acts).2.1,c.Who.length≤1000000:=by
  have h0:SizeS ⟨0,[],[]⟩:=⟨by simp,by simp,by simp⟩
  unfold Qu
  split
  ·exact ⟨h0,by simp,by simp⟩
  rename_i q
  split
  ·exact ⟨h0,by simp,by simp⟩
  have O:=(Nd K).1 (Decidable.byContradiction q)
  have hn:=O.num
  have hz:=K.zones2
  have h1:=AD m s (Cd m s acts)
  have h2:s.Agents.length*m.Zones.length≤8*2:=wM hn.2 hz
  have h3:=GN s s.Agents.length s.Agents.length 0
  have h4:s.Agents.length*s.Agents.length≤8*8:=wM hn.2 hn.2
  refine ⟨⟨by rw [Nf];omega,by dsimp only;omega,fun a ha=> ?_⟩,?_,fun c hc=> ?_⟩
  ·dsimp only at ha
   obtain ⟨i,hi⟩:=bG ha
   have hil:i<s.Agents.length:=by have:=G9 hi;rw [Nf]at this;exact this
   have hg:s.Agents[i]? =some s.Agents[i]:=lH hil
   have:=OK (m:=m) (acts:=acts) hg
   rw [C3 hi]at this
   rw [lD this]
   unfold BN
   rw [C3 hg]
   have:=S.routes _ (lG hg)
   dsimp only
   split
   ·exact this
   ·exact this
  ·have: ∀l:List (Int×Int),(l.flatMap fun p=>BR m s (Cd m s acts) p.1 p.2).length≤3*l.length:=by
     intro l
     induction l with
     |nil=>simp
     |cons p l ih=>have:=OM K.toBearK s (Cd m s acts) p.1 p.2;rw [bF,lM,lL];omega
   have:=this (Ng s s.Agents.length s.Agents.length 0)
   show (Oe m s (Cd m s acts)).length≤_
   unfold Oe
   omega
  ·obtain ⟨p,_,h⟩:=List.mem_flatMap.1 hc
   have:=gR m s _ _ _ c h
   omega
def Zj (m:Map)(g:Agent)(i:Nat)(st:Int):Option Span:=
  if max 0 (D6 (D6 (g.S - g.Len) - st))≤min (D6 (g.S - st)) (De m (g.Route.getD i 0))then some ⟨g.Route.getD i 0,max 0 (D6 (D6 (g.S - g.Len) - st)),min (D6 (g.S - st)) (De m (g.Route.getD i 0))⟩else none
/-- The spans of lanes that an agent covers. -/
def En (m:Map)(g:Agent):List Span:=if BO g=true then Gm (Zj m g) 0 (StartsM m g.Route)else []
theorem CX {m:Map}(r:List Int):(StartsM m r).length≤r.length:=by
  unfold StartsM Av
  split
  ·dsimp only;rw [Km];exact wH _
  ·simp
theorem YJ {m:Map}(B:BearM m){g:Agent}(hr:g.Route.length≤1000):Ik m g=some (En m g)∧Pa m g=some (En m g):=by
  have s1:Mj g=some (BO g):=rfl
  have s2:Mm g=some (BO g):=rfl
  have hsl:=CX (m:=m) g.Route
  have hrt: ∀(i:Nat) st,(StartsM m g.Route)[i]? =some st→C0 g.Route (i:Int)=some (g.Route.getD i 0):=fun i st h=>by
    have:=G9 h
    apply C3
    rw [List.getD,lH (by omega)];rfl
  have e1:loop (Bq m g (StartsM m g.Route)) ([],0)=some (Gm (Zj m g) 0 (StartsM m g.Route)):=by
    refine GC (StartsM m g.Route) (Zj m g) id (fun i st l h hl=> ?_) (fun l=> ?_)
    ·have hi:=G9 h
     unfold Bq Zj
     dsimp only
     rw [J6 hi,bO,C3 h,lB,hrt i st h,G7 hi (by omega)]
     simp only [lB,Z9,Y3,Gy,Dp,Je B,Lx,Cx]
     rw [Int.max_comm 0]
     by_cases q:max (D6 (D6 (g.S - g.Len) - st)) 0≤min (D6 (g.S - st)) (De m (g.Route.getD i 0))
     ·rw [bQ q,bK (by omega),bX,bO,X3,bQ (by simp;omega)];rfl
     ·rw [bR q,bJ (by omega)];rfl
    ·unfold Bq
     dsimp only
     rw [I0];rfl
  have e2:loop (Jl m g (StartsM m g.Route)) ([],0)=some (Gm (Zj m g) 0 (StartsM m g.Route)):=by
    refine GC (StartsM m g.Route) (Zj m g) id (fun i st l h hl=> ?_) (fun l=> ?_)
    ·have hi:=G9 h
     unfold Jl Zj
     dsimp only
     rw [J6 hi,bO,C3 h,lB,lB,hrt i st h,G7 hi (by omega)]
     simp only [lB,Qm B,Lx,Cx]
     by_cases q:max 0 (D6 (D6 (g.S - g.Len) - st))≤min (D6 (g.S - st)) (De m (g.Route.getD i 0))
     ·rw [bQ q,bJ q,bO,X3,bQ (by simp;omega)];rfl
     ·rw [bR q,bK q];rfl
    ·unfold Jl
     dsimp only
     rw [I0];rfl
  unfold Ik Pa En
  rw [s1,s2,lB,lB]
  cases hs:BO g
  ·exact ⟨rfl,rfl⟩
  ·simp only [bW,bP,if_true]
   rw [GG B _ (by omega),Sw B _ (by omega),lB,lB,e1,e2]
   exact ⟨rfl,rfl⟩
theorem TU (m:Map)(g:Agent):(En m g).length≤g.Route.length:=by
  unfold En
  split
  ·exact wL (Uw _ _ _) (CX _)
  ·simp
theorem YK {m:Map}{g:Agent}{x:Span}(h:x∈En m g):x.From≤x.To:=by
  unfold En at h
  split at h
  ·obtain ⟨i,st,_,h⟩:=(Cm _ _).1 h
   unfold Zj at h
   split at h
   ·cases h;assumption
   ·cases h
  ·cases h
def Vf (x y:Span):Bool:=((x.Lane_==y.Lane_)&&decide (x.From≤y.To))&&decide (y.From≤x.To)
def Zk (m:Map)(g g':Agent):Bool:=(En m g).any fun x=>(En m g').any fun y=>Vf x y
theorem TV {m:Map}(B:BearM m){g g':Agent}(hr:g.Route.length≤1000)(hr':g'.Route.length≤1000):Ca m g g'=some (Zk m g g')∧Kk m g g'=some (Zk m g g'):=by
  obtain ⟨b1,b2⟩:=YJ B hr
  obtain ⟨c1,c2⟩:=YJ B hr'
  have l1:=TU m g
  have l2:=TU m g'
  constructor
  ·have inner: ∀x∈En m g,F6 (En m g') x=some ((En m g').any fun y=>Vf x y):=by
     intro x hx
     unfold F6 I3
     refine Oc _ (fun y=>Vf x y) _ (by omega) (fun i y hy=> ?_) (by unfold K8;rw [I0];rfl)
     have o1:=YK hx
     have o2:=YK (lG hy)
     unfold K8 Fh
     rw [J6 (G9 hy),bO,C3 hy,lB]
     simp only [Gy,Dp,Lx,Cx]
     unfold Vf
     by_cases e:x.Lane_=y.Lane_
     ·rw [e]
      simp only [beq_self_eq_true,bO,lB,bS]
      by_cases q:x.From≤y.To∧y.From≤x.To
      ·rw [bJ q.1,bJ q.2,bK (by omega)];rfl
      ·rw [show (decide (x.From≤y.To)&&decide (y.From≤x.To))=false by rw [bZ];simpa using q,bJ (by omega)];rfl
     ·rw [show (x.Lane_==y.Lane_)=false by simpa using e];rfl
   have outer:G4 (En m g) (En m g')=some (Zk m g g'):=by
     unfold G4 J1 Zk
     refine Oc _ (fun x=>(En m g').any fun y=>Vf x y) _ (by omega) (fun i x hx=> ?_) (by unfold G3;rw [I0];rfl)
     unfold G3 Y5
     rw [J6 (G9 hx),bO,C3 hx,lB,inner x (lG hx)]
     simp only [lB]
     cases (En m g').any fun y=>Vf x y<;>rfl
   unfold Ca
   rw [c1,lB,b1,lB,outer];rfl
  ·have inner: ∀(i:Nat) x,(En m g)[i]? =some x→loop (Ci (En m g) (En m g') (i:Int)) 0=some (if (En m g').any (fun y=>Vf x y)then .inr true else .inl ()):=by
     intro i x hx
     refine HC (En m g') (fun y=>Vf x y) true (fun j y hy=> ?_) (by unfold Ci;rw [I0];rfl)
     unfold Ci Vf
     rw [J6 (G9 hy),bO,C3 hx,lB,C3 hy,lB,G7 (G9 hy) (by omega)]
     cases e:(x.Lane_==y.Lane_)
     ·rfl
     ·simp only [bO,lB,bS]
      cases e2:decide (x.From≤y.To)
      ·rfl
      ·simp only [bO,lB,bS]
       cases decide (y.From≤x.To)<;>rfl
   have outer:loop (Cj (En m g) (En m g')) 0=some (if (En m g).any (fun x=>(En m g').any fun y=>Vf x y)then .inr true else .inl ()):=by
     refine HC (En m g) (fun x=>(En m g').any fun y=>Vf x y) true (fun i x hx=> ?_) (by unfold Cj;rw [I0];rfl)
     unfold Cj
     rw [J6 (G9 hx),bO,inner i x hx,G7 (G9 hx) (by omega)]
     cases (En m g').any fun y=>Vf x y<;>rfl
   unfold Kk Zk
   rw [b2,lB,c2,lB,outer]
   cases (En m g).any fun x=>(En m g').any fun y=>Vf x y<;>rfl
/-- Two agents that may not begin together. -/
def FD (m:Map)(s:State)(A:List Agent)(i j:Int):Bool:=match C0 s.Agents i,C0 s.Agents j with
  |some gi,some gj=>Zk m gi gj||decide (0< (CW m s A i j gi gj).length)
  |_,_=>false
abbrev Mf:State:=⟨0,[],[]⟩
theorem WY {m:Map}(K:KitM m){A:List Agent}(S:SizeS ⟨0,A,[]⟩):loop (Iq m A) (0,(⟨0,A,[]⟩:State))=some ⟨0,A,Ak m ⟨0,A,[]⟩ A⟩:=by
  have hl:A.length≤1000:=S.agents
  have hz:=K.zones2
  refine gP (fun i l=>((i:Int),(⟨0,A,l⟩:State))) A (Ta m ⟨0,A,[]⟩ A) (fun l=>(⟨0,A,l⟩:State)) [] 2 1000000 rfl (by simp;omega) (fun i a _=>wL (CV _ _ _ _ _) hz) (fun i g l h hb=> ?_) (fun l=> ?_)
  ·have hg:C0 A (i:Int)=some g:=C3 h
   have hr:g.Route.length≤1000:=S.routes g (lG h)
   have e:loop (Ip m A ((i:Int),(⟨0,A,l⟩:State))) (0,(⟨0,A,l⟩:State))=some ⟨0,A,l++Ta m ⟨0,A,[]⟩ A i g⟩:=by
     have th: ∀l',U0 ⟨0,A,l'⟩ (i:Int)=U0 ⟨0,A,[]⟩ (i:Int):=fun _=>rfl
     cases ht:U0 ⟨0,A,[]⟩ (i:Int)
     ·rw [C6 (t:=(⟨0,A,l⟩:State)),WU ht,lP]
      unfold Ip
      dsimp only
      rw [(Qd _ _).2,th,ht]
      cases decide ((0:Int)< (m.Zones.length:Int))<;>rfl
     ·refine WP (fun z l=>((z:Int),(⟨0,A,l⟩:State))) m.Zones (BP m ⟨0,A,[]⟩ A i) (fun l=>(⟨0,A,l⟩:State)) l 1000000 rfl (by omega) (fun z zn l' hz' hb'=> ?_) (fun l'=> ?_)
      ·unfold Ip BP
       dsimp only
       rw [J6 (G9 hz'),bO,(Qd _ _).2,lB,th,ht,bS,bO,hg,lB,lB,(Wj K.toBearK hr z).2,lB,G7 (G9 hz') (by omega)]
       have e:Od m ⟨0,A,[]⟩ A i z=Hm m g g z:=by
         unfold Od;rw [ht,bS];dsimp only;rw [hg]
       rw [e]
       cases hh:Hm m g g z
       ·rfl
       ·have es:Ts m ⟨0,A,[]⟩ (i:Int) (z:Int)=⟨(i:Int),(z:Int),0,HL m g.Route z 0⟩:=by
          unfold Ts
          simp only [List.find?_nil,hg]
        rw [bO,lB,(YH K hr z 0).2,lB,X3,bQ (by simp;omega),bQ rfl,es];rfl
      ·unfold Ip
       dsimp only
       rw [I0];rfl
   unfold Iq
   dsimp only
   rw [J6 (G9 h),bO,e,lB,G7 (G9 h) (by omega)]
  ·unfold Iq
   dsimp only
   rw [I0];rfl
theorem WZ {m:Map}(B:BearK m){s:State}(S:SizeS s)(O: ∀g∈s.Agents,∃a t,g.Route=a::t∧RouteOK m a t)(i:Nat): ∀(k j:Nat),j+k=s.Agents.length→
    loop (Io m s.Agents ((i:Int),s)) (j:Int)=some (if (Wl s i k j).any (fun p=>FD m s s.Agents p.1 p.2)=true then .inr (Mf,12)else .inl ())
  |0,j,hj=>by
   obtain rfl:j=s.Agents.length:=by omega
   rw [C6 (t:= .inl ()) (by unfold Io;rw [I0];rfl)];rfl
  |k+1,j,hj=>by
   have hjl:j<s.Agents.length:=by omega
   have hn:=S.agents
   have key:Io m s.Agents ((i:Int),s) (j:Int)=some (if (U0 s i&&U0 s j)&&FD m s s.Agents i j=true then .out (.inr (Mf,12))else .go ((j+1:Nat):Int)):=by
     unfold Io
     dsimp only
     rw [J6 hjl,bO,(Qd s i).2,lB,G7 hjl (by omega)]
     cases h1:U0 s i
     ·rfl
     ·simp only [bW,bX,bO,bY,bS]
      rw [(Qd s j).2,lB]
      cases h2:U0 s j
      ·rfl
      ·obtain ⟨gi,gj,gi',gj',T⟩:=WX O S rfl h1 h2
       have hbad:FD m s s.Agents i j=(Zk m gi gj||decide (0< (CW m s s.Agents i j gi gj).length)):=by unfold FD;rw [T.hi,T.hj]
       rw [bW,bP,T.hi,T.hj,lB,lB,(TV B.toBearM T.ri T.rj).2,lB,hbad]
       cases Zk m gi gj
       ·rw [bX,bO,aX B rfl T,lB]
        by_cases q:0< (CW m s s.Agents i j gi gj).length
        ·rw [bJ (show ((CW m s s.Agents i j gi gj).length:Int)>0 by omega),bJ q];rfl
        ·rw [bK (show ¬((CW m s s.Agents i j gi gj).length:Int)>0 by omega),bK q];rfl
       ·rfl
   rw [Wl]
   cases h1:(U0 s i&&U0 s j)
   ·rw [h1]at key
    rw [J2 (s':=((j+1:Nat):Int)) (by rw [key];rfl),bP]
    exact WZ B S O i k (j+1) (by omega)
   ·rw [h1]at key
    rw [bO,bH]
    cases h2:FD m s s.Agents i j
    ·rw [h2]at key
     rw [J2 (s':=((j+1:Nat):Int)) (by rw [key];rfl),bY]
     exact WZ B S O i k (j+1) (by omega)
    ·rw [h2]at key
     rw [C6 (t:= .inr (Mf,12)) (by rw [key];rfl)];rfl
theorem gS {m:Map}(B:BearK m){s:State}(S:SizeS s)(O: ∀g∈s.Agents,∃a t,g.Route=a::t∧RouteOK m a t): ∀(k i:Nat),i+k=s.Agents.length→
    loop (Fp m s.Agents) ((i:Int),s)=some (if (Ng s s.Agents.length k i).any (fun p=>FD m s s.Agents p.1 p.2)=true then .inr (Mf,12)else .inl s)
  |0,i,hi=>by
   obtain rfl:i=s.Agents.length:=by omega
   rw [C6 (t:= .inl s) (by unfold Fp;dsimp only;rw [I0];rfl)];rfl
  |k+1,i,hi=>by
   have hil:i<s.Agents.length:=by omega
   have hn:=S.agents
   have key:Fp m s.Agents ((i:Int),s)=some (if (Wl s i (s.Agents.length - (i+1)) (i+1)).any (fun p=>FD m s s.Agents p.1 p.2)=true then .out (.inr (Mf,12))else .go (((i+1:Nat):Int),s)):=by
     unfold Fp
     dsimp only
     rw [J6 hil,bO,G7 hil (by omega),WZ B S O i (s.Agents.length - (i+1)) (i+1) (by omega)]
     cases (Wl s i (s.Agents.length - (i+1)) (i+1)).any (fun p=>FD m s s.Agents p.1 p.2)<;>rfl
   rw [Ng,List.any_append]
   cases h:(Wl s i (s.Agents.length - (i+1)) (i+1)).any (fun p=>FD m s s.Agents p.1 p.2)
   ·rw [h]at key
    rw [J2 (s':=(((i+1:Nat):Int),s)) (by rw [key];rfl),bY]
    exact gS B S O k (i+1) (by omega)
   ·rw [h]at key
    rw [C6 (t:= .inr (Mf,12)) (by rw [key];rfl)];rfl
theorem YL (A:List Agent)(l:List Stay)(i:Nat): ∀k j,Wl ⟨0,A,l⟩ i k j=Wl ⟨0,A,[]⟩ i k j
  |0,_=>rfl
  |k+1,j=>by rw [Wl,Wl,YL A l i k (j+1)];rfl
theorem TW (A:List Agent)(l:List Stay)(n:Nat): ∀k i,Ng ⟨0,A,l⟩ n k i=Ng ⟨0,A,[]⟩ n k i
  |0,_=>rfl
  |k+1,i=>by rw [Ng,Ng,YL,TW A l n k (i+1)]
/-- The first state. -/
def Pf (m:Map)(A:List Agent):State×Int:=
  if Qn m ⟨0,A,[]⟩≠0 then (Mf,Qn m ⟨0,A,[]⟩)
  else if A.any (fun g=>g.Gone)=true then (Mf,10)
  else if (Ng ⟨0,A,[]⟩ A.length A.length 0).any (fun p=>FD m ⟨0,A,[]⟩ A p.1 p.2)=true then (Mf,12)
  else (⟨0,A,Ak m ⟨0,A,[]⟩ A⟩,0)
theorem QL {m:Map}(K:KitM m){A:List Agent}(S:SizeS ⟨0,A,[]⟩)(w: ∀g∈A,g.S≤9223372036854775807):Pb m A=some (Pf m A):=by
  have c2:=(LK K.toBearM S w).2
  have hl:A.length≤1000:=S.agents
  have e2:Pj ⟨0,A,[]⟩=some ⟨0,A,[]⟩:=gL S
  unfold Pb Pf
  rw [e2,lB,c2,lB]
  by_cases q:Qn m ⟨0,A,[]⟩=0
  case neg=>
    rw [bQ q,show (Qn m ⟨0,A,[]⟩ !=0)=true by simpa using q];rfl
  rw [bR (by simp [q]),show (Qn m ⟨0,A,[]⟩ !=0)=false by simp [q],bP]
  have O:=(Nd K).1 q
  have OR: ∀g∈A,∃a t,g.Route=a::t∧RouteOK m a t:=fun g hg=>by
    obtain ⟨i,hi⟩:=bG hg
    exact (O.agent i g hi).route
  have g2:loop (Kz A) 0=some (if A.any (fun g=>g.Gone)then .inr (Mf,10)else .inl ()):=by
    refine HC A (fun g=>g.Gone) (Mf,10) (fun i x hx=> ?_) (by unfold Kz;rw [I0];rfl)
    unfold Kz
    rw [J6 (G9 hx),bO,C3 hx,lB,G7 (G9 hx) (by omega)]
    cases x.Gone<;>rfl
  rw [g2]
  cases hG:A.any (fun g=>g.Gone)
  case true=>rfl
  have S':SizeS ⟨0,A,Ak m ⟨0,A,[]⟩ A⟩:=by
    have h1:=AD m ⟨0,A,[]⟩ A
    have h2:A.length*m.Zones.length≤1000*2:=wM hl K.zones2
    exact ⟨hl,by dsimp only at h1 ⊢;omega,S.routes⟩
  have h4:loop (Fp m A) (0,⟨0,A,Ak m ⟨0,A,[]⟩ A⟩)=_:=gS (s:=⟨0,A,Ak m ⟨0,A,[]⟩ A⟩) K.toBearK S' OR A.length 0 (by dsimp only;omega)
  dsimp only at h4
  rw [TW]at h4
  have e5:(fun p:Int×Int=>FD m ⟨0,A,Ak m ⟨0,A,[]⟩ A⟩ A p.1 p.2)=fun p=>FD m ⟨0,A,[]⟩ A p.1 p.2:=rfl
  rw [e5]at h4
  rw [bR (by simp)]
  show (loop (Iq m A) (0,⟨0,A,[]⟩)).bind _=_
  rw [WY K S,lB,h4]
  cases (Ng ⟨0,A,[]⟩ A.length A.length 0).any (fun p=>FD m ⟨0,A,[]⟩ A p.1 p.2)<;>rfl
theorem gT {m:Map}(K:KitM m){A:List Agent}(S:SizeS ⟨0,A,[]⟩):SizeS (Pf m A).1:=by
  have h0:SizeS Mf:=⟨by simp,by simp,by simp⟩
  unfold Pf
  split
  ·exact h0
  split
  ·exact h0
  split
  ·exact h0
  have hl:A.length≤1000:=S.agents
  have h1:=AD m ⟨0,A,[]⟩ A
  have h2:A.length*m.Zones.length≤1000*2:=wM hl K.zones2
  exact ⟨hl,by dsimp only at h1 ⊢;omega,S.routes⟩
theorem aZ {m:Map}(V:ValR m){a b:Int}(ha:0≤a)(hb:b∈nextOf m a.toNat):Df m b=Df m a:=by
  unfold nextOf at hb
  cases h:m.Lanes[a.toNat]? with
  |none=>rw [h]at hb;cases hb
  |some l=>
   rw [h]at hb
   have hb:b∈l.Next:=hb
   have h1:=(firstE_none.1 V.nextE) a.toNat l h
   rw [wK]at h1
   unfold nextE at h1
   obtain ⟨j,hj⟩:=bG hb
   have h2:=(firstE_none.1 h1) j b hj
   have hk:=V.next h hb
   have hn:m.Lanes[b.toNat]? =some m.Lanes[b.toNat]:=lH (by omega)
   unfold Ze at h2
   rw [hn]at h2
   dsimp only at h2
   split at h2
   ·cases h2
   ·rename_i q
    unfold Df
    rw [hn,h]
    exact Decidable.not_not.1 q
theorem LU {m:Map}(V:ValR m): ∀(t:List Int) (a:Int),0≤a→Ll m a t=true→∀x∈a::t,Df m x=Df m a
  | [],a,_,_,x,hx=>by simp at hx;rw [hx]
  |b::t,a,ha,h,x,hx=>by
   rw [Ll,bU]at h
   have hb:b∈nextOf m a.toNat:=by simpa using h.1
   have hk:=V.nextOf hb
   rcases lU.1 hx with rfl|hx
   ·rfl
   ·rw [LU V t b (by omega) h.2 x hx,aZ V ha hb]
/-- Where an agent is does not matter to how fast it may go. -/
theorem GO {m:Map}{a:Int}{t:List Int}(R:RouteOK m a t){g:Agent}(hg:g.Route=a::t)(h0:0≤g.S):Xj m g=V9 (Df m a):=by
  obtain ⟨x,h1,h2,h3,_⟩:=GH R hg h0
  unfold Xj
  rw [h3]
  dsimp only
  rw [LU R.val t a R.first.1 R.chain x (lG h2)]
theorem gU {m:Map}(g:Agent)(tick act:Int):0≤Lj m g tick act∧Lj m g tick act≤(Xj m g).1:=by
  have hs: ∀x,0≤Ee g (Xj m g).1 x∧Ee g (Xj m g).1 x≤(Xj m g).1:=fun x=>by
    have:=AB (Df m (Em m g).1)
    unfold Ee Xj
    omega
  unfold Lj
  dsimp only
  split
  ·exact hs _
  ·exact hs _
theorem gV {m:Map}(K:KitM m){s:State}(O:StateOK m s)(i:Nat){g:Agent}(hg:s.Agents[i]? =some g)(act:Int)(s':State)(ht:s'.Tick=s.Tick+1):AgentOK m s' (i:Int) (BN m s i act):=by
  have A:=O.agent i g hg
  have hc:Qn m s=0:=(Nd K).2 O
  unfold BN
  rw [C3 hg]
  dsimp only
  by_cases th:U0 s (i:Int)=true
  ·rw [bQ ⟨th,hc⟩]
   obtain ⟨g1,h1,_,_,_,h5,h6⟩:=Sz th
   rw [C3 hg]at h1
   obtain rfl:=lD h1
   obtain ⟨a,t,hR,R⟩:=A.route
   have hv:=gU (m:=m) g s.Tick act
   have ht2:=AB (Df m (Em m g).1)
   have ht3:(Xj m g).1≤2000:=ht2.2.1
   have hL:=Qc R
   rw [← hR]at hL
   have hgone:D6 (g.S - g.Len)≤LongM m g.Route:=by
     have:=A.gone
     rw [h5]at this
     unfold Vd at this
     exact Int.not_lt.1 (of_decide_eq_false this.symm)
   have hS:=A.S
   have hl:=A.len
   rw [F5 (by omega)]at hgone
   have hw:D6 (g.S+Lj m g s.Tick act)=g.S+Lj m g s.Tick act:=F5 (by omega)
   have e1:=GO R hR hS.1
   have e2:Xj m (HK m g s.Tick act)=V9 (Df m a):=GO R hR (by show 0≤D6 _;rw [hw];omega)
   refine ⟨⟨a,t,hR,R⟩,A.len,A.begin,?_,?_,rfl,?_,A.first⟩
   ·show 0≤D6 _∧D6 _≤_
    rw [hw]
    show _∧g.S+Lj m g s.Tick act≤LongM m g.Route+g.Len+2000
    omega
   ·rw [e2,← e1];exact hv
   ·rintro ⟨q,_⟩
    have:g.Begin>s'.Tick:=q
    omega
  ·rw [bR fun h=>th h.1]
   refine ⟨A.route,A.len,A.begin,A.S,A.V,A.gone,?_,A.first⟩
   rintro ⟨q,q2⟩
   exact A.late ⟨by omega,q2⟩
theorem mB {m:Map}(V:ValR m)(r:List Int)(z tick:Int):0≤HL m r z tick∧HL m r z tick≤100:=by
  unfold HL
  split
  ·cases hz:m.Zones[z.toNat]? with
   |none=>simp
   |some zn=>
    dsimp only
    split
    ·split<;>simp
    ·have Z:=V.zoneOK (lG hz)
     unfold Jr
     cases hf:zn.Parts.find? (fun p=>p.Lane_==Jt m r z)with
     |none=>simp
     |some p=>have:=Z.part p (l7 hf);dsimp only;omega
  ·simp
theorem oO {m:Map}(K:KitM m){s:State}(O:StateOK m s)(i z:Int):0≤(Ts m s i z).Since∧(Ts m s i z).Since≤s.Tick∧0≤(Ts m s i z).Rank∧(Ts m s i z).Rank≤100:=by
  unfold Ts
  cases hf:s.In.find? (Wk i z)with
  |some x=>
   have:=O.rank x (l7 hf)
   unfold Te at this
   simp only [wA,wC]at this
   dsimp only
   omega
  |none=>
   have:=O.tick
   dsimp only
   cases C0 s.Agents i with
   |none=>dsimp only;omega
   |some g=>have:=mB K.val g.Route z s.Tick;dsimp only;omega
theorem gX {m:Map}(K:KitM m){s s':State}(O:StateOK m s)(A:List Agent)(hn:s'.Agents.length=s.Agents.length)(ht:s.Tick≤s'.Tick)(hI:s'.In=Ak m s A):
    (∀(i:Nat) x,s'.In[i]? =some x→Xd m s' x=false)∧(∀(i:Nat) x y,s'.In[i]? =some x→s'.In[i+1]? =some y→Gn x y=true)∧(∀x∈s'.In,Te s' x=false):=by
  rw [hI]
  refine ⟨fun i x hx=> ?_,fun i x y hx hy=> ?_,fun x hx=> ?_⟩
  ·obtain ⟨a,z,h1,h2,_,rfl⟩:=stays_mem.1 (lG hx)
   have k:=IN m s a z
   unfold Xd
   rw [k.1,k.2]
   simp only [wA,wC]
   omega
  ·have hs:=LN m s A
   have h1:=G9 hy
   have:=bD.1 hs i (i+1) (by omega) h1 (by omega)
   rw [lH (by omega)]at hx hy
   rw [lD hx,lD hy]at this
   exact this
  ·obtain ⟨a,z,h1,h2,_,rfl⟩:=stays_mem.1 hx
   have:=oO K O a z
   unfold Te
   simp only [wA,wC]
   omega
/-- A tick gives a state that stands. -/
theorem YM {m:Map}(K:KitM m){s:State}(O:StateOK m s)(ht:s.Tick<1099511627776)(acts:List Int):(Qu m s acts).2.2=0∧StateOK m (Qu m s acts).1∧(Qu m s acts).1=⟨s.Tick+1,Cd m s acts,Ak m s (Cd m s acts)⟩∧(Qu m s acts).2.1=Oe m s (Cd m s acts):=by
  have hc:Qn m s=0:=(Nd K).2 O
  have e:Qu m s acts=(⟨s.Tick+1,Cd m s acts,Ak m s (Cd m s acts)⟩,Oe m s (Cd m s acts),0):=by
    unfold Qu
    rw [bR (by simp [hc]),bR (by omega)]
  have t:=O.tick
  have n:=O.num
  rw [e]
  refine ⟨rfl,?_,rfl,rfl⟩
  obtain ⟨i1,i2,i3⟩:=gX K (s':=⟨s.Tick+1,Cd m s acts,Ak m s (Cd m s acts)⟩) O (Cd m s acts) (Nf m s acts) (by dsimp only;omega) rfl
  refine ⟨by dsimp only;omega,by dsimp only;rw [Nf];exact n,fun i g' hg'=> ?_,i1,i2,i3⟩
  dsimp only at hg'
  have hi:=G9 hg'
  rw [Nf]at hi
  have hg:s.Agents[i]? =some s.Agents[i]:=lH hi
  have h1:=OK (m:=m) (acts:=acts) hg
  rw [C3 hg']at h1
  rw [lD h1]
  exact gV K O i hg _ _ rfl
theorem AE {m:Map}{a:Int}{t:List Int}(R:RouteOK m a t):(a::t).length≤8:=by
  have:=R.most
  rw [lL];omega
theorem GP {m:Map}(K:KitM m)(n:Int): ∃a t,Jm m n=some (a::t)∧RouteOK m a t:=by
  obtain ⟨a,t,h1,h2,h3⟩:=QG K.toBearM K.val n
  exact ⟨a,t,h1,gD K.val h2 h3⟩
theorem QM {m:Map}(K:KitM m)(n:Int): ∃a t,Dk m n=some (a::t)∧RouteOK m a t:=by
  have step: ∀x:Int,0≤x→x<4→∃a t,RouteOK m a t∧(Z0 m n x=some (.out (.inr (a::t)))∨Z0 m n x=some (.go (x+1))):=by
    intro x h0 h1
    obtain ⟨a,t,e,R⟩:=GP K (D6 (n % 1048576+x))
    obtain ⟨l,hl⟩: ∃l,m.Lanes[a.toNat]? =some l:=⟨_,lH (by have:=R.first;omega)⟩
    have hg:=C3 hl
    rw [wG R.first.1]at hg
    refine ⟨a,t,R,?_⟩
    unfold Z0
    rw [bJ h1,bO,Sr (by omega) (by omega),lB,e,lB,bJ (show (((a::t).length:Nat):Int)>0 by rw [lL];omega),bO,show C0 (a::t) 0=some a from rfl,lB,bO,hg,lB,F5 (by omega)]
    cases l.Kind==1
    ·exact .inr rfl
    ·exact .inl rfl
  have key: ∀(k:Nat) (x:Int),0≤x→x+k=4→∃a t,RouteOK m a t∧thenS (loop (Z0 m n) x) (fun _=>(Jm m 0).bind fun v5=>some v5) (fun r=>some r)=some (a::t):=by
    intro k
    induction k with
    |zero=>
     intro x h0 hx
     obtain ⟨a,t,e,R⟩:=GP K 0
     refine ⟨a,t,R,?_⟩
     rw [C6 (t:= .inl ()) (by unfold Z0;rw [bK (by omega)];rfl)]
     show (Jm m 0).bind _=_
     rw [e];rfl
    |succ k ih=>
     intro x h0 hx
     obtain ⟨a,t,R,h|h⟩:=step x h0 (by omega)
     ·refine ⟨a,t,R,?_⟩
      rw [C6 h];rfl
     ·obtain ⟨a,t,R,e⟩:=ih (x+1) (by omega) (by omega)
      refine ⟨a,t,R,?_⟩
      rw [J2 h];exact e
  obtain ⟨a,t,R,e⟩:=key 4 0 (by omega) (by omega)
  exact ⟨a,t,e,R⟩
/-- What the kit makes of an actor. -/
structure KAgent (m:Map)(first:Bool)(g:Agent):Prop where
  route: ∃a t,g.Route=a::t∧RouteOK m a t
  len:300≤g.Len∧g.Len≤5000
  begin:0≤g.Begin∧g.Begin≤40
  S:0≤g.S∧g.S≤LongM m g.Route
  V:0≤g.V∧g.V≤(Xj m g).1
  gone:g.Gone=false
  late:g.Begin>0→g.S=0
  first:first=true→g.Begin=0∧g.Obey=false
theorem OQ {m:Map}(K:KitM m)(p:KitActor)(first:Bool): ∃g,Rl m p first=some g∧KAgent m first g∧(p.Len=0→g.Len=300)∧(first=true→Dk m p.R=some g.Route):=by
  obtain ⟨a1,t1,e1,R1⟩:=GP K p.R
  obtain ⟨a2,t2,e2,R2⟩:=QM K p.R
  have hy: ∃a t o,(cond first ((Dk m p.R).bind fun v3=>some (v3,false)) (some (a1::t1,(!p.Disobeys))))=some (a::t,o)∧RouteOK m a t∧(first=true→o=false)∧(first=true→Dk m p.R=some (a::t)):=by
    cases first
    ·exact ⟨a1,t1,_,rfl,R1,nofun,nofun⟩
    ·rw [e2];exact ⟨a2,t2,_,rfl,R2,fun _=>rfl,fun _=>rfl⟩
  obtain ⟨a,t,o,e3,R,ho,hrr⟩:=hy
  obtain ⟨l,hl⟩: ∃l,m.Lanes[a.toNat]? =some l:=⟨_,lH (by have:=R.first;omega)⟩
  have hg:=C3 hl
  rw [wG R.first.1]at hg
  have hk:Df m a=l.Kind:=by unfold Df;rw [hl];rfl
  have hT:=AB (Df m a)
  have hL:=Qc R
  have hr:=AE R
  have m1: ∀n:Int,0≤n % ((V9 (Df m a)).1+1)∧n % ((V9 (Df m a)).1+1)≤(V9 (Df m a)).1:=fun n=>by
    have h1:=wR n (show (V9 (Df m a)).1+1≠0 by omega)
    have h2:=wS n (show 0< (V9 (Df m a)).1+1 by omega)
    omega
  have m2: ∀n:Int,0≤n % (LongM m (a::t)+1)∧n % (LongM m (a::t)+1)≤LongM m (a::t):=fun n=>by
    have h1:=wR n (show LongM m (a::t)+1≠0 by omega)
    have h2:=wS n (show 0<LongM m (a::t)+1 by omega)
    omega
  have len: ∃L,(cond (decide ((V9 (Df m a)).1<1000)) (some 300) (some (D6 (300+p.Len % 4700))))=some L∧(300≤L∧L≤5000)∧(p.Len=0→L=300):=by
    cases decide ((V9 (Df m a)).1<1000)
    ·exact ⟨_,rfl,by rw [F5 (by omega)];omega,fun h=>by rw [h];rfl⟩
    ·exact ⟨_,rfl,by omega,fun _=>rfl⟩
  obtain ⟨L,eL,bL,bL0⟩:=len
  have hv:=m1 p.V
  have hs:=m2 p.S
  have fin: ∀S B:Int,0≤S→S≤LongM m (a::t)→0≤B→B≤40→(B>0→S=0)→(first=true→B=0)→KAgent m first ⟨a::t,S,p.V % ((V9 (Df m a)).1+1),L,B,o,false⟩∧(p.Len=0→L=300)∧(first=true→Dk m p.R=some (a::t)):=by
    intro S B h1 h2 h3 h4 h5 h6
    refine ⟨?_,bL0,hrr⟩
    refine ⟨⟨a,t,rfl,R⟩,bL,⟨h3,h4⟩,⟨h1,h2⟩,?_,rfl,h5,fun h=>⟨h6 h,ho h⟩⟩
    rw [GO R rfl h1]
    exact hv
  unfold Rl
  rw [e1,lB,Wf (by omega) (by omega),lB,e3,lB]
  dsimp only
  rw [show C0 (a::t) 0=some a from rfl,lB,hg,lB,Pd,lB,← hk,F5 (by omega),Wf (by omega) (by omega),lB,eL,lB,LG K.toBearM _ (by omega),lB,F5 (by omega),Wf (by omega) (by omega),lB]
  cases hf:first
  ·rw [bX,bO,Sr (by omega) (by omega),lB,bS]
   by_cases q:p.Begin % 4=3
   ·rw [show (p.Begin % 4==3)=true by simpa using q,bO,Sr (by omega) (by omega),lB]
    rw [hf]at fin
    exact ⟨_,rfl,fin 0 (p.Begin % 40) (by omega) (by omega) (by omega) (by omega) (fun _=>rfl) nofun⟩
   ·rw [show (p.Begin % 4==3)=false by simpa using q,bP]
    rw [hf]at fin
    exact ⟨_,rfl,fin _ 0 hs.1 hs.2 (by omega) (by omega) (fun h=>absurd h (by omega)) nofun⟩
  ·rw [hf]at fin
   exact ⟨_,rfl,fin _ 0 hs.1 hs.2 (by omega) (by omega) (fun h=>absurd h (by omega)) fun _=>rfl⟩
structure KList (m:Map)(A:List Agent):Prop where
  few:A.length≤8
  ok: ∀(i:Nat) g,A[i]? =some g→KAgent m (decide (i=0)) g
theorem KList.size {m:Map}{A:List Agent}(h:KList m A):SizeS ⟨0,A,[]⟩:=by
  refine ⟨by have:=h.few;dsimp only;omega,by simp,fun g hg=> ?_⟩
  obtain ⟨i,hi⟩:=bG hg
  obtain ⟨a,t,hR,R⟩:=(h.ok i g hi).route
  have:=AE R
  rw [hR];omega
theorem KList.wf {m:Map}{A:List Agent}(h:KList m A): ∀g∈A,g.S≤9223372036854775807:=fun g hg=>by
  obtain ⟨i,hi⟩:=bG hg
  have k:=h.ok i g hi
  obtain ⟨a,t,hR,R⟩:=k.route
  have h1:=Qc R
  have h2:=k.S
  rw [hR]at h2
  omega
theorem KList.chk {m:Map}(K:KitM m){A:List Agent}(h:KList m A)(hn:A≠ []):StateOK m ⟨0,A,[]⟩:=by
  refine ⟨by dsimp only;omega,⟨List.length_pos_iff.2 hn,h.few⟩,fun i g hg=> ?_,fun i x hx=>by simp at hx,fun i x y hx=>by simp at hx,fun x hx=>by simp at hx⟩
  have k:=h.ok i g hg
  obtain ⟨a,t,hR,R⟩:=k.route
  have hL:=Qc R
  rw [← hR]at hL
  have hS:=k.S
  have hl:=k.len
  have hb:=k.begin
  refine ⟨k.route,by omega,by omega,by omega,k.V,?_,?_,fun h0=>(k.first (by simpa using h0)).1⟩
  ·rw [k.gone];unfold Vd;rw [F5 (by omega),bK (by omega)]
  ·rintro ⟨q,q2⟩
   exact q2 (k.late q)
theorem gY {m:Map}(K:KitM m){A:List Agent}(h:(Pf m A).2=0):(Pf m A).1=⟨0,A,Ak m ⟨0,A,[]⟩ A⟩∧StateOK m (Pf m A).1:=by
  unfold Pf at h ⊢
  by_cases q:Qn m ⟨0,A,[]⟩=0
  case neg=>rw [bQ q]at h;exact absurd h q
  rw [bR (by simp [q])]at h ⊢
  by_cases g:A.any (fun g=>g.Gone)=true
  ·rw [bQ g]at h;cases h
  rw [bR g]at h ⊢
  by_cases b:(Ng ⟨0,A,[]⟩ A.length A.length 0).any (fun p=>FD m ⟨0,A,[]⟩ A p.1 p.2)=true
  ·rw [bQ b]at h;cases h
  rw [bR b]
  have O:=(Nd K).1 q
  refine ⟨rfl,?_⟩
  obtain ⟨i1,i2,i3⟩:=gX K (s':=⟨0,A,Ak m ⟨0,A,[]⟩ A⟩) O A rfl (Int.le_refl _) rfl
  exact ⟨O.tick,O.num,fun i g hg=>by have x:=O.agent i g hg;exact ⟨x.route,x.len,x.begin,x.S,x.V,x.gone,x.late,x.first⟩,i1,i2,i3⟩
theorem mC {m:Map}(K:KitM m){g:Agent}(h:KAgent m true g):(Pf m [g]).2=0:=by
  have L:KList m [g]:=⟨by simp,fun i g' hg=>by
    cases i with
    |zero=>cases hg;exact h
    |succ i=>simp at hg⟩
  have q:=(Nd K).2 (L.chk K (by simp))
  unfold Pf
  rw [bR (by simp [q]),bR (by simp [h.gone])]
  rfl
theorem StateOK.size {m:Map}(K:KitM m){s:State}(O:StateOK m s)(h:s.In.length≤1000000):SizeS s:=by
  refine ⟨by have:=O.num;omega,h,fun g hg=> ?_⟩
  obtain ⟨i,hi⟩:=bG hg
  obtain ⟨a,t,hR,R⟩:=(O.agent i g hi).route
  have:=AE R
  rw [hR];omega
def qD (m:Map)(l:List Agent)(s:State):Prop:=KList m l∧(l≠ []→s=(Pf m l).1∧(Pf m l).2=0)
theorem CY {m:Map}(K:KitM m)(ps:List KitActor)(hp:ps.length≤7): ∀(k idx:Nat) (l:List Agent) (s:State),idx+k=ps.length→l.length≤idx→qD m l s→∃l' s',loop (Fq m ps) (l,(idx:Int),s)=some (l',s')∧qD m l' s'∧l'.length≤ps.length
  |0,idx,l,s,hi,hl,I=>by
   obtain rfl:idx=ps.length:=by omega
   exact ⟨l,s,C6 (by unfold Fq;dsimp only;rw [I0];rfl),I,hl⟩
  |k+1,idx,l,s,hi,hl,I=>by
   have hidx:idx<ps.length:=by omega
   have hlen:l.length≤7:=by omega
   obtain ⟨p,hpx⟩: ∃p,ps[idx]? =some p:=⟨_,lH hidx⟩
   obtain ⟨g,hg,kg,_⟩:=OQ K p ((l.length:Int)==0)
   have L':KList m (l++ [g]):=by
     refine ⟨by simp;omega,fun i g' hg'=> ?_⟩
     by_cases q:i<l.length
     ·rw [lX q]at hg';exact I.1.ok i g' hg'
     ·have hlt:=G9 hg'
      rw [lM,List.length_singleton]at hlt
      obtain rfl:i=l.length:=by omega
      rw [lW (wH _),Nat.sub_self]at hg'
      cases hg'
      have:decide (l.length=0)=((l.length:Int)==0):=by
        by_cases h0:l.length=0
        ·simp [h0]
        ·simp [h0]
      rw [this];exact kg
   have e:=QL K L'.size L'.wf
   have key:Fq m ps (l,(idx:Int),s)=some (if (Pf m (l++ [g])).2=0 then .go ((Pf m (l++ [g])).1.Agents,((idx+1:Nat):Int),(Pf m (l++ [g])).1)else .go (l,((idx+1:Nat):Int),s)):=by
     unfold Fq
     dsimp only
     rw [J6 hidx,bJ (show (l.length:Int)<8 by omega),Bool.and_self,bO,Vc (by omega),lB,C3 hpx,lB,hg,lB,X3,bQ (by simp;omega),lB,e,lB,G7 hidx (by omega)]
     by_cases q:(Pf m (l++ [g])).2=0
     ·rw [bQ q,q];rfl
     ·rw [bR q,show ((Pf m (l++ [g])).2==0)=false by simpa using q];rfl
   by_cases q:(Pf m (l++ [g])).2=0
   ·rw [bQ q]at key
    have n:=gY K q
    have ea:(Pf m (l++ [g])).1.Agents=l++ [g]:=by rw [n.1]
    rw [ea]at key
    rw [J2 key]
    exact CY K ps hp k (idx+1) _ _ (by omega) (by simp;omega) ⟨L',fun _=>⟨rfl,q⟩⟩
   ·rw [bR q]at key
    rw [J2 key]
    exact CY K ps hp k (idx+1) _ _ (by omega) (by omega) I
theorem cA {m:Map}(K:KitM m)(ps:List KitActor)(hp:ps.length≤7): ∃A,Rm m ps=some (Pf m A).1∧(Pf m A).2=0∧KList m A∧0<A.length∧(A.length≤1∨A.length≤ps.length):=by
  have L0:KList m []:=⟨by simp,fun i g h=>by simp at h⟩
  have e0:=QL K L0.size L0.wf
  obtain ⟨l,s,e,I,hll⟩:=CY K ps hp ps.length 0 [] (Pf m []).1 (by omega) (by simp) ⟨L0,fun h=>absurd rfl h⟩
  have e:loop (Fq m ps) ([],0,(Pf m []).1)=some (l,s):=e
  unfold Rm
  rw [e0,lB,e,lB]
  dsimp only
  by_cases h:l= []
  ·subst h
   obtain ⟨g,hg,kg,h300⟩:=OQ K ⟨0,1048576,0,0,0,false⟩ true
   have hlen:=h300.1 rfl
   have kg':KAgent m true ⟨g.Route,D6 (g.Len+1),0,g.Len,g.Begin,g.Obey,g.Gone⟩:=by
     obtain ⟨a,t,hR,R⟩:=kg.route
     have hL:=Qc R
     rw [← hR]at hL
     have hT:=AB
     refine ⟨kg.route,kg.len,kg.begin,?_,?_,kg.gone,fun h=> ?_,kg.first⟩
     ·show 0≤D6 (g.Len+1)∧D6 (g.Len+1)≤LongM m g.Route
      rw [hlen,F5 (by omega)];omega
     ·have:=AB (Df m (Em m ⟨g.Route,D6 (g.Len+1),0,g.Len,g.Begin,g.Obey,g.Gone⟩).1)
      exact ⟨Int.le_refl _,this.1⟩
     ·have:=(kg.first rfl).1
      dsimp only at h
      omega
   have L:KList m [⟨g.Route,D6 (g.Len+1),0,g.Len,g.Begin,g.Obey,g.Gone⟩]:=⟨by simp,fun i g' hg=>by
     cases i with
     |zero=>cases hg;exact kg'
     |succ i=>simp at hg⟩
   refine ⟨_,?_,mC K kg',L,by simp, .inl (by simp)⟩
   rw [show (((([]:List Agent).length:Nat):Int)==0)=true from rfl,bO,hg,lB,QL K L.size L.wf];rfl
  ·have:=I.2 h
   have hl:=List.length_pos_iff.2 h
   refine ⟨l,?_,this.2,I.1,hl, .inr hll⟩
   rw [show ((l.length:Int)==0)=false by simp;exact h,bP,this.1]
theorem gZ {m:Map}(K:KitM m)(ps:List KitActor)(hp:ps.length≤7): ∃A,Rm m ps=some (Pf m A).1∧(Pf m A).2=0∧KList m A:=by
  obtain ⟨A,h1,h2,h3,_⟩:=cA K ps hp
  exact ⟨A,h1,h2,h3⟩
theorem cB {α:Type}(l:List α):l.any (fun _=>false)=false:=by
  induction l with
  |nil=>rfl
  |cons a l ih=>rw [bH,ih];rfl
theorem mD {m:Map}{s:State}(O:StateOK m s): ∀g∈s.Agents,g.S≤9223372036854775807:=fun g hg=>by
  obtain ⟨i,hi⟩:=bG hg
  have k:=O.agent i g hi
  obtain ⟨a,t,hR,R⟩:=k.route
  have h1:=Qc R
  have h2:=k.S
  have h3:=k.len
  rw [hR]at h2
  omega
theorem KAgent.any {m:Map}{g:Agent}(h:KAgent m true g):KAgent m false g:=⟨h.route,h.len,h.begin,h.S,h.V,h.gone,h.late,nofun⟩
theorem KAgent.two {m:Map}{g g':Agent}(h:KAgent m true g)(h':KAgent m true g'):KList m [g,g']:=⟨by simp,fun i x hx=>by
  cases i with
  |zero=>cases hx;exact h
  |succ i=>
   cases i with
   |zero=>cases hx;exact h'.any
   |succ i=>simp at hx⟩
theorem HO {α β:Type}{g:Nat→α→Option β}{b:β}: ∀(l:List α) (k:Nat),H9 g k l=some b→∃i a,g i a=some b
  | [],_,h=>by cases h
  |a::r,k,h=>by
   rw [H9]at h
   cases hg:g k a with
   |some e=>rw [hg]at h;cases h;exact ⟨k,a,hg⟩
   |none=>rw [hg]at h;exact HO r (k+1) h
theorem TX {m:Map}{s:State}(S:SizeS s)(O:StateOK m s){A:List Agent}(hA:A.length=s.Agents.length){c:Crash}(hc:c∈Oe m s A): ∃(i j:Nat) (gi gj gi' gj':Agent),i<j∧j<s.Agents.length∧Two m s A i j gi gj gi' gj'∧
    ((∃k:Nat,Qo m s.Tick i j gi gj gi' gj' k=some c)∨∃z:Nat,z<m.Zones.length∧Mq m s A i j gi gj z=true∧c=⟨s.Tick,i,j, -1,z,QK m s i j z⟩):=by
  have OR: ∀g∈s.Agents,∃a t,g.Route=a::t∧RouteOK m a t:=fun g hg=>by
    obtain ⟨i,hi⟩:=bG hg
    exact (O.agent i g hi).route
  unfold Oe at hc
  obtain ⟨pr,h1,h2⟩:=List.mem_flatMap.1 hc
  obtain ⟨i,j,rfl,_,h3,h4,h5,h6⟩:=GM h1
  obtain ⟨gi,gj,gi',gj',T⟩:=WX OR S hA h5 h6
  refine ⟨i,j,gi,gj,gi',gj',h3,h4,T,?_⟩
  rw [T.pair]at h2
  rcases lT.1 h2 with h2|h2
  ·unfold HN at h2
   rw [Option.mem_toList]at h2
   obtain ⟨k,ln,h7⟩:=HO _ _ h2
   exact .inl ⟨k,h7⟩
  ·unfold LQ at h2
   obtain ⟨z,zn,hz,h7⟩:=(Cm _ _).1 h2
   rw [wK]at h7
   unfold LP at h7
   split at h7
   ·rename_i q
    cases h7
    exact .inr ⟨z,G9 hz,q,rfl⟩
   ·cases h7
theorem TY {m:Map}(B:BearM m){g:Agent}{a:Int}{t:List Int}(hR:g.Route=a::t)(R:RouteOK m a t){x:Int}(hx:(Ef m g.Route x).2=true):Nb m g x=some (D6 (g.S - (Ef m g.Route x).1)):=by
  have hr:=AE R
  unfold Nb Ef at*
  rw [Sw B _ (by rw [hR];omega),lB,X7 (StartsM m g.Route) _ (fun i st=>if (x==g.Route.getD i 0)=true then some (D6 (g.S - st))else none) (fun i st h=>by
   have hi:=G9 h
   have hl:(StartsM m g.Route).length≤g.Route.length:=CX _
   unfold Kl
   rw [J6 hi,bO,C3 (show g.Route[i]? =some (g.Route.getD i 0) by rw [List.getD,lH (by omega)];rfl),lB,BEq.comm (a:=g.Route.getD i 0),C3 h]
   cases x==g.Route.getD i 0
   ·rw [bP,G7 hi (by rw [hR]at hl hi;rw [hR];omega)];rfl
   ·rfl) (by unfold Kl;rw [I0];rfl)]
  have key: ∀(r:List Int) (st:List Int) (k:Nat),st.length=r.length→(∀i,i<r.length→g.Route.getD (k+i) 0=r.getD i 0)→H9 (fun i s0=>if (x==g.Route.getD i 0)=true then some (D6 (g.S - s0))else none) k st=match r.findIdx? (fun y=>x==y)with|some i=>some (D6 (g.S - st.getD i 0))|none=>none:=by
    intro r
    induction r with
    |nil=>
     intro st k h1 _
     obtain rfl:=List.length_eq_zero_iff.1 h1
     rfl
    |cons b r ih=>
     intro st k h1 h2
     cases st with
     |nil=>cases h1
     |cons s0 st=>
      have e0:g.Route.getD k 0=b:=by have:=h2 0 (by simp);simpa using this
      rw [H9,e0,List.findIdx?_cons]
      cases hb:(x==b)
      ·have:=ih st (k+1) (by simpa using h1) (fun i hi=>by have:=h2 (i+1) (by simpa using hi);rw [show k+1+i=k+ (i+1) by omega];simpa using this)
       rw [bR (by simp)]
       dsimp only
       rw [this]
       cases r.findIdx? (fun y=>x==y)<;>rfl
      ·rfl
  rw [key g.Route (StartsM m g.Route) 0 (by rw [hR,R.StartsM,Km]) (fun i _=>by rw [wK])]
  cases hf:g.Route.findIdx? (fun y=>x==y)with
  |none=>rw [hf]at hx;cases hx
  |some i=>rfl
theorem oP (m:Map)(s:State)(i j z:Int):QK m s i j z= [i]∨QK m s i j z= [j]∨QK m s i j z= [i,j]:=by
  unfold QK
  split
  ·exact .inl rfl
  ·split
   ·exact .inr (.inl rfl)
   ·exact .inr (.inr rfl)
theorem hJ {m:Map}(K:KitM m){s:State}(S:SizeS s)(O:StateOK m s)(ht:s.Tick<1099511627776)(acts:List Int)(k:Int):loop (X5 m (k,s) (Qu m s acts)) 0=some (.inl ()):=by
  obtain ⟨_,_,_,e4⟩:=YM K O ht acts
  have hsz:=(OP K S acts).2.1
  have:=HC (F:=X5 m (k,s) (Qu m s acts)) (Qu m s acts).2.1 (fun _=>false) false (fun x c hc=>by
    have hx:=G9 hc
    have hm:c∈Oe m s (Cd m s acts):=by rw [← e4];exact lG hc
    obtain ⟨i,j,gi,gj,gi',gj',h1,h2,T,h3⟩:=TX S O (Nf m s acts) hm
    obtain ⟨a,t,hRi,Ri⟩:=T.oi
    obtain ⟨b,u,hRj,Rj⟩:=T.oj
    have n1:((i:Int)<0)=False:=by simp
    have hij: ¬(i:Int)≥(j:Int):=by omega
    have hjn: ¬(j:Int)≥(s.Agents.length:Int):=by omega
    have hne: ¬(j:Int)=(i:Int):=by omega
    have hne': ¬(i:Int)=(j:Int):=by omega
    have b1:((i:Int)==(j:Int))=false:=by simpa using hne'
    have b2:((j:Int)==(i:Int))=false:=by simpa using hne
    have b3:((j:Int) !=(i:Int))=true:=by simpa using hne
    have ge1:C0 [(i:Int)] 0=some (i:Int):=rfl
    have ge2:C0 [(j:Int)] 0=some (j:Int):=rfl
    have ge3:C0 [(i:Int),(j:Int)] 0=some (i:Int):=rfl
    unfold X5
    dsimp only
    rw [J6 hx,bO,C3 hc,lB,G7 hx (by omega)]
    rcases h3 with ⟨kk,h3⟩|⟨z,hz,hcl,rfl⟩
    ·unfold Qo at h3
     split at h3
     ·rename_i hst
      have f1:=TY K.toBearM hRi Ri hst.1
      have f2:=TY K.toBearM hRj Rj hst.2
      split at h3
      ·rename_i q
       have q': ¬D6 (gj.S - (Ef m gj.Route (kk:Int)).1)≤D6 (gi.S - (Ef m gi.Route (kk:Int)).1):=by omega
       split at h3
       ·cases h3
        dsimp only
        rw [T.hi,T.hj]
        simp [ge1,n1,hij,hjn,b1,q',f1,f2]
       ·cases h3
      ·rename_i q
       split at h3
       ·cases h3
        dsimp only
        rw [T.hi,T.hj]
        simp [ge2,n1,hij,hjn,q,b2,b3,f1,f2]
       ·cases h3
     ·cases h3
    ·have hh:=LR hcl
     have hlane:Jt m gi.Route (z:Int)≠Jt m gj.Route (z:Int):=by
       unfold Mq at hcl
       simp only [bU,bne_iff_ne]at hcl
       exact hcl.2
     have p1:0≤Cc m gi.Route (z:Int):=by
       obtain ⟨g,g',a1,_,_,_,_,a6⟩:=GK hh.1
       rw [T.hi]at a1
       obtain rfl:=lD a1
       exact Pl K.toBearK T.ri a6
     have p2:0≤Cc m gj.Route (z:Int):=by
       obtain ⟨g,g',a1,_,_,_,_,a6⟩:=GK hh.2
       rw [T.hj]at a1
       obtain rfl:=lD a1
       exact Pl K.toBearK T.rj a6
     obtain ⟨_,_,_,g1,_⟩:=Ve p1
     obtain ⟨_,_,_,g2,_⟩:=Ve p2
     have g1:=C3 g1
     have g2:=C3 g2
     rw [wG p1]at g1
     rw [wG p2]at g2
     have r1:=Va K.toBearM gi.Route (by have:=T.ri;omega) (z:Int)
     have r2:=Va K.toBearM gj.Route (by have:=T.rj;omega) (z:Int)
     have zz:(z:Int)≥0:=by omega
     dsimp only
     rw [T.hi,T.hj,bJ zz]
     have bl:(Jt m gi.Route (z:Int)==Jt m gj.Route (z:Int))=false:=by simpa using hlane
     have p1': ¬Cc m gi.Route (z:Int)<0:=by omega
     have p2': ¬Cc m gj.Route (z:Int)<0:=by omega
     rcases oP m s i j z with w|w|w<;>rw [w]<;>simp [ge1,ge2,ge3,n1,hij,hjn,b1,b2,b3,r1,r2,p1',p2',g1,g2,bl]) (by unfold X5;rw [I0];rfl)
  rw [this,cB];rfl
theorem TZ {m:Map}(K:KitM m)(ps:List (List Int))(hp:ps.length≤1000): ∀(n k:Nat) (s:State),k+n=ps.length→StateOK m s→s.Tick=(k:Int)→s.In.length≤1000000→loop (U9 ps m) ((k:Int),s)=some (.inl ())
  |0,k,s,hk,_,_,_=>by
   obtain rfl:k=ps.length:=by omega
   exact C6 (by unfold U9;dsimp only;rw [I0];rfl)
  |n+1,k,s,hk,O,ht,hI=>by
   have hkl:k<ps.length:=by omega
   obtain ⟨acts,ha⟩: ∃acts,ps[k]? =some acts:=⟨_,lH hkl⟩
   have S:=O.size K hI
   obtain ⟨e1,O',e3,_⟩:=YM K O (by omega) acts
   have S':=(OP K S acts).1
   have key:U9 ps m ((k:Int),s)=some (.go (((k+1:Nat):Int),(Qu m s acts).1)):=by
     unfold U9
     dsimp only
     rw [J6 hkl,bO,C3 ha,lB,gQ K S (mD O) acts,lB,e1,show ((0:Int) !=0)=false from rfl,bP,hJ K S O (by omega) acts,G7 hkl (by omega)];rfl
   rw [J2 key]
   refine TZ K ps hp n (k+1) _ (by omega) O' ?_ S'.ins
   rw [e3];dsimp only;omega
theorem Wm (n:Int)(ps:List KitActor)(acts:List (List Int)):Lb n ps acts=some true:=by
  obtain ⟨m,hm,K,_⟩:=kW n
  unfold Lb
  rw [fW]
  by_cases q:7<ps.length∨8<acts.length
  ·rw [show (decide ((ps.length:Int)>7)||decide ((acts.length:Int)>8))=true by simp only [bV,bM];omega];rfl
  ·rw [show (decide ((ps.length:Int)>7)||decide ((acts.length:Int)>8))=false by simp only [wA,wC];omega,bP,hm,lB]
   obtain ⟨A,e,h0,L⟩:=gZ K ps (by omega)
   obtain ⟨n1,O⟩:=gY K h0
   have h:loop (U9 acts m) (0,(Pf m A).1)=some (.inl ()):=TZ K acts (by omega) acts.length 0 (Pf m A).1 (by omega) O (by rw [n1];rfl) (gT K L.size).ins
   rw [e,lB,h];rfl
end
end Go.Abs.World
