/-
  Plain facts, second part: the law itself.
-/
import Derived.Test.YtgjdiioennhoeaaGreatPlain
set_option linter.all false
/-! Places and passes. -/
namespace Go.Abs.World
noncomputable section
open Go Go.Abs
theorem Wo (m:Map): ∀(r:List Int) (s:Int),Ei m s r=s+Ei m 0 r
  | [],s=>by simp [Ei]
  |a::r,s=>by rw [Ei,Ei,Wo m r (s+Q0 m a),Wo m r (0+Q0 m a)];omega
theorem Nk (m:Map): ∀(r:List Int) (s:Int) (i:Nat),i<r.length→(O1 m s r)[i]? =some (s+Ei m 0 (r.take i))
  | [],_,_,h=>absurd h (by simp)
  |a::r,s,0,_=>by simp [O1,Ei]
  |a::r,s,i+1,h=>by
   rw [O1,List.getElem?_cons_succ,Nk m r _ i (by simpa using h),List.take_succ_cons,Ei,Wo m _ (0+Q0 m a)]
   congr 1;omega
def Ov (m:Map)(r:List Int)(i:Nat):Int:=Ei m 0 (r.take i)
theorem Zm (m:Map)(r:List Int):Ov m r 0=0:=rfl
theorem HP (m:Map)(x:Int): ∀(l:List Int) (s:Int),Ei m s (l++ [x])=Ei m s l+Q0 m x
  | [],s=>rfl
  |a::l,s=>by rw [List.cons_append,Ei,Ei,HP m x l]
theorem Qo {m:Map}{r:List Int}{i:Nat}{a:Int}(h:r[i]? =some a):Ov m r (i+1)=Ov m r i+Q0 m a:=by
  unfold Ov
  rw [List.take_add_one,h]
  exact HP m a _ _
theorem mD (m:Map)(r:List Int):Ov m r r.length=Ei m 0 r:=by rw [Ov,List.take_length]
theorem RouteOK.len {m:Map}{a:Int}{t:List Int}(R:RouteOK m a t){i:Nat}{x:Int}(h:(a::t)[i]? =some x):1000≤Q0 m x∧Q0 m x≤16777216:=by
  have:=R.mem (lG h)
  exact R.val.long this.1 this.2
theorem RouteOK.mono {m:Map}{a:Int}{t:List Int}(R:RouteOK m a t): ∀(j i:Nat),i+j≤(a::t).length→Ov m (a::t) i+1000*j≤Ov m (a::t) (i+j)∧Ov m (a::t) (i+j)≤Ov m (a::t) i+16777216*j
  |0,i,_=>by simp
  |j+1,i,h=>by
   have:=R.mono j i (by omega)
   have e:(a::t)[i+j]? =some (a::t)[i+j]:=lH (by omega)
   have hl:=R.len e
   rw [← Nat.add_assoc,Qo e]
   omega
theorem RouteOK.lt {m:Map}{a:Int}{t:List Int}(R:RouteOK m a t){i j:Nat}(hij:i<j)(hj:j≤(a::t).length):Ov m (a::t) i+1000≤Ov m (a::t) j:=by
  have:=(R.mono (j - i) i (by omega)).1
  rw [show i+ (j - i)=j by omega]at this
  omega
theorem RouteOK.bd {m:Map}{a:Int}{t:List Int}(R:RouteOK m a t){i:Nat}(hi:i≤(a::t).length):0≤Ov m (a::t) i∧Ov m (a::t) i≤134217728:=by
  have:=R.mono i 0 (by omega)
  have h7:=R.most
  simp only [lL]at hi
  rw [wK,Zm]at this
  omega
theorem RouteOK.follow {m:Map}{a:Int}{t:List Int}(R:RouteOK m a t):Be m (a::t)=⟨m,a::t,O1 m 0 (a::t),Ov m (a::t) (a::t).length⟩:=by
  unfold Be
  rw [bQ (chkRoute_zero.2 ⟨a,t,rfl,R⟩),mD]
theorem RouteOK.starts {m:Map}{a:Int}{t:List Int}{i:Nat}(hi:i< (a::t).length):C1 (O1 m 0 (a::t)) (i:Int)=some (Ov m (a::t) i):=by
  rw [C3 (Nk m _ 0 i hi),Int.zero_add];rfl
def Ow (lane s:Int)(zi:Nat):Nat→List Part→List Pass
  |_,[]=> []
  |k,p::r=>(if p.Lane_==lane then [⟨(zi:Int),(k:Int),s+p.From,s+p.To⟩]else [])++Ow lane s zi (k+1) r
def Rg (lane s:Int):Nat→List Zone→List Pass
  |_,[]=> []
  |zi,z::r=>Ow lane s zi 0 z.Parts++Rg lane s (zi+1) r
def Lr (m:Map):Int→List Int→List Pass
  |_,[]=> []
  |s,a::r=>Rg a s 0 m.Zones++Lr m (s+Q0 m a) r
theorem AD (lane s:Int)(zi:Nat): ∀(l:List Part) (k:Nat),(l.map (·.Lane_)).Pairwise (· < ·)→(Ow lane s zi k l).length≤1
  | [],_,_=>by simp [Ow]
  |p::r,k,h=>by
   obtain ⟨h1,h2⟩:=bB.1 h
   have nil: ∀(r:List Part) (k:Nat),(∀q∈r,q.Lane_≠lane)→Ow lane s zi k r= []:=by
     intro r
     induction r with
     |nil=>intro k _;rfl
     |cons q r ih=>
      intro k hq
      rw [Ow,ih (k+1) (fun y hy=>hq y (List.mem_cons_of_mem _ hy)),show (q.Lane_==lane)=false by simp [hq q (by simp)]]
      rfl
   rw [Ow]
   by_cases e:p.Lane_=lane
   ·rw [nil r (k+1) (fun q hq=>by
    have:p.Lane_<q.Lane_:=h1 q.Lane_ (List.mem_map_of_mem hq)
    omega)]
    simp [e]
   ·rw [show (p.Lane_==lane)=false by simp [e]]
    exact AD lane s zi r (k+1) h2
theorem AE {m:Map}(lane s:Int): ∀(l:List Zone) (zi:Nat),(∀z∈l,ZoneOK m z)→(Rg lane s zi l).length≤l.length
  | [],_,_=>by simp [Rg]
  |z::r,zi,h=>by
   have:=AD lane s zi z.Parts 0 (Mx (h z (by simp)).rise)
   have:=AE lane s r (zi+1) fun y hy=>h y (List.mem_cons_of_mem _ hy)
   rw [Rg,lM,lL]
   omega
theorem OF (lane s:Int)(zi:Nat): ∀(l:List Part) (k:Nat) (x:Pass),x∈Ow lane s zi k l→∃(j:Nat) (p:Part),l[j]? =some p∧p.Lane_=lane∧x=⟨(zi:Int),((k+j:Nat):Int),s+p.From,s+p.To⟩
  | [],_,x,h=>by simp [Ow]at h
  |p::r,k,x,h=>by
   rw [Ow,lT]at h
   rcases h with h|h
   ·by_cases e:p.Lane_=lane
    ·rw [bQ (by simp [e]),bI]at h
     exact ⟨0,p,rfl,e,h⟩
    ·rw [bR (by simp [e])]at h;simp at h
   ·obtain ⟨j,q,h1,h2,h3⟩:=OF lane s zi r (k+1) x h
    exact ⟨j+1,q,by simpa using h1,h2,by rw [h3];congr 1;omega⟩
theorem OG (lane s:Int): ∀(l:List Zone) (zi:Nat) (x:Pass),x∈Rg lane s zi l→∃(j:Nat) (z:Zone) (k:Nat) (p:Part),l[j]? =some z∧z.Parts[k]? =some p∧p.Lane_=lane∧x=⟨((zi+j:Nat):Int),(k:Int),s+p.From,s+p.To⟩
  | [],_,x,h=>by simp [Rg]at h
  |z::r,zi,x,h=>by
   rw [Rg,lT]at h
   rcases h with h|h
   ·obtain ⟨k,p,h1,h2,h3⟩:=OF lane s zi z.Parts 0 x h
    exact ⟨0,z,k,p,rfl,h1,h2,by rw [h3,wK];rfl⟩
   ·obtain ⟨j,y,k,p,h0,h1,h2,h3⟩:=OG lane s r (zi+1) x h
    exact ⟨j+1,y,k,p,by simpa using h0,h1,h2,by rw [h3];congr 1;omega⟩
theorem AF (m:Map): ∀(r:List Int) (s:Int) (x:Pass),x∈Lr m s r→∃(i:Nat) (lane:Int) (j:Nat) (z:Zone) (k:Nat) (p:Part),r[i]? =some lane∧m.Zones[j]? =some z∧z.Parts[k]? =some p∧p.Lane_=lane∧x=⟨(j:Int),(k:Int),s+Ei m 0 (r.take i)+p.From,s+Ei m 0 (r.take i)+p.To⟩
  | [],_,x,h=>by simp [Lr]at h
  |a::r,s,x,h=>by
   rw [Lr,lT]at h
   rcases h with h|h
   ·obtain ⟨j,z,k,p,h1,h2,h3,h4⟩:=OG a s m.Zones 0 x h
    exact ⟨0,a,j,z,k,p,rfl,h1,h2,h3,by rw [h4];simp [Ei]⟩
   ·obtain ⟨i,lane,j,z,k,p,h0,h1,h2,h3,h4⟩:=AF m r _ x h
    refine ⟨i+1,lane,j,z,k,p,by simpa using h0,h1,h2,h3,?_⟩
    rw [h4,List.take_succ_cons,Ei,Wo m _ (0+Q0 m a)]
    congr 1<;>omega
section
variable {m:Map}{a:Int}{t:List Int}
theorem mE (B:BearM m)(R:RouteOK m a t){i:Nat}{lane:Int}(hi:i< (a::t).length)(zi:Nat){z:Zone}(hz:m.Zones[zi]? =some z)(o1 o2:List Pass):
    ∀(r:List Part) (k:Nat) (out:List Pass),z.Parts.drop k=r→k≤z.Parts.length→out.length+r.length≤1000→
     loop (Aw (Be m (a::t)) (o1,(i:Int)) lane (o2,(zi:Int)) z) (out,(k:Int))=some (out++Ow lane (Ov m (a::t) i) zi k r):=by
  have Z:=R.val.zoneOK (lG hz)
  have h6:=Z.six
  intro r
  induction r with
  |nil=>
   intro k out hk hkl hl
   have:=O0 hk
   obtain rfl:k=z.Parts.length:=by omega
   refine C7 ?_
   unfold Aw
   rw [H9];simp [Ow]
  |cons p r ih=>
   intro k out hk hkl hl
   have hlt:=M9 hk
   have hp:=V0 hk
   have hpm:=lG hp
   have hpt:=Z.part p hpm
   have hln:=Ll Z.rise p.Lane_ (List.mem_map_of_mem hpm)
   have hll:=R.val.long hln.1 hln.2
   have hb:=R.bd (Nat.le_of_lt hi)
   simp only [lL]at hl
   have hs:Aw (Be m (a::t)) (o1,(i:Int)) lane (o2,(zi:Int)) z (out,(k:Int))=some (.go (out++ (if p.Lane_==lane then [⟨(zi:Int),(k:Int),Ov m (a::t) i+p.From,Ov m (a::t) i+p.To⟩]else []),((k+1:Nat):Int))):=by
     unfold Aw
     dsimp only
     rw [K0 hlt,C3 hp,bO,lB,G8 hlt (by omega)]
     cases p.Lane_==lane
     ·simp
     ·rw [R.follow]
      dsimp only
      rw [bO,RouteOK.starts hi,lB,lB,F1 (by omega),F1 (by omega),Fc (by simp;omega)]
      rfl
   rw [J2 hs,ih (k+1) _ (K5 hk) (by omega) (by rw [lM];split<;>simp<;>omega),Ow,lO]
theorem mF (B:BearM m)(R:RouteOK m a t){i:Nat}{lane:Int}(hi:i< (a::t).length)(o1:List Pass):
    ∀(r:List Zone) (zi:Nat) (out:List Pass),m.Zones.drop zi=r→zi≤m.Zones.length→out.length+r.length≤500→
     loop (U7 m (Be m (a::t)) (o1,(i:Int)) lane) (out,(zi:Int))=some (out++Rg lane (Ov m (a::t) i) zi r):=by
  intro r
  induction r with
  |nil=>
   intro zi out hk hkl hl
   have:=O0 hk
   obtain rfl:zi=m.Zones.length:=by omega
   refine C7 ?_
   unfold U7
   rw [H9];simp [Rg]
  |cons z r ih=>
   intro zi out hk hkl hl
   have hlt:=M9 hk
   have hz:=V0 hk
   have Z:=R.val.zoneOK (lG hz)
   have h6:=Z.six
   have hnz:=R.val.zones
   simp only [lL]at hl
   have h1:=AD lane (Ov m (a::t) i) zi z.Parts 0 (Mx Z.rise)
   have h3:loop (Aw (Be m (a::t)) (o1,(i:Int)) lane (out,(zi:Int)) z) (out,0)=_:=mE B R hi zi hz o1 out z.Parts 0 out rfl (by omega) (by omega)
   have hs:U7 m (Be m (a::t)) (o1,(i:Int)) lane (out,(zi:Int))=some (.go (out++Ow lane (Ov m (a::t) i) zi 0 z.Parts,((zi+1:Nat):Int))):=by
     unfold U7
     dsimp only
     rw [K0 hlt,C3 hz,bO,lB,h3,lB,G8 hlt (by omega)]
   rw [J2 hs,ih (zi+1) _ (K5 hk) (by omega) (by rw [lM];omega),Rg,lO]
theorem mG (B:BearM m)(R:RouteOK m a t):
    ∀(r:List Int) (i:Nat) (out:List Pass),(a::t).drop i=r→i≤(a::t).length→out.length+12*r.length≤200→
     loop (O6 m (Be m (a::t))) (out,(i:Int))=some (out++Lr m (Ov m (a::t) i) r):=by
  have hl:(Be m (a::t)).lanes=a::t:=by rw [R.follow]
  intro r
  induction r with
  |nil=>
   intro i out hk hkl hle
   have:=O0 hk
   obtain rfl:i=(a::t).length:=by omega
   refine C7 ?_
   unfold O6
   dsimp only
   rw [hl,H9];simp [Lr]
  |cons x r ih=>
   intro i out hk hkl hle
   have hlt:=M9 hk
   have hx:=V0 hk
   have hm7:=R.most
   have hnz:=R.val.zones
   simp only [lL]at hle hlt
   have h2:loop (U7 m (Be m (a::t)) (out,(i:Int)) x) (out,0)=_:=mF B R (lane:=x) (M9 hk) out m.Zones 0 out rfl (by omega) (by omega)
   have hs:O6 m (Be m (a::t)) (out,(i:Int))=some (.go (out++Rg x (Ov m (a::t) i) 0 m.Zones,((i+1:Nat):Int))):=by
     unfold O6
     dsimp only
     rw [hl,K0 (M9 hk),C3 hx,bO,lB,h2,lB,G8 (M9 hk) (by simp only [lL];omega)]
   have:=AE (m:=m) x (Ov m (a::t) i) m.Zones 0 fun z hz=>R.val.zoneOK hz
   rw [J2 hs,ih (i+1) _ (K5 hk) (by simp only [lL];omega) (by rw [lM];omega),Qo hx,Lr,lO]
/-- A map with so few zones as the kit's. -/
structure BearK (m:Map):Prop extends BearM m where
  zones2:m.Zones.length≤2
theorem LK {m:Map}(V:ValR m): ∀(r:List Int) (s:Int),(Lr m s r).length≤m.Zones.length*r.length
  | [],s=>by simp [Lr]
  |a::r,s=>by
   have h1:=AE (m:=m) a s m.Zones 0 fun z hz=>V.zoneOK hz
   have h2:=LK V r (s+Q0 m a)
   rw [Lr,lM,lL,Nat.mul_add,Nat.mul_one];omega
/-- The passes: sorted, and those that there are. -/
theorem OH (B:BearK m)(R:RouteOK m a t): ∃ps,W1 m (a::t)=some ps∧ps.Perm (Lr m 0 (a::t))∧Srt Xg ps∧ps.length≤16:=by
  have hm7:=R.most
  have hlen:(Lr m 0 (a::t)).length≤16:=by
    have:=LK R.val (a::t) 0
    have h2:m.Zones.length* (a::t).length≤2*8:=wM B.zones2 (by simp only [lL];omega)
    omega
  have h1:loop (O6 m (Be m (a::t))) ([],0)=some (Lr m 0 (a::t)):=by
    have:=mG B.toBearM R (a::t) 0 [] rfl (by omega) (by simp;omega)
    rw [lQ,Zm]at this
    exact this
  unfold W1
  rw [Ry B.toBearM _ (by simp;omega),lB,h1,lB]
  cases q:Lr m 0 (a::t)with
  |nil=>exact ⟨[],by rw [CX];rfl, .refl _,List.Pairwise.nil,by simp⟩
  |cons x l=>
   rw [q]at hlen
   obtain ⟨ys,g1,g2,g3⟩:=aO (x::l) (by omega)
   exact ⟨ys,by rw [show List.isEmpty (x::l)=false from rfl,bP,g1];rfl,g2,g3,by rw [g2.length_eq];exact hlen⟩
end
theorem TI {m:Map}(B:BearM m)(V:ValR m)(l:List Int)(hl:l.length≤1000000): ∀(r:List Int) (i:Nat) (a:Int),l.drop (i+1)=r→l[i]? =some a→0≤a→a<m.Lanes.length→thenS (loop (X7 m l) ((i+1:Nat):Int)) (fun _=>some 0) (fun r=>some r)=some (if Lv m a r=true then 0 else 13):=by
  intro r
  induction r with
  |nil=>
   intro i a hi ha h0 h1
   have h2:=O0 hi
   have h3:=(lI.1 ha).1
   have h4:i+1=l.length:=by omega
   rw [C7 (t:= .inl ())]
   ·rfl
   ·unfold X7
    rw [show decide (((i+1:Nat):Int)< (l.length:Int))=false from bK (by omega)];rfl
  |cons b r ih=>
   intro i a hi ha h0 h1
   have hlt:=M9 hi
   have hb:=V0 hi
   obtain ⟨ln,e1,e2⟩:=Tx h0 h1
   have hw:D3 (((i+1:Nat):Int) - 1)=(i:Int):=by rw [F1 (by omega)];omega
   have hs:X7 m l ((i+1:Nat):Int)=some (if ln.Next.contains b=true then .go (((i+1+1:Nat):Int))else .out (.inr 13)):=by
     unfold X7
     rw [K0 hlt,bO,hw,C3 ha,lB,e2,lB,C3 hb,lB,WG _ (B.toBear.pts _ (lG e1)).2,lB,G8 hlt (by omega)]
     cases ln.Next.contains b<;>rfl
   have hn:nextOf m a.toNat=ln.Next:=by unfold nextOf;rw [e1];rfl
   rw [Lv,hn]
   cases q:ln.Next.contains b
   ·rw [q]at hs;rw [C7 hs];rfl
   ·rw [q]at hs
    have hbm:=V.next e1 (List.contains_iff_mem.1 q)
    rw [J2 hs,ih (i+1) b (K5 hi) hb (by omega) (by omega),bS]
theorem Oj {m:Map}(B:BearM m)(r:List Int)(hr:r.length≤1000000):Z4 m r=some (P6 m r):=by
  unfold Z4 P6
  rw [Sy B,lB]
  by_cases q:Vc m=0
  ·have V:=chkR_zero.1 q
   rw [bR (by simpa using q),show (Vc m !=0)=false by simpa using q,bP]
   cases r with
   |nil=>rfl
   |cons a t=>
    dsimp only
    simp only [lL]at hr ⊢
    by_cases h8:7<t.length
    ·rw [bQ (.inl h8),show ((((t.length+1:Nat):Int)==0)||(decide (((t.length+1:Nat):Int)>8)))=true by simp;omega];rfl
    ·rw [show ((((t.length+1:Nat):Int)==0)||(decide (((t.length+1:Nat):Int)>8)))=false by simp;omega]
     rw [show C1 (a::t) 0=some a from rfl]
     simp only [bX,bO,lB,bY]
     by_cases h0:a<0
     ·rw [bQ (.inr (.inl h0)),bJ h0];rfl
     ·rw [bK h0]
      simp only [bX,bO,lB,bY]
      by_cases h1:(m.Lanes.length:Int)≤a
      ·rw [bQ (.inr (.inr (.inl h1))),show decide (a≥(m.Lanes.length:Int))=true from bJ h1];rfl
      ·rw [show decide (a≥(m.Lanes.length:Int))=false from bK (by omega)]
       simp only [bX,bO,bY]
       rw [lB,LG B,lB]
       by_cases hb:Ct m a= []
       ·rw [hb,show decide ((([]:List Int).length:Int)>0)=false from rfl,bP]
        have:=TI B V (a::t) (by simpa using hr) t 0 a rfl rfl (by omega) (by omega)
        rw [show ((0+1:Nat):Int)=1 from rfl]at this
        rw [this]
        by_cases hc:Lv m a t=true
        ·rw [bQ hc,bR (by rw [hc];simp;omega)]
        ·rw [bR hc,bQ (.inr (.inr (.inr (.inr (by simpa using hc)))))]
       ·rw [bQ (.inr (.inr (.inr (.inl hb)))),show decide (((Ct m a).length:Int)>0)=true from bJ (by have:=List.length_pos_iff.2 hb;omega)];rfl
  ·rw [bQ q,show (Vc m !=0)=true by simpa using q];rfl
theorem OI {m:Map}(B:BearM m){a:Int}{t:List Int}(R:RouteOK m a t):Lg m (a::t)=some (O1 m 0 (a::t),Ov m (a::t) (a::t).length):=by
  have hm7:=R.most
  have key: ∀(l:List Int) (i:Nat) (st:List Int),(a::t).drop i=l→i≤(a::t).length→st.length=i→loop (Cz m (a::t)) (st,Ov m (a::t) i,(i:Int))=some (st++O1 m (Ov m (a::t) i) l,Ov m (a::t) (a::t).length):=by
    intro l
    induction l with
    |nil=>
     intro i st hi hil _
     have:=O0 hi
     obtain rfl:i=(a::t).length:=by omega
     refine C7 ?_
     unfold Cz
     dsimp only
     rw [H9,O1,lP];rfl
    |cons x l ih=>
     intro i st hi hil h2
     have hlt:=M9 hi
     have hx:=V0 hi
     have hm:=R.mem (lG hx)
     have hl:=R.len hx
     have hb:=R.bd (Nat.le_of_lt hlt)
     simp only [lL]at hlt
     rw [J2 (s':=(st++ [Ov m (a::t) i],Ov m (a::t) (i+1),((i+1:Nat):Int)))]
     ·rw [ih (i+1) _ (K5 hi) (by simp;omega) (by simp [h2]),O1,Qo hx,lO];rfl
     ·unfold Cz
      dsimp only
      rw [K0 (by simpa using hlt),Fc (by simp;omega),bO,lB,C3 hx,lB,Xe B hm.1 hm.2,lB,G8 hlt (by omega),F1 (by omega),Qo hx]
  have:=key (a::t) 0 [] rfl (by omega) rfl
  rw [Zm]at this
  have this':loop (Cz m (a::t)) ([],0,0)=_:=this
  unfold Lg
  rw [this',lB,lQ]
def StartsM (m:Map)(r:List Int):List Int:=(Be m r).starts
def LongM (m:Map)(r:List Int):Int:=(Be m r).length
theorem GL {m:Map}(B:BearM m)(r:List Int)(hr:r.length≤1000000):Bu m r=some (StartsM m r):=by
  unfold Bu StartsM
  rw [Ry B r hr];rfl
theorem YM {m:Map}(B:BearM m)(r:List Int)(hr:r.length≤1000000):V8 m r=some (LongM m r):=by
  unfold V8 LongM
  rw [Ry B r hr];rfl
theorem Tc {m:Map}{r:List Int}(q:P6 m r≠0):Be m r=⟨⟨0,[],[],[],[]⟩,[],[],0⟩:=by unfold Be;rw [bR q]
theorem Td {m:Map}(B:BearM m)(r:List Int)(hr:r.length≤1000000):Fr m r=some (StartsM m r):=by
  unfold Fr
  rw [Oj B r hr,lB]
  by_cases q:P6 m r=0
  ·obtain ⟨a,t,rfl,R⟩:=chkRoute_zero.1 q
   rw [q,show ((0:Int) !=0)=false from rfl,bP,OI B R,lB,StartsM,R.follow]
  ·rw [show (P6 m r !=0)=true by simpa using q,bO,StartsM,Tc q]
theorem FC {m:Map}(B:BearM m)(r:List Int)(hr:r.length≤1000000):Y0 m r=some (LongM m r):=by
  unfold Y0
  rw [Oj B r hr,lB]
  by_cases q:P6 m r=0
  ·obtain ⟨a,t,rfl,R⟩:=chkRoute_zero.1 q
   rw [q,show ((0:Int) !=0)=false from rfl,bP,OI B R,lB,LongM,R.follow]
  ·rw [show (P6 m r !=0)=true by simpa using q,bO,LongM,Tc q]
theorem GM {m:Map}(B:BearM m)(r:List Int)(hr:r.length≤1000000)(k:Int):Ks m r k=some (Et m r k):=by
  unfold Ks Et
  rw [Oj B r hr,lB]
  by_cases h:k<0∨(m.Zones.length:Int)≤k
  ·have e:(((P6 m r !=0)||(decide (k<0)))||(decide (k≥(m.Zones.length:Int))))=true:=by
     rcases h with h|h
     ·rw [bJ h];simp
     ·rw [show decide (k≥(m.Zones.length:Int))=true from bJ h];simp
   rw [e,bO]
   cases hz:m.Zones[k.toNat]? with
   |none=>rfl
   |some z=>
    have:=H5 hz
    dsimp only
    rw [bR (fun x=>by have:=x.1;omega)]
  ·obtain ⟨z,z1,z2⟩:=YH (m:=m) (k:=k) (by omega) (by omega)
   rw [show decide (k<0)=false from bK (by omega),show decide (k≥(m.Zones.length:Int))=false from bK (by omega),Bool.or_false,Bool.or_false,z1]
   dsimp only
   have hp:=B.toBearZ.parts z (lG z1)
   by_cases q:P6 m r=0
   ·rw [bQ ⟨by omega,q⟩,q,show ((0:Int) !=0)=false from rfl,bP]
    exact Qn r (fun l=>(Kc z l).2) (by omega) (fun i a h=>by
      have hi:=H5 h
      unfold Kr
      rw [K0 hi,z2,bO,lB,C3 h,lB,TH hp,lB]
      cases (Kc z a).2<;>rfl) (by unfold Kr;rw [H9];rfl)
   ·rw [bR (fun x=>q x.2),show (P6 m r !=0)=true by simpa using q];rfl
def pL {α τ:Type}:Stp (List α×Int) τ→Stp (Int×List α) τ
  | .go x=> .go (x.2,x.1)
  | .out t=> .out t
theorem aP {α τ:Type}(F:List α×Int→Option (Stp (List α×Int) τ))(l:List α)(i:Int)(t:τ)(h:loop (fun s:Int×List α=>(F (s.2,s.1)).map pL) (i,l)=some t):loop F (l,i)=some t:=by
  obtain ⟨n,hn⟩:=loop_some.1 h
  refine loop_some.2 ⟨n,?_⟩
  clear h
  induction n generalizing l i with
  |zero=>cases hn
  |succ n ih=>
   rw [loopN]at hn ⊢
   dsimp only at hn
   cases hf:F (l,i)with
   |none=>rw [hf]at hn;cases hn
   |some x=>
    rw [hf]at hn
    cases x with
    |go s=>exact ih s.1 s.2 hn
    |out t'=>exact hn
theorem TJ: ∀{l l':List Pass},Srt Xg l→Srt Xg l'→l.Perm l'→(∀x∈l,∀y∈l,Xg x y=false→Xg y x=false→x=y)→l=l'
  | [],l',_,_,h,_=>(List.Perm.nil_eq h)
  |a::l,[],_,_,h,_=>absurd h.length_eq (by simp)
  |a::l,b::l',h1,h2,h,hk=>by
   obtain ⟨a1,a2⟩:=bB.1 h1
   obtain ⟨b1,b2⟩:=bB.1 h2
   have hbl:b∈a::l:=h.mem_iff.2 (by simp)
   have hal:a∈b::l':=h.mem_iff.1 (by simp)
   have e1:Xg b a=false:=by
     rcases lU.1 hbl with e|e
     ·rw [e];exact ltP_ok.irr a
     ·exact a1 b e
   have e2:Xg a b=false:=by
     rcases lU.1 hal with e|e
     ·rw [e];exact ltP_ok.irr b
     ·exact b1 a e
   have hab:=hk a (by simp) b hbl e2 e1
   subst hab
   congr 1
   exact TJ a2 b2 (List.Perm.cons_inv h) fun x hx y hy=>hk x (List.mem_cons_of_mem _ hx) y (List.mem_cons_of_mem _ hy)
section
variable {m:Map}{a:Int}{t:List Int}
theorem aQ (R:RouteOK m a t): ∀x∈Lr m 0 (a::t),∀y∈Lr m 0 (a::t),Xg x y=false→Xg y x=false→x=y:=by
  intro x hx y hy h1 h2
  obtain ⟨i,l,j,z,k,p,e1,e2,e3,e4,e5⟩:=AF m _ 0 x hx
  obtain ⟨i',l',j',z',k',p',f1,f2,f3,f4,f5⟩:=AF m _ 0 y hy
  subst e4 f4
  have hx1:x.From=Ov m (a::t) i+p.From:=by rw [e5];show 0+Ov m (a::t) i+p.From=_;omega
  have hy1:y.From=Ov m (a::t) i'+p'.From:=by rw [f5];show 0+Ov m (a::t) i'+p'.From=_;omega
  have hx2:x.Zone_=(j:Int):=by rw [e5]
  have hy2:y.Zone_=(j':Int):=by rw [f5]
  simp only [Xg,wC]at h1 h2
  have hj:j=j':=by omega
  subst hj
  rw [e2]at f2
  obtain rfl:=lD f2
  have Z:=R.val.zoneOK (lG e2)
  have g1:=Z.part p (lG e3)
  have g2:=Z.part p' (lG f3)
  have n1:=Qo (m:=m) e1
  have n2:=Qo (m:=m) f1
  have hil:=(lI.1 e1).1
  have hil':=(lI.1 f1).1
  have hii:i=i':=by
    rcases Nat.lt_trichotomy i i' with h|h|h
    ·exfalso
     have:Ov m (a::t) (i+1)≤Ov m (a::t) i':=by
       rcases Nat.lt_or_ge (i+1) i' with h'|h'
       ·have:=R.lt h' (Nat.le_of_lt hil');omega
       ·rw [show i'=i+1 by omega];omega
     omega
    ·exact h
    ·exfalso
     have:Ov m (a::t) (i'+1)≤Ov m (a::t) i:=by
       rcases Nat.lt_or_ge (i'+1) i with h'|h'
       ·have:=R.lt h' (Nat.le_of_lt hil);omega
       ·rw [show i=i'+1 by omega];omega
     omega
  subst hii
  rw [e1]at f1
  have hlane:=lD f1
  have hkk:k=k':=by
    have hp:=Mx Z.rise
    have hk1:=(lI.1 e3).1
    have hk2:=(lI.1 f3).1
    have q1:z.Parts[k]=p:=(lI.1 e3).2
    have q2:z.Parts[k']=p':=(lI.1 f3).2
    have hpi:=bD.1 hp
    rcases Nat.lt_trichotomy k k' with h|h|h
    ·have:=hpi k k' (by simpa using hk1) (by simpa using hk2) h
     simp only [List.getElem_map,q1,q2]at this;omega
    ·exact h
    ·have:=hpi k' k (by simpa using hk2) (by simpa using hk1) h
     simp only [List.getElem_map,q1,q2]at this;omega
  subst hkk
  rw [e3]at f3
  obtain rfl:=lD f3
  rw [e5,f5]
theorem qK (B:BearM m)(R:RouteOK m a t){i:Nat}{lane:Int}(hx:(a::t)[i]? =some lane)(zi:Nat){z:Zone}(hz:m.Zones[zi]? =some z)(o1 o2:List Pass):
    ∀(r:List Part) (k:Nat) (out:List Pass),z.Parts.drop k=r→k≤z.Parts.length→out.length+r.length≤1000→
     loop (Az m (a::t) (O1 m 0 (a::t)) (o1,(i:Int)) (o2,(zi:Int))) (out,(k:Int))=some (out++Ow lane (Ov m (a::t) i) zi k r):=by
  have Z:=R.val.zoneOK (lG hz)
  have h6:=Z.six
  have hi:i< (a::t).length:=(lI.1 hx).1
  intro r
  induction r with
  |nil=>
   intro k out hk hkl hl
   have:=O0 hk
   obtain rfl:k=z.Parts.length:=by omega
   refine C7 ?_
   unfold Az
   dsimp only
   rw [C3 hz,lB,H9];simp [Ow]
  |cons p r ih=>
   intro k out hk hkl hl
   have hlt:=M9 hk
   have hp:=V0 hk
   have hpm:=lG hp
   have hpt:=Z.part p hpm
   have hln:=Ll Z.rise p.Lane_ (List.mem_map_of_mem hpm)
   have hll:=R.val.long hln.1 hln.2
   have hb:=R.bd (Nat.le_of_lt hi)
   simp only [lL]at hl
   have hs:Az m (a::t) (O1 m 0 (a::t)) (o1,(i:Int)) (o2,(zi:Int)) (out,(k:Int))=some (.go (out++ (if p.Lane_==lane then [⟨(zi:Int),(k:Int),Ov m (a::t) i+p.From,Ov m (a::t) i+p.To⟩]else []),((k+1:Nat):Int))):=by
     unfold Az
     dsimp only
     rw [C3 hz,lB,K0 hlt,bO,lB,C3 hp,lB,C3 hx,lB,G8 hlt (by omega)]
     cases p.Lane_==lane
     ·simp
     ·rw [bO,RouteOK.starts hi,lB,lB,F1 (by omega),F1 (by omega),Fc (by simp;omega)]
      rfl
   rw [J2 hs,ih (k+1) _ (K5 hk) (by omega) (by rw [lM];split<;>simp<;>omega),Ow,lO]
theorem qL (B:BearM m)(R:RouteOK m a t){i:Nat}{lane:Int}(hx:(a::t)[i]? =some lane)(o1:List Pass):
    ∀(r:List Zone) (zi:Nat) (out:List Pass),m.Zones.drop zi=r→zi≤m.Zones.length→out.length+r.length≤500→
     loop (Ba m (a::t) (O1 m 0 (a::t)) (o1,(i:Int))) (out,(zi:Int))=some (out++Rg lane (Ov m (a::t) i) zi r):=by
  intro r
  induction r with
  |nil=>
   intro zi out hk hkl hl
   have:=O0 hk
   obtain rfl:zi=m.Zones.length:=by omega
   refine C7 ?_
   unfold Ba
   rw [H9];simp [Rg]
  |cons z r ih=>
   intro zi out hk hkl hl
   have hlt:=M9 hk
   have hz:=V0 hk
   have Z:=R.val.zoneOK (lG hz)
   have h6:=Z.six
   have hnz:=R.val.zones
   simp only [lL]at hl
   have h1:=AD lane (Ov m (a::t) i) zi z.Parts 0 (Mx Z.rise)
   have h3:loop (Az m (a::t) (O1 m 0 (a::t)) (o1,(i:Int)) (out,(zi:Int))) (out,0)=_:=qK B R hx zi hz o1 out z.Parts 0 out rfl (by omega) (by omega)
   have hs:Ba m (a::t) (O1 m 0 (a::t)) (o1,(i:Int)) (out,(zi:Int))=some (.go (out++Ow lane (Ov m (a::t) i) zi 0 z.Parts,((zi+1:Nat):Int))):=by
     unfold Ba
     dsimp only
     rw [K0 hlt,bO,h3,lB,G8 hlt (by omega)]
   rw [J2 hs,ih (zi+1) _ (K5 hk) (by omega) (by rw [lM];omega),Rg,lO]
theorem qM (B:BearM m)(R:RouteOK m a t):
    ∀(r:List Int) (i:Nat) (out:List Pass),(a::t).drop i=r→i≤(a::t).length→out.length+12*r.length≤200→
     loop (Y9 m (a::t) (O1 m 0 (a::t))) (out,(i:Int))=some (out++Lr m (Ov m (a::t) i) r):=by
  have hlen:(O1 m 0 (a::t)).length=(a::t).length:=Ku _ _ _
  intro r
  induction r with
  |nil=>
   intro i out hk hkl hle
   have:=O0 hk
   have hii:i=(a::t).length:=by omega
   refine C7 ?_
   unfold Y9
   dsimp only
   rw [hlen,hii,H9];simp [Lr]
  |cons x r ih=>
   intro i out hk hkl hle
   have hlt:=M9 hk
   have hx:=V0 hk
   have hm7:=R.most
   have hnz:=R.val.zones
   simp only [lL]at hle hlt
   have h2:loop (Ba m (a::t) (O1 m 0 (a::t)) (out,(i:Int))) (out,0)=_:=qL B R hx out m.Zones 0 out rfl (by omega) (by omega)
   have hs:Y9 m (a::t) (O1 m 0 (a::t)) (out,(i:Int))=some (.go (out++Rg x (Ov m (a::t) i) 0 m.Zones,((i+1:Nat):Int))):=by
     unfold Y9
     dsimp only
     rw [hlen,K0 (M9 hk),bO,h2,lB,G8 (M9 hk) (by simp only [lL];omega)]
   have:=AE (m:=m) x (Ov m (a::t) i) m.Zones 0 fun z hz=>R.val.zoneOK hz
   rw [J2 hs,ih (i+1) _ (K5 hk) (by simp only [lL];omega) (by rw [lM];omega),Qo hx,Lr,lO]
end
/-- The document's insertion sort. -/
theorem gY (T:List Pass)(x:Pass)(Q:List Pass)(hs:Srt Xg Q)(hN:(Q++x::T).length≤1000000):
    ∃Q',loop U9 (Q++x::T,(Q.length:Int))=some (Q'++T)∧Q'.Perm (x::Q)∧Srt Xg Q':=by
  have hstop: ∀xs:List Pass,(fun s:Int×List Pass=>(U9 (s.2,s.1)).map pL) ((([]:List Pass).length:Int),xs)=some (.out xs):=fun xs=>by
    show (U9 (xs,0)).map pL=_
    unfold U9
    rfl
  have hF: ∀(U V:List Pass) (q y:Pass),([]:List Pass).length≤U.length→(U++q::y::V).length=(Q++x::T).length→(fun s:Int×List Pass=>(U9 (s.2,s.1)).map pL) (((U.length:Int)+1),U++q::y::V)=some (if Xg y q then .go ((U.length:Int),U++y::q::V)else .out (U++q::y::V)):=fun U V q y _ hl=>by
    show (U9 (U++q::y::V,(U.length:Int)+1)).map pL=_
    unfold U9
    have hb:U.length+2≤1000000:=by rw [← hl]at hN;simp at hN;omega
    have e1:D3 ((U.length:Int)+1 - 1)=(U.length:Int):=by rw [F1 (by omega)];omega
    have g1:C1 (U++q::y::V) ((U.length:Int)+1)=some y:=by rw [aL];exact Me _ _ _ _ (by simp)
    have g2:C1 (U++q::y::V) (U.length:Int)=some q:=Me _ _ _ _ rfl
    have s1:Lx (U++q::y::V) ((U.length:Int)+1) q=U++q::q::V:=by rw [aL,Ve _ _ _ _ _ (by simp)];simp
    have g3:C1 (U++q::q::V) (U.length:Int)=some q:=Me _ _ _ _ rfl
    have s2:Lx (U++q::q::V) (U.length:Int) y=U++y::q::V:=Ve _ _ _ _ _ rfl
    simp only [show decide (((U.length:Int)+1)>0)=true from bJ (by omega),bO,bS,e1,g1,g2,s1,g3,s2,lB]
    by_cases h1:y.From<q.From
    ·rw [bJ h1,show Xg y q=true from bJ (.inl h1)];rfl
    ·rw [bK h1]
     simp only [bX,bO,lB,bS,bY]
     by_cases h2:y.From=q.From
     ·rw [show (y.From==q.From)=true by simp [h2]]
      simp only [bO,lB,bS]
      by_cases h3:y.Zone_<q.Zone_
      ·rw [bJ h3,show Xg y q=true from bJ (.inr ⟨h2,h3⟩)];rfl
      ·rw [bK h3,show Xg y q=false from bK (by omega)];rfl
     ·rw [show (y.From==q.From)=false by simp [h2],show Xg y q=false from bK (by omega)];rfl
  obtain ⟨Q',h1,h2,h3⟩:=GJ ltP_ok (F:=fun s:Int×List Pass=>(U9 (s.2,s.1)).map pL) (P:= []) (T:=T) (Q++x::T).length hstop hF x Q.length Q [] rfl (by simpa using hs) (by simp) (by simp)
  refine ⟨Q',aP _ _ _ _ ?_,by simpa using h2,h3⟩
  have e:(((([]:List Pass).length+Q.length:Nat):Int),[]++Q++ [x]++T)=((Q.length:Int),Q++x::T):=by simp
  rw [e]at h1
  rw [h1];rfl
theorem nJ (A:List Pass)(hN:A.length≤1000000): ∃A',loop Ay (A,1)=some A'∧A'.Perm A∧Srt Xg A':=by
  have hend: ∀(xs:List Pass) (i:Nat),xs.length≤i→Ay (xs,(i:Int))=some (.out xs):=fun xs i hi=>by
    unfold Ay
    rw [show decide ((i:Int)< (xs.length:Int))=false from bK (by omega)];rfl
  have key: ∀(R Q:List Pass),(Q++R).length≤1000000→Srt Xg Q→∃A',loop Ay (Q++R,(Q.length:Int))=some A'∧A'.Perm (Q++R)∧Srt Xg A':=by
    intro R
    induction R with
    |nil=>
     intro Q hl hs
     exact ⟨Q,by rw [lP];exact C7 (hend _ _ (wH _)),by simp,hs⟩
    |cons x R ih=>
     intro Q hl hs
     obtain ⟨Q',k1,k2,k3⟩:=gY R x Q hs hl
     have hlq:Q'.length=Q.length+1:=by rw [k2.length_eq];simp
     simp only [lM,lL]at hl
     obtain ⟨A',g1,g2,g3⟩:=ih Q' (by rw [lM];omega) k3
     refine ⟨A',?_,g2.trans ((k2.append_right R).trans (List.perm_middle (a:=x) (l₁:=Q) (l₂:=R)).symm),g3⟩
     rw [← g1,hlq]
     refine J2 ?_
     unfold Ay
     dsimp only
     rw [show decide ((Q.length:Int)< ((Q++x::R).length:Int))=true from bJ (by simp;omega),bO,k1,lB,F1 (by omega)]
     congr 2
  cases A with
  |nil=>exact ⟨[],C7 (hend [] 1 (by simp)), .refl _,List.Pairwise.nil⟩
  |cons a A=>
   obtain ⟨A',g1,g2,g3⟩:=key A [a] (by simpa using hN) (List.pairwise_singleton _ _)
   exact ⟨A',g1,g2,g3⟩
theorem WQ {m:Map}(B:BearK m)(r:List Int)(hr:r.length≤1000000): ∃ps,W1 m r=some ps∧Ft m r=some ps∧ps.length≤16:=by
  by_cases q:P6 m r=0
  ·obtain ⟨a,t,rfl,R⟩:=chkRoute_zero.1 q
   obtain ⟨ps,p1,p2,p3,p4⟩:=OH B R
   refine ⟨ps,p1,?_,p4⟩
   have hm7:=R.most
   have hlen:(Lr m 0 (a::t)).length≤16:=by rw [← p2.length_eq];exact p4
   have h1:loop (Y9 m (a::t) (O1 m 0 (a::t))) ([],0)=some (Lr m 0 (a::t)):=by
     have:=qM B.toBearM R (a::t) 0 [] rfl (by omega) (by simp;omega)
     rw [lQ,Zm]at this
     exact this
   obtain ⟨A',g1,g2,g3⟩:=nJ (Lr m 0 (a::t)) (by omega)
   have:ps=A':=TJ p3 g3 (p2.trans g2.symm) fun x hx y hy=>aQ R x (p2.mem_iff.1 hx) y (p2.mem_iff.1 hy)
   unfold Ft
   rw [Td B.toBearM _ hr,lB,show StartsM m (a::t)=O1 m 0 (a::t) by unfold StartsM;rw [R.follow],h1,lB,g1,this];rfl
  ·refine ⟨[],?_,?_,by simp⟩
   ·have h1:loop (O6 m (Be m r)) ([],0)=some []:=by
      refine C7 ?_
      unfold O6
      rw [Tc q];rfl
    unfold W1
    rw [Ry B.toBearM r hr,lB,h1,lB,CX];rfl
   ·have h1:loop (Y9 m r []) ([],0)=some []:=C7 rfl
    obtain ⟨A',g1,g2,_⟩:=nJ [] (by simp)
    obtain rfl:A'= []:=List.length_eq_zero_iff.1 g2.length_eq
    unfold Ft
    rw [Td B.toBearM r hr,lB,StartsM,Tc q]
    dsimp only
    rw [h1,lB,g1];rfl
/-- How far it is to stop, by its sum. -/
def Xh (b:Int):Nat→Int→Int
  |0,_=>0
  |n+1,v=>if v≤b then 0 else (v - b)+Xh b n (v - b)
def Ok (v b:Int):Int:=Xh b v.toNat v
theorem LL {b:Int}(hb:0<b): ∀(n m:Nat) (v:Int),v≤n→v≤m→Xh b n v=Xh b m v
  |0,0,_,_,_=>rfl
  |0,m+1,v,h,_=>by rw [Xh,Xh,bQ (by omega)]
  |n+1,0,v,_,h=>by rw [Xh,Xh,bQ (by omega)]
  |n+1,m+1,v,h1,h2=>by
   rw [Xh,Xh]
   by_cases h:v≤b
   ·rw [bQ h,bQ h]
   ·rw [bR h,bR h,LL hb n m _ (by omega) (by omega)]
theorem Ig {v b:Int}(h:v≤b):Ok v b=0:=by
  unfold Ok
  cases v.toNat with
  |zero=>rfl
  |succ n=>rw [Xh,bQ h]
theorem Vf {v b:Int}(hb:0<b)(h:b<v):Ok v b=(v - b)+Ok (v - b) b:=by
  unfold Ok
  obtain ⟨n,hn⟩: ∃n,v.toNat=n+1:=⟨v.toNat - 1,by omega⟩
  rw [hn,Xh,bR (by omega),LL hb n (v - b).toNat _ (by omega) (by omega)]
theorem FD {P:Int→Prop}{b:Int}(hb:0<b)(h0: ∀v,v≤b→P v)(h1: ∀v,b<v→P (v - b)→P v)(v:Int):P v:=by
  have key: ∀(n:Nat) (v:Int),v≤n→P v:=by
    intro n
    induction n with
    |zero=>intro v hv;exact h0 v (by omega)
    |succ n ih=>
     intro v hv
     by_cases h:v≤b
     ·exact h0 v h
     ·exact h1 v (by omega) (ih _ (by omega))
  exact key v.toNat v (by omega)
theorem FE {b:Int}(hb:0<b)(v:Int):0≤Ok v b:=by
  refine FD (P:=fun v=>0≤Ok v b) hb (fun v h=>by rw [Ig h];exact Int.le_refl _) (fun v h ih=> ?_) v
  rw [Vf hb h];omega
/-- The closed form. -/
theorem gZ (n:Int):(n* (n+1)) % 2=0:=by
  rcases (show n % 2=0∨n % 2=1 by omega)with h|h
  ·rw [Int.mul_emod,h];simp
  ·rw [Int.mul_emod,Int.add_emod,h];simp
theorem WR {b:Int}(hb:0<b)(v:Int)(hv:1≤v):2*Ok v b=2* ((v - 1) / b*v) - b* ((v - 1) / b* ((v - 1) / b+1)):=by
  revert hv
  refine FD (P:=fun v=>1≤v→2*Ok v b=2* ((v - 1) / b*v) - b* ((v - 1) / b* ((v - 1) / b+1))) hb (fun v h hv=> ?_) (fun v h ih hv=> ?_) v
  ·have:(v - 1) / b=0:=Int.ediv_eq_zero_of_lt (by omega) (by omega)
   rw [Ig h,this];simp
  ·have ih:=ih (by omega)
   have e:(v - 1) / b=(v - b - 1) / b+1:=by
     rw [show v - 1=(v - b - 1)+b*1 by omega,Int.add_mul_ediv_left _ _ (by omega)]
   rw [Vf hb h,e]
   generalize (v - b - 1) / b=n at ih ⊢
   rw [Int.mul_add,ih]
   have a1:(n+1)*v=n*v+v:=by rw [Int.add_mul,Int.one_mul]
   have a2:n* (v - b)=n*v - n*b:=Int.mul_sub ..
   have a3:b* ((n+1)* (n+1+1))=b* (n* (n+1))+2* (n*b)+2*b:=by
     rw [show (n+1)* (n+1+1)=n* (n+1)+2*n+2 by
      rw [Int.add_mul,Int.mul_add n,Int.one_mul];omega,Int.mul_add,Int.mul_add,Int.mul_left_comm b 2 n,Int.mul_comm b n,Int.mul_comm b 2]
   rw [a1,a2,a3];omega
def Jm (v b:Int):Int:=if v<1∨b<1 then 0 else Ok (min v 1000000) (min b 1000000)
theorem TK {b:Int}(hb:0<b){v:Int}(h1:v≤1000000):0≤Ok v b∧Ok v b≤1000000000000:=by
  refine ⟨FE hb v,?_⟩
  have key: ∀v:Int,0≤v→Ok v b≤v*v:=by
    intro v
    refine FD (P:=fun v=>0≤v→Ok v b≤v*v) hb (fun v h hv=>by rw [Ig h];exact wO hv hv) (fun v h ih hv=> ?_) v
    have ih:=ih (by omega)
    rw [Vf hb h]
    have h1:(v - b)* (v - b)≤(v - 1)* (v - b):=Int.mul_le_mul_of_nonneg_right (by omega) (by omega)
    have h2:(v - 1)* (v - b)≤(v - 1)*v:=Int.mul_le_mul_of_nonneg_left (by omega) (by omega)
    have h3:(v - 1)*v=v*v - v:=by rw [Int.sub_mul,Int.one_mul]
    omega
  by_cases h0:0≤v
  ·have:=key v h0
   have:v*v≤1000000*1000000:=Int.mul_le_mul h1 h1 h0 (by omega)
   omega
  ·rw [Ig (by omega)];omega
theorem IS (v b:Int):Iq v b=some (Jm v b):=by
  unfold Iq Jm
  rw [Df,Df]
  by_cases h:v<1∨b<1
  ·rw [bQ h,show (decide (v<1)||decide (b<1))=true by simpa using h];rfl
  ·rw [bR h,show (decide (v<1)||decide (b<1))=false by simpa using h,bP]
   have hV:1≤min v 1000000∧min v 1000000≤1000000:=by omega
   have hB:1≤min b 1000000∧min b 1000000≤1000000:=by omega
   generalize min v 1000000=V at hV ⊢
   generalize min b 1000000=B at hB ⊢
   have hq0:0≤(V - 1) / B:=Int.ediv_nonneg (by omega) (by omega)
   have hq1:(V - 1) / B≤V - 1:=Int.ediv_le_self _ (by omega)
   have hq2:B* ((V - 1) / B)≤V - 1:=Int.mul_ediv_self_le (by omega)
   have hf:=WR (b:=B) (by omega) V hV.1
   unfold PP
   rw [F1 (by omega),bR (by omega),lB,wP (by omega)]
   generalize (V - 1) / B=n at hq0 hq1 hq2 hf ⊢
   have e0:IntKind.i64.wrap n=n:=F1 (by omega)
   rw [e0]
   have b1:0≤n*V∧n*V≤1000000*1000000:=⟨wO hq0 (by omega),Int.mul_le_mul (by omega) hV.2 (by omega) (by omega)⟩
   have b2:0≤n* (n+1)∧n* (n+1)≤1000000*1000000:=⟨wO hq0 (by omega),Int.mul_le_mul (by omega) (by omega) (by omega) (by omega)⟩
   have b3:0≤B* (n* (n+1))∧B* (n* (n+1))≤1000000*1000000:=by
     refine ⟨wO (by omega) b2.1,?_⟩
     rw [← Int.mul_assoc]
     exact Int.mul_le_mul (by omega) (by omega) (by omega) (by omega)
   have he:=gZ n
   have b4:B* (n* (n+1))=2* (B* (n* (n+1) / 2)):=by
     rw [Int.mul_left_comm 2 B,Int.mul_ediv_cancel' (Int.dvd_of_emod_eq_zero he)]
   rw [F1 (n:=n+1) (by omega),F1 (n:=n* (n+1)) (by omega),F1 (n:=n*V) (by omega),wP b2.1,F1 (n:=n* (n+1) / 2) (by omega),F1 (n:=B* (n* (n+1) / 2)) (by omega)]
   congr 1
   rw [F1 (by omega)]
   omega
theorem aR {b:Int}(hb:1≤b)(hb2:Mp false b 1000000=b)(v:Int): ∀a:Int,v≤1000000→0≤a→a+Ok v b≤4000000000000→loop (Dq b) (v,a)=some (a+Ok v b):=by
  refine FD (P:=fun v=> ∀a:Int,v≤1000000→0≤a→a+Ok v b≤4000000000000→loop (Dq b) (v,a)=some (a+Ok v b)) (b:=b) (by omega) (fun v h a _ _ _=> ?_) (fun v h ih a h1 h2 h3=> ?_) v
  ·rw [C7 (t:=a) (by unfold Dq;rw [hb2];simp [show ¬v>b by omega]),Ig h,Int.add_zero]
  ·have hr:=Vf (by omega) h
   have hn:=FE (b:=b) (by omega) (v - b)
   rw [J2 (s':=(v - b,a+ (v - b))) (by
    unfold Dq;rw [hb2]
    dsimp only
    rw [F1 (n:=v - b) (by omega),F1 (n:=a+ (v - b)) (by omega),bJ (show v>b by omega)];rfl),ih _ (by omega) (by omega) (by omega)]
   congr 1;omega
theorem TL (v b:Int):We v b=some (Jm v b):=by
  unfold We Jm
  rw [Df,Df]
  by_cases h:v<1∨b<1
  ·rw [bQ h,show (decide (min v 1000000<1)||decide (min b 1000000<1))=true by simp only [bV,bM];omega];rfl
  ·rw [bR h,show (decide (min v 1000000<1)||decide (min b 1000000<1))=false by simp only [wA,wC];omega,bP]
   have hB:1≤min b 1000000∧min b 1000000≤1000000:=by omega
   have hbd:=TK (b:=min b 1000000) (by omega) (v:=min v 1000000) (by omega)
   have e:Dq b=Dq (min b 1000000):=by
     funext x;unfold Dq;rw [Df,Df,show min (min b 1000000) 1000000=min b 1000000 by omega]
   rw [e,aR hB.1 (by rw [Df];omega) _ 0 (by omega) (by omega) (by omega)]
   show some (0+_)=_
   rw [Int.zero_add]
theorem WS {v b:Int}(hv:0≤v∧v≤1000000)(hb:1≤b∧b≤1000000):Jm v b=max 0 (v - b)+Jm (max 0 (v - b)) b:=by
  have e: ∀w,0≤w→w≤1000000→Jm w b=Ok w b:=by
    intro w h0 h1
    unfold Jm
    by_cases h:w<1
    ·rw [bQ (.inl h),Ig (by omega)]
    ·rw [bR (by omega),show min w 1000000=w by omega,show min b 1000000=b by omega]
  rw [e v hv.1 hv.2,e _ (by omega) (by omega)]
  by_cases h:v≤b
  ·rw [Ig h,show max 0 (v - b)=0 by omega,Ig (by omega)];rfl
  ·rw [Vf (by omega) (by omega),show max 0 (v - b)=v - b by omega]
structure SmallS (s:State):Prop where
  agents:s.Agents.length≤10
  ins:s.In.length≤20
  routes: ∀a∈s.Agents,a.Route.length≤10
/-! ### Copies -/
theorem Vg {α:Type}{l:List α}(h:l.length≤1000000):X6 ([]:List α) l=some l:=by
  rw [Fc (by simp;omega),lQ]
structure SizeS (s:State):Prop where
  agents:s.Agents.length≤1000
  ins:s.In.length≤1000000
  routes: ∀a∈s.Agents,a.Route.length≤1000
theorem SmallS.size {s:State}(h:SmallS s):SizeS s:=⟨by have:=h.agents;omega,by have:=h.ins;omega,fun a ha=>by have:=h.routes a ha;omega⟩
theorem OJ (F:Int×State→Option (Stp (Int×State) State))(s:State)(h:SizeS s)(l0:List Stay)
    (hF: ∀(i:Nat) (a:Agent) (t:State),s.Agents[i]? =some a→F ((i:Int),t)=(X6 t.Agents [a]).bind fun v=>some (.go (D3 ((i:Int)+1),⟨t.Tick,v,t.In⟩))) (h0: ∀t:State,F ((s.Agents.length:Int),t)=some (.out t)):
    loop F (0,⟨s.Tick,[],l0⟩)=some ⟨s.Tick,s.Agents,l0⟩:=by
  have key: ∀(r:List Agent) (i:Nat),s.Agents.drop i=r→i≤s.Agents.length→loop F ((i:Int),⟨s.Tick,s.Agents.take i,l0⟩)=some ⟨s.Tick,s.Agents,l0⟩:=by
    intro r
    induction r with
    |nil=>
     intro i hi hil
     have:=O0 hi
     obtain rfl:i=s.Agents.length:=by omega
     rw [C7 (h0 _),List.take_length]
    |cons a r ih=>
     intro i hi hil
     have hlt:=M9 hi
     have ha:=V0 hi
     have hh:=h.agents
     rw [J2 (s':=(((i+1:Nat):Int),⟨s.Tick,s.Agents.take (i+1),l0⟩)),ih (i+1) (K5 hi) hlt]
     rw [hF i a _ ha,Fc (by rw [lV];simp;omega),lB,G8 hlt (by omega),List.take_add_one,ha];rfl
  exact key s.Agents 0 rfl (by omega)
theorem hJ {s:State}(h:SizeS s):KS s=some s:=by
  unfold KS
  rw [Vg h.ins,lB,OJ (Pw s) s h s.In (fun i a t ha=> ?_) (fun t=>by unfold Pw;dsimp only;rw [H9];rfl)]
  ·rfl
  ·unfold Pw
   dsimp only
   rw [K0 (H5 ha),C3 ha,bO,lB,Vg (by have:=h.routes a (lG ha);omega),lB]
theorem aS {l:List Int}(h:l.length≤1000000):Kh l=some l:=Vg h
theorem HQ {a:Agent}(h:a.Route.length≤1000):Ea a=some a:=by
  unfold Ea
  rw [aS (by omega),lB]
theorem mH {s:State}(h:SizeS s):Ij s=some s:=by
  unfold Ij
  rw [show Ae s.In=some s.In from Vg h.ins,lB,OJ (Jo s) s h s.In (fun i a t ha=> ?_) (fun t=>by unfold Jo;dsimp only;rw [H9];rfl)]
  ·rfl
  ·unfold Jo
   dsimp only
   rw [K0 (H5 ha),C3 ha,bO,lB,HQ (h.routes a (lG ha)),lB]
/-! ### Equal states -/
/-- The last place up to a number. -/
def Ra (S:Int):Nat→Nat→List Int→Nat
  |_,b,[]=>b
  |i,b,x::r=>Ra S (i+1) (if x≤S then i else b) r
theorem TM (st:List Int)(S:Int): ∀(r:List Int) (i b:Nat),st.drop i=r→i≤st.length→(i=0→b=0)→(0<i→b<i∧(∃y,st[b]? =some y∧y≤S)∧∀(j:Nat) y,b<j→j<i→st[j]? =some y→S<y)→(∃y,st[0]? =some y∧y≤S)→
    (∃y,st[Ra S i b r]? =some y∧y≤S)∧∀(j:Nat) y,Ra S i b r<j→st[j]? =some y→S<y:=by
  intro r
  induction r with
  |nil=>
   intro i b hi hil h0 h1 hne
   have:=O0 hi
   obtain ⟨y0,g0,_⟩:=hne
   have:=H5 g0
   obtain ⟨q1,q2,q3⟩:=h1 (by omega)
   exact ⟨q2,fun j y hj hy=>q3 j y hj (by have:=H5 hy;omega) hy⟩
  |cons x r ih=>
   intro i b hi hil h0 h1 hne
   have hx:=V0 hi
   have hlt:=M9 hi
   unfold Ra
   refine ih (i+1) _ (K5 hi) hlt (by omega) (fun _=> ?_) hne
   by_cases q:x≤S
   ·rw [bQ q]
    exact ⟨by omega,⟨x,hx,q⟩,fun j y h2 h3=>by omega⟩
   ·rw [bR q]
    by_cases z:i=0
    ·subst z
     obtain ⟨y0,g0,g1⟩:=hne
     rw [hx]at g0;cases g0;exact absurd g1 q
    ·obtain ⟨q1,q2,q3⟩:=h1 (by omega)
     refine ⟨by omega,q2,fun j y h2 h3 hy=> ?_⟩
     by_cases e:j=i
     ·subst e;rw [hx]at hy;cases hy;omega
     ·exact q3 j y h2 (by omega) hy
theorem aT {st:List Int}{S:Int}(hne: ∃y,st[0]? =some y∧y≤S):(∃y,st[Ra S 0 0 st]? =some y∧y≤S)∧∀(j:Nat) y,Ra S 0 0 st<j→st[j]? =some y→S<y:=
  TM st S st 0 0 rfl (by omega) (fun _=>rfl) (fun h=>by omega) hne
theorem YN (g:Agent)(st:List Int)(hl:st.length≤1000000): ∀(r:List Int) (i b:Nat),st.drop i=r→i≤st.length→loop (Gl g st) ((b:Int),(i:Int))=some ((Ra g.S i b r:Nat):Int):=by
  intro r
  induction r with
  |nil=>
   intro i b hi hil
   have:=O0 hi
   obtain rfl:i=st.length:=by omega
   exact C7 (by unfold Gl;dsimp only;rw [H9];rfl)
  |cons x r ih=>
   intro i b hi hil
   have hx:=V0 hi
   have hlt:=M9 hi
   unfold Ra
   by_cases q:x≤g.S
   ·rw [bQ q,J2 (s':=((i:Int),((i+1:Nat):Int))),ih (i+1) i (K5 hi) hlt]
    unfold Gl;dsimp only
    rw [K0 hlt,C3 hx,bO,lB,bJ q,bO,G8 hlt (by omega)]
   ·rw [bR q,J2 (s':=((b:Int),((i+1:Nat):Int))),ih (i+1) b (K5 hi) hlt]
    unfold Gl;dsimp only
    rw [K0 hlt,C3 hx,bO,lB,bK q,bP,G8 hlt (by omega)]
theorem aU (g:Agent)(st:List Int)(hl:st.length≤1000000)(k:Nat)(hk: ∃y,st[k]? =some y∧y≤g.S)(hj: ∀(j:Nat) y,k<j→st[j]? =some y→g.S<y): ∀(n i:Nat),i=k+n→i<st.length→loop (Jp g st) (i:Int)=some (k:Int):=by
  intro n
  induction n with
  |zero=>
   intro i hi hil
   obtain ⟨y,h1,h2⟩:=hk
   obtain rfl:i=k:=by omega
   exact C7 (by unfold Jp;rw [C3 h1,lB,bK (show ¬y>g.S by omega)];rfl)
  |succ n ih=>
   intro i hi hil
   have h1:st[i]? =some st[i]:=lH hil
   have h2:=hj i _ (by omega) h1
   rw [J2 (s':=((i - 1:Nat):Int)) (by unfold Jp;rw [C3 h1,lB,bJ (show st[i]>g.S by omega),bO,F1 (by omega)];congr 2;omega)]
   exact ih (i - 1) (by omega) (by omega)
def CY (m:Map)(g:Agent):Nat:=Ra g.S 0 0 (StartsM m g.Route)
/-- The lane of an agent, and its offset. -/
def N5 (m:Map)(g:Agent):Int×Int:=(g.Route.getD (CY m g) 0,g.S - (StartsM m g.Route).getD (CY m g) 0)
theorem RouteOK.StartsM {m:Map}{a:Int}{t:List Int}(R:RouteOK m a t):StartsM m (a::t)=O1 m 0 (a::t):=by unfold World.StartsM;rw [R.follow]
theorem RouteOK.LongM {m:Map}{a:Int}{t:List Int}(R:RouteOK m a t):LongM m (a::t)=Ov m (a::t) (a::t).length:=by unfold World.LongM;rw [R.follow]
theorem Vh {m:Map}{a:Int}{t:List Int}(R:RouteOK m a t){g:Agent}(hg:g.Route=a::t)(h0:0≤g.S):
    ∃x,CY m g< (a::t).length∧(a::t)[CY m g]? =some x∧N5 m g=(x,g.S - Ov m (a::t) (CY m g))∧Ov m (a::t) (CY m g)≤g.S∧(∀j,CY m g<j→j< (a::t).length→g.S<Ov m (a::t) j):=by
  have hl:=Ku m (a::t) 0
  have h00:(O1 m 0 (a::t))[0]? =some 0:=by rw [O1];rfl
  obtain ⟨⟨y,y1,y2⟩,y3⟩:=aT (st:=O1 m 0 (a::t)) (S:=g.S) ⟨0,h00,h0⟩
  have e:CY m g=Ra g.S 0 0 (O1 m 0 (a::t)):=by unfold CY;rw [hg,R.StartsM]
  rw [← e]at y1 y3
  have hlt:=H5 y1
  rw [hl]at hlt
  have hy:y=Ov m (a::t) (CY m g):=by
    have:=Nk m (a::t) 0 (CY m g) hlt
    rw [y1,Int.zero_add]at this
    exact lD this
  refine ⟨(a::t)[CY m g],hlt,lH hlt,?_,by omega,fun j hj hjl=> ?_⟩
  ·unfold N5
   rw [hg,R.StartsM,List.getD,List.getD,lH hlt,y1,hy];rfl
  ·have:=Nk m (a::t) 0 j hjl
   rw [Int.zero_add]at this
   exact y3 j _ hj this
theorem TN {m:Map}(B:BearM m){a:Int}{t:List Int}(R:RouteOK m a t){g:Agent}(hg:g.Route=a::t)(h0:0≤g.S)(h1:g.S≤9223372036854775807):Ik m g=some (N5 m g)∧Pi m g=some (N5 m g):=by
  obtain ⟨x,q1,q2,q3,q4,q5⟩:=Vh R hg h0
  have hm7:=R.most
  have hr:g.Route.length≤1000000:=by rw [hg];simp;omega
  have hl:=Ku m (a::t) 0
  have hbd:=R.bd (i:=CY m g) (by omega)
  have hs:C1 (O1 m 0 (a::t)) ((CY m g:Nat):Int)=some (Ov m (a::t) (CY m g)):=RouteOK.starts q1
  have hk:(O1 m 0 (a::t))[CY m g]? =some (Ov m (a::t) (CY m g)):=by rw [Nk m _ 0 _ q1,Int.zero_add];rfl
  constructor
  ·unfold Ik
   rw [GL B _ hr,lB,hg,R.StartsM]
   have hn:D3 (((O1 m 0 (a::t)).length:Int) - 1)=((t.length:Nat):Int):=by rw [hl,F1 (by simp;omega)];simp
   rw [hn,aU g _ (by rw [hl];simp;omega) (CY m g) ⟨_,hk,q4⟩ (fun j y hj hy=>by
    have hjl:=H5 hy
    rw [hl]at hjl
    have:=Nk m (a::t) 0 j hjl
    rw [hy,Int.zero_add]at this
    cases this
    exact q5 j hj hjl) (t.length - CY m g) t.length (by simp only [lL]at q1;omega) (by rw [hl];simp),lB,C3 q2,lB,hs,lB,q3,F1 (by omega)]
  ·unfold Pi
   rw [Td B _ hr,lB,hg,R.StartsM]
   have:=YN g (O1 m 0 (a::t)) (by rw [hl];simp;omega) (O1 m 0 (a::t)) 0 0 rfl (by omega)
   have e:CY m g=Ra g.S 0 0 (O1 m 0 (a::t)):=by unfold CY;rw [hg,R.StartsM]
   rw [← e]at this
   rw [show ((0:Int),(0:Int))=(((0:Nat):Int),((0:Nat):Int)) from rfl,this,lB,C3 q2,lB,hs,lB,q3,F1 (by omega)]
def Z8 (m:Map)(x:Int):Int:=((m.Lanes[x.toNat]?).map (·.Kind)).getD 0
/-- The greatest speed, acceleration and braking where an agent is. -/
def P2 (m:Map)(g:Agent):Int×Int×Int:=U3 (Z8 m (N5 m g).1)
def Vi (m:Map)(g:Agent):Bool:=decide (D3 (g.S - g.Len)>LongM m g.Route)
def QL (g:Agent):Bool:=(((decide (g.Len<300)||decide (g.Len>20000))||decide (g.Begin<0))||decide (g.Begin>1099511627776))||decide (g.S<0)
/-- The error of an agent of a state. -/
def Ej (m:Map)(s:State)(i:Int)(g:Agent):Int:=
  if P6 m g.Route=0 then
   if QL g=true∨g.S>LongM m g.Route+g.Len+2000 then 2
   else if g.V<0∨g.V>(P2 m g).1 then 2
   else if g.Gone≠Vi m g∨(g.Begin>s.Tick∧g.S≠0)∨(i=0∧g.Begin≠0)then 10 else 0
  else 13
theorem Mf {m:Map}{a:Int}{t:List Int}(R:RouteOK m a t):1000≤LongM m (a::t)∧LongM m (a::t)≤134217728:=by
  have h1:=R.bd (wH _)
  have h2:=R.lt (i:=0) (j:=(a::t).length) (by simp) (wH _)
  rw [Zm]at h2
  rw [R.LongM];omega
theorem QM {m:Map}(B:BearM m){g:Agent}(hr:g.Route.length≤1000000):Ga m g=some (Vi m g)∧Ms m g=some (Vi m g):=by
  constructor
  ·unfold Ga Ag
   rw [lB,YM B _ hr];rfl
  ·unfold Ms
   rw [FC B _ hr];rfl
theorem GN {m:Map}{a:Int}{t:List Int}(R:RouteOK m a t){g:Agent}(hg:g.Route=a::t)(h0:0≤g.S): ∃l,C1 m.Lanes (N5 m g).1=some l∧Z8 m (N5 m g).1=l.Kind∧m.Lanes[(N5 m g).1.toNat]? =some l:=by
  obtain ⟨x,q1,q2,q3,_⟩:=Vh R hg h0
  have hx:=R.mem (lG q2)
  have hl:m.Lanes[x.toNat]? =some m.Lanes[x.toNat]:=lH (by omega)
  have hg:=C3 hl
  rw [wG hx.1]at hg
  refine ⟨_,by rw [q3];exact hg,?_,by rw [q3];exact hl⟩
  rw [q3];unfold Z8
  dsimp only
  rw [hl];rfl
theorem LM {g:Agent}(h:QL g=false):300≤g.Len∧g.Len≤20000∧0≤g.Begin∧g.Begin≤1099511627776∧0≤g.S:=by
  unfold QL at h
  simp only [wA,wC]at h
  omega
theorem TO {m:Map}(B:BearM m)(s:State){i:Int}{g:Agent}(hi:C1 s.Agents i=some g)(hr:g.Route.length≤1000)(hS:g.S≤9223372036854775807):
    Z2 m s i=some (Ej m s i g)∧Hj m s i=some (Ej m s i g):=by
  have hr':g.Route.length≤1000000:=by omega
  unfold Z2 Hj Ej
  rw [hi,lB,lB,BM B _ hr',Oj B _ hr',lB,lB]
  by_cases q:P6 m g.Route=0
  case neg=>
    rw [bR q,show (P6 m g.Route !=0)=true by simpa using q]
    exact ⟨rfl,rfl⟩
  rw [bQ q,q,show ((0:Int) !=0)=false from rfl,bP,bP]
  obtain ⟨a,t,ht,R⟩:=chkRoute_zero.1 q
  have hL:=Mf R
  rw [← ht]at hL
  rw [YM B _ hr',FC B _ hr']
  have e:((((decide (g.Len<300)||decide (g.Len>20000))||decide (g.Begin<0))||decide (g.Begin>1099511627776))||decide (g.S<0))=QL g:=rfl
  rw [e]
  by_cases o:QL g=true
  ·rw [bQ (.inl o),o];exact ⟨rfl,rfl⟩
  have o':QL g=false:=by simpa using o
  obtain ⟨o1,o2,o3,o4,o5⟩:=LM o'
  rw [o',bX,bO,lB,lB,bY,F1 (n:=LongM m g.Route+g.Len) (by omega),F1 (n:=LongM m g.Route+g.Len+2000) (by omega)]
  by_cases l:g.S>LongM m g.Route+g.Len+2000
  ·rw [bQ (.inr l),bJ l];exact ⟨rfl,rfl⟩
  rw [bR (fun h=>h.elim (fun h=>by cases h) l),bK l,bP,bP]
  obtain ⟨l1,l2⟩:=TN B R ht o5 hS
  obtain ⟨ln,k1,k2,_⟩:=GN R ht o5
  rw [l1,l2,lB,lB,k1,lB,lB,Uz,Mv,lB,lB]
  have ev:(P2 m g).1=(U3 ln.Kind).1:=by unfold P2;rw [k2]
  rw [ev]
  by_cases v:g.V<0∨g.V>(U3 ln.Kind).1
  ·rw [bQ v,show (decide (g.V<0)||decide (g.V>(U3 ln.Kind).1))=true by simpa using v];exact ⟨rfl,rfl⟩
  rw [bR v,show (decide (g.V<0)||decide (g.V>(U3 ln.Kind).1))=false by rw [bZ];simpa using v,bP,bP,(QM B hr').1,(QM B hr').2,lB,lB]
  have hb: ∀b:Bool,(b=true↔g.Gone≠Vi m g∨(g.Begin>s.Tick∧g.S≠0)∨(i=0∧g.Begin≠0))→cond b (some (10:Int)) (some 0)=some (if g.Gone≠Vi m g∨(g.Begin>s.Tick∧g.S≠0)∨(i=0∧g.Begin≠0)then 10 else 0):=by
    intro b hb
    by_cases h:g.Gone≠Vi m g∨(g.Begin>s.Tick∧g.S≠0)∨(i=0∧g.Begin≠0)
    ·rw [bQ h,hb.2 h];rfl
    ·rw [bR h]
     cases b
     ·rfl
     ·exact absurd (hb.1 rfl) h
  exact ⟨hb _ (by simp),hb _ (by simp [or_assoc])⟩
/-! ### The whole check -/
def Gv (a b:Stay):Bool:=decide (a.Agent_<b.Agent_)||(a.Agent_==b.Agent_&&decide (a.Zone_<b.Zone_))
theorem WT (a b:Int):Bk [a,b]=some (if a≠0 then a else b):=by
  unfold Bk
  by_cases h:a=0
  ·subst h
   rw [J2 (s':=1) rfl,bR (by simp)]
   by_cases h:b=0
   ·subst h;rw [J2 (s':=2) rfl,C7 (t:= .inl ()) rfl];rfl
   ·rw [C7 (t:= .inr b) (by unfold Aa;rw [show C1 [(0:Int),b] 1=some b from rfl,lB,show (b !=0)=true by simpa using h];rfl)];rfl
  ·rw [C7 (t:= .inr a) (by unfold Aa;rw [show C1 [a,b] 0=some a from rfl,lB,show (a !=0)=true by simpa using h];rfl),bQ h];rfl
/-- What the order of two stays is. -/
def MT (a b:Stay):Int:=if FB a.Agent_ b.Agent_≠0 then FB a.Agent_ b.Agent_ else FB a.Zone_ b.Zone_
theorem LN (a b:Stay):Dl a b=some (MT a b):=by
  unfold Dl MT
  rw [Tb,lB,Tb,lB,WT,lB]
theorem TP (a b:Stay):decide (MT a b≥0)= !Gv a b:=by
  unfold MT Gv FB
  by_cases h1:a.Agent_<b.Agent_
  ·simp [h1]
  ·by_cases h2:a.Agent_>b.Agent_
   ·have:a.Agent_≠b.Agent_:=by omega
    simp [h1,h2,this]
   ·have:a.Agent_=b.Agent_:=by omega
    by_cases h3:a.Zone_<b.Zone_
    ·simp [this,h3]
    ·by_cases h4:a.Zone_>b.Zone_
     ·simp [this,h3,h4]
     ·simp [this,h3,h4]
def Xi (m:Map)(s:State)(x:Stay):Bool:=((decide (x.Agent_<0)||decide (x.Agent_≥(s.Agents.length:Int)))||decide (x.Zone_<0))||decide (x.Zone_≥(m.Zones.length:Int))
def cO (m:Map)(s:State)(i:Nat)(x:Stay):Option Int:=if Xi m s x=true∨(0<i∧∃y,s.In[i - 1]? =some y∧Gv y x=false)then some 11 else none
def Tj (s:State)(x:Stay):Bool:=((decide (x.Since<0)||decide (x.Since>s.Tick))||decide (x.Rank<0))||decide (x.Rank>100)
def Pp (m:Map)(s:State):Int:=
  if Vc m=0 then
   if s.Tick<0∨s.Tick>1099511627776 then 2 else if s.Agents.length=0 then 6 else if 8<s.Agents.length then 8
   else match I7 (fun i g=>if Ej m s (i:Int) g=0 then none else some (Ej m s (i:Int) g)) 0 s.Agents with
     |some e=>e
     |none=>match I7 (cO m s) 0 s.In with
      |some e=>e
      |none=>if s.In.any (Tj s)=true then 2 else 0
  else Vc m
theorem TQ {m:Map}(B:BearM m){s:State}(h:SizeS s)(hw: ∀g∈s.Agents,g.S≤9223372036854775807):
    loop (Ai m s) 0=some (GF (I7 (fun i g=>if Ej m s (i:Int) g=0 then none else some (Ej m s (i:Int) g)) 0 s.Agents))∧
    loop (Ho m s) 0=some (GF (I7 (fun i g=>if Ej m s (i:Int) g=0 then none else some (Ej m s (i:Int) g)) 0 s.Agents)):=by
  have hh:=h.agents
  constructor
  ·refine Z6 s.Agents _ _ (fun i g hg=> ?_) (by unfold Ai;rw [H9];rfl)
   have hm:=lG hg
   unfold Ai
   rw [K0 (H5 hg),bO,(TO B s (C3 hg) (h.routes g hm) (hw g hm)).1,lB]
   by_cases q:Ej m s (i:Int) g=0
   ·rw [bQ q,q,show ((0:Int) !=0)=false from rfl,bP,G8 (H5 hg) (by omega)]
   ·rw [bR q,show (Ej m s (i:Int) g !=0)=true by simpa using q];rfl
  ·refine Z6 s.Agents _ _ (fun i g hg=> ?_) (by unfold Ho;rw [H9];rfl)
   have hm:=lG hg
   unfold Ho
   rw [K0 (H5 hg),bO,(TO B s (C3 hg) (h.routes g hm) (hw g hm)).2,lB]
   by_cases q:Ej m s (i:Int) g=0
   ·rw [bQ q,q,show ((0:Int) !=0)=false from rfl,bP,G8 (H5 hg) (by omega)]
   ·rw [bR q,show (Ej m s (i:Int) g !=0)=true by simpa using q];rfl
theorem TR {α:Type}{l:List α}{i:Nat}{a:α}(h:l[i]? =some a)(h0:0<i): ∃y,l[i - 1]? =some y∧C1 l (D3 ((i:Int) - 1))=some y∨1000000000000<i:=by
  by_cases hb:1000000000000<i
  ·exact ⟨a, .inr hb⟩
  ·have:=H5 h
   have e:l[i - 1]? =some l[i - 1]:=lH (by omega)
   refine ⟨_, .inl ⟨e,?_⟩⟩
   rw [F1 (by omega),show (i:Int) - 1=((i - 1:Nat):Int) by omega]
   exact C3 e
theorem hO (m:Map){s:State}(h:SizeS s):
    loop (Ah m s) 0=some (GF (I7 (cO m s) 0 s.In))∧loop (Hm m s) 0=some (GF (I7 (cO m s) 0 s.In)):=by
  have hh:=h.ins
  constructor
  ·refine Z6 s.In _ _ (fun i x hx=> ?_) (by unfold Ah;rw [H9];rfl)
   have hi:=H5 hx
   unfold Ah
   rw [K0 hi,bO,C3 hx,lB]
   have e:(((decide (x.Agent_<0)||decide (x.Agent_≥(s.Agents.length:Int)))||decide (x.Zone_<0))||decide (x.Zone_≥(m.Zones.length:Int)))=Xi m s x:=rfl
   rw [e]
   unfold cO
   by_cases hb:Xi m s x=true
   ·rw [hb,bQ (.inl rfl)];rfl
   have hb':Xi m s x=false:=by simpa using hb
   rw [hb',bX,bS]
   by_cases h0:0<i
   ·obtain ⟨y,hy⟩:=TR hx h0
    rcases hy with ⟨y1,y2⟩|hy
    ·rw [bJ (show (i:Int)>0 by omega),bO,y2,lB,bO,LN,lB,bY,bS,TP]
     by_cases q:Gv y x=true
     ·rw [q,bR (by rintro (h|⟨_,z,z1,z2⟩);exact (by cases h);rw [y1]at z1;cases z1;rw [q]at z2;cases z2),bW,bP,G8 hi (by omega)]
     ·have q':Gv y x=false:=by simpa using q
      rw [q',bQ (.inr ⟨h0,y,y1,q'⟩)];rfl
    ·omega
   ·rw [bK (show ¬(i:Int)>0 by omega),bP,lB,bP,lB,bY,bT,bP,bR (by rintro (h|⟨h,_⟩);exact (by cases h);exact h0 h),G8 hi (by omega)]
  ·refine Z6 s.In _ _ (fun i x hx=> ?_) (by unfold Hm;rw [H9];rfl)
   have hi:=H5 hx
   unfold Hm
   rw [K0 hi,bO,C3 hx,lB]
   have e:(((decide (x.Agent_<0)||decide (x.Agent_≥(s.Agents.length:Int)))||decide (x.Zone_<0))||decide (x.Zone_≥(m.Zones.length:Int)))=Xi m s x:=rfl
   rw [e]
   unfold cO
   by_cases hb:Xi m s x=true
   ·rw [hb,bQ (.inl rfl)];rfl
   have hb':Xi m s x=false:=by simpa using hb
   rw [hb',bP]
   by_cases h0:0<i
   ·obtain ⟨y,hy⟩:=TR hx h0
    rcases hy with ⟨y1,y2⟩|hy
    ·rw [bJ (show (i:Int)>0 by omega),bO,y2,lB,bS]
     have hc: ∀b:Bool,(cond b (some y) (some default)).bind (fun v=>some v)=some (cond b y default):=by intro b;cases b<;>rfl
     by_cases q1:x.Agent_<y.Agent_
     ·rw [bJ q1,bQ (.inr ⟨h0,y,y1,by unfold Gv;simp;omega⟩)];rfl
     ·rw [bK q1,bX,bO,lB,bS]
      by_cases q2:x.Agent_=y.Agent_
      ·rw [show (x.Agent_==y.Agent_)=true by simpa using q2,bO,lB,bY,bS,bS]
       by_cases q3:x.Zone_≤y.Zone_
       ·rw [bJ q3,bQ (.inr ⟨h0,y,y1,by unfold Gv;simp;omega⟩)];rfl
       ·rw [bK q3,bR (by rintro (h|⟨_,z,z1,z2⟩);exact (by cases h);rw [y1]at z1;cases z1;unfold Gv at z2;simp at z2;omega),bP,G8 hi (by omega)]
      ·rw [show (x.Agent_==y.Agent_)=false by simpa using q2,bP,lB,bY,bS,bT,bP,bR (by rintro (h|⟨_,z,z1,z2⟩);exact (by cases h);rw [y1]at z1;cases z1;unfold Gv at z2;simp at z2;omega),G8 hi (by omega)]
    ·omega
   ·rw [bK (show ¬(i:Int)>0 by omega),bP,lB]
    simp only [bT,bP,lB]
    rw [bR (by rintro (h|⟨h,_⟩);exact (by cases h);exact h0 h),G8 hi (by omega)]
theorem Ol {α:Type}(l:List α)(P:α→Bool)(F:Int→Option (Stp Int (Sum Unit Int)))(hl:l.length≤1000000000)(hF: ∀(i:Nat) a,l[i]? =some a→F (i:Int)=some (if P a then .out (.inr (i:Int))else .go (D3 ((i:Int)+1))))(h0:F (l.length:Int)=some (.out (.inl ()))):
    (thenS (loop F 0) (fun _=>some (-1)) (fun r=>some r)).bind (fun v=>some (decide (v≥0)))=some (l.any P):=by
  rw [LA l P hl hF h0]
  have:=Va P l
  unfold EX at this
  cases hq:l.findIdx? P with
  |some i=>rw [hq]at this;show some _=_;rw [← this]
  |none=>rw [hq]at this;show some _=_;rw [← this]
theorem mI {s:State}(h:SizeS s):F8 s.In s=some (s.In.any (Tj s)):=by
  have hh:=h.ins
  unfold F8 K1
  refine Ol s.In (Tj s) _ (by omega) (fun i x hx=> ?_) (by unfold M1;rw [H9];rfl)
  unfold M1 Ml
  rw [K0 (H5 hx),C3 hx,bO,lB,lB]
  have e:(((decide (x.Since<0)||decide (x.Since>s.Tick))||decide (x.Rank<0))||decide (x.Rank>100))=Tj s x:=rfl
  rw [e]
  cases Tj s x<;>rfl
theorem hQ {s:State}(h:SizeS s):thenS (loop (Hl s) 0) (fun _=>some 0) (fun r=>some r)=some (if s.In.any (Tj s)=true then 2 else 0):=by
  have hh:=h.ins
  rw [Z6 s.In _ (fun _ x=>if Tj s x=true then some 2 else none) (fun i x hx=> ?_) (by unfold Hl;rw [H9];rfl)]
  ·by_cases q:s.In.any (Tj s)=true
   ·rw [bQ q]
    cases hf:I7 (fun _ x=>if Tj s x=true then some (2:Int)else none) 0 s.In with
    |some e=>
     have: ∀(l:List Stay) (i:Nat),I7 (fun _ x=>if Tj s x=true then some (2:Int)else none) i l=some e→e=2:=by
       intro l
       induction l with
       |nil=>intro i h;cases h
       |cons a l ih=>
        intro i h
        unfold I7 at h
        by_cases z:Tj s a=true
        ·rw [bQ z]at h;cases h;rfl
        ·rw [bR z]at h;exact ih _ h
     rw [this _ _ hf];rfl
    |none=>
     obtain ⟨x,x1,x2⟩:=lZ.1 q
     obtain ⟨j,hj⟩:=bG x1
     have:=firstE_none.1 hf j x hj
     rw [bQ x2]at this;cases this
   ·rw [bR q,firstE_none.2 fun j x hj=> ?_]
    ·rfl
    ·by_cases z:Tj s x=true
     ·exact absurd (lZ.2 ⟨x,lG hj,z⟩) q
     ·rw [bR z]
  ·unfold Hl
   rw [K0 (H5 hx),C3 hx,bO,lB]
   have e:(((decide (x.Since<0)||decide (x.Since>s.Tick))||decide (x.Rank<0))||decide (x.Rank>100))=Tj s x:=rfl
   rw [e]
   by_cases z:Tj s x=true
   ·rw [bQ z,z];rfl
   ·rw [bR z,show Tj s x=false by simpa using z,bP,G8 (H5 hx) (by omega)]
theorem LO {m:Map}(B:BearM m){s:State}(h:SizeS s)(hw: ∀g∈s.Agents,g.S≤9223372036854775807):Dm m s=some (Pp m s)∧Nh m s=some (Pp m s):=by
  obtain ⟨a1,a2⟩:=TQ B h hw
  obtain ⟨i1,i2⟩:=hO m h
  unfold Dm Nh Pp
  rw [Oi B,Sy B,lB,lB]
  by_cases q:Vc m=0
  case neg=>rw [bR q,show (Vc m !=0)=true by simpa using q];exact ⟨rfl,rfl⟩
  rw [bQ q,q,show ((0:Int) !=0)=false from rfl,bP,bP]
  by_cases t:s.Tick<0∨s.Tick>1099511627776
  ·rw [bQ t,show (decide (s.Tick<0)||decide (s.Tick>1099511627776))=true by simpa using t];exact ⟨rfl,rfl⟩
  rw [bR t,show (decide (s.Tick<0)||decide (s.Tick>1099511627776))=false by rw [bZ];simpa using t,bP,bP]
  by_cases n0:s.Agents.length=0
  ·rw [bQ n0,show (((s.Agents.length:Nat):Int)==0)=true by rw [n0];rfl];exact ⟨rfl,rfl⟩
  rw [bR n0,show (((s.Agents.length:Nat):Int)==0)=false by simpa using (show ((s.Agents.length:Nat):Int)≠0 by omega),bP,bP]
  by_cases n8:8<s.Agents.length
  ·rw [bQ n8,bJ (show (s.Agents.length:Int)>8 by omega)];exact ⟨rfl,rfl⟩
  rw [bR n8,bK (show ¬(s.Agents.length:Int)>8 by omega),bP,bP,a1,a2]
  cases I7 (fun i g=>if Ej m s (i:Int) g=0 then none else some (Ej m s (i:Int) g)) 0 s.Agents with
  |some e=>exact ⟨rfl,rfl⟩
  |none=>
   show thenS _ _ _=_∧thenS _ _ _=_
   rw [i1,i2]
   cases I7 (cO m s) 0 s.In with
   |some e=>exact ⟨rfl,rfl⟩
   |none=>
    refine ⟨?_,hQ h⟩
    show (F8 s.In s).bind _=_
    rw [mI h,lB]
    cases s.In.any (Tj s)<;>rfl
/-- A map of the kit. -/
structure KitM (m:Map):Prop extends BearK m where
  val:ValR m
theorem mJ (n:Int): ∃m,Zz n=some m∧KitM m∧∃k p,k<8∧ParOK p∧m=FA k p:=by
  obtain ⟨k,p,hk,hp,hm⟩:=WI n
  exact ⟨_,hm,⟨⟨gM hp,(HL k p.r).1⟩,kQ hk hp⟩,k,p,hk,hp,rfl⟩
theorem KitM.chk {m:Map}(K:KitM m):Vc m=0:=chkR_zero.2 K.val
/-- Who is there. -/
def S3 (s:State)(i:Int):Bool:=match C1 s.Agents i with
  |some g=> !g.Gone&&decide (g.Begin≤s.Tick)
  |none=>false
theorem GO {α:Type}{l:List α}{i:Int}(h: ¬(0≤i∧i<l.length)):C1 l i=none:=by
  unfold C1
  by_cases h0:0≤i
  ·rw [bQ h0]
   exact lJ (by omega)
  ·rw [bR h0]
theorem Rz {α:Type}{l:List α}{i:Int}(h0:0≤i)(h1:i<l.length): ∃a,C1 l i=some a∧l[i.toNat]? =some a:=by
  have:l[i.toNat]? =some l[i.toNat]:=lH (by omega)
  exact ⟨_,by unfold C1;rw [bQ h0];exact this,this⟩
theorem Om (s:State)(i:Int):Ia s i=some (S3 s i)∧Fs s i=some (S3 s i):=by
  unfold Ia Fs S3
  by_cases h:0≤i∧i<s.Agents.length
  ·obtain ⟨g,hg,_⟩:=Rz h.1 h.2
   rw [show (decide (i≥0)&&decide (i< (s.Agents.length:Int)))=true by simp only [bU,bM];exact h,bO,hg,lB,lB]
   simp only [bO,lB,bS]
   constructor
   ·cases g.Gone<;>simp
   ·by_cases q:g.Begin≤s.Tick<;>simp [q]
  ·rw [show (decide (i≥0)&&decide (i< (s.Agents.length:Int)))=false by rw [bZ];simp only [ne_eq,bU,bM];exact h,GO h]
   exact ⟨rfl,rfl⟩
/-- A red line before which an agent could stop, and then cannot. -/
def Hb (f v nxt b line:Int):Bool:=(decide (line>f)&&decide (D3 (f+Jm v b)<line))&&decide (D3 (D3 (f+nxt)+Jm nxt b)≥line)
def Iy (R:List Int)(f v nxt b:Int):Bool:= !R.any (Hb f v nxt b)
theorem TS (R:List Int)(hR:R.length≤1000)(f v nxt b:Int):Ie R f v nxt b=some (Iy R f v nxt b):=by
  unfold Ie H6 I3
  rw [Ol R (Hb f v nxt b) _ (by omega) (fun i x hx=> ?_) (by unfold L3;rw [H9];rfl)]
  ·rfl
  ·unfold L3 Em
   rw [K0 (H5 hx),C3 hx,bO,lB,IS,IS]
   have e:((cond (decide (x>f)) (some (Jm v b)) (some default)).bind fun v1=>(cond (decide (x>f)&&decide (D3 (f+v1)<x)) (some (Jm nxt b)) (some default)).bind fun v2=>some ((decide (x>f)&&decide (D3 (f+v1)<x))&&decide (D3 (D3 (f+nxt)+v2)≥x)))=some (Hb f v nxt b x):=by
     unfold Hb
     cases decide (x>f)
     ·rfl
     ·simp only [bO,lB,bS]
      cases decide (D3 (f+Jm v b)<x)<;>rfl
   rw [e,lB]
   cases Hb f v nxt b x<;>rfl
theorem TT (R:List Int)(hR:R.length≤1000)(f v nxt b:Int):Zf R f v nxt b=some (Iy R f v nxt b):=by
  unfold Zf Iy
  rw [Z6 R _ (fun _ x=>if Hb f v nxt b x=true then some false else none) (fun i x hx=> ?_) (by unfold Sv;rw [H9];rfl)]
  ·have key: ∀(l:List Int) (i:Nat),thenS (some (GF (I7 (fun _ x=>if Hb f v nxt b x=true then some false else none) i l))) (fun _=>some true) (fun r=>some r)=some (!l.any (Hb f v nxt b)):=by
     intro l
     induction l with
     |nil=>intro i;rfl
     |cons x l ih=>
      intro i
      unfold I7
      by_cases z:Hb f v nxt b x=true
      ·rw [bQ z,bH,z];rfl
      ·rw [bR z,bH,show Hb f v nxt b x=false by simpa using z,bY]
       exact ih _
   exact key R 0
  ·unfold Sv
   rw [K0 (H5 hx),C3 hx,bO,lB,TL,TL]
   have e:((cond (decide (x>f)) (some (Jm v b)) (some default)).bind fun v2=>(cond (decide (x>f)) (some x) (some default)).bind fun v3=>(cond (decide (x>f)&&decide (D3 (f+v2)<v3)) (some (Jm nxt b)) (some default)).bind fun v4=>(cond (decide (x>f)&&decide (D3 (f+v2)<v3)) (some x) (some default)).bind fun v5=>cond ((decide (x>f)&&decide (D3 (f+v2)<v3))&&decide (D3 (D3 (f+nxt)+v4)≥v5)) (some (Stp.out (Sum.inr false))) (some (Stp.go (D3 ((i:Int)+1)))))=(some (if Hb f v nxt b x=true then Stp.out (Sum.inr false)else Stp.go (D3 ((i:Int)+1))):Option (Stp Int (Sum Unit Bool))):=by
     unfold Hb
     cases decide (x>f)
     ·rfl
     ·simp only [bO,lB,bS]
      cases decide (D3 (f+Jm v b)<x)
      ·rfl
      ·simp only [bO,lB,bS]
       cases decide (D3 (D3 (f+nxt)+Jm nxt b)≥x)<;>rfl
   rw [e]
   by_cases z:Hb f v nxt b x=true
   ·rw [bQ z,bQ z]
   ·rw [bR z,bR z,G8 (H5 hx) (by omega)]
/-- The red lines of a lane. -/
def LP (m:Map)(lane tick:Int):List Int:=(Ew m lane tick).getD []
theorem iA {m:Map}(B:BearM m)(lane tick:Int):Ew m lane tick=some (LP m lane tick)∧Nj m lane tick=some (LP m lane tick)∧(LP m lane tick).length≤1000:=by
  obtain ⟨R,h1,h2,h3⟩:=kY B lane tick
  unfold LP
  rw [h1,h2]
  exact ⟨rfl,rfl,h3⟩
def Y4 (g:Agent)(most act:Int):Int:=max 0 (min (D3 (g.V+act)) most)
/-- The acceleration, made less as long as it has to be. -/
def Ox (K:Int→Bool)(low:Int):Nat→Int→Int
  |0,act=>act
  |n+1,act=>if act>low∧K act=false then Ox K low n (act - 1)else act
theorem QN {K:Int→Bool}{low:Int}: ∀(n:Nat) (act:Int),low≤act→low≤Ox K low n act∧Ox K low n act≤act
  |0,act,h=>by rw [Ox];omega
  |n+1,act,h=>by
   rw [Ox]
   split
   ·rename_i q
    have:=QN (K:=K) (low:=low) n (act - 1) (by omega);omega
   ·omega
/-- An agent that is there, after a tick. -/
def Dr (m:Map)(g:Agent)(tick act:Int):Int:=
  let L:=N5 m g;let t:=P2 m g;let act0:=max (-t.2.2) (min act t.2.1)
  if g.Obey=true∧L.2≤Aq m L.1 then Y4 g t.1 (Ox (fun x=>Iy (LP m L.1 tick) L.2 g.V (Y4 g t.1 x) t.2.2) (-t.2.2) (act0+t.2.2).toNat act0)else Y4 g t.1 act0
def HR (m:Map)(g:Agent)(tick act:Int):Agent:=
  {g with V:=Dr m g tick act,S:=D3 (g.S+Dr m g tick act),Gone:=Vi m {g with V:=Dr m g tick act,S:=D3 (g.S+Dr m g tick act)}}
theorem Px (k:Int):0≤(U3 k).1∧(U3 k).1≤2000∧0≤(U3 k).2.1∧(U3 k).2.1≤100∧0≤(U3 k).2.2∧(U3 k).2.2≤300:=by
  unfold U3
  repeat' split
  all_goals simp
theorem aV {g:Agent}{L:Int×Int}{t:Int×Int×Int}{R:List Int}(hR:R.length≤1000)(ht:0≤t.2.2∧t.2.2≤300): ∀(n:Nat) (act:Int), -t.2.2≤act→act≤100→(act+t.2.2).toNat≤n→
    loop (X0 g L t R) act=some (Ox (fun x=>Iy R L.2 g.V (Y4 g t.1 x) t.2.2) (-t.2.2) n act):=by
  intro n
  induction n with
  |zero=>
   intro act h1 h2 h3
   rw [Ox]
   refine C7 ?_
   unfold X0
   rw [F1 (n:=0 - t.2.2) (by omega),bK (show ¬act>0 - t.2.2 by omega)];rfl
  |succ n ih=>
   intro act h1 h2 h3
   rw [Ox]
   by_cases q:act> -t.2.2
   ·have hs:Z3 act g t.1=some (Y4 g t.1 act):=by unfold Z3 Y4;rw [Mi,Df]
    by_cases k:Iy R L.2 g.V (Y4 g t.1 act) t.2.2=false
    ·rw [bQ ⟨q,k⟩,← ih (act - 1) (by omega) (by omega) (by omega)]
     refine J2 ?_
     unfold X0
     rw [F1 (n:=0 - t.2.2) (by omega),bJ (show act>0 - t.2.2 by omega),bO,hs,lB,bO,TS R hR,lB,k,F1 (by omega)];rfl
    ·rw [bR (fun x=>k x.2)]
     refine C7 ?_
     unfold X0
     rw [F1 (n:=0 - t.2.2) (by omega),bJ (show act>0 - t.2.2 by omega),bO,hs,lB,bO,TS R hR,lB,show Iy R L.2 g.V (Y4 g t.1 act) t.2.2=true by simpa using k];rfl
   ·rw [bR (fun x=>q x.1)]
    refine C7 ?_
    unfold X0
    rw [F1 (n:=0 - t.2.2) (by omega),bK (show ¬act>0 - t.2.2 by omega)];rfl
theorem WU {g:Agent}{L:Int×Int}{t:Int×Int×Int}{R:List Int}(hR:R.length≤1000)(ht:0≤t.2.2∧t.2.2≤300): ∀(n:Nat) (act:Int), -t.2.2≤act→act≤100→(act+t.2.2).toNat≤n→
    loop (Jv g L t R) (act,Y4 g t.1 act)=some (Y4 g t.1 (Ox (fun x=>Iy R L.2 g.V (Y4 g t.1 x) t.2.2) (-t.2.2) n act)):=by
  intro n
  induction n with
  |zero=>
   intro act h1 h2 h3
   rw [Ox]
   refine C7 ?_
   unfold Jv
   dsimp only
   rw [F1 (n:=0 - t.2.2) (by omega),bK (show ¬act>0 - t.2.2 by omega)];rfl
  |succ n ih=>
   intro act h1 h2 h3
   rw [Ox]
   by_cases q:act> -t.2.2
   ·by_cases k:Iy R L.2 g.V (Y4 g t.1 act) t.2.2=false
    ·rw [bQ ⟨q,k⟩,← ih (act - 1) (by omega) (by omega) (by omega)]
     refine J2 ?_
     unfold Jv
     dsimp only
     rw [F1 (n:=0 - t.2.2) (by omega),bJ (show act>0 - t.2.2 by omega),bO,TT R hR,lB,k,F1 (n:=act - 1) (by omega),Mi,Df];rfl
    ·rw [bR (fun x=>k x.2)]
     refine C7 ?_
     unfold Jv
     dsimp only
     rw [F1 (n:=0 - t.2.2) (by omega),bJ (show act>0 - t.2.2 by omega),bO,TT R hR,lB,show Iy R L.2 g.V (Y4 g t.1 act) t.2.2=true by simpa using k];rfl
   ·rw [bR (fun x=>q x.1)]
    refine C7 ?_
    unfold Jv
    dsimp only
    rw [F1 (n:=0 - t.2.2) (by omega),bK (show ¬act>0 - t.2.2 by omega)];rfl
/-- What is known of an agent of a valid state. -/
structure AgentOK (m:Map)(s:State)(i:Int)(g:Agent):Prop where
  route: ∃a t,g.Route=a::t∧RouteOK m a t
  len:300≤g.Len∧g.Len≤20000
  begin:0≤g.Begin∧g.Begin≤1099511627776
  S:0≤g.S∧g.S≤LongM m g.Route+g.Len+2000
  V:0≤g.V∧g.V≤(P2 m g).1
  gone:g.Gone=Vi m g
  late: ¬(g.Begin>s.Tick∧g.S≠0)
  first:i=0→g.Begin=0
theorem agentM_zero {m:Map}{s:State}{i:Int}{g:Agent}:Ej m s i g=0↔AgentOK m s i g:=by
  unfold Ej
  constructor
  ·intro h
   by_cases q:P6 m g.Route=0
   ·rw [bQ q]at h
    by_cases o:QL g=true∨g.S>LongM m g.Route+g.Len+2000
    ·rw [bQ o]at h;cases h
    ·rw [bR o]at h
     by_cases v:g.V<0∨g.V>(P2 m g).1
     ·rw [bQ v]at h;cases h
     ·rw [bR v]at h
      by_cases z:g.Gone≠Vi m g∨(g.Begin>s.Tick∧g.S≠0)∨(i=0∧g.Begin≠0)
      ·rw [bQ z]at h;cases h
      ·obtain ⟨o1,o2,o3,o4,o5⟩:=LM (g:=g) (by cases hq:QL g<;>simp_all)
       refine ⟨chkRoute_zero.1 q,⟨o1,o2⟩,⟨o3,o4⟩,⟨o5,?_⟩,?_,?_,fun h=>z (.inr (.inl h)),fun h=> ?_⟩
       ·exact Int.not_lt.1 fun h=>o (.inr h)
       ·omega
       ·exact Classical.byContradiction fun h=>z (.inl h)
       ·exact Classical.byContradiction fun h'=>z (.inr (.inr ⟨h,h'⟩))
   ·rw [bR q]at h;cases h
  ·intro A
   have l:=A.len;have b:=A.begin;have S:=A.S;have V:=A.V
   rw [bQ (chkRoute_zero.2 A.route),bR,bR,bR]
   ·rintro (h|h|h)
    ·exact h A.gone
    ·exact A.late h
    ·exact h.2 (A.first h.1)
   ·omega
   ·rintro (h|h)
    ·unfold QL at h
     simp only [bV,bM]at h
     omega
    ·omega
structure StateOK (m:Map)(s:State):Prop where
  tick:0≤s.Tick∧s.Tick≤1099511627776
  num:0<s.Agents.length∧s.Agents.length≤8
  agent: ∀(i:Nat) g,s.Agents[i]? =some g→AgentOK m s (i:Int) g
  ins: ∀(i:Nat) x,s.In[i]? =some x→Xi m s x=false
  sorted: ∀(i:Nat) x y,s.In[i]? =some x→s.In[i+1]? =some y→Gv x y=true
  rank: ∀x∈s.In,Tj s x=false
theorem Jw {m:Map}(K:KitM m){s:State}:Pp m s=0↔StateOK m s:=by
  unfold Pp
  rw [bQ K.chk]
  constructor
  ·intro h
   by_cases t:s.Tick<0∨s.Tick>1099511627776
   ·rw [bQ t]at h;cases h
   rw [bR t]at h
   by_cases n0:s.Agents.length=0
   ·rw [bQ n0]at h;cases h
   rw [bR n0]at h
   by_cases n8:8<s.Agents.length
   ·rw [bQ n8]at h;cases h
   rw [bR n8]at h
   cases ha:I7 (fun i g=>if Ej m s (i:Int) g=0 then none else some (Ej m s (i:Int) g)) 0 s.Agents with
   |some e=>
    rw [ha]at h
    have: ∀(l:List Agent) (i:Nat),I7 (fun i g=>if Ej m s (i:Int) g=0 then none else some (Ej m s (i:Int) g)) i l=some e→e≠0:=by
      intro l
      induction l with
      |nil=>intro i h;cases h
      |cons a l ih=>
       intro i h
       unfold I7 at h
       by_cases z:Ej m s (i:Int) a=0
       ·rw [bQ z]at h;exact ih _ h
       ·rw [bR z]at h;cases h;exact z
    exact absurd h (this _ _ ha)
   |none=>
    rw [ha]at h
    cases hi:I7 (cO m s) 0 s.In with
    |some e=>
     rw [hi]at h
     have: ∀(l:List Stay) (i:Nat),I7 (cO m s) i l=some e→e≠0:=by
       intro l
       induction l with
       |nil=>intro i h;cases h
       |cons a l ih=>
        intro i h
        unfold I7 at h
        cases z:cO m s i a with
        |none=>rw [z]at h;exact ih _ h
        |some e'=>
         rw [z]at h;cases h
         unfold cO at z
         split at z
         ·cases z;decide
         ·cases z
     exact absurd h (this _ _ hi)
    |none=>
     rw [hi]at h
     have ha':=firstE_none.1 ha
     have hi':=firstE_none.1 hi
     simp only [wK]at ha' hi'
     have hin: ∀(i:Nat) x,s.In[i]? =some x→¬(Xi m s x=true∨(0<i∧∃y,s.In[i - 1]? =some y∧Gv y x=false)):=by
       intro i x hx q
       have:=hi' i x hx
       unfold cO at this
       rw [bQ q]at this;cases this
     have hr:s.In.any (Tj s)=false:=by
       cases q:s.In.any (Tj s)with
       |false=>rfl
       |true=>rw [q]at h;cases h
     refine ⟨by omega,by omega,fun i g hg=>agentM_zero.1 ?_,fun i x hx=> ?_,fun i x y hx hy=> ?_,fun x hx=> ?_⟩
     ·have:=ha' i g hg
      by_cases z:Ej m s (i:Int) g=0
      ·exact z
      ·rw [bR z]at this;cases this
     ·have:=hin i x hx
      cases q:Xi m s x with
      |false=>rfl
      |true=>exact absurd (.inl q) this
     ·have:=hin (i+1) y hy
      cases q:Gv x y with
      |true=>rfl
      |false=>exact absurd (.inr ⟨by omega,x,hx,q⟩) this
     ·have:=List.any_eq_false.1 hr x hx
      simpa using this
  ·intro O
   have t:=O.tick;have n:=O.num
   rw [bR (by omega),bR (by omega),bR (by omega)]
   rw [firstE_none.2 fun i g hg=>by rw [wK,bQ (agentM_zero.2 (O.agent i g hg))]]
   rw [firstE_none.2 fun i x hx=> ?_]
   ·dsimp only
    rw [bR]
    intro h
    obtain ⟨x,x1,x2⟩:=lZ.1 h
    rw [O.rank x x1]at x2;cases x2
   ·rw [wK]
    unfold cO
    rw [bR]
    rintro (h|⟨h0,y,y1,y2⟩)
    ·rw [O.ins i x hx]at h;cases h
    ·have:=O.sorted (i - 1) y x y1 (by rw [show i - 1+1=i by omega];exact hx)
     rw [this]at y2;cases y2
theorem AgentOK.bd {m:Map}{s:State}{i:Int}{g:Agent}(A:AgentOK m s i g):1000≤LongM m g.Route∧LongM m g.Route≤134217728:=by
  obtain ⟨a,t,h,R⟩:=A.route
  rw [h];exact Mf R
theorem TU {g:Agent}{most act:Int}(h:0≤g.V∧g.V≤2000)(ha: -1000≤act∧act≤1000):Y4 g most act=max 0 (min (g.V+act) most):=by
  unfold Y4;rw [F1 (by omega)]
theorem mK {m:Map}(B:BearM m){s:State}{i:Int}{g:Agent}(A:AgentOK m s i g)(hr:g.Route.length≤1000)(tick act:Int):Gd m g tick act=some (HR m g tick act)∧Wf m g tick act=some (HR m g tick act):=by
  obtain ⟨a,t,ht,R⟩:=A.route
  have hL:=A.bd;have hS:=A.S;have hl:=A.len;have hV:=A.V
  obtain ⟨l1,l2⟩:=TN B R ht hS.1 (by omega)
  obtain ⟨ln,k1,k2,_⟩:=GN R ht hS.1
  have ev:P2 m g=U3 ln.Kind:=by unfold P2;rw [k2]
  have htb:=Px ln.Kind
  obtain ⟨r1,r2,r3⟩:=iA B (N5 m g).1 tick
  have hlow:D3 (0 - (U3 ln.Kind).2.2)= -(U3 ln.Kind).2.2:=by rw [F1 (by omega)];omega
  have hact: -(U3 ln.Kind).2.2≤max (-(U3 ln.Kind).2.2) (min act (U3 ln.Kind).2.1)∧max (-(U3 ln.Kind).2.2) (min act (U3 ln.Kind).2.1)≤100:=by omega
  have hg: ∀g':Agent,g'.Route=g.Route→Ga m g'=some (Vi m g')∧Ms m g'=some (Vi m g'):=fun g' h=>QM B (by rw [h];omega)
  have hmv: ∀x,Z3 x g (U3 ln.Kind).1=some (Y4 g (U3 ln.Kind).1 x):=by intro x;unfold Z3 Y4;rw [Mi,Df]
  have hlow': ∀X,(Mp true 0 (Mp false (D3 (g.V+X)) (U3 ln.Kind).1))=Y4 g (U3 ln.Kind).1 X:=by intro X;unfold Y4;rw [Mi,Df]
  by_cases q:g.Obey=true∧(N5 m g).2≤Aq m (N5 m g).1
  ·have hN:Dr m g tick act=Y4 g (U3 ln.Kind).1 (Ox (fun x=>Iy (LP m (N5 m g).1 tick) (N5 m g).2 g.V (Y4 g (U3 ln.Kind).1 x) (U3 ln.Kind).2.2) (-(U3 ln.Kind).2.2) (max (-(U3 ln.Kind).2.2) (min act (U3 ln.Kind).2.1)+ (U3 ln.Kind).2.2).toNat (max (-(U3 ln.Kind).2.2) (min act (U3 ln.Kind).2.1))):=by
     unfold Dr;rw [ev];exact bQ q
   constructor
   ·unfold Gd HR
    rw [l1,lB,k1,lB,Uz,lB,q.1,bO,Jl B,lB,bS,bJ q.2,bO,r1,lB,Mi,Df,hlow,aV r3 ⟨htb.2.2.2.2.1,htb.2.2.2.2.2⟩ _ _ hact.1 hact.2 (wH _)]
    simp only [lB]
    rw [hmv,lB,← hN,(hg ⟨g.Route,D3 (g.S+Dr m g tick act),Dr m g tick act,g.Len,g.Begin,true,g.Gone⟩ rfl).1]
    simp only [lB,q.1]
   ·unfold Wf HR
    rw [l2,lB,k1,lB,Mv,lB,q.1,bO,Qz B,lB,bS,bJ q.2,bO,r2,lB,hlow',Mi,Df,hlow,WU r3 ⟨htb.2.2.2.2.1,htb.2.2.2.2.2⟩ _ _ hact.1 hact.2 (wH _)]
    simp only [lB]
    rw [← hN,(hg ⟨g.Route,D3 (g.S+Dr m g tick act),Dr m g tick act,g.Len,g.Begin,true,g.Gone⟩ rfl).2]
    simp only [lB,q.1]
  ·have hN:Dr m g tick act=Y4 g (U3 ln.Kind).1 (max (-(U3 ln.Kind).2.2) (min act (U3 ln.Kind).2.1)):=by
     unfold Dr;rw [ev];exact bR q
   have hc: ∀{α:Type} (o:Bool) (x y:α),(cond o (some (Aq m (N5 m g).1)) (some default)).bind (fun v4=>some (cond (o&&decide ((N5 m g).2≤v4)) x y))=some (cond (o&&decide ((N5 m g).2≤Aq m (N5 m g).1)) x y):=by intro α o x y;cases o<;>rfl
   have hf:(g.Obey&&decide ((N5 m g).2≤Aq m (N5 m g).1))=false:=by
     rw [bZ];simpa using q
   constructor
   ·unfold Gd HR
    rw [l1,lB,k1,lB,Uz,lB,Jl B]
    have e: ∀F:Int→Option Agent,((cond g.Obey (some (Aq m (N5 m g).1)) (some default)).bind fun v4=>(cond (g.Obey&&decide ((N5 m g).2≤v4)) ((Ew m (N5 m g).1 tick).bind fun v5=>(loop (X0 g (N5 m g) (U3 ln.Kind) v5) (Mp true (D3 (0 - (U3 ln.Kind).2.2)) (Mp false act (U3 ln.Kind).2.1))).bind fun y2=>some y2) (some (Mp true (D3 (0 - (U3 ln.Kind).2.2)) (Mp false act (U3 ln.Kind).2.1)))).bind F)=F (Mp true (D3 (0 - (U3 ln.Kind).2.2)) (Mp false act (U3 ln.Kind).2.1)):=by
      intro F
      cases ho:g.Obey
      ·rfl
      ·rw [ho]at hf
       rw [bO,lB,hf];rfl
    rw [e,hmv,Mi,Df,hlow,← hN,lB,(hg ⟨g.Route,D3 (g.S+Dr m g tick act),Dr m g tick act,g.Len,g.Begin,g.Obey,g.Gone⟩ rfl).1]
    rfl
   ·unfold Wf HR
    rw [l2,lB,k1,lB,Mv,lB,Qz B]
    have e: ∀(F:Int→Option Agent) (Y:List Int→Option Int) (X:Int),((cond g.Obey (some (Aq m (N5 m g).1)) (some default)).bind fun v4=>(cond (g.Obey&&decide ((N5 m g).2≤v4)) ((Nj m (N5 m g).1 tick).bind Y) (some X)).bind F)=F X:=by
      intro F Y X
      cases ho:g.Obey
      ·rfl
      ·rw [ho]at hf
       rw [bO,lB,hf];rfl
    rw [e,hlow',Mi,Df,hlow,← hN,(hg ⟨g.Route,D3 (g.S+Dr m g tick act),Dr m g tick act,g.Len,g.Begin,g.Obey,g.Gone⟩ rfl).2]
    rfl
def mL:Agent:=⟨[],0,0,0,0,false,false⟩
def Mg (m:Map)(s:State)(i act:Int):Agent:=match C1 s.Agents i with
  |none=>mL
  |some g=>if S3 s i=true∧Pp m s=0 then HR m g s.Tick act else g
theorem mM {m:Map}(K:KitM m){s:State}(S:SizeS s)(w: ∀g∈s.Agents,g.S≤9223372036854775807)(i act:Int):Kn m s i act=some (Mg m s i act)∧KT m s i act=some (Mg m s i act):=by
  obtain ⟨c1,c2⟩:=LO K.toBearM S w
  obtain ⟨t1,t2⟩:=Om s i
  unfold Kn KT Mg
  by_cases h:0≤i∧i<s.Agents.length
  case neg=>
    rw [show (decide (i<0)||decide (i≥(s.Agents.length:Int)))=true by simp only [bV,bM];omega,GO h]
    exact ⟨rfl,rfl⟩
  obtain ⟨g,hg,hg'⟩:=Rz h.1 h.2
  have hr:=S.routes g (lG hg')
  rw [show (decide (i<0)||decide (i≥(s.Agents.length:Int)))=false by rw [bZ];simp only [ne_eq,bV,bM];omega,bP,bP,hg,lB,lB,HQ hr,lB,t1,lB,Vg (by omega),lB,c1,c2,lB,t2]
  dsimp only
  have eg:(⟨g.Route,g.S,g.V,g.Len,g.Begin,g.Obey,g.Gone⟩:Agent)=g:=rfl
  by_cases q:S3 s i=true∧Pp m s=0
  ·rw [bQ q,q.1,q.2]
   have O:=(Jw K).1 q.2
   have A:=O.agent i.toNat g hg'
   obtain ⟨m1,m2⟩:=mK K.toBearM A hr s.Tick act
   rw [eg,m2]
   refine ⟨?_,rfl⟩
   show (Gd m g s.Tick act).bind _=_
   rw [m1];rfl
  ·rw [bR q]
   constructor
   ·cases ht:S3 s i
    ·rfl
    ·have:Pp m s≠0:=fun h=>q ⟨ht,h⟩
     show cond (!true||(Pp m s !=0)) _ _=_
     rw [show (!true||(Pp m s !=0))=true by simpa using this];rfl
   ·cases hz:(Pp m s !=0)
    ·have hz':Pp m s=0:=by simpa using hz
     have:S3 s i=false:=by
       cases ht:S3 s i
       ·rfl
       ·exact absurd ⟨ht,hz'⟩ q
     rw [this];rfl
    ·rfl
def BP (g:Agent):Bool:=(((decide (g.S≥0))&& (decide (g.S≤1099511627776)))&& (decide (g.Len≥0)))&& (decide (g.Len≤1099511627776))
def Lm (m:Map)(r:List Int):List Pass:=(W1 m r).getD []
theorem aW {m:Map}(B:BearK m)(r:List Int)(hr:r.length≤1000000):W1 m r=some (Lm m r)∧Ft m r=some (Lm m r)∧(Lm m r).length≤16:=by
  obtain ⟨ps,h1,h2,h3⟩:=WQ B r hr
  unfold Lm
  rw [h1,h2]
  exact ⟨rfl,rfl,h3⟩
def Um (g g':Agent)(z:Int)(p:Pass):Bool:=((p.Zone_==z)&&decide (p.From≤g'.S))&&decide (D3 (g.S - g.Len)≤p.To)
/-- Whether an agent is present in a zone during a tick. -/
def Hr (m:Map)(g g':Agent)(z:Int):Bool:=(BP g&&BP g')&& (Lm m g.Route).any (Um g g' z)
theorem Wq {m:Map}(B:BearK m){g g':Agent}(hr:g.Route.length≤1000)(z:Int):Dn m g g' z=some (Hr m g g' z)∧Gm m g g' z=some (Hr m g g' z):=by
  obtain ⟨p1,p2,p3⟩:=aW B g.Route (by omega)
  have s1: ∀g,Mr g=some (BP g):=fun _=>rfl
  have s2: ∀g,Mt g=some (BP g):=fun _=>rfl
  have hc:G2 (Lm m g.Route) z ⟨D3 (g.S - g.Len),g'.S⟩=some ((Lm m g.Route).any (Um g g' z)):=by
    unfold G2 J0
    refine Ol _ (Um g g' z) _ (by omega) (fun i x hx=> ?_) (by unfold L5;rw [H9];rfl)
    unfold L5 Gz
    rw [K0 (H5 hx),C3 hx,bO,lB,lB]
    show cond (Um g g' z x) _ _=_
    cases Um g g' z x<;>rfl
  have hd:thenS (loop (Dw g g' z (Lm m g.Route)) 0) (fun _=>some false) (fun r=>some r)=some ((Lm m g.Route).any (Um g g' z)):=by
    rw [HJ (Lm m g.Route) (Um g g' z) true (fun i x hx=> ?_) (by unfold Dw;rw [H9];rfl)]
    ·cases (Lm m g.Route).any (Um g g' z)<;>rfl
    ·unfold Dw Um
     rw [K0 (H5 hx),C3 hx,bO,lB,G8 (H5 hx) (by omega)]
     by_cases q1:x.Zone_=z
     ·rw [show (x.Zone_==z)=true by simpa using q1,bO,lB,bS]
      by_cases q2:D3 (g.S - g.Len)≤x.To
      ·rw [bJ q2,bO,lB,bS,Bool.and_true]
       by_cases q3:x.From≤g'.S
       ·rw [bJ (show g'.S≥x.From from q3)];rfl
       ·rw [bK (show ¬g'.S≥x.From from q3)];rfl
      ·rw [bK q2,Bool.and_false];rfl
     ·rw [show (x.Zone_==z)=false by simpa using q1];rfl
  unfold Dn Gm Hr
  rw [s1,s2,lB,lB]
  cases hs:BP g
  ·exact ⟨rfl,rfl⟩
  ·rw [bW,bX,bO,bO,s1,s2,lB,lB]
   cases hs':BP g'
   ·exact ⟨rfl,rfl⟩
   ·simp only [bW,Bool.or_self,bP,bS]
    constructor
    ·show (Ag g).bind _=_
     unfold Ag
     rw [lB,p1,lB,hc];rfl
    ·show (Ft m g.Route).bind _=_
     rw [p2,lB,hd]
/-! ### The entry, and the rank -/
theorem YO {α:Type}{P:α→Bool}{l:List α}(h:0≤EX P l): ∃x,l[(EX P l).toNat]? =some x∧P x=true∧l.find? P=some x:=by
  unfold EX at h ⊢
  cases hq:l.findIdx? P with
  |none=>rw [hq]at h;exact absurd h (by simp)
  |some i=>
   obtain ⟨h1,h2,h3⟩:=List.findIdx?_eq_some_iff_getElem.1 hq
   refine ⟨l[i],by rw [wF];exact lH h1,h2,?_⟩
   exact List.find?_eq_some_iff_getElem.2 ⟨h2,i,h1,rfl,fun j hj=>by simpa using h3 j hj⟩
theorem aX {m:Map}{r:List Int}{z:Int}(h:0≤Et m r z): ∃zn l,0≤z∧m.Zones[z.toNat]? =some zn∧P6 m r=0∧r[(Et m r z).toNat]? =some l∧(Kc zn l).2=true:=by
  unfold Et at h ⊢
  cases hz:m.Zones[z.toNat]? with
  |none=>rw [hz]at h;exact absurd h (by simp)
  |some zn=>
   rw [hz]at h
   dsimp only at h ⊢
   by_cases q:0≤z∧P6 m r=0
   ·rw [bQ q]at h ⊢
    obtain ⟨l,h1,h2,_⟩:=YO h
    exact ⟨zn,l,q.1,rfl,q.2,h1,h2⟩
   ·rw [bR q]at h;exact absurd h (by simp)
/-- The lane on which a route enters a zone; -1 if it does not. -/
def Mh (m:Map)(r:List Int)(z:Int):Int:=if 0≤Et m r z then r.getD (Et m r z).toNat 0 else -1
theorem FF {m:Map}{r:List Int}{z:Int}(h:0≤Et m r z): ∃zn,0≤z∧m.Zones[z.toNat]? =some zn∧r[(Et m r z).toNat]? =some (Mh m r z)∧(Kc zn (Mh m r z)).2=true∧0≤Mh m r z:=by
  obtain ⟨zn,l,h0,h1,h2,h3,h4⟩:=aX h
  have e:Mh m r z=l:=by unfold Mh;rw [bQ h,List.getD,h3];rfl
  obtain ⟨a,t,rfl,R⟩:=chkRoute_zero.1 h2
  have:=R.mem (lG h3)
  rw [e]
  exact ⟨zn,h0,h1,h3,h4,this.1⟩
theorem GP {m:Map}(B:BearM m){r:List Int}(hr:r.length≤1000000)(z:Int):Do m r z=some (Mh m r z):=by
  unfold Do
  rw [gR B r hr,lB]
  by_cases q:0≤Et m r z
  ·obtain ⟨zn,_,_,h3,_⟩:=FF q
   have hg:=C3 h3
   rw [wG q]at hg
   rw [bJ (show Et m r z≥0 from q),bO,hg];rfl
  ·rw [bK (show ¬Et m r z≥0 from q)]
   unfold Mh;rw [bR q];rfl
/-- The rank of an agent in a zone. -/
def HS (m:Map)(r:List Int)(z tick:Int):Int:=
  if 0≤Et m r z then
   match m.Zones[z.toNat]? with
   |some zn=>if zn.Signal_>0 then (if GK m (zn.Signal_ - 1) (Mh m r z) tick=true then 2 else 0)else (Kc zn (Mh m r z)).1.Rank
   |none=>0
  else 0
theorem YP {m:Map}(K:KitM m){g:Agent}(hr:g.Route.length≤1000)(z tick:Int):Gc m g z tick=some (HS m g.Route z tick)∧Su m g z tick=some (HS m g.Route z tick):=by
  have B:=K.toBearM
  have hr':g.Route.length≤1000000:=by omega
  unfold Gc Su HS
  rw [GP B hr',GM B _ hr',lB,lB]
  by_cases q:0≤Et m g.Route z
  case neg=>
    rw [bR q,bJ (show Et m g.Route z<0 by omega)]
    have:Mh m g.Route z= -1:=by unfold Mh;rw [bR q]
    rw [this]
    exact ⟨rfl,rfl⟩
  obtain ⟨zn,h0,h1,h3,h4,h5⟩:=FF q
  have hz:=C3 h1
  rw [wG h0]at hz
  have hg:=C3 h3
  rw [wG q]at hg
  have Z:=K.val.zoneOK (lG h1)
  have hS:=Z.sig
  have hsl:=K.val.signals
  have hp:=B.toBearZ.parts zn (lG h1)
  rw [bQ q,h1,bK (show ¬Mh m g.Route z<0 by omega),bK (show ¬Et m g.Route z<0 by omega),bP,bP,hz,lB,lB]
  dsimp only
  by_cases s:zn.Signal_>0
  ·rw [bQ s,bJ s,F1 (by omega),gU B,hg]
   simp only [lB,bO,aM B,bS]
   cases GK m (zn.Signal_ - 1) (Mh m g.Route z) tick<;>exact ⟨rfl,rfl⟩
  ·rw [bR s,bK s,bP,bP,lB,bT,bP]
   have hany:zn.Parts.any (fun p=>p.Lane_==Mh m g.Route z)=true:=by
     unfold Kc at h4
     cases hf:zn.Parts.find? (fun p=>p.Lane_==Mh m g.Route z)with
     |none=>rw [hf]at h4;cases h4
     |some p=>
      exact lZ.2 ⟨p,l7 hf,l6 (p:=fun p:Part=>p.Lane_==Mh m g.Route z) hf⟩
   have hidx:0≤EX (fun p:Part=>p.Lane_==Mh m g.Route z) zn.Parts:=by
     have:=Va (fun p:Part=>p.Lane_==Mh m g.Route z) zn.Parts
     rw [hany]at this
     simpa using this
   obtain ⟨p,p1,p2,p3⟩:=YO hidx
   have hpr:(Kc zn (Mh m g.Route z)).1.Rank=p.Rank:=by unfold Kc;rw [p3]
   constructor
   ·have e:I9 zn.Parts (Mh m g.Route z)=some (EX (fun p:Part=>p.Lane_==Mh m g.Route z) zn.Parts):=by
      unfold I9
      refine Qn zn.Parts (fun p:Part=>p.Lane_==Mh m g.Route z) (by omega) (fun i a h=> ?_) (by unfold M5;rw [H9];rfl)
      unfold M5 Nz
      rw [K0 (H5 h),C3 h,bO,lB,lB]
      cases a.Lane_==Mh m g.Route z<;>rfl
    have hgp:=C3 p1
    rw [wG hidx]at hgp
    rw [e,lB,hgp,lB,hpr]
   ·have key: ∀(l:List Part) (i:Nat),zn.Parts.drop i=l→i≤zn.Parts.length→thenS (loop (Gp g (Et m g.Route z) zn) (i:Int)) (fun _=>some 0) (fun r=>some r)=some (match l.find? (fun p=>p.Lane_==Mh m g.Route z)with|some p=>p.Rank|none=>0):=by
      intro l
      induction l with
      |nil=>
       intro i hi hil
       have:=O0 hi
       obtain rfl:i=zn.Parts.length:=by omega
       rw [C7 (t:= .inl ()) (by unfold Gp;rw [H9];rfl)];rfl
      |cons x l ih=>
       intro i hi hil
       have hx:=V0 hi
       have hlt:=M9 hi
       rw [List.find?_cons]
       cases hq:x.Lane_==Mh m g.Route z with
       |true=>
        rw [C7 (t:= .inr x.Rank) (by unfold Gp;rw [K0 hlt,C3 hx,bO,lB,hg,lB,hq,bO,lB])];rfl
       |false=>
        rw [J2 (s':=((i+1:Nat):Int)) (by unfold Gp;rw [K0 hlt,C3 hx,bO,lB,hg,lB,hq,bP,G8 hlt (by omega)])]
        exact ih (i+1) (K5 hi) hlt
    have:=key zn.Parts 0 rfl (wI _)
    rw [p3]at this
    rw [show ((0:Nat):Int)=0 from rfl]at this
    rw [bP,this,hpr]
/-! ### Stays -/
def Wr (i z:Int)(x:Stay):Bool:=x.Agent_==i&&x.Zone_==z
def OK (l:List Stay):Prop:=l.Pairwise fun a b=>Gv a b=true
theorem HT {a b c:Stay}(h1:Gv a b=true)(h2:Gv b c=true):Gv a c=true:=by
  unfold Gv at*
  simp only [bV,bM,bU,wB]at*
  omega
theorem aY {l:List Stay}(h: ∀(i:Nat) x y,l[i]? =some x→l[i+1]? =some y→Gv x y=true):OK l:=by
  unfold OK
  induction l with
  |nil=>exact List.Pairwise.nil
  |cons a l ih=>
   have ih:=ih fun i x y hx hy=>h (i+1) x y (by simpa using hx) (by simpa using hy)
   refine bB.2 ⟨fun b hb=> ?_,ih⟩
   cases l with
   |nil=>cases hb
   |cons c l=>
    have h0:=h 0 a c rfl rfl
    rcases lU.1 hb with rfl|hb
    ·exact h0
    ·exact HT h0 ((bB.1 ih).1 b hb)
theorem mN (a b:Stay):decide (MT a b<0)=Gv a b:=by
  have:=TP a b
  have e:decide (MT a b<0)= !decide (MT a b≥0):=by
    by_cases h:MT a b<0
    ·rw [bJ h,bK (by omega)];rfl
    ·rw [bK h,bJ (by omega)];rfl
  rw [e,this,Bool.not_not]
theorem iB (a b:Stay):(MT a b==0)=Wr b.Agent_ b.Zone_ a:=by
  unfold MT Wr FB
  by_cases h1:a.Agent_<b.Agent_
  ·have:a.Agent_≠b.Agent_:=by omega
   simp [h1,this]
  ·by_cases h2:a.Agent_>b.Agent_
   ·have:a.Agent_≠b.Agent_:=by omega
    simp [h1,h2,this]
   ·have:a.Agent_=b.Agent_:=by omega
    by_cases h3:a.Zone_<b.Zone_
    ·have:a.Zone_≠b.Zone_:=by omega
     simp [h3,this, *]
    ·by_cases h4:a.Zone_>b.Zone_
     ·have:a.Zone_≠b.Zone_:=by omega
      simp [h3,h4,this, *]
     ·have:a.Zone_=b.Zone_:=by omega
      simp [this, *]
theorem YQ {l:List Stay}(hl:l.length≤1000000)(hs:OK l)(y:Stay): ∃s:Nat,D2 l y=some ((s:Int),(l.find? (Wr y.Agent_ y.Zone_)).isSome)∧∀x,l.find? (Wr y.Agent_ y.Zone_)=some x→l[s]? =some x:=by
  have hget: ∀c,c<l.length→l[c]? =some (l.getD c default):=by
    intro c hc
    rw [List.getD,lH hc];rfl
  obtain ⟨s,h1,_,h3,h4,h5⟩:=kS (F:=D6 l y) (fun c=>Gv (l.getD c default) y) 0 l.length (wI _) (fun a b _ hab hb=>by
    unfold D6
    dsimp only
    have hm:(a+b) / 2<l.length:=by omega
    rw [bJ (show (a:Int)< (b:Int) by omega),bO,mC a b (by omega),C3 (hget _ hm),lB,LN,lB,mN]
    by_cases q:Gv (l.getD ((a+b) / 2) default) y=true
    ·rw [bQ q,q,bO,G8 hm (by omega)]
    ·rw [bR q,show Gv (l.getD ((a+b) / 2) default) y=false by simpa using q];rfl) (fun a b hab=>by
    unfold D6
    dsimp only
    rw [bK (show ¬(a:Int)< (b:Int) by omega)];rfl) (fun c c' _ hcc hc' q=>by
    rcases Nat.lt_or_eq_of_le hcc with h|h
    ·have h1:=bD.1 hs c c' (by omega) hc' h
     have e1:=hget c (by omega);have e2:=hget c' hc'
     rw [lH (by omega)]at e1 e2
     rw [lD e1,lD e2]at h1
     exact HT h1 q
    ·subst h;exact q)
  have hmem: ∀x,l.find? (Wr y.Agent_ y.Zone_)=some x→l[s]? =some x:=by
    intro x hx
    have k1:=l6 hx
    have k2:=l7 hx
    obtain ⟨j,hj⟩:=bG k2
    have hjl:=H5 hj
    have e1:=hget j hjl
    rw [hj]at e1
    have ex:x=l.getD j default:=lD e1
    have nl:Gv x y=false:=by
      unfold Wr at k1;unfold Gv
      simp only [bU,wB]at k1
      rw [bZ]
      simp only [ne_eq,bV,bM,bU,wB]
      omega
    have hsj:s≤j:=by
      refine Nat.not_lt.1 fun h=> ?_
      have:=h4 j (wI _) h
      rw [← ex,nl]at this;cases this
    rcases Nat.lt_or_eq_of_le hsj with h|h
    ·exfalso
     have h6:=h5 s (wH _) (by omega)
     have h7:=bD.1 hs s j (by omega) hjl h
     have e2:=hget s (by omega)
     rw [lH (by omega)]at e2
     have e3:=hj
     rw [lH hjl]at e3
     rw [lD e2,lD e3]at h7
     unfold Wr at k1;unfold Gv at h6 h7
     simp only [bU,wB]at k1
     rw [bZ]at h6
     simp only [ne_eq,bV,bM,bU,wB]at h6 h7
     omega
    ·subst h;exact hj
  refine ⟨s,?_,hmem⟩
  have h1':loop (D6 l y) (0,(l.length:Int))=some (s:Int):=h1
  unfold D2
  rw [h1',lB]
  by_cases hlt:s<l.length
  ·have e:=hget s hlt
   rw [K0 hlt,bO,C3 e,lB,bO,LN,lB,iB,bS]
   congr 2
   cases hf:l.find? (Wr y.Agent_ y.Zone_)with
   |some x=>
    have:=hmem x hf
    rw [e]at this
    rw [lD this,l6 hf];rfl
   |none=>
    have:=List.find?_eq_none.1 hf (l.getD s default) (lG e)
    simpa using this
  ·rw [show decide ((s:Int)< (l.length:Int))=false from bK (by omega),bP,lB,bP,lB,bT]
   congr 2
   cases hf:l.find? (Wr y.Agent_ y.Zone_)with
   |some x=>have:=H5 (hmem x hf);omega
   |none=>rfl
theorem WV {S α β τ:Type}{F:S→Option (Stp S τ)}(pk:Nat→List β→S)(l:List α)(g:Nat→α→Option β)(fin:List β→τ)(s0:List β)(B:Nat){S0:S}(hS:pk 0 s0=S0)(hB:s0.length+l.length≤B)
    (hF: ∀(i:Nat) a (s:List β),l[i]? =some a→s.length+1≤B→F (pk i s)=some (.go (pk (i+1) (match g i a with|some b=>s++ [b]|none=>s))))
    (h0: ∀s,F (pk l.length s)=some (.out (fin s))):loop F S0=some (fin (s0++Gu g 0 l)):=by
  have:=YG (F:=F) pk l (fun i s=>s.length≤s0.length+i) (fun i s a=>match g i a with|some b=>s++ [b]|none=>s) fin (s0:=s0) (S0:=S0) hS (by simp) (fun i a s h hs=>hF i a s h (by have:=(lI.1 h).1;omega)) (fun i a s _ hs=>by
    cases g i a<;>simp<;>omega) (fun s _=>h0 s)
  exact this.trans (congrArg (fun x=>some (fin x)) (CU g l 0 s0))
theorem iC {S α β τ:Type}{F:S→Option (Stp S τ)}(pk:Nat→List β→S)(l:List α)(g:Nat→α→List β)(fin:List β→τ)(s0:List β)(C B:Nat){S0:S}(hS:pk 0 s0=S0)(hB:s0.length+l.length*C≤B)(hC: ∀(i:Nat) a,l[i]? =some a→(g i a).length≤C)
    (hF: ∀(i:Nat) a (s:List β),l[i]? =some a→s.length+C≤B→F (pk i s)=some (.go (pk (i+1) (s++g i a))))
    (h0: ∀s,F (pk l.length s)=some (.out (fin s))):loop F S0=some (fin (s0++Ty g 0 l)):=by
  have key: ∀(r:List α) (i:Nat) (s:List β),EY (fun i s a=>s++g i a) i s r=s++Ty g i r:=by
    intro r
    induction r with
    |nil=>intro i s;simp [EY,Ty]
    |cons a r ih=>intro i s;simp [EY,Ty,ih]
  have:=YG (F:=F) pk l (fun i s=>s.length≤s0.length+i*C) (fun i s a=>s++g i a) fin (s0:=s0) (S0:=S0) hS (by simp) (fun i a s h hs=>hF i a s h (by
    have h1:=(lI.1 h).1
    have h2:(i+1)*C≤l.length*C:=Nat.mul_le_mul_right C h1
    rw [wJ,Nat.one_mul]at h2;omega)) (fun i a s h hs=>by
    have h3:=hC i a h
    rw [lM,wJ,Nat.one_mul];omega) (fun s _=>h0 s)
  exact this.trans (congrArg (fun x=>some (fin x)) (key l 0 s0))
/-- Present at both ends of a tick. -/
def On (m:Map)(s:State)(A:List Agent)(i z:Int):Bool:=S3 s i&& (match C1 s.Agents i,C1 A i with
  |some g,some g'=>Hr m g g' z
  |_,_=>false)
theorem Te {s:State}{i:Int}(h:S3 s i=true): ∃g,C1 s.Agents i=some g∧s.Agents[i.toNat]? =some g∧0≤i∧i<s.Agents.length∧g.Gone=false∧g.Begin≤s.Tick:=by
  unfold S3 at h
  by_cases q:0≤i∧i<s.Agents.length
  ·obtain ⟨g,h1,h2⟩:=Rz q.1 q.2
   rw [h1]at h
   dsimp only at h
   rw [bU,bM]at h
   exact ⟨g,h1,h2,q.1,q.2,by simpa using h.1,h.2⟩
  ·rw [GO q]at h;cases h
theorem aZ {m:Map}{s:State}{A:List Agent}{i z:Int}(h:On m s A i z=true): ∃g g',C1 s.Agents i=some g∧s.Agents[i.toNat]? =some g∧0≤i∧i<s.Agents.length∧C1 A i=some g'∧Hr m g g' z=true:=by
  unfold On at h
  rw [bU]at h
  obtain ⟨g,h1,h2,h3,h4,_⟩:=Te h.1
  rw [h1]at h
  cases hA:C1 A i with
  |none=>rw [hA]at h;exact absurd h.2 (by simp)
  |some g'=>rw [hA]at h;exact ⟨g,g',h1,h2,h3,h4,rfl,h.2⟩
theorem Zn {m:Map}(B:BearK m){s:State}(S:SizeS s){sc:WorldScene}{A:List Agent}(hm:sc.m=m)(hb:sc.before=s)(ha:sc.after.Agents=A)(hl:A.length=s.Agents.length)(i z:Int):N7 sc i z=some (On m s A i z):=by
  unfold N7 On
  rw [hm,hb,ha,(Om s i).1,lB]
  cases h:S3 s i
  ·rfl
  ·obtain ⟨g,h1,h2,h3,h4,_⟩:=Te h
   obtain ⟨g',h5,_⟩:=Rz (l:=A) h3 (by omega)
   rw [h1,h5]
   simp only [bO,lB,bS]
   rw [(Wq B (S.routes g (lG h2)) z).1];rfl
/-- The stay of who is present. -/
def Tz (m:Map)(s:State)(i z:Int):Stay:=match s.In.find? (Wr i z)with
  |some x=>x
  |none=>⟨i,z,s.Tick,match C1 s.Agents i with|some g=>HS m g.Route z s.Tick|none=>0⟩
theorem IT (m:Map)(s:State)(i z:Int):(Tz m s i z).Agent_=i∧(Tz m s i z).Zone_=z:=by
  unfold Tz
  cases h:s.In.find? (Wr i z)with
  |none=>exact ⟨rfl,rfl⟩
  |some x=>
   have:=l6 h
   unfold Wr at this
   simpa using this
def BQ (m:Map)(s:State)(A:List Agent)(i:Nat)(z:Nat)(_:Zone):Option Stay:=if On m s A i z=true then some (Tz m s i z)else none
def Tf (m:Map)(s:State)(A:List Agent)(i:Nat)(_:Agent):List Stay:=Gu (BQ m s A i) 0 m.Zones
/-- The stays after a tick. -/
def Ar (m:Map)(s:State)(A:List Agent):List Stay:=Ty (Tf m s A) 0 s.Agents
theorem CZ (m:Map)(s:State)(A:List Agent)(i:Nat)(a:Agent):(Tf m s A i a).length≤m.Zones.length:=Vb _ _ _
theorem Dx {α β:Type}{g:Nat→α→Option β}{b:β}: ∀(l:List α) (k:Nat),b∈Gu g k l↔∃(i:Nat) (a:α),l[i]? =some a∧g (k+i) a=some b
  | [],k=>by simp [Gu]
  |a::r,k=>by
   have ih:=Dx (g:=g) (b:=b) r (k+1)
   have e:(∃(i:Nat) (a':α),(a::r)[i]? =some a'∧g (k+i) a'=some b)↔g k a=some b∨∃(i:Nat) (a':α),r[i]? =some a'∧g (k+1+i) a'=some b:=by
     constructor
     ·rintro ⟨i,a',h1,h2⟩
      cases i with
      |zero=>simp at h1;subst h1;exact .inl h2
      |succ i=>exact .inr ⟨i,a',by simpa using h1,by rw [show k+1+i=k+ (i+1) by omega];exact h2⟩
     ·rintro (h|⟨i,a',h1,h2⟩)
      ·exact ⟨0,a,rfl,h⟩
      ·exact ⟨i+1,a',by simpa using h1,by rw [show k+ (i+1)=k+1+i by omega];exact h2⟩
   rw [e,Gu]
   cases hg:g k a with
   |none=>simp [ih]
   |some c=>simp [ih,eq_comm]
theorem GQ {α β:Type}{g:Nat→α→List β}{b:β}: ∀(l:List α) (k:Nat),b∈Ty g k l↔∃(i:Nat) (a:α),l[i]? =some a∧b∈g (k+i) a
  | [],k=>by simp [Ty]
  |a::r,k=>by
   have ih:=GQ (g:=g) (b:=b) r (k+1)
   rw [Ty,lT,ih]
   constructor
   ·rintro (h|⟨i,a',h1,h2⟩)
    ·exact ⟨0,a,rfl,h⟩
    ·exact ⟨i+1,a',by simpa using h1,by rw [show k+ (i+1)=k+1+i by omega];exact h2⟩
   ·rintro ⟨i,a',h1,h2⟩
    cases i with
    |zero=>simp at h1;subst h1;exact .inl h2
    |succ i=>exact .inr ⟨i,a',by simpa using h1,by rw [show k+1+i=k+ (i+1) by omega];exact h2⟩
theorem stays_mem {m:Map}{s:State}{A:List Agent}{x:Stay}:x∈Ar m s A↔∃i z:Nat,i<s.Agents.length∧z<m.Zones.length∧On m s A i z=true∧x=Tz m s i z:=by
  unfold Ar
  rw [GQ]
  constructor
  ·rintro ⟨i,a,h1,h2⟩
   unfold Tf at h2
   rw [Dx]at h2
   obtain ⟨z,zn,h3,h4⟩:=h2
   unfold BQ at h4
   rw [wK,wK]at h4
   split at h4
   ·rename_i h5
    cases h4
    exact ⟨i,z,H5 h1,H5 h3,h5,rfl⟩
   ·cases h4
  ·rintro ⟨i,z,h1,h2,h3,rfl⟩
   refine ⟨i,s.Agents[i],lH h1,?_⟩
   unfold Tf
   rw [Dx]
   refine ⟨z,m.Zones[z],lH h2,?_⟩
   unfold BQ
   rw [wK,wK,bQ h3]
theorem LQ {α β:Type}{g:Nat→α→Option β}{R:β→β→Prop}(h: ∀i j a a' b b',i<j→g i a=some b→g j a'=some b'→R b b'): ∀(l:List α) (k:Nat),(Gu g k l).Pairwise R
  | [],k=>List.Pairwise.nil
  |a::r,k=>by
   have ih:=LQ h r (k+1)
   rw [Gu]
   cases hg:g k a with
   |none=>exact ih
   |some b=>
    refine bB.2 ⟨fun b' hb'=> ?_,ih⟩
    obtain ⟨i,a',_,h2⟩:=(Dx r (k+1)).1 hb'
    exact h k (k+1+i) a a' b b' (by omega) hg h2
theorem LR {α β:Type}{g:Nat→α→List β}{R:β→β→Prop}(h0: ∀i a,(g i a).Pairwise R)(h: ∀i j a a' b b',i<j→b∈g i a→b'∈g j a'→R b b'): ∀(l:List α) (k:Nat),(Ty g k l).Pairwise R
  | [],k=>List.Pairwise.nil
  |a::r,k=>by
   rw [Ty]
   refine bC.2 ⟨h0 k a,LR h0 h r (k+1),fun b hb b' hb'=> ?_⟩
   obtain ⟨i,a',_,h2⟩:=(GQ r (k+1)).1 hb'
   exact h k (k+1+i) a a' b b' (by omega) hb h2
theorem LS (m:Map)(s:State)(A:List Agent):OK (Ar m s A):=by
  have key: ∀(i z:Nat) zn b,BQ m s A i z zn=some b→b.Agent_=(i:Int)∧b.Zone_=(z:Int):=by
    intro i z zn b h
    unfold BQ at h
    split at h
    ·cases h;exact IT m s i z
    ·cases h
  refine LR (fun i a=>LQ (fun z z' _ _ b b' hz h1 h2=> ?_) _ _) (fun i j a a' b b' hij h1 h2=> ?_) _ _
  ·have k1:=key i z _ b h1
   have k2:=key i z' _ b' h2
   unfold Gv
   rw [k1.1,k1.2,k2.1,k2.2]
   simp [hz]
  ·unfold Tf at h1 h2
   obtain ⟨z,zn,_,h1⟩:=(Dx _ _).1 h1
   obtain ⟨z',zn',_,h2⟩:=(Dx _ _).1 h2
   have k1:=key i _ zn b h1
   have k2:=key j _ zn' b' h2
   unfold Gv
   rw [k1.1,k2.1]
   simp only [bV,bM,bU,wB]
   omega
theorem WW {m:Map}{s:State}{A:List Agent}{i z:Int}(hz:0≤z∧z<m.Zones.length)(h:On m s A i z=true):(Ar m s A).find? (Wr i z)=some (Tz m s i z):=by
  obtain ⟨g,g',h1,h2,h3,h4,_⟩:=aZ h
  have hm:Tz m s i z∈Ar m s A:=stays_mem.2 ⟨i.toNat,z.toNat,by omega,by omega,by rw [wG h3,wG hz.1];exact h,by rw [wG h3,wG hz.1]⟩
  have hk:Wr i z (Tz m s i z)=true:=by
    have:=IT m s i z
    unfold Wr;rw [this.1,this.2];simp
  cases hf:(Ar m s A).find? (Wr i z)with
  |none=>exact absurd hk (by simpa using List.find?_eq_none.1 hf _ hm)
  |some x=>
   obtain ⟨i',z',_,_,_,rfl⟩:=stays_mem.1 (l7 hf)
   have:=l6 hf
   unfold Wr at this
   have k:=IT m s i' z'
   rw [k.1,k.2]at this
   simp only [bU,wB]at this
   rw [this.1,this.2]
theorem AG (m:Map)(s:State)(A:List Agent):(Ar m s A).length≤s.Agents.length*m.Zones.length:=OB _ _ _ _ fun _ _ _=>CZ _ _ _ _ _
/-- The program's choice of a stay. -/
theorem cA {m:Map}(K:KitM m){s:State}(S:SizeS s)(hs:OK s.In){i z:Int}{g:Agent}(hg:C1 s.Agents i=some g)(hr:g.Route.length≤1000):
    ∃v8,D2 s.In (Stay.mk i z s.Tick 0)=some v8∧cond v8.2 ((C1 s.In v8.1).bind fun v9=>some v9) ((Gc m g z s.Tick).bind fun v10=>some (Stay.mk i z s.Tick v10))=some (Tz m s i z):=by
  obtain ⟨k,h1,h2⟩:=YQ S.ins hs (Stay.mk i z s.Tick 0)
  refine ⟨_,h1,?_⟩
  unfold Tz
  dsimp only at h2 ⊢
  cases hf:s.In.find? (Wr i z)with
  |some x=>rw [C3 (h2 x hf)];rfl
  |none=>rw [(YP K hr z s.Tick).1,hg];rfl
/-- The agents after a tick. -/
def Db (m:Map)(s:State)(acts:List Int):List Agent:=s.Agents.mapIdx fun i _=>Mg m s i (acts.getD i 0)
def BR (m:Map)(s:State)(acts:List Int)(k:Nat):List Agent:=s.Agents.mapIdx fun i g=>if i<k then Mg m s i (acts.getD i 0)else g
theorem WX (m:Map)(s:State)(acts:List Int):BR m s acts 0=s.Agents:=by
  apply List.ext_getElem?
  intro i
  unfold BR
  rw [bE]
  cases s.Agents[i]? <;>simp
theorem cB (m:Map)(s:State)(acts:List Int):BR m s acts s.Agents.length=Db m s acts:=by
  apply List.ext_getElem?
  intro i
  unfold BR Db
  rw [bE,bE]
  cases h:s.Agents[i]? with
  |none=>rfl
  |some g=>simp [H5 h]
theorem Nl (m:Map)(s:State)(acts:List Int):(Db m s acts).length=s.Agents.length:=by unfold Db;simp
theorem cC {m:Map}{s:State}{acts:List Int}{k:Nat}{g:Agent}(h:s.Agents[k]? =some g):C1 (BR m s acts k) (k:Int)=some g:=by
  apply C3
  unfold BR
  rw [bE,h];simp
theorem GR {m:Map}{s:State}{acts:List Int}{k:Nat}{g:Agent}(h:s.Agents[k]? =some g):C1 (Db m s acts) (k:Int)=some (Mg m s k (acts.getD k 0)):=by
  apply C3
  unfold Db
  rw [bE,h];simp
theorem cD {m:Map}{s:State}{acts:List Int}{k:Nat}:Lx (BR m s acts k) (k:Int) (Mg m s k (acts.getD k 0))=BR m s acts (k+1):=by
  apply List.ext_getElem?
  intro i
  unfold Lx BR
  rw [wF,List.getElem?_set,bE,bE,List.length_mapIdx]
  by_cases q:k=i
  ·subst q
   by_cases h:k<s.Agents.length
   ·rw [bQ rfl,bQ h,lH h];simp
   ·rw [bQ rfl,bR h,lJ (by omega)];rfl
  ·rw [bR q]
   have:i<k↔i<k+1:=by omega
   simp [this]
theorem pB (acts:List Int)(i:Nat):(cond (decide ((i:Int)< (acts.length:Int))) ((C1 acts (i:Int)).bind fun v3=>some v3) (some 0))=some (acts.getD i 0):=by
  by_cases h:i<acts.length
  ·rw [K0 h,C3 (lH h),List.getD,lH h];rfl
  ·rw [bK (by omega),List.getD,lJ (by omega)];rfl
theorem WY {m:Map}(K:KitM m){s:State}(S:SizeS s)(w: ∀g∈s.Agents,g.S≤9223372036854775807)(acts:List Int){v2:State}(hv:v2.Agents=s.Agents):Gj m s acts v2=some (Db m s acts):=by
  have hl:=S.agents
  have e:loop (Cb m s acts) (0,s.Agents)=some (Db m s acts):=by
    refine YG (fun i (_:Unit)=>((i:Int),BR m s acts i)) s.Agents (fun _ _=>True) (fun _ _ _=>()) (fun _=>Db m s acts) (s0:=()) (by rw [WX];rfl) trivial (fun i a _ h _=> ?_) (fun _ _ _ _ _=>trivial) (fun _ _=> ?_)
    ·unfold Cb
     dsimp only
     rw [K0 (H5 h),bO,pB,lB,(mM K S w i _).1,lB,cC h,lB,cD,G8 (H5 h) (by omega)]
    ·unfold Cb
     dsimp only
     rw [H9,cB];rfl
  unfold Gj
  rw [hv,e];rfl
theorem WZ {m:Map}(K:KitM m){s:State}(S:SizeS s)(hs:OK s.In)(acts:List Int){A:List Agent}(hA:A.length=s.Agents.length)(v2:State):Gi m s acts v2 A=some (Ar m s A):=by
  have hl:=S.agents
  have hz:=K.zones2
  have e:loop (Ca m s acts v2 A) (0,[])=some (Ar m s A):=by
    refine iC (fun i l=>((i:Int),l)) s.Agents (Tf m s A) id [] 2 1000000 rfl (by simp;omega) (fun i a _=>wL (CZ _ _ _ _ _) hz) (fun i a l h hb=> ?_) (fun l=> ?_)
    ·have hg:=C3 h
     have hr:=S.routes a (lG h)
     have e:loop (Bz m s acts v2 A ((i:Int),l) a) (0,l)=some (l++Tf m s A i a):=by
       refine WV (fun z l=>((z:Int),l)) m.Zones (BQ m s A i) id l 1000000 rfl (by omega) (fun z zn l' hz' hb'=> ?_) (fun l'=> ?_)
       ·unfold Bz BQ
        dsimp only
        rw [K0 (H5 hz'),bO,Zn K.toBearK S rfl rfl rfl hA,lB,G8 (H5 hz') (by omega)]
        cases hh:On m s A i z
        ·rfl
        ·obtain ⟨v8,p1,p2⟩:=cA K S hs (z:=(z:Int)) hg hr
         rw [bW,bP,p1,lB,p2,lB,X6,bQ (by simp;omega)];rfl
       ·unfold Bz
        dsimp only
        rw [H9];rfl
     unfold Ca
     dsimp only
     rw [K0 (H5 h),bO,hg,lB,e,lB,G8 (H5 h) (by omega)]
    ·unfold Ca
     dsimp only
     rw [H9];rfl
  unfold Gi
  rw [e];rfl
theorem XA {m:Map}{s:State}{A:List Agent}{i:Nat}(h:S3 s i=false)(a:Agent):Tf m s A i a= []:=by
  apply List.eq_nil_iff_forall_not_mem.2
  intro x hx
  unfold Tf at hx
  obtain ⟨z,zn,_,h2⟩:=(Dx _ _).1 hx
  unfold BQ On at h2
  rw [h,bT,bR (by simp)]at h2
  cases h2
theorem XB {m:Map}(B:BearK m){r:List Int}(hr:r.length≤1000000){p:Pass}(hp:p∈Lm m r):0≤Et m r p.Zone_:=by
  unfold Lm at hp
  by_cases q:P6 m r=0
  ·obtain ⟨a,t,rfl,R⟩:=chkRoute_zero.1 q
   obtain ⟨ps,p1,p2,_⟩:=OH B R
   rw [p1]at hp
   obtain ⟨i,lane,j,z,k,pt,h1,h2,h3,h4,rfl⟩:=AF m (a::t) 0 p (p2.mem_iff.1 hp)
   unfold Et
   dsimp only
   rw [wF,h2]
   dsimp only
   rw [bQ ⟨by omega,q⟩]
   have hz:(Kc z lane).2=true:=by
     unfold Kc
     cases hf:z.Parts.find? (fun p=>p.Lane_==lane)with
     |some _=>rfl
     |none=>
      have:=List.find?_eq_none.1 hf pt (lG h3)
      exact absurd (by simpa using h4) this
   have h5:=Va (fun l=>(Kc z l).2) (a::t)
   rw [show ((a::t).any fun l=>(Kc z l).2)=true from lZ.2 ⟨lane,lG h1,hz⟩]at h5
   exact bN h5
  ·have h1:loop (O6 m (Be m r)) ([],0)=some []:=by
     refine C7 ?_
     unfold O6
     rw [Tc q];rfl
   have:W1 m r=some []:=by
     unfold W1
     rw [Ry B.toBearM r hr,lB,h1,lB,CX];rfl
   rw [this]at hp
   cases hp
theorem BS {m:Map}(B:BearK m){g g':Agent}(hr:g.Route.length≤1000){z:Int}(h:Hr m g g' z=true):0≤Et m g.Route z:=by
  unfold Hr at h
  rw [bU]at h
  obtain ⟨p,h1,h2⟩:=lZ.1 h.2
  unfold Um at h2
  simp only [bU,wB]at h2
  rw [← h2.1.1]
  exact XB B (by omega) h1
/-! ### Along a lane -/
def Jx (m:Map)(r:List Int)(x:Int):Int×Bool:=match r.findIdx? (fun y=>x==y)with
  |some i=>((StartsM m r).getD i 0,true)
  |none=>(0,false)
theorem XC {m:Map}{a:Int}{t:List Int}(R:RouteOK m a t){i:Nat}(hi:i< (a::t).length):(StartsM m (a::t))[i]? =some ((StartsM m (a::t)).getD i 0):=by
  rw [List.getD,lH (by rw [R.StartsM,Ku];exact hi)];rfl
theorem TV {m:Map}(B:BearM m){s:State}{sc:WorldScene}{i:Int}{g:Agent}(hm:sc.m=m)(hb:sc.before=s)(hg:C1 s.Agents i=some g)(hr:g.Route.length≤1000){a:Int}{t:List Int}(hR:g.Route=a::t)(R:RouteOK m a t)(x:Int):S8 sc i x=some (Jx m g.Route x):=by
  unfold S8 R5 Jx
  rw [hm,hb,hg,lB,Qn g.Route (fun y=>x==y) (by omega) (fun i y h=>by
   unfold T4
   rw [K0 (H5 h),bO,C3 h,lB]
   cases x==y<;>rfl) (by unfold T4;rw [H9];rfl),lB]
  unfold EX
  cases hf:g.Route.findIdx? (fun y=>x==y)with
  |none=>rfl
  |some k=>
   have hk:=(List.findIdx?_eq_some_iff_getElem.1 hf).1
   dsimp only
   rw [hR]at hk ⊢
   rw [bK (by omega),bP,GL B _ (by rw [← hR];omega),lB,C3 (XC R hk)];rfl
/-- Whether the back's front reaches the front's rear on a lane. -/
def pM (L:Int)(f' b' b:Agent)(fs bs:Int):Bool:=((((decide (D3 (f'.S - fs)≥0))&& (decide (D3 (b'.S - bs)≥0)))&& (decide (D3 (D3 (b.S - b.Len) - bs)≤L)))&& (decide (D3 (D3 (f'.S - f'.Len) - fs)≤L)))&& (decide (D3 (b'.S - bs)≥D3 (D3 (f'.S - f'.Len) - fs)))
def Un (m:Map)(tick i j:Int)(gi gj gi' gj':Agent)(x:Int):Option Crash:=
  if (Jx m gi.Route x).2=true∧(Jx m gj.Route x).2=true then
   if D3 (gi.S - (Jx m gi.Route x).1)<D3 (gj.S - (Jx m gj.Route x).1)then
    (if pM (Aq m x) gj' gi' gi (Jx m gj.Route x).1 (Jx m gi.Route x).1=true then some ⟨tick,i,j,x, -1,[i]⟩else none)
   else (if pM (Aq m x) gi' gj' gj (Jx m gi.Route x).1 (Jx m gj.Route x).1=true then some ⟨tick,i,j,x, -1,[j]⟩else none)
  else none
theorem pC {m:Map}(B:BearM m){s v2:State}{acts:List Int}{A:List Agent}{St:List Stay}{x4:List Crash}(hx4:x4.length≤1000000){i j:Int}{gi gj gi' gj':Agent}(hi:C1 s.Agents i=some gi)(hj:C1 s.Agents j=some gj)(hi':C1 A i=some gi')(hj':C1 A j=some gj')(hri:gi.Route.length≤1000)(hrj:gj.Route.length≤1000)
    {a b:Int} {t u:List Int} (hRi:gi.Route=a::t) (hRj:gj.Route=b::u) (Ri:RouteOK m a t) (Rj:RouteOK m b u) {k:Nat} {l:Lane} (h:m.Lanes[k]? =some l):
    Ao m s acts v2 A St x4 (i,j) (k:Int)=some (match (Un m s.Tick i j gi gj gi' gj' (k:Int)).map fun c=>x4++ [c]with|some e=> .out (.inr e)|none=> .go ((k+1:Nat):Int)):=by
  have hL:=B.lanes
  unfold Ao Un
  dsimp only
  rw [K0 (H5 h),bO,TV B rfl rfl hi hri hRi Ri,lB,TV B rfl rfl hj hrj hRj Rj,lB,G8 (H5 h) (by omega),hi,hj]
  cases h1:(Jx m gi.Route (k:Int)).2
  ·rw [bR (by simp)];rfl
  cases h2:(Jx m gj.Route (k:Int)).2
  ·rw [bR (by simp)];rfl
  rw [bQ ⟨rfl,rfl⟩]
  simp only [bW,Bool.or_self,bP,lB]
  by_cases q:D3 (gi.S - (Jx m gi.Route (k:Int)).1)<D3 (gj.S - (Jx m gj.Route (k:Int)).1)
  ·rw [bQ q,bJ q]
   simp only [bO,lB,hi,hj,hi',hj',Ag,Y8,Jl B]
   show cond (pM _ _ _ _ _ _) _ _=_
   cases pM (Aq m (k:Int)) gj' gi' gi (Jx m gj.Route (k:Int)).1 (Jx m gi.Route (k:Int)).1
   ·rfl
   ·rw [bO,X6,bQ (by simp;omega)];rfl
  ·rw [bR q,bK q]
   simp only [bP,lB,hi,hj,hi',hj',Ag,Y8,Jl B]
   show cond (pM _ _ _ _ _ _) _ _=_
   cases pM (Aq m (k:Int)) gi' gj' gj (Jx m gi.Route (k:Int)).1 (Jx m gj.Route (k:Int)).1
   ·rfl
   ·rw [bO,X6,bQ (by simp;omega)];rfl
/-- Two agents in a tick: what is known of them. -/
structure Two (m:Map)(s:State)(A:List Agent)(i j:Int)(gi gj gi' gj':Agent):Prop where
  hi:C1 s.Agents i=some gi
  hj:C1 s.Agents j=some gj
  hi':C1 A i=some gi'
  hj':C1 A j=some gj'
  ti:S3 s i=true
  tj:S3 s j=true
  ri:gi.Route.length≤1000
  rj:gj.Route.length≤1000
  oi: ∃a t,gi.Route=a::t∧RouteOK m a t
  oj: ∃a t,gj.Route=a::t∧RouteOK m a t
theorem LU {α β γ:Type}(g:Nat→α→Option β)(f:β→γ): ∀(l:List α) (k:Nat),I7 (fun i a=>(g i a).map f) k l=(I7 g k l).map f
  | [],_=>rfl
  |a::r,k=>by
   rw [I7,I7]
   cases g k a with
   |none=>exact LU g f r (k+1)
   |some b=>rfl
def LV (m:Map)(tick i j:Int)(gi gj gi' gj':Agent):List Crash:=(I7 (fun k (_:Lane)=>Un m tick i j gi gj gi' gj' (k:Int)) 0 m.Lanes).toList
theorem OL (m:Map)(tick i j:Int)(gi gj gi' gj':Agent):(LV m tick i j gi gj gi' gj').length≤1:=by
  unfold LV
  cases I7 (fun k (_:Lane)=>Un m tick i j gi gj gi' gj' (k:Int)) 0 m.Lanes<;>simp
theorem qN {m:Map}(B:BearM m){s v2:State}{acts:List Int}{A:List Agent}{St:List Stay}{x4:List Crash}(hx4:x4.length≤1000000){i j:Int}{gi gj gi' gj':Agent}(T:Two m s A i j gi gj gi' gj'):
    Gg m s acts v2 A St x4 (i,j)=some (x4++LV m s.Tick i j gi gj gi' gj'):=by
  obtain ⟨a,t,hRi,Ri⟩:=T.oi
  obtain ⟨b,u,hRj,Rj⟩:=T.oj
  unfold Gg LV
  rw [Z6 m.Lanes _ (fun k (_:Lane)=>(Un m s.Tick i j gi gj gi' gj' (k:Int)).map fun c=>x4++ [c]) (fun k l h=>by rw [pC B hx4 T.hi T.hj T.hi' T.hj' T.ri T.rj hRi hRj Ri Rj h];cases Un m s.Tick i j gi gj gi' gj' (k:Int)<;>rfl) (by unfold Ao;rw [H9];rfl),LU (fun k (_:Lane)=>Un m s.Tick i j gi gj gi' gj' (k:Int))]
  cases I7 (fun k (_:Lane)=>Un m s.Tick i j gi gj gi' gj' (k:Int)) 0 m.Lanes with
  |none=>simp [GF,thenS]
  |some c=>rfl
def Pq (m:Map)(s:State)(A:List Agent)(i j:Int)(gi gj:Agent)(z:Int):Bool:=(On m s A i z&&On m s A j z)&& (Mh m gi.Route z !=Mh m gj.Route z)
theorem cE {m:Map}(B:BearK m){s:State}(S:SizeS s){sc:WorldScene}{A:List Agent}(hm:sc.m=m)(hb:sc.before=s)(ha:sc.after.Agents=A)(hl:A.length=s.Agents.length){i j:Int}{gi gj:Agent}(hi:C1 s.Agents i=some gi)(hj:C1 s.Agents j=some gj)(hri:gi.Route.length≤1000)(hrj:gj.Route.length≤1000)(z:Int):
    S7 sc i j z=some (Pq m s A i j gi gj z):=by
  unfold S7 Pq
  rw [Zn B S hm hb ha hl,Zn B S hm hb ha hl,hm,hb,lB,hi,hj]
  cases On m s A i z
  ·rfl
  ·simp only [bO,lB,bS]
   cases On m s A j z
   ·rfl
   ·simp only [bO,lB,GP B.toBearM (show gi.Route.length≤1000000 by omega),GP B.toBearM (show gj.Route.length≤1000000 by omega)]
/-- Who is to blame. -/
def mO (m:Map)(s:State)(i j z:Int):List Int:=
  if (Tz m s i z).Rank< (Tz m s j z).Rank∨(Tz m s i z).Rank=(Tz m s j z).Rank∧(Tz m s i z).Since>(Tz m s j z).Since then [i]
  else if (Tz m s j z).Rank< (Tz m s i z).Rank∨(Tz m s j z).Since>(Tz m s i z).Since then [j]else [i,j]
def QO (m:Map)(s:State)(A:List Agent)(i j:Int)(gi gj:Agent)(z:Nat)(_:Zone):Option Crash:=if Pq m s A i j gi gj z=true then some ⟨s.Tick,i,j, -1,(z:Int),mO m s i j z⟩else none
def OM (m:Map)(s:State)(A:List Agent)(i j:Int)(gi gj:Agent):List Crash:=Gu (QO m s A i j gi gj) 0 m.Zones
theorem XD {m:Map}{s:State}{A:List Agent}{i j:Int}{gi gj:Agent}{z:Int}(h:Pq m s A i j gi gj z=true):On m s A i z=true∧On m s A j z=true:=by
  unfold Pq at h
  simp only [bU]at h
  exact h.1
theorem TW {m:Map}(B:BearK m){s:State}(S:SizeS s){A:List Agent}{sc:WorldScene}(ha:sc.after.In=Ar m s A){i z:Int}(hz:0≤z∧z<m.Zones.length)(h:On m s A i z=true):U2 sc i z=some (Tz m s i z):=by
  have h2:=B.zones2
  have hl:=AG m s A
  have hlen:(Ar m s A).length≤1000000:=by
    have:=wM S.agents h2
    omega
  obtain ⟨k,h1,h2⟩:=YQ hlen (LS m s A) (Stay.mk i z 0 0)
  have hf:=WW hz h
  unfold U2
  rw [ha,h1,lB,C3 (h2 _ hf)];rfl
theorem pD (m:Map)(s:State)(i j z:Int):((Y7 (Tz m s i z).Rank (Tz m s j z).Rank).bind fun v31=>(Aj (Tz m s j z).Since (Tz m s i z).Since).bind fun v32=>(Bk [v31,v32]).bind fun v33=>(cond (v33==(-1)) (some [i]) (cond (v33==1) (some [j]) (some [i,j]))))=some (mO m s i j z):=by
  rw [Tb,lB,Wn,lB,WT,lB]
  unfold mO FB
  by_cases a:(Tz m s i z).Rank< (Tz m s j z).Rank
  ·simp [a]
  ·by_cases b:(Tz m s i z).Rank>(Tz m s j z).Rank
   ·have:(Tz m s i z).Rank≠(Tz m s j z).Rank:=by omega
    simp [a,b,this]
   ·have e:(Tz m s i z).Rank=(Tz m s j z).Rank:=by omega
    by_cases c:(Tz m s j z).Since< (Tz m s i z).Since
    ·simp [e,c]
    ·by_cases d:(Tz m s j z).Since>(Tz m s i z).Since
     ·simp [e,c,d]
     ·simp [e,c,d]
theorem cF (m:Map)(s:State)(A:List Agent)(i j:Int)(gi gj:Agent):(OM m s A i j gi gj).length≤m.Zones.length:=Vb _ _ _
theorem pE {m:Map}(B:BearK m){s v2:State}(S:SizeS s){acts:List Int}{A:List Agent}(hl:A.length=s.Agents.length){y:List Crash}(hy:y.length≤1000001){i j:Int}{gi gj gi' gj':Agent}(T:Two m s A i j gi gj gi' gj'):
    Ee m s acts v2 A (Ar m s A) (i,j) y=some (y++OM m s A i j gi gj):=by
  have h2:=B.zones2
  have e:loop (An m s acts v2 A (Ar m s A) (i,j)) (0,y)=some (y++OM m s A i j gi gj):=by
    refine WV (fun z l=>((z:Int),l)) m.Zones (QO m s A i j gi gj) id y 1000003 rfl (by omega) (fun z zn l hz hb=> ?_) (fun l=> ?_)
    ·unfold An QO
     dsimp only
     rw [K0 (H5 hz),bO,cE B S rfl rfl rfl hl T.hi T.hj T.ri T.rj,lB,G8 (H5 hz) (by omega)]
     cases hc:Pq m s A i j gi gj z
     ·rfl
     ·have hh:=XD hc
      have hzr:(0:Int)≤(z:Int)∧(z:Int)<m.Zones.length:=⟨by omega,by have:=H5 hz;omega⟩
      rw [bW,bP,TW B S rfl hzr hh.1,lB,TW B S rfl hzr hh.2,lB]
      have hw:=pD m s i j z
      rw [Tb,lB,Wn,lB,WT,lB]at hw ⊢
      rw [hw,lB,X6,bQ (by simp;omega)];rfl
    ·unfold An
     dsimp only
     rw [H9];rfl
  unfold Ee
  rw [e];rfl
def DA (m:Map)(s:State)(A:List Agent)(i j:Int)(gi gj:Agent):List Int:=Gu (fun z (_:Zone)=>if Pq m s A i j gi gj z=true then some (z:Int)else none) 0 m.Zones
theorem cG {m:Map}(B:BearK m){s s':State}{A:List Agent}(hA:s'.Agents=A){i j:Int}{gi gj gi' gj':Agent}(T:Two m s A i j gi gj gi' gj'):Ql m s s' i j=some (DA m s A i j gi gj):=by
  have h2:=B.zones2
  have e:loop (Hp m s s' i j) ([],0)=some (DA m s A i j gi gj):=by
    refine GI m.Zones (fun z (_:Zone)=>if Pq m s A i j gi gj z=true then some (z:Int)else none) id (fun z zn l hz hb=> ?_) (fun l=> ?_)
    ·have ec:Pq m s A i j gi gj (z:Int)=((Hr m gi gi' (z:Int)&&Hr m gj gj' (z:Int))&& (Mh m gi.Route (z:Int) !=Mh m gj.Route (z:Int))):=by
       unfold Pq On
       rw [T.hi,T.hj,T.hi',T.hj',T.ti,T.tj,bS,bS]
     have hno:Pq m s A i j gi gj (z:Int)=false→(if Pq m s A i j gi gj (z:Int)=true then some (z:Int)else none)=none:=fun h=>bR (by rw [h];simp)
     unfold Hp
     dsimp only
     rw [K0 (H5 hz),bO,hA,T.hi,lB,T.hj,lB,T.hi',lB,(Wq B T.ri z).2,lB,G8 (H5 hz) (by omega),T.hj']
     cases h1:Hr m gi gi' (z:Int)
     ·rw [hno (by rw [ec,h1];rfl)];rfl
     ·simp only [bW,bX,bO,bP,lB,bY,bS]
      rw [(Wq B T.rj z).2,lB]
      cases h3:Hr m gj gj' (z:Int)
      ·rw [hno (by rw [ec,h1,h3];rfl)];rfl
      ·have q1:=BS B T.ri h1
       have q2:=BS B T.rj h3
       obtain ⟨_,_,_,g1,_⟩:=FF q1
       obtain ⟨_,_,_,g2,_⟩:=FF q2
       have g1:=C3 g1
       have g2:=C3 g2
       rw [wG q1]at g1
       rw [wG q2]at g2
       rw [bW,bP,GM B.toBearM _ (by have:=T.ri;omega),lB,g1,lB,GM B.toBearM _ (by have:=T.rj;omega),lB,g2,lB]
       cases e:(Mh m gi.Route (z:Int) !=Mh m gj.Route (z:Int))
       ·rw [hno (by rw [ec,h1,h3,e];rfl)];rfl
       ·rw [bQ (show Pq m s A i j gi gj (z:Int)=true by rw [ec,h1,h3,e];rfl),bO,X6,bQ (by have:=H5 hz;simp;omega)];rfl
    ·unfold Hp
     dsimp only
     rw [H9];rfl
  unfold Ql
  rw [e];rfl
/-- The crashes of two agents. -/
def BT (m:Map)(s:State)(A:List Agent)(i j:Int):List Crash:=match C1 s.Agents i,C1 s.Agents j,C1 A i,C1 A j with
  |some gi,some gj,some gi',some gj'=>LV m s.Tick i j gi gj gi' gj'++OM m s A i j gi gj
  |_,_,_,_=> []
theorem Two.pair {m:Map}{s:State}{A:List Agent}{i j:Int}{gi gj gi' gj':Agent}(T:Two m s A i j gi gj gi' gj'):BT m s A i j=LV m s.Tick i j gi gj gi' gj'++OM m s A i j gi gj:=by
  unfold BT
  rw [T.hi,T.hj,T.hi',T.hj']
theorem iD {m:Map}{s:State}(O: ∀g∈s.Agents,∃a t,g.Route=a::t∧RouteOK m a t)(S:SizeS s){A:List Agent}(hA:A.length=s.Agents.length){i j:Int}(hi:S3 s i=true)(hj:S3 s j=true): ∃gi gj gi' gj',Two m s A i j gi gj gi' gj':=by
  obtain ⟨gi,a1,a2,a3,a4,_⟩:=Te hi
  obtain ⟨gj,b1,b2,b3,b4,_⟩:=Te hj
  obtain ⟨gi',c1,_⟩:=Rz (l:=A) a3 (by omega)
  obtain ⟨gj',d1,_⟩:=Rz (l:=A) b3 (by omega)
  have mi:=lG a2
  have mj:=lG b2
  exact ⟨gi,gj,gi',gj',a1,b1,c1,d1,hi,hj,S.routes gi mi,S.routes gj mj,O gi mi,O gj mj⟩
theorem ON {m:Map}(B:BearK m)(s:State)(A:List Agent)(i j:Int):(BT m s A i j).length≤3:=by
  have h2:=B.zones2
  unfold BT
  split
  ·rename_i gi gj gi' gj' _ _ _ _
   have h1:=OL m s.Tick i j gi gj gi' gj'
   have h3:=cF m s A i j gi gj
   rw [lM];omega
  ·simp
/-! ### All pairs -/
def Ws (s:State)(i:Nat):Nat→Nat→List (Int×Int)
  |0,_=> []
  |k+1,j=>cond (S3 s i&&S3 s j) (((i:Int),(j:Int))::Ws s i k (j+1)) (Ws s i k (j+1))
def Nm (s:State)(n:Nat):Nat→Nat→List (Int×Int)
  |0,_=> []
  |k+1,i=>Ws s i (n - (i+1)) (i+1)++Nm s n k (i+1)
theorem OO (s:State)(i:Nat): ∀k j,Za s i k j=some (Ws s i k j)
  |0,_=>rfl
  |k+1,j=>by rw [Za,(Om s i).1,lB,(Om s j).1,lB,OO s i k (j+1)];rfl
theorem OP (s:State)(n:Nat): ∀k i,CM s n k i=some (Nm s n k i)
  |0,_=>rfl
  |k+1,i=>by rw [CM,OO,lB,OP s n k (i+1)];rfl
theorem cH {s:State}(S:SizeS s):FY s=some (Nm s s.Agents.length s.Agents.length 0):=by
  have:=S.agents
  unfold FY
  rw [bQ (by omega),OP]
theorem LW {s:State}{i:Nat}{p:Int×Int}: ∀{k j},p∈Ws s i k j→p.1=i∧S3 s i=true∧S3 s p.2=true∧∃j':Nat,p.2=j'∧j≤j'∧j'<j+k
  |0,_,h=>by simp [Ws]at h
  |k+1,j,h=>by
   rw [Ws]at h
   cases hc:(S3 s i&&S3 s j)
   ·rw [hc,bP]at h
    obtain ⟨h1,h2,h3,j',h4,h5,h6⟩:=LW h
    exact ⟨h1,h2,h3,j',h4,by omega,by omega⟩
   ·rw [hc,bO]at h
    rw [bU]at hc
    rcases lU.1 h with rfl|h
    ·exact ⟨rfl,hc.1,hc.2,j,rfl,by omega,by omega⟩
    ·obtain ⟨h1,h2,h3,j',h4,h5,h6⟩:=LW h
     exact ⟨h1,h2,h3,j',h4,by omega,by omega⟩
theorem OQ {s:State}{n:Nat}{p:Int×Int}: ∀{k i},p∈Nm s n k i→∃a b:Nat,p=((a:Int),(b:Int))∧i≤a∧a<b∧b<n∧S3 s a=true∧S3 s b=true
  |0,_,h=>by simp [Nm]at h
  |k+1,i,h=>by
   rw [Nm]at h
   rcases lT.1 h with h|h
   ·obtain ⟨h1,h2,h3,j',h4,h5,h6⟩:=LW h
    obtain ⟨x,y⟩:=p
    dsimp only at h1 h3 h4
    subst h1 h4
    exact ⟨i,j',rfl,by omega,by omega,by omega,h2,h3⟩
   ·obtain ⟨a,b,h1,h2,h3⟩:=OQ h
    exact ⟨a,b,h1,by omega,h3⟩
theorem TX (s:State)(i:Nat): ∀k j,(Ws s i k j).length≤k
  |0,_=>by simp [Ws]
  |k+1,j=>by
   have:=TX s i k (j+1)
   rw [Ws]
   cases S3 s i&&S3 s j
   ·rw [bP];omega
   ·rw [bO,lL];omega
theorem GS (s:State)(n:Nat): ∀k i,(Nm s n k i).length≤k*n
  |0,_=>by simp [Nm]
  |k+1,i=>by
   have h1:=TX s i (n - (i+1)) (i+1)
   have h2:=GS s n k (i+1)
   rw [Nm,lM,wJ,Nat.one_mul];omega
/-- All crashes of a tick. -/
def Vj (m:Map)(s:State)(A:List Agent):List Crash:=(Nm s s.Agents.length s.Agents.length 0).flatMap fun p=>BT m s A p.1 p.2
theorem qO {m:Map}(B:BearK m){s v2:State}(S:SizeS s){acts:List Int}{A:List Agent}(hl:A.length=s.Agents.length){x4:List Crash}(hx:x4.length≤1000000){i j:Int}{gi gj gi' gj':Agent}(T:Two m s A i j gi gj gi' gj'):
    By m s acts v2 A (Ar m s A) x4 (i,j)=some (.go (x4++BT m s A i j)):=by
  have h1:=OL m s.Tick i j gi gj gi' gj'
  unfold By
  rw [qN B.toBearM hx T,lB,pE B S hl (by rw [lM];omega) T,lB,T.pair,lO]
theorem BU {m:Map}(B:BearK m){s v2:State}(S:SizeS s)(O: ∀g∈s.Agents,∃a t,g.Route=a::t∧RouteOK m a t){acts:List Int}{A:List Agent}(hl:A.length=s.Agents.length): ∀(L:List (Int×Int)) (x:List Crash),(∀p∈L,S3 s p.1=true∧S3 s p.2=true)→x.length+3*L.length≤1000003→
    loopL (By m s acts v2 A (Ar m s A)) (fun x4=>x4) L x=some (x++L.flatMap fun p=>BT m s A p.1 p.2)
  | [],x,_,_=>by simp [loopL]
  |p::L,x,h,hx=>by
   obtain ⟨i,j⟩:=p
   have hp:=h (i,j) (by simp)
   obtain ⟨gi,gj,gi',gj',T⟩:=iD O S hl hp.1 hp.2
   rw [lL]at hx
   have h3:=ON B s A i j
   rw [loopL,qO B S hl (by omega) T]
   dsimp only
   rw [BU B S O hl L _ (fun q hq=>h q (by simp [hq])) (by rw [lM];omega),bF,lO]
theorem qP {m:Map}(B:BearK m){s v2:State}(S:SizeS s)(hn:s.Agents.length≤500)(O: ∀g∈s.Agents,∃a t,g.Route=a::t∧RouteOK m a t){acts:List Int}{A:List Agent}(hl:A.length=s.Agents.length):Gh m s acts v2 A (Ar m s A)=some (Vj m s A):=by
  have h1:=GS s s.Agents.length s.Agents.length 0
  have h2:s.Agents.length*s.Agents.length≤500*500:=wM hn hn
  unfold Gh Uh
  rw [lB,cH S,lB,BU B S O hl _ _ (fun p hp=>by
   obtain ⟨a,b,rfl,_,_,_,h3,h4⟩:=OQ hp
   exact ⟨h3,h4⟩) (by rw [lN];omega),lB,lQ];rfl
/-- A tick. -/
def Qp (m:Map)(s:State)(acts:List Int):State×List Crash×Int:=
  if Pp m s≠0 then (⟨0,[],[]⟩,[],Pp m s)
  else if s.Tick=1099511627776 then (⟨0,[],[]⟩,[],2)
  else (⟨s.Tick+1,Db m s acts,Ar m s (Db m s acts)⟩,Vj m s (Db m s acts),0)
theorem iE {m:Map}(K:KitM m){s:State}(S:SizeS s)(w: ∀g∈s.Agents,g.S≤9223372036854775807)(acts:List Int):Ir m s acts=some (Qp m s acts):=by
  have c1:=(LO K.toBearM S w).1
  unfold Ir Qp
  rw [c1,lB]
  by_cases q:Pp m s=0
  case neg=>
    rw [bQ q,show (Pp m s !=0)=true by simpa using q];rfl
  rw [bR (by simp [q]),show (Pp m s !=0)=false by simp [q],bP]
  have O:=(Jw K).1 q
  have t1:=O.tick
  by_cases t:s.Tick=1099511627776
  ·rw [bQ t,bJ (by omega)];rfl
  rw [bR t,bK (by omega),bP]
  have hn:s.Agents.length≤500:=by have:=O.num;omega
  have OR: ∀g∈s.Agents,∃a t,g.Route=a::t∧RouteOK m a t:=fun g hg=>by
    obtain ⟨i,hi⟩:=bG hg
    exact (O.agent i g hi).route
  have hs:=aY O.sorted
  have e1:Gf s=some s:=mH S
  have tk:D3 (s.Tick+1)=s.Tick+1:=F1 (by omega)
  rw [e1,lB,WY K S w acts rfl,lB,WZ K S hs acts (Nl m s acts),lB,qP K.toBearK S hn OR (Nl m s acts),tk];rfl
theorem iF (m:Map)(s:State)(A:List Agent)(i j:Int): ∀c∈BT m s A i j,c.Who.length≤2:=by
  intro c hc
  unfold BT at hc
  split at hc
  ·rename_i gi gj gi' gj' _ _ _ _
   rcases lT.1 hc with h|h
   ·unfold LV at h
    rw [Option.mem_toList]at h
    have: ∀(l:List Lane) (k:Nat),∀c,I7 (fun k (_:Lane)=>Un m s.Tick i j gi gj gi' gj' (k:Int)) k l=some c→c.Who.length≤2:=by
      intro l
      induction l with
      |nil=>intro k c h;cases h
      |cons a r ih=>
       intro k c h
       rw [I7]at h
       split at h
       ·rename_i e he
        cases h
        unfold Un at he
        split at he
        ·split at he
         ·split at he
          ·cases he;simp
          ·cases he
         ·split at he
          ·cases he;simp
          ·cases he
        ·cases he
       ·exact ih (k+1) c h
    exact this _ _ _ h
   ·unfold OM at h
    obtain ⟨z,zn,_,h⟩:=(Dx _ _).1 h
    unfold QO at h
    split at h
    ·cases h
     unfold mO
     dsimp only
     split
     ·simp
     ·split<;>simp
    ·cases h
  ·cases hc
theorem cI {m:Map}(K:KitM m){s:State}(S:SizeS s)(acts:List Int):SizeS (Qp m s acts).1∧(Qp m s acts).2.1.length≤1000000∧∀c∈(Qp m s acts).2.1,c.Who.length≤1000000:=by
  have h0:SizeS ⟨0,[],[]⟩:=⟨by simp,by simp,by simp⟩
  unfold Qp
  split
  ·exact ⟨h0,by simp,by simp⟩
  rename_i q
  split
  ·exact ⟨h0,by simp,by simp⟩
  have O:=(Jw K).1 (Decidable.byContradiction q)
  have hn:=O.num
  have hz:=K.zones2
  have h1:=AG m s (Db m s acts)
  have h2:s.Agents.length*m.Zones.length≤8*2:=wM hn.2 hz
  have h3:=GS s s.Agents.length s.Agents.length 0
  have h4:s.Agents.length*s.Agents.length≤8*8:=wM hn.2 hn.2
  refine ⟨⟨by rw [Nl];omega,by dsimp only;omega,fun a ha=> ?_⟩,?_,fun c hc=> ?_⟩
  ·dsimp only at ha
   obtain ⟨i,hi⟩:=bG ha
   have hil:i<s.Agents.length:=by have:=H5 hi;rw [Nl]at this;exact this
   have hg:s.Agents[i]? =some s.Agents[i]:=lH hil
   have:=GR (m:=m) (acts:=acts) hg
   rw [C3 hi]at this
   rw [lD this]
   unfold Mg
   rw [C3 hg]
   have:=S.routes _ (lG hg)
   dsimp only
   split
   ·exact this
   ·exact this
  ·have: ∀l:List (Int×Int),(l.flatMap fun p=>BT m s (Db m s acts) p.1 p.2).length≤3*l.length:=by
     intro l
     induction l with
     |nil=>simp
     |cons p l ih=>have:=ON K.toBearK s (Db m s acts) p.1 p.2;rw [bF,lM,lL];omega
   have:=this (Nm s s.Agents.length s.Agents.length 0)
   show (Vj m s (Db m s acts)).length≤_
   unfold Vj
   omega
  ·obtain ⟨p,_,h⟩:=List.mem_flatMap.1 hc
   have:=iF m s _ _ _ c h
   omega
def Zo (m:Map)(g:Agent)(i:Nat)(st:Int):Option Span:=
  if max 0 (D3 (D3 (g.S - g.Len) - st))≤min (D3 (g.S - st)) (Aq m (g.Route.getD i 0))then some ⟨g.Route.getD i 0,max 0 (D3 (D3 (g.S - g.Len) - st)),min (D3 (g.S - st)) (Aq m (g.Route.getD i 0))⟩else none
/-- The spans of lanes that an agent covers. -/
def Ep (m:Map)(g:Agent):List Span:=if BP g=true then Gu (Zo m g) 0 (StartsM m g.Route)else []
theorem LX {m:Map}(r:List Int):(StartsM m r).length≤r.length:=by
  unfold StartsM Be
  split
  ·dsimp only;rw [Ku];exact wH _
  ·simp
theorem YR {m:Map}(B:BearM m){g:Agent}(hr:g.Route.length≤1000):Ip m g=some (Ep m g)∧Pl m g=some (Ep m g):=by
  have s1:Mr g=some (BP g):=rfl
  have s2:Mt g=some (BP g):=rfl
  have hsl:=LX (m:=m) g.Route
  have hrt: ∀(i:Nat) st,(StartsM m g.Route)[i]? =some st→C1 g.Route (i:Int)=some (g.Route.getD i 0):=fun i st h=>by
    have:=H5 h
    apply C3
    rw [List.getD,lH (by omega)];rfl
  have e1:loop (Bx m g (StartsM m g.Route)) ([],0)=some (Gu (Zo m g) 0 (StartsM m g.Route)):=by
    refine GI (StartsM m g.Route) (Zo m g) id (fun i st l h hl=> ?_) (fun l=> ?_)
    ·have hi:=H5 h
     unfold Bx Zo
     dsimp only
     rw [K0 hi,bO,C3 h,lB,hrt i st h,G8 hi (by omega)]
     simp only [lB,Ag,Y8,He,Dv,Jl B,Mi,Df]
     rw [Int.max_comm 0]
     by_cases q:max (D3 (D3 (g.S - g.Len) - st)) 0≤min (D3 (g.S - st)) (Aq m (g.Route.getD i 0))
     ·rw [bQ q,bK (by omega),bX,bO,X6,bQ (by simp;omega)];rfl
     ·rw [bR q,bJ (by omega)];rfl
    ·unfold Bx
     dsimp only
     rw [H9];rfl
  have e2:loop (Jt m g (StartsM m g.Route)) ([],0)=some (Gu (Zo m g) 0 (StartsM m g.Route)):=by
    refine GI (StartsM m g.Route) (Zo m g) id (fun i st l h hl=> ?_) (fun l=> ?_)
    ·have hi:=H5 h
     unfold Jt Zo
     dsimp only
     rw [K0 hi,bO,C3 h,lB,lB,hrt i st h,G8 hi (by omega)]
     simp only [lB,Qz B,Mi,Df]
     by_cases q:max 0 (D3 (D3 (g.S - g.Len) - st))≤min (D3 (g.S - st)) (Aq m (g.Route.getD i 0))
     ·rw [bQ q,bJ q,bO,X6,bQ (by simp;omega)];rfl
     ·rw [bR q,bK q];rfl
    ·unfold Jt
     dsimp only
     rw [H9];rfl
  unfold Ip Pl Ep
  rw [s1,s2,lB,lB]
  cases hs:BP g
  ·exact ⟨rfl,rfl⟩
  ·simp only [bW,bP,if_true]
   rw [GL B _ (by omega),Td B _ (by omega),lB,lB,e1,e2]
   exact ⟨rfl,rfl⟩
theorem TY (m:Map)(g:Agent):(Ep m g).length≤g.Route.length:=by
  unfold Ep
  split
  ·exact wL (Vb _ _ _) (LX _)
  ·simp
theorem YS {m:Map}{g:Agent}{x:Span}(h:x∈Ep m g):x.From≤x.To:=by
  unfold Ep at h
  split at h
  ·obtain ⟨i,st,_,h⟩:=(Dx _ _).1 h
   unfold Zo at h
   split at h
   ·cases h;assumption
   ·cases h
  ·cases h
def Vk (x y:Span):Bool:=((x.Lane_==y.Lane_)&&decide (x.From≤y.To))&&decide (y.From≤x.To)
def Zp (m:Map)(g g':Agent):Bool:=(Ep m g).any fun x=>(Ep m g').any fun y=>Vk x y
theorem TZ {m:Map}(B:BearM m){g g':Agent}(hr:g.Route.length≤1000)(hr':g'.Route.length≤1000):Cj m g g'=some (Zp m g g')∧Kt m g g'=some (Zp m g g'):=by
  obtain ⟨b1,b2⟩:=YR B hr
  obtain ⟨c1,c2⟩:=YR B hr'
  have l1:=TY m g
  have l2:=TY m g'
  constructor
  ·have inner: ∀x∈Ep m g,F6 (Ep m g') x=some ((Ep m g').any fun y=>Vk x y):=by
     intro x hx
     unfold F6 I0
     refine Ol _ (fun y=>Vk x y) _ (by omega) (fun i y hy=> ?_) (by unfold K9;rw [H9];rfl)
     have o1:=YS hx
     have o2:=YS (lG hy)
     unfold K9 Fl
     rw [K0 (H5 hy),bO,C3 hy,lB]
     simp only [He,Dv,Mi,Df]
     unfold Vk
     by_cases e:x.Lane_=y.Lane_
     ·rw [e]
      simp only [beq_self_eq_true,bO,lB,bS]
      by_cases q:x.From≤y.To∧y.From≤x.To
      ·rw [bJ q.1,bJ q.2,bK (by omega)];rfl
      ·rw [show (decide (x.From≤y.To)&&decide (y.From≤x.To))=false by rw [bZ];simpa using q,bJ (by omega)];rfl
     ·rw [show (x.Lane_==y.Lane_)=false by simpa using e];rfl
   have outer:G4 (Ep m g) (Ep m g')=some (Zp m g g'):=by
     unfold G4 J1 Zp
     refine Ol _ (fun x=>(Ep m g').any fun y=>Vk x y) _ (by omega) (fun i x hx=> ?_) (by unfold G3;rw [H9];rfl)
     unfold G3 Z0
     rw [K0 (H5 hx),bO,C3 hx,lB,inner x (lG hx)]
     simp only [lB]
     cases (Ep m g').any fun y=>Vk x y<;>rfl
   unfold Cj
   rw [c1,lB,b1,lB,outer];rfl
  ·have inner: ∀(i:Nat) x,(Ep m g)[i]? =some x→loop (Cq (Ep m g) (Ep m g') (i:Int)) 0=some (if (Ep m g').any (fun y=>Vk x y)then .inr true else .inl ()):=by
     intro i x hx
     refine HJ (Ep m g') (fun y=>Vk x y) true (fun j y hy=> ?_) (by unfold Cq;rw [H9];rfl)
     unfold Cq Vk
     rw [K0 (H5 hy),bO,C3 hx,lB,C3 hy,lB,G8 (H5 hy) (by omega)]
     cases e:(x.Lane_==y.Lane_)
     ·rfl
     ·simp only [bO,lB,bS]
      cases e2:decide (x.From≤y.To)
      ·rfl
      ·simp only [bO,lB,bS]
       cases decide (y.From≤x.To)<;>rfl
   have outer:loop (Cr (Ep m g) (Ep m g')) 0=some (if (Ep m g).any (fun x=>(Ep m g').any fun y=>Vk x y)then .inr true else .inl ()):=by
     refine HJ (Ep m g) (fun x=>(Ep m g').any fun y=>Vk x y) true (fun i x hx=> ?_) (by unfold Cr;rw [H9];rfl)
     unfold Cr
     rw [K0 (H5 hx),bO,inner i x hx,G8 (H5 hx) (by omega)]
     cases (Ep m g').any fun y=>Vk x y<;>rfl
   unfold Kt Zp
   rw [b2,lB,c2,lB,outer]
   cases (Ep m g).any fun x=>(Ep m g').any fun y=>Vk x y<;>rfl
/-- Two agents that may not begin together. -/
def FG (m:Map)(s:State)(A:List Agent)(i j:Int):Bool:=match C1 s.Agents i,C1 s.Agents j with
  |some gi,some gj=>Zp m gi gj||decide (0< (DA m s A i j gi gj).length)
  |_,_=>false
abbrev Mo:State:=⟨0,[],[]⟩
theorem XE {m:Map}(K:KitM m){A:List Agent}(S:SizeS ⟨0,A,[]⟩):loop (Iw m A) (0,(⟨0,A,[]⟩:State))=some ⟨0,A,Ar m ⟨0,A,[]⟩ A⟩:=by
  have hl:A.length≤1000:=S.agents
  have hz:=K.zones2
  refine iC (fun i l=>((i:Int),(⟨0,A,l⟩:State))) A (Tf m ⟨0,A,[]⟩ A) (fun l=>(⟨0,A,l⟩:State)) [] 2 1000000 rfl (by simp;omega) (fun i a _=>wL (CZ _ _ _ _ _) hz) (fun i g l h hb=> ?_) (fun l=> ?_)
  ·have hg:C1 A (i:Int)=some g:=C3 h
   have hr:g.Route.length≤1000:=S.routes g (lG h)
   have e:loop (Iv m A ((i:Int),(⟨0,A,l⟩:State))) (0,(⟨0,A,l⟩:State))=some ⟨0,A,l++Tf m ⟨0,A,[]⟩ A i g⟩:=by
     have th: ∀l',S3 ⟨0,A,l'⟩ (i:Int)=S3 ⟨0,A,[]⟩ (i:Int):=fun _=>rfl
     cases ht:S3 ⟨0,A,[]⟩ (i:Int)
     ·rw [C7 (t:=(⟨0,A,l⟩:State)),XA ht,lP]
      unfold Iv
      dsimp only
      rw [(Om _ _).2,th,ht]
      cases decide ((0:Int)< (m.Zones.length:Int))<;>rfl
     ·refine WV (fun z l=>((z:Int),(⟨0,A,l⟩:State))) m.Zones (BQ m ⟨0,A,[]⟩ A i) (fun l=>(⟨0,A,l⟩:State)) l 1000000 rfl (by omega) (fun z zn l' hz' hb'=> ?_) (fun l'=> ?_)
      ·unfold Iv BQ
       dsimp only
       rw [K0 (H5 hz'),bO,(Om _ _).2,lB,th,ht,bS,bO,hg,lB,lB,(Wq K.toBearK hr z).2,lB,G8 (H5 hz') (by omega)]
       have e:On m ⟨0,A,[]⟩ A i z=Hr m g g z:=by
         unfold On;rw [ht,bS];dsimp only;rw [hg]
       rw [e]
       cases hh:Hr m g g z
       ·rfl
       ·have es:Tz m ⟨0,A,[]⟩ (i:Int) (z:Int)=⟨(i:Int),(z:Int),0,HS m g.Route z 0⟩:=by
          unfold Tz
          simp only [List.find?_nil,hg]
        rw [bO,lB,(YP K hr z 0).2,lB,X6,bQ (by simp;omega),bQ rfl,es];rfl
      ·unfold Iv
       dsimp only
       rw [H9];rfl
   unfold Iw
   dsimp only
   rw [K0 (H5 h),bO,e,lB,G8 (H5 h) (by omega)]
  ·unfold Iw
   dsimp only
   rw [H9];rfl
theorem XF {m:Map}(B:BearK m){s:State}(S:SizeS s)(O: ∀g∈s.Agents,∃a t,g.Route=a::t∧RouteOK m a t)(i:Nat): ∀(k j:Nat),j+k=s.Agents.length→
    loop (Iu m s.Agents ((i:Int),s)) (j:Int)=some (if (Ws s i k j).any (fun p=>FG m s s.Agents p.1 p.2)=true then .inr (Mo,12)else .inl ())
  |0,j,hj=>by
   obtain rfl:j=s.Agents.length:=by omega
   rw [C7 (t:= .inl ()) (by unfold Iu;rw [H9];rfl)];rfl
  |k+1,j,hj=>by
   have hjl:j<s.Agents.length:=by omega
   have hn:=S.agents
   have key:Iu m s.Agents ((i:Int),s) (j:Int)=some (if (S3 s i&&S3 s j)&&FG m s s.Agents i j=true then .out (.inr (Mo,12))else .go ((j+1:Nat):Int)):=by
     unfold Iu
     dsimp only
     rw [K0 hjl,bO,(Om s i).2,lB,G8 hjl (by omega)]
     cases h1:S3 s i
     ·rfl
     ·simp only [bW,bX,bO,bY,bS]
      rw [(Om s j).2,lB]
      cases h2:S3 s j
      ·rfl
      ·obtain ⟨gi,gj,gi',gj',T⟩:=iD O S rfl h1 h2
       have hbad:FG m s s.Agents i j=(Zp m gi gj||decide (0< (DA m s s.Agents i j gi gj).length)):=by unfold FG;rw [T.hi,T.hj]
       rw [bW,bP,T.hi,T.hj,lB,lB,(TZ B.toBearM T.ri T.rj).2,lB,hbad]
       cases Zp m gi gj
       ·rw [bX,bO,cG B rfl T,lB]
        by_cases q:0< (DA m s s.Agents i j gi gj).length
        ·rw [bJ (show ((DA m s s.Agents i j gi gj).length:Int)>0 by omega),bJ q];rfl
        ·rw [bK (show ¬((DA m s s.Agents i j gi gj).length:Int)>0 by omega),bK q];rfl
       ·rfl
   rw [Ws]
   cases h1:(S3 s i&&S3 s j)
   ·rw [h1]at key
    rw [J2 (s':=((j+1:Nat):Int)) (by rw [key];rfl),bP]
    exact XF B S O i k (j+1) (by omega)
   ·rw [h1]at key
    rw [bO,bH]
    cases h2:FG m s s.Agents i j
    ·rw [h2]at key
     rw [J2 (s':=((j+1:Nat):Int)) (by rw [key];rfl),bY]
     exact XF B S O i k (j+1) (by omega)
    ·rw [h2]at key
     rw [C7 (t:= .inr (Mo,12)) (by rw [key];rfl)];rfl
theorem iG {m:Map}(B:BearK m){s:State}(S:SizeS s)(O: ∀g∈s.Agents,∃a t,g.Route=a::t∧RouteOK m a t): ∀(k i:Nat),i+k=s.Agents.length→
    loop (Fu m s.Agents) ((i:Int),s)=some (if (Nm s s.Agents.length k i).any (fun p=>FG m s s.Agents p.1 p.2)=true then .inr (Mo,12)else .inl s)
  |0,i,hi=>by
   obtain rfl:i=s.Agents.length:=by omega
   rw [C7 (t:= .inl s) (by unfold Fu;dsimp only;rw [H9];rfl)];rfl
  |k+1,i,hi=>by
   have hil:i<s.Agents.length:=by omega
   have hn:=S.agents
   have key:Fu m s.Agents ((i:Int),s)=some (if (Ws s i (s.Agents.length - (i+1)) (i+1)).any (fun p=>FG m s s.Agents p.1 p.2)=true then .out (.inr (Mo,12))else .go (((i+1:Nat):Int),s)):=by
     unfold Fu
     dsimp only
     rw [K0 hil,bO,G8 hil (by omega),XF B S O i (s.Agents.length - (i+1)) (i+1) (by omega)]
     cases (Ws s i (s.Agents.length - (i+1)) (i+1)).any (fun p=>FG m s s.Agents p.1 p.2)<;>rfl
   rw [Nm,List.any_append]
   cases h:(Ws s i (s.Agents.length - (i+1)) (i+1)).any (fun p=>FG m s s.Agents p.1 p.2)
   ·rw [h]at key
    rw [J2 (s':=(((i+1:Nat):Int),s)) (by rw [key];rfl),bY]
    exact iG B S O k (i+1) (by omega)
   ·rw [h]at key
    rw [C7 (t:= .inr (Mo,12)) (by rw [key];rfl)];rfl
theorem YT (A:List Agent)(l:List Stay)(i:Nat): ∀k j,Ws ⟨0,A,l⟩ i k j=Ws ⟨0,A,[]⟩ i k j
  |0,_=>rfl
  |k+1,j=>by rw [Ws,Ws,YT A l i k (j+1)];rfl
theorem UA (A:List Agent)(l:List Stay)(n:Nat): ∀k i,Nm ⟨0,A,l⟩ n k i=Nm ⟨0,A,[]⟩ n k i
  |0,_=>rfl
  |k+1,i=>by rw [Nm,Nm,YT,UA A l n k (i+1)]
/-- The first state. -/
def Qq (m:Map)(A:List Agent):State×Int:=
  if Pp m ⟨0,A,[]⟩≠0 then (Mo,Pp m ⟨0,A,[]⟩)
  else if A.any (fun g=>g.Gone)=true then (Mo,10)
  else if (Nm ⟨0,A,[]⟩ A.length A.length 0).any (fun p=>FG m ⟨0,A,[]⟩ A p.1 p.2)=true then (Mo,12)
  else (⟨0,A,Ar m ⟨0,A,[]⟩ A⟩,0)
theorem QP {m:Map}(K:KitM m){A:List Agent}(S:SizeS ⟨0,A,[]⟩)(w: ∀g∈A,g.S≤9223372036854775807):Pm m A=some (Qq m A):=by
  have c2:=(LO K.toBearM S w).2
  have hl:A.length≤1000:=S.agents
  have e2:Pv ⟨0,A,[]⟩=some ⟨0,A,[]⟩:=hJ S
  unfold Pm Qq
  rw [e2,lB,c2,lB]
  by_cases q:Pp m ⟨0,A,[]⟩=0
  case neg=>
    rw [bQ q,show (Pp m ⟨0,A,[]⟩ !=0)=true by simpa using q];rfl
  rw [bR (by simp [q]),show (Pp m ⟨0,A,[]⟩ !=0)=false by simp [q],bP]
  have O:=(Jw K).1 q
  have OR: ∀g∈A,∃a t,g.Route=a::t∧RouteOK m a t:=fun g hg=>by
    obtain ⟨i,hi⟩:=bG hg
    exact (O.agent i g hi).route
  have g2:loop (Li A) 0=some (if A.any (fun g=>g.Gone)then .inr (Mo,10)else .inl ()):=by
    refine HJ A (fun g=>g.Gone) (Mo,10) (fun i x hx=> ?_) (by unfold Li;rw [H9];rfl)
    unfold Li
    rw [K0 (H5 hx),bO,C3 hx,lB,G8 (H5 hx) (by omega)]
    cases x.Gone<;>rfl
  rw [g2]
  cases hG:A.any (fun g=>g.Gone)
  case true=>rfl
  have S':SizeS ⟨0,A,Ar m ⟨0,A,[]⟩ A⟩:=by
    have h1:=AG m ⟨0,A,[]⟩ A
    have h2:A.length*m.Zones.length≤1000*2:=wM hl K.zones2
    exact ⟨hl,by dsimp only at h1 ⊢;omega,S.routes⟩
  have h4:loop (Fu m A) (0,⟨0,A,Ar m ⟨0,A,[]⟩ A⟩)=_:=iG (s:=⟨0,A,Ar m ⟨0,A,[]⟩ A⟩) K.toBearK S' OR A.length 0 (by dsimp only;omega)
  dsimp only at h4
  rw [UA]at h4
  have e5:(fun p:Int×Int=>FG m ⟨0,A,Ar m ⟨0,A,[]⟩ A⟩ A p.1 p.2)=fun p=>FG m ⟨0,A,[]⟩ A p.1 p.2:=rfl
  rw [e5]at h4
  rw [bR (by simp)]
  show (loop (Iw m A) (0,⟨0,A,[]⟩)).bind _=_
  rw [XE K S,lB,h4]
  cases (Nm ⟨0,A,[]⟩ A.length A.length 0).any (fun p=>FG m ⟨0,A,[]⟩ A p.1 p.2)<;>rfl
theorem iH {m:Map}(K:KitM m){A:List Agent}(S:SizeS ⟨0,A,[]⟩):SizeS (Qq m A).1:=by
  have h0:SizeS Mo:=⟨by simp,by simp,by simp⟩
  unfold Qq
  split
  ·exact h0
  split
  ·exact h0
  split
  ·exact h0
  have hl:A.length≤1000:=S.agents
  have h1:=AG m ⟨0,A,[]⟩ A
  have h2:A.length*m.Zones.length≤1000*2:=wM hl K.zones2
  exact ⟨hl,by dsimp only at h1 ⊢;omega,S.routes⟩
theorem cJ {m:Map}(V:ValR m){a b:Int}(ha:0≤a)(hb:b∈nextOf m a.toNat):Z8 m b=Z8 m a:=by
  unfold nextOf at hb
  cases h:m.Lanes[a.toNat]? with
  |none=>rw [h]at hb;cases hb
  |some l=>
   rw [h]at hb
   have hb:b∈l.Next:=hb
   have h1:=(firstE_none.1 V.nextE) a.toNat l h
   rw [wK]at h1
   unfold nextE at h1
   obtain ⟨j,hj⟩:=bG hb
   have h2:=(firstE_none.1 h1) j b hj
   have hk:=V.next h hb
   have hn:m.Lanes[b.toNat]? =some m.Lanes[b.toNat]:=lH (by omega)
   unfold Zj at h2
   rw [hn]at h2
   dsimp only at h2
   split at h2
   ·cases h2
   ·rename_i q
    unfold Z8
    rw [hn,h]
    exact Decidable.not_not.1 q
theorem LY {m:Map}(V:ValR m): ∀(t:List Int) (a:Int),0≤a→Lv m a t=true→∀x∈a::t,Z8 m x=Z8 m a
  | [],a,_,_,x,hx=>by simp at hx;rw [hx]
  |b::t,a,ha,h,x,hx=>by
   rw [Lv,bU]at h
   have hb:b∈nextOf m a.toNat:=by simpa using h.1
   have hk:=V.nextOf hb
   rcases lU.1 hx with rfl|hx
   ·rfl
   ·rw [LY V t b (by omega) h.2 x hx,cJ V ha hb]
/-- Where an agent is does not matter to how fast it may go. -/
theorem AH {m:Map}{a:Int}{t:List Int}(R:RouteOK m a t){g:Agent}(hg:g.Route=a::t)(h0:0≤g.S):P2 m g=U3 (Z8 m a):=by
  obtain ⟨x,h1,h2,h3,_⟩:=Vh R hg h0
  unfold P2
  rw [h3]
  dsimp only
  rw [LY R.val t a R.first.1 R.chain x (lG h2)]
theorem LZ {m:Map}(g:Agent)(tick act:Int):0≤Dr m g tick act∧Dr m g tick act≤(P2 m g).1:=by
  have hs: ∀x,0≤Y4 g (P2 m g).1 x∧Y4 g (P2 m g).1 x≤(P2 m g).1:=fun x=>by
    have:=Px (Z8 m (N5 m g).1)
    unfold Y4 P2
    omega
  unfold Dr
  dsimp only
  split
  ·exact hs _
  ·exact hs _
theorem iI {m:Map}(K:KitM m){s:State}(O:StateOK m s)(i:Nat){g:Agent}(hg:s.Agents[i]? =some g)(act:Int)(s':State)(ht:s'.Tick=s.Tick+1):AgentOK m s' (i:Int) (Mg m s i act):=by
  have A:=O.agent i g hg
  have hc:Pp m s=0:=(Jw K).2 O
  unfold Mg
  rw [C3 hg]
  dsimp only
  by_cases th:S3 s (i:Int)=true
  ·rw [bQ ⟨th,hc⟩]
   obtain ⟨g1,h1,_,_,_,h5,h6⟩:=Te th
   rw [C3 hg]at h1
   obtain rfl:=lD h1
   obtain ⟨a,t,hR,R⟩:=A.route
   have hv:=LZ (m:=m) g s.Tick act
   have ht2:=Px (Z8 m (N5 m g).1)
   have ht3:(P2 m g).1≤2000:=ht2.2.1
   have hL:=Mf R
   rw [← hR]at hL
   have hgone:D3 (g.S - g.Len)≤LongM m g.Route:=by
     have:=A.gone
     rw [h5]at this
     unfold Vi at this
     exact Int.not_lt.1 (of_decide_eq_false this.symm)
   have hS:=A.S
   have hl:=A.len
   rw [F1 (by omega)]at hgone
   have hw:D3 (g.S+Dr m g s.Tick act)=g.S+Dr m g s.Tick act:=F1 (by omega)
   have e1:=AH R hR hS.1
   have e2:P2 m (HR m g s.Tick act)=U3 (Z8 m a):=AH R hR (by show 0≤D3 _;rw [hw];omega)
   refine ⟨⟨a,t,hR,R⟩,A.len,A.begin,?_,?_,rfl,?_,A.first⟩
   ·show 0≤D3 _∧D3 _≤_
    rw [hw]
    show _∧g.S+Dr m g s.Tick act≤LongM m g.Route+g.Len+2000
    omega
   ·rw [e2,← e1];exact hv
   ·rintro ⟨q,_⟩
    have:g.Begin>s'.Tick:=q
    omega
  ·rw [bR fun h=>th h.1]
   refine ⟨A.route,A.len,A.begin,A.S,A.V,A.gone,?_,A.first⟩
   rintro ⟨q,q2⟩
   exact A.late ⟨by omega,q2⟩
theorem mP {m:Map}(V:ValR m)(r:List Int)(z tick:Int):0≤HS m r z tick∧HS m r z tick≤100:=by
  unfold HS
  split
  ·cases hz:m.Zones[z.toNat]? with
   |none=>simp
   |some zn=>
    dsimp only
    split
    ·split<;>simp
    ·have Z:=V.zoneOK (lG hz)
     unfold Kc
     cases hf:zn.Parts.find? (fun p=>p.Lane_==Mh m r z)with
     |none=>simp
     |some p=>have:=Z.part p (l7 hf);dsimp only;omega
  ·simp
theorem pF {m:Map}(K:KitM m){s:State}(O:StateOK m s)(i z:Int):0≤(Tz m s i z).Since∧(Tz m s i z).Since≤s.Tick∧0≤(Tz m s i z).Rank∧(Tz m s i z).Rank≤100:=by
  unfold Tz
  cases hf:s.In.find? (Wr i z)with
  |some x=>
   have:=O.rank x (l7 hf)
   unfold Tj at this
   simp only [wA,wC]at this
   dsimp only
   omega
  |none=>
   have:=O.tick
   dsimp only
   cases C1 s.Agents i with
   |none=>dsimp only;omega
   |some g=>have:=mP K.val g.Route z s.Tick;dsimp only;omega
theorem iJ {m:Map}(K:KitM m){s s':State}(O:StateOK m s)(A:List Agent)(hn:s'.Agents.length=s.Agents.length)(ht:s.Tick≤s'.Tick)(hI:s'.In=Ar m s A):
    (∀(i:Nat) x,s'.In[i]? =some x→Xi m s' x=false)∧(∀(i:Nat) x y,s'.In[i]? =some x→s'.In[i+1]? =some y→Gv x y=true)∧(∀x∈s'.In,Tj s' x=false):=by
  rw [hI]
  refine ⟨fun i x hx=> ?_,fun i x y hx hy=> ?_,fun x hx=> ?_⟩
  ·obtain ⟨a,z,h1,h2,_,rfl⟩:=stays_mem.1 (lG hx)
   have k:=IT m s a z
   unfold Xi
   rw [k.1,k.2]
   simp only [wA,wC]
   omega
  ·have hs:=LS m s A
   have h1:=H5 hy
   have:=bD.1 hs i (i+1) (by omega) h1 (by omega)
   rw [lH (by omega)]at hx hy
   rw [lD hx,lD hy]at this
   exact this
  ·obtain ⟨a,z,h1,h2,_,rfl⟩:=stays_mem.1 hx
   have:=pF K O a z
   unfold Tj
   simp only [wA,wC]
   omega
/-- A tick gives a state that stands. -/
theorem YU {m:Map}(K:KitM m){s:State}(O:StateOK m s)(ht:s.Tick<1099511627776)(acts:List Int):(Qp m s acts).2.2=0∧StateOK m (Qp m s acts).1∧(Qp m s acts).1=⟨s.Tick+1,Db m s acts,Ar m s (Db m s acts)⟩∧(Qp m s acts).2.1=Vj m s (Db m s acts):=by
  have hc:Pp m s=0:=(Jw K).2 O
  have e:Qp m s acts=(⟨s.Tick+1,Db m s acts,Ar m s (Db m s acts)⟩,Vj m s (Db m s acts),0):=by
    unfold Qp
    rw [bR (by simp [hc]),bR (by omega)]
  have t:=O.tick
  have n:=O.num
  rw [e]
  refine ⟨rfl,?_,rfl,rfl⟩
  obtain ⟨i1,i2,i3⟩:=iJ K (s':=⟨s.Tick+1,Db m s acts,Ar m s (Db m s acts)⟩) O (Db m s acts) (Nl m s acts) (by dsimp only;omega) rfl
  refine ⟨by dsimp only;omega,by dsimp only;rw [Nl];exact n,fun i g' hg'=> ?_,i1,i2,i3⟩
  dsimp only at hg'
  have hi:=H5 hg'
  rw [Nl]at hi
  have hg:s.Agents[i]? =some s.Agents[i]:=lH hi
  have h1:=GR (m:=m) (acts:=acts) hg
  rw [C3 hg']at h1
  rw [lD h1]
  exact iI K O i hg _ _ rfl
theorem GU {m:Map}{a:Int}{t:List Int}(R:RouteOK m a t):(a::t).length≤8:=by
  have:=R.most
  rw [lL];omega
theorem GV {m:Map}(K:KitM m)(n:Int): ∃a t,Ju m n=some (a::t)∧RouteOK m a t:=by
  obtain ⟨a,t,h1,h2,h3⟩:=QJ K.toBearM K.val n
  exact ⟨a,t,h1,gS K.val h2 h3⟩
theorem QQ {m:Map}(K:KitM m)(n:Int): ∃a t,Dp m n=some (a::t)∧RouteOK m a t:=by
  have step: ∀x:Int,0≤x→x<4→∃a t,RouteOK m a t∧(Z5 m n x=some (.out (.inr (a::t)))∨Z5 m n x=some (.go (x+1))):=by
    intro x h0 h1
    obtain ⟨a,t,e,R⟩:=GV K (D3 (n % 1048576+x))
    obtain ⟨l,hl⟩: ∃l,m.Lanes[a.toNat]? =some l:=⟨_,lH (by have:=R.first;omega)⟩
    have hg:=C3 hl
    rw [wG R.first.1]at hg
    refine ⟨a,t,R,?_⟩
    unfold Z5
    rw [bJ h1,bO,Po (by omega) (by omega),lB,e,lB,bJ (show (((a::t).length:Nat):Int)>0 by rw [lL];omega),bO,show C1 (a::t) 0=some a from rfl,lB,bO,hg,lB,F1 (by omega)]
    cases l.Kind==1
    ·exact .inr rfl
    ·exact .inl rfl
  have key: ∀(k:Nat) (x:Int),0≤x→x+k=4→∃a t,RouteOK m a t∧thenS (loop (Z5 m n) x) (fun _=>(Ju m 0).bind fun v5=>some v5) (fun r=>some r)=some (a::t):=by
    intro k
    induction k with
    |zero=>
     intro x h0 hx
     obtain ⟨a,t,e,R⟩:=GV K 0
     refine ⟨a,t,R,?_⟩
     rw [C7 (t:= .inl ()) (by unfold Z5;rw [bK (by omega)];rfl)]
     show (Ju m 0).bind _=_
     rw [e];rfl
    |succ k ih=>
     intro x h0 hx
     obtain ⟨a,t,R,h|h⟩:=step x h0 (by omega)
     ·refine ⟨a,t,R,?_⟩
      rw [C7 h];rfl
     ·obtain ⟨a,t,R,e⟩:=ih (x+1) (by omega) (by omega)
      refine ⟨a,t,R,?_⟩
      rw [J2 h];exact e
  obtain ⟨a,t,R,e⟩:=key 4 0 (by omega) (by omega)
  exact ⟨a,t,e,R⟩
/-- What the kit makes of an actor. -/
structure KAgent (m:Map)(first:Bool)(g:Agent):Prop where
  route: ∃a t,g.Route=a::t∧RouteOK m a t
  len:300≤g.Len∧g.Len≤5000
  begin:0≤g.Begin∧g.Begin≤40
  S:0≤g.S∧g.S≤LongM m g.Route
  V:0≤g.V∧g.V≤(P2 m g).1
  gone:g.Gone=false
  late:g.Begin>0→g.S=0
  first:first=true→g.Begin=0∧g.Obey=false
theorem OS {m:Map}(K:KitM m)(p:KitActor)(first:Bool): ∃g,Rv m p first=some g∧KAgent m first g∧(p.Len=0→g.Len=300)∧(first=true→Dp m p.R=some g.Route):=by
  obtain ⟨a1,t1,e1,R1⟩:=GV K p.R
  obtain ⟨a2,t2,e2,R2⟩:=QQ K p.R
  have hy: ∃a t o,(cond first ((Dp m p.R).bind fun v3=>some (v3,false)) (some (a1::t1,(!p.Disobeys))))=some (a::t,o)∧RouteOK m a t∧(first=true→o=false)∧(first=true→Dp m p.R=some (a::t)):=by
    cases first
    ·exact ⟨a1,t1,_,rfl,R1,nofun,nofun⟩
    ·rw [e2];exact ⟨a2,t2,_,rfl,R2,fun _=>rfl,fun _=>rfl⟩
  obtain ⟨a,t,o,e3,R,ho,hrr⟩:=hy
  obtain ⟨l,hl⟩: ∃l,m.Lanes[a.toNat]? =some l:=⟨_,lH (by have:=R.first;omega)⟩
  have hg:=C3 hl
  rw [wG R.first.1]at hg
  have hk:Z8 m a=l.Kind:=by unfold Z8;rw [hl];rfl
  have hT:=Px (Z8 m a)
  have hL:=Mf R
  have hr:=GU R
  have m1: ∀n:Int,0≤n % ((U3 (Z8 m a)).1+1)∧n % ((U3 (Z8 m a)).1+1)≤(U3 (Z8 m a)).1:=fun n=>by
    have h1:=wR n (show (U3 (Z8 m a)).1+1≠0 by omega)
    have h2:=wS n (show 0< (U3 (Z8 m a)).1+1 by omega)
    omega
  have m2: ∀n:Int,0≤n % (LongM m (a::t)+1)∧n % (LongM m (a::t)+1)≤LongM m (a::t):=fun n=>by
    have h1:=wR n (show LongM m (a::t)+1≠0 by omega)
    have h2:=wS n (show 0<LongM m (a::t)+1 by omega)
    omega
  have len: ∃L,(cond (decide ((U3 (Z8 m a)).1<1000)) (some 300) (some (D3 (300+p.Len % 4700))))=some L∧(300≤L∧L≤5000)∧(p.Len=0→L=300):=by
    cases decide ((U3 (Z8 m a)).1<1000)
    ·exact ⟨_,rfl,by rw [F1 (by omega)];omega,fun h=>by rw [h];rfl⟩
    ·exact ⟨_,rfl,by omega,fun _=>rfl⟩
  obtain ⟨L,eL,bL,bL0⟩:=len
  have hv:=m1 p.V
  have hs:=m2 p.S
  have fin: ∀S B:Int,0≤S→S≤LongM m (a::t)→0≤B→B≤40→(B>0→S=0)→(first=true→B=0)→KAgent m first ⟨a::t,S,p.V % ((U3 (Z8 m a)).1+1),L,B,o,false⟩∧(p.Len=0→L=300)∧(first=true→Dp m p.R=some (a::t)):=by
    intro S B h1 h2 h3 h4 h5 h6
    refine ⟨?_,bL0,hrr⟩
    refine ⟨⟨a,t,rfl,R⟩,bL,⟨h3,h4⟩,⟨h1,h2⟩,?_,rfl,h5,fun h=>⟨h6 h,ho h⟩⟩
    rw [AH R rfl h1]
    exact hv
  unfold Rv
  rw [e1,lB,Wl (by omega) (by omega),lB,e3,lB]
  dsimp only
  rw [show C1 (a::t) 0=some a from rfl,lB,hg,lB,Mv,lB,← hk,F1 (by omega),Wl (by omega) (by omega),lB,eL,lB,FC K.toBearM _ (by omega),lB,F1 (by omega),Wl (by omega) (by omega),lB]
  cases hf:first
  ·rw [bX,bO,Po (by omega) (by omega),lB,bS]
   by_cases q:p.Begin % 4=3
   ·rw [show (p.Begin % 4==3)=true by simpa using q,bO,Po (by omega) (by omega),lB]
    rw [hf]at fin
    exact ⟨_,rfl,fin 0 (p.Begin % 40) (by omega) (by omega) (by omega) (by omega) (fun _=>rfl) nofun⟩
   ·rw [show (p.Begin % 4==3)=false by simpa using q,bP]
    rw [hf]at fin
    exact ⟨_,rfl,fin _ 0 hs.1 hs.2 (by omega) (by omega) (fun h=>absurd h (by omega)) nofun⟩
  ·rw [hf]at fin
   exact ⟨_,rfl,fin _ 0 hs.1 hs.2 (by omega) (by omega) (fun h=>absurd h (by omega)) fun _=>rfl⟩
structure KList (m:Map)(A:List Agent):Prop where
  few:A.length≤8
  ok: ∀(i:Nat) g,A[i]? =some g→KAgent m (decide (i=0)) g
theorem KList.size {m:Map}{A:List Agent}(h:KList m A):SizeS ⟨0,A,[]⟩:=by
  refine ⟨by have:=h.few;dsimp only;omega,by simp,fun g hg=> ?_⟩
  obtain ⟨i,hi⟩:=bG hg
  obtain ⟨a,t,hR,R⟩:=(h.ok i g hi).route
  have:=GU R
  rw [hR];omega
theorem KList.wf {m:Map}{A:List Agent}(h:KList m A): ∀g∈A,g.S≤9223372036854775807:=fun g hg=>by
  obtain ⟨i,hi⟩:=bG hg
  have k:=h.ok i g hi
  obtain ⟨a,t,hR,R⟩:=k.route
  have h1:=Mf R
  have h2:=k.S
  rw [hR]at h2
  omega
theorem KList.chk {m:Map}(K:KitM m){A:List Agent}(h:KList m A)(hn:A≠ []):StateOK m ⟨0,A,[]⟩:=by
  refine ⟨by dsimp only;omega,⟨List.length_pos_iff.2 hn,h.few⟩,fun i g hg=> ?_,fun i x hx=>by simp at hx,fun i x y hx=>by simp at hx,fun x hx=>by simp at hx⟩
  have k:=h.ok i g hg
  obtain ⟨a,t,hR,R⟩:=k.route
  have hL:=Mf R
  rw [← hR]at hL
  have hS:=k.S
  have hl:=k.len
  have hb:=k.begin
  refine ⟨k.route,by omega,by omega,by omega,k.V,?_,?_,fun h0=>(k.first (by simpa using h0)).1⟩
  ·rw [k.gone];unfold Vi;rw [F1 (by omega),bK (by omega)]
  ·rintro ⟨q,q2⟩
   exact q2 (k.late q)
theorem iK {m:Map}(K:KitM m){A:List Agent}(h:(Qq m A).2=0):(Qq m A).1=⟨0,A,Ar m ⟨0,A,[]⟩ A⟩∧StateOK m (Qq m A).1:=by
  unfold Qq at h ⊢
  by_cases q:Pp m ⟨0,A,[]⟩=0
  case neg=>rw [bQ q]at h;exact absurd h q
  rw [bR (by simp [q])]at h ⊢
  by_cases g:A.any (fun g=>g.Gone)=true
  ·rw [bQ g]at h;cases h
  rw [bR g]at h ⊢
  by_cases b:(Nm ⟨0,A,[]⟩ A.length A.length 0).any (fun p=>FG m ⟨0,A,[]⟩ A p.1 p.2)=true
  ·rw [bQ b]at h;cases h
  rw [bR b]
  have O:=(Jw K).1 q
  refine ⟨rfl,?_⟩
  obtain ⟨i1,i2,i3⟩:=iJ K (s':=⟨0,A,Ar m ⟨0,A,[]⟩ A⟩) O A rfl (Int.le_refl _) rfl
  exact ⟨O.tick,O.num,fun i g hg=>by have x:=O.agent i g hg;exact ⟨x.route,x.len,x.begin,x.S,x.V,x.gone,x.late,x.first⟩,i1,i2,i3⟩
theorem mQ {m:Map}(K:KitM m){g:Agent}(h:KAgent m true g):(Qq m [g]).2=0:=by
  have L:KList m [g]:=⟨by simp,fun i g' hg=>by
    cases i with
    |zero=>cases hg;exact h
    |succ i=>simp at hg⟩
  have q:=(Jw K).2 (L.chk K (by simp))
  unfold Qq
  rw [bR (by simp [q]),bR (by simp [h.gone])]
  rfl
theorem StateOK.size {m:Map}(K:KitM m){s:State}(O:StateOK m s)(h:s.In.length≤1000000):SizeS s:=by
  refine ⟨by have:=O.num;omega,h,fun g hg=> ?_⟩
  obtain ⟨i,hi⟩:=bG hg
  obtain ⟨a,t,hR,R⟩:=(O.agent i g hi).route
  have:=GU R
  rw [hR];omega
def qQ (m:Map)(l:List Agent)(s:State):Prop:=KList m l∧(l≠ []→s=(Qq m l).1∧(Qq m l).2=0)
theorem DB {m:Map}(K:KitM m)(ps:List KitActor)(hp:ps.length≤7): ∀(k idx:Nat) (l:List Agent) (s:State),idx+k=ps.length→l.length≤idx→qQ m l s→∃l' s',loop (Fv m ps) (l,(idx:Int),s)=some (l',s')∧qQ m l' s'∧l'.length≤ps.length
  |0,idx,l,s,hi,hl,I=>by
   obtain rfl:idx=ps.length:=by omega
   exact ⟨l,s,C7 (by unfold Fv;dsimp only;rw [H9];rfl),I,hl⟩
  |k+1,idx,l,s,hi,hl,I=>by
   have hidx:idx<ps.length:=by omega
   have hlen:l.length≤7:=by omega
   obtain ⟨p,hpx⟩: ∃p,ps[idx]? =some p:=⟨_,lH hidx⟩
   obtain ⟨g,hg,kg,_⟩:=OS K p ((l.length:Int)==0)
   have L':KList m (l++ [g]):=by
     refine ⟨by simp;omega,fun i g' hg'=> ?_⟩
     by_cases q:i<l.length
     ·rw [lX q]at hg';exact I.1.ok i g' hg'
     ·have hlt:=H5 hg'
      rw [lM,List.length_singleton]at hlt
      obtain rfl:i=l.length:=by omega
      rw [lW (wH _),Nat.sub_self]at hg'
      cases hg'
      have:decide (l.length=0)=((l.length:Int)==0):=by
        by_cases h0:l.length=0
        ·simp [h0]
        ·simp [h0]
      rw [this];exact kg
   have e:=QP K L'.size L'.wf
   have key:Fv m ps (l,(idx:Int),s)=some (if (Qq m (l++ [g])).2=0 then .go ((Qq m (l++ [g])).1.Agents,((idx+1:Nat):Int),(Qq m (l++ [g])).1)else .go (l,((idx+1:Nat):Int),s)):=by
     unfold Fv
     dsimp only
     rw [K0 hidx,bJ (show (l.length:Int)<8 by omega),Bool.and_self,bO,Vg (by omega),lB,C3 hpx,lB,hg,lB,X6,bQ (by simp;omega),lB,e,lB,G8 hidx (by omega)]
     by_cases q:(Qq m (l++ [g])).2=0
     ·rw [bQ q,q];rfl
     ·rw [bR q,show ((Qq m (l++ [g])).2==0)=false by simpa using q];rfl
   by_cases q:(Qq m (l++ [g])).2=0
   ·rw [bQ q]at key
    have n:=iK K q
    have ea:(Qq m (l++ [g])).1.Agents=l++ [g]:=by rw [n.1]
    rw [ea]at key
    rw [J2 key]
    exact DB K ps hp k (idx+1) _ _ (by omega) (by simp;omega) ⟨L',fun _=>⟨rfl,q⟩⟩
   ·rw [bR q]at key
    rw [J2 key]
    exact DB K ps hp k (idx+1) _ _ (by omega) (by omega) I
theorem cK {m:Map}(K:KitM m)(ps:List KitActor)(hp:ps.length≤7): ∃A,Rw m ps=some (Qq m A).1∧(Qq m A).2=0∧KList m A∧0<A.length∧(A.length≤1∨A.length≤ps.length):=by
  have L0:KList m []:=⟨by simp,fun i g h=>by simp at h⟩
  have e0:=QP K L0.size L0.wf
  obtain ⟨l,s,e,I,hll⟩:=DB K ps hp ps.length 0 [] (Qq m []).1 (by omega) (by simp) ⟨L0,fun h=>absurd rfl h⟩
  have e:loop (Fv m ps) ([],0,(Qq m []).1)=some (l,s):=e
  unfold Rw
  rw [e0,lB,e,lB]
  dsimp only
  by_cases h:l= []
  ·subst h
   obtain ⟨g,hg,kg,h300⟩:=OS K ⟨0,1048576,0,0,0,false⟩ true
   have hlen:=h300.1 rfl
   have kg':KAgent m true ⟨g.Route,D3 (g.Len+1),0,g.Len,g.Begin,g.Obey,g.Gone⟩:=by
     obtain ⟨a,t,hR,R⟩:=kg.route
     have hL:=Mf R
     rw [← hR]at hL
     have hT:=Px
     refine ⟨kg.route,kg.len,kg.begin,?_,?_,kg.gone,fun h=> ?_,kg.first⟩
     ·show 0≤D3 (g.Len+1)∧D3 (g.Len+1)≤LongM m g.Route
      rw [hlen,F1 (by omega)];omega
     ·have:=Px (Z8 m (N5 m ⟨g.Route,D3 (g.Len+1),0,g.Len,g.Begin,g.Obey,g.Gone⟩).1)
      exact ⟨Int.le_refl _,this.1⟩
     ·have:=(kg.first rfl).1
      dsimp only at h
      omega
   have L:KList m [⟨g.Route,D3 (g.Len+1),0,g.Len,g.Begin,g.Obey,g.Gone⟩]:=⟨by simp,fun i g' hg=>by
     cases i with
     |zero=>cases hg;exact kg'
     |succ i=>simp at hg⟩
   refine ⟨_,?_,mQ K kg',L,by simp, .inl (by simp)⟩
   rw [show (((([]:List Agent).length:Nat):Int)==0)=true from rfl,bO,hg,lB,QP K L.size L.wf];rfl
  ·have:=I.2 h
   have hl:=List.length_pos_iff.2 h
   refine ⟨l,?_,this.2,I.1,hl, .inr hll⟩
   rw [show ((l.length:Int)==0)=false by simp;exact h,bP,this.1]
theorem iL {m:Map}(K:KitM m)(ps:List KitActor)(hp:ps.length≤7): ∃A,Rw m ps=some (Qq m A).1∧(Qq m A).2=0∧KList m A:=by
  obtain ⟨A,h1,h2,h3,_⟩:=cK K ps hp
  exact ⟨A,h1,h2,h3⟩
theorem XG {m:Map}{g:Agent}(hV:0≤g.V∧g.V≤(P2 m g).1)(tick act:Int):Dr m g tick act≤g.V+ (P2 m g).2.1∧g.V - (P2 m g).2.2≤Dr m g tick act:=by
  have hT:(0≤(P2 m g).1∧(P2 m g).1≤2000)∧(0≤(P2 m g).2.1∧(P2 m g).2.1≤100)∧(0≤(P2 m g).2.2∧(P2 m g).2.2≤300):=by
    have:=Px (Z8 m (N5 m g).1)
    unfold P2
    omega
  have hs: ∀x, -(P2 m g).2.2≤x→x≤(P2 m g).2.1→Y4 g (P2 m g).1 x≤g.V+ (P2 m g).2.1∧g.V - (P2 m g).2.2≤Y4 g (P2 m g).1 x:=fun x h1 h2=>by
    rw [TU (by omega) (by omega)]
    omega
  unfold Dr
  dsimp only
  split
  ·have:=QN (K:=fun x=>Iy (LP m (N5 m g).1 tick) (N5 m g).2 g.V (Y4 g (P2 m g).1 x) (P2 m g).2.2) (low:= -(P2 m g).2.2) (max (-(P2 m g).2.2) (min act (P2 m g).2.1)+ (P2 m g).2.2).toNat (max (-(P2 m g).2.2) (min act (P2 m g).2.1)) (by omega)
   exact hs _ this.1 (by omega)
  ·exact hs _ (by omega) (by omega)
/-- What a tick does to an agent. -/
theorem XH {m:Map}(K:KitM m){s:State}(O:StateOK m s)(i:Nat){g:Agent}(hg:s.Agents[i]? =some g)(act:Int){a:Int}{t:List Int}(hR:g.Route=a::t)(R:RouteOK m a t):
    g.S≤(Mg m s i act).S∧0≤(Mg m s i act).V∧(Mg m s i act).V≤(U3 (Z8 m a)).1∧
    (S3 s i=true→(Mg m s i act).S=g.S+ (Mg m s i act).V∧(Mg m s i act).V≤g.V+ (U3 (Z8 m a)).2.1∧g.V - (U3 (Z8 m a)).2.2≤(Mg m s i act).V):=by
  have A:=O.agent i g hg
  have hc:Pp m s=0:=(Jw K).2 O
  have e1:=AH R hR A.S.1
  unfold Mg
  rw [C3 hg]
  dsimp only
  by_cases th:S3 s (i:Int)=true
  ·rw [bQ ⟨th,hc⟩]
   have hv:=LZ (m:=m) g s.Tick act
   have hn:=XG A.V s.Tick act
   have ht2:=Px (Z8 m a)
   have hL:=Mf R
   have hS:=A.S
   have hl:=A.len
   rw [hR]at hS
   rw [e1]at hv hn
   have hw:D3 (g.S+Dr m g s.Tick act)=g.S+Dr m g s.Tick act:=F1 (by omega)
   refine ⟨?_,hv.1,hv.2,fun _=>⟨hw,hn.1,hn.2⟩⟩
   show g.S≤D3 _
   rw [hw];omega
  ·rw [bR fun h=>th h.1]
   have hV:=A.V
   rw [e1]at hV
   exact ⟨Int.le_refl _,hV.1,hV.2,fun h=>absurd h th⟩
theorem cL {α:Type}(l:List α):l.any (fun _=>false)=false:=by
  induction l with
  |nil=>rfl
  |cons a l ih=>rw [bH,ih];rfl
theorem mR {m:Map}{s:State}(O:StateOK m s): ∀g∈s.Agents,g.S≤9223372036854775807:=fun g hg=>by
  obtain ⟨i,hi⟩:=bG hg
  have k:=O.agent i g hi
  obtain ⟨a,t,hR,R⟩:=k.route
  have h1:=Mf R
  have h2:=k.S
  have h3:=k.len
  rw [hR]at h2
  omega
theorem OT {K:Int→Bool}{low:Int}: ∀(n:Nat) (act:Int),(act - low).toNat≤n→K (Ox K low n act)=true∨Ox K low n act≤low
  |0,act,h=>by rw [Ox];exact .inr (by omega)
  |n+1,act,h=>by
   rw [Ox]
   split
   ·exact OT n (act - 1) (by omega)
   ·rename_i q
    by_cases h1:act>low
    ·left
     cases hK:K act
     ·exact absurd ⟨h1,hK⟩ q
     ·rfl
    ·right;omega
/-- The speed of one who obeys: it keeps to every line, or it brakes as hard as it may. -/
theorem UB {m:Map}{g:Agent}(hV:0≤g.V∧g.V≤(P2 m g).1)(ho:g.Obey=true)(hp:(N5 m g).2≤Aq m (N5 m g).1)(tick act:Int):
    Iy (LP m (N5 m g).1 tick) (N5 m g).2 g.V (Dr m g tick act) (P2 m g).2.2=true∨Dr m g tick act=max 0 (g.V - (P2 m g).2.2):=by
  have hT:(0≤(P2 m g).1∧(P2 m g).1≤2000)∧(0≤(P2 m g).2.1∧(P2 m g).2.1≤100)∧(0≤(P2 m g).2.2∧(P2 m g).2.2≤300):=by
    have:=Px (Z8 m (N5 m g).1)
    unfold P2
    omega
  have hb:=QN (K:=fun x=>Iy (LP m (N5 m g).1 tick) (N5 m g).2 g.V (Y4 g (P2 m g).1 x) (P2 m g).2.2) (low:= -(P2 m g).2.2) (max (-(P2 m g).2.2) (min act (P2 m g).2.1)+ (P2 m g).2.2).toNat (max (-(P2 m g).2.2) (min act (P2 m g).2.1)) (by omega)
  have hs:=OT (K:=fun x=>Iy (LP m (N5 m g).1 tick) (N5 m g).2 g.V (Y4 g (P2 m g).1 x) (P2 m g).2.2) (low:= -(P2 m g).2.2) (max (-(P2 m g).2.2) (min act (P2 m g).2.1)+ (P2 m g).2.2).toNat (max (-(P2 m g).2.2) (min act (P2 m g).2.1)) (by omega)
  have e:Dr m g tick act=Y4 g (P2 m g).1 (Ox (fun x=>Iy (LP m (N5 m g).1 tick) (N5 m g).2 g.V (Y4 g (P2 m g).1 x) (P2 m g).2.2) (-(P2 m g).2.2) (max (-(P2 m g).2.2) (min act (P2 m g).2.1)+ (P2 m g).2.2).toNat (max (-(P2 m g).2.2) (min act (P2 m g).2.1))):=by
    unfold Dr
    dsimp only
    rw [bQ ⟨ho,hp⟩]
  rw [e]
  rcases hs with h|h
  ·exact .inl h
  ·right
   rw [TU (by omega) (by omega)]
   omega
theorem cM {m:Map}(B:BearM m){a:Int}{t:List Int}(R:RouteOK m a t){g:Agent}(hg:g.Route=a::t)(h0:0≤g.S)(h1:g.S≤9223372036854775807):Qm m g.Route g.S=some (if g.S≤LongM m g.Route then ((N5 m g).1,(N5 m g).2,true)else (0,0,false)):=by
  obtain ⟨x,q1,q2,q3,q4,q5⟩:=Vh R hg h0
  have hm7:=R.most
  have hr:g.Route.length≤1000000:=by rw [hg];simp;omega
  have hl:=Ku m (a::t) 0
  have hbd:=R.bd (i:=CY m g) (by omega)
  have hs:C1 (O1 m 0 (a::t)) ((CY m g:Nat):Int)=some (Ov m (a::t) (CY m g)):=RouteOK.starts q1
  unfold Qm
  rw [Td B _ hr,lB,FC B _ hr,bK (show ¬g.S<0 by omega)]
  have e0:((StartsM m g.Route).length:Int)=((a::t).length:Nat):=by rw [hg,R.StartsM,hl]
  rw [e0,show ((((a::t).length:Nat):Int)==0)=false by simp;omega]
  simp only [Bool.or_self,bX,bO,lB,bY]
  by_cases q:g.S≤LongM m g.Route
  ·rw [bQ q,bK (show ¬g.S>LongM m g.Route by omega),bP,hg,R.StartsM]
   have:=YN g (O1 m 0 (a::t)) (by rw [hl];simp;omega) (O1 m 0 (a::t)) 0 0 rfl (by omega)
   have e:CY m g=Ra g.S 0 0 (O1 m 0 (a::t)):=by unfold CY;rw [hg,R.StartsM]
   rw [← e]at this
   have this:loop (Oh g.S (O1 m 0 (a::t))) (0,0)=some ((CY m g:Nat):Int):=this
   rw [this,lB,C3 q2,lB,hs,lB,q3,F1 (by omega)]
  ·rw [bR q,bJ (show g.S>LongM m g.Route by omega)];rfl
theorem FH (v b:Int):0≤Jm v b∧Jm v b≤1000000000000:=by
  unfold Jm
  split
  ·omega
  ·exact TK (by omega) (by omega)
theorem mS {m:Map}{a:Int}{t:List Int}(R:RouteOK m a t){g:Agent}(hg:g.Route=a::t)(h0:0≤g.S)(h1:g.S≤LongM m g.Route):0≤(N5 m g).2∧(N5 m g).2≤Aq m (N5 m g).1∧(N5 m g).2≤134217728:=by
  obtain ⟨x,q1,q2,q3,q4,q5⟩:=Vh R hg h0
  have hs:=Qo (m:=m) q2
  have hx:=R.mem (lG q2)
  have hi:QG m x=true:=isM_true.2 ⟨hx.1,hx.2,R.val⟩
  have hlen:=R.len q2
  have e:Aq m x=Q0 m x:=by unfold Aq;rw [bQ hi]
  rw [hg,R.LongM]at h1
  have hb:=R.bd (m:=m) (wH (a::t).length)
  have hk:=R.bd (m:=m) (i:=CY m g) (by omega)
  rw [q3]
  dsimp only
  rw [e]
  by_cases h:CY m g+1< (a::t).length
  ·have:=q5 (CY m g+1) (by omega) h
   omega
  ·have:CY m g+1=(a::t).length:=by omega
   rw [← this]at h1
   omega
/-- One line, one agent. -/
theorem mT {m:Map}{g:Agent}{V' line:Int}{R:List Int}(hl:line∈R)(hV:0≤g.V∧g.V≤2000)(hV':0≤V'∧V'≤2000)(hb:1≤(P2 m g).2.2∧(P2 m g).2.2≤300)(hp:0≤(N5 m g).2∧(N5 m g).2≤134217728)
    (h:Iy R (N5 m g).2 g.V V' (P2 m g).2.2=true∨V'=max 0 (g.V - (P2 m g).2.2)) (h1: ¬line≤(N5 m g).2) (h2: ¬D3 ((N5 m g).2+Jm g.V (P2 m g).2.2)≥line):(N5 m g).2+V'+Jm V' (P2 m g).2.2<line:=by
  have s1:=FH g.V (P2 m g).2.2
  have s2:=FH V' (P2 m g).2.2
  rcases h with h|h
  ·unfold Iy at h
   have h3:Hb (N5 m g).2 g.V V' (P2 m g).2.2 line=false:=by
     have:R.any (Hb (N5 m g).2 g.V V' (P2 m g).2.2)=false:=by simpa using h
     exact bZ.2 (List.any_eq_false.1 this line hl)
   unfold Hb at h3
   rw [bJ (show line>(N5 m g).2 by omega),bJ (show D3 ((N5 m g).2+Jm g.V (P2 m g).2.2)<line by omega),Bool.and_self,bS,wC,F1 (n:=(N5 m g).2+V') (by omega),F1 (by omega)]at h3
   omega
  ·have:=WS (v:=g.V) (b:=(P2 m g).2.2) (by omega) (by omega)
   rw [← h]at this
   rw [F1 (by omega)]at h2
   omega
theorem iM {m:Map}{v5:State×List Crash×Int}{i:Int}{g g':Agent}{ok:Bool}{R:List Int}(hR:R.length≤1000)(hg':C1 v5.1.Agents i=some g')(hS:0≤g.S∧g.S≤1000000000)(hS':g'.S=g.S+g'.V)(hV:0≤g.V∧g.V≤2000)(hV':0≤g'.V∧g'.V≤2000)(hb:1≤(P2 m g).2.2∧(P2 m g).2.2≤300)(hp:0≤(N5 m g).2∧(N5 m g).2≤134217728)
    (h:Iy R (N5 m g).2 g.V g'.V (P2 m g).2.2=true∨g'.V=max 0 (g.V - (P2 m g).2.2)):loop (X8 v5 i g ((N5 m g).1,(N5 m g).2,ok) (P2 m g) R) 0=some (.inl ()):=by
  have s1:=FH g.V (P2 m g).2.2
  have s2:=FH g'.V (P2 m g).2.2
  have:=HJ (F:=X8 v5 i g ((N5 m g).1,(N5 m g).2,ok) (P2 m g) R) R (fun _=>false) false (fun x line hx=>by
    have hi:=H5 hx
    have hl:=lG hx
    unfold X8
    dsimp only
    rw [K0 hi,bO,C3 hx,lB,IS,G8 hi (by omega)]
    by_cases h1:line≤(N5 m g).2
    ·rw [bJ h1];rfl
    ·rw [bK h1]
     simp only [bX,bO,lB,bY]
     by_cases h2:D3 ((N5 m g).2+Jm g.V (P2 m g).2.2)≥line
     ·rw [bJ h2];rfl
     ·have k:=mT hl hV hV' hb hp h h1 h2
      have e1:D3 (D3 ((N5 m g).2+g'.S) - g.S)=(N5 m g).2+g'.V:=by
        rw [F1 (n:=(N5 m g).2+g'.S) (by omega),F1 (by omega)];omega
      rw [bK h2,bP,hg',lB,e1]
      have a1: ¬(N5 m g).2+g'.V≥line:=by omega
      have a2: ¬D3 ((N5 m g).2+g'.V+Jm g'.V (P2 m g).2.2)≥line:=by rw [F1 (by omega)];omega
      rw [bK a1]
      simp only [bX,bO,lB,bY]
      rw [IS,lB,bK a2];rfl) (by unfold X8;rw [H9];rfl)
  rw [this,cL];rfl
theorem UC {m:Map}(K:KitM m){s:State}(S:SizeS s)(O:StateOK m s)(ht:s.Tick<1099511627776)(acts:List Int)(k:Int): ∀(n i:Nat),i+n=s.Agents.length→loop (V3 m (k,s) (Qp m s acts)) (i:Int)=some (.inl ())
  |0,i,hi=>by
   obtain rfl:i=s.Agents.length:=by omega
   exact C7 (by unfold V3;dsimp only;rw [H9];rfl)
  |n+1,i,hi=>by
   have hil:i<s.Agents.length:=by omega
   have hn:=O.num
   obtain ⟨g,hg⟩: ∃g,s.Agents[i]? =some g:=⟨_,lH hil⟩
   have A:=O.agent i g hg
   obtain ⟨a,t,hR,R⟩:=A.route
   have hL:=Mf R
   have hS:=A.S
   have hlen:=A.len
   rw [← hR]at hL
   obtain ⟨_,_,e3,_⟩:=YU K O ht acts
   obtain ⟨r1,r2,r3⟩:=iA K.toBearM (N5 m g).1 s.Tick
   have key:V3 m (k,s) (Qp m s acts) (i:Int)=some (.go ((i+1:Nat):Int)):=by
     unfold V3
     dsimp only
     rw [K0 hil,bO,C3 hg,lB,cM K.toBearM R hR hS.1 (by omega),lB,G8 hil (by omega)]
     cases ho:g.Obey
     ·rfl
     ·simp only [bW,bX,bO,bY]
      rw [(Om s i).2,lB]
      cases th:S3 s (i:Int)
      ·rfl
      ·by_cases q:g.S≤LongM m g.Route
       ·rw [bQ q]
        simp only [bW,Bool.or_self,bP]
        obtain ⟨l,k1,k2,k3⟩:=GN R hR hS.1
        have hk:=(R.val.laneOK k3).kind
        have eT:U3 l.Kind=P2 m g:=by unfold P2;rw [k2]
        have hT:=Px l.Kind
        have hb:1≤(U3 l.Kind).2.2:=by
          revert hk
          unfold U3
          repeat' split
          all_goals simp
        rw [k1,lB,Mv,lB,r2,lB,eT]
        rw [eT]at hT hb
        obtain ⟨p1,p2,p3⟩:=mS R hR hS.1 q
        obtain ⟨f1,f2,f3,f4⟩:=XH K O i hg (acts.getD i 0) hR R
        obtain ⟨q1,_,_⟩:=f4 th
        have hV:=A.V
        have hc:Pp m s=0:=(Jw K).2 O
        have eV:(Mg m s i (acts.getD i 0)).V=Dr m g s.Tick (acts.getD i 0):=by
          unfold Mg
          rw [C3 hg]
          dsimp only
          rw [bQ ⟨th,hc⟩];rfl
        have hv2:=LZ (m:=m) g s.Tick (acts.getD i 0)
        rw [iM (g':=Mg m s i (acts.getD i 0)) r3 (by rw [e3];exact GR hg) (by omega) q1 (by omega) (by rw [eV];omega) (by omega) ⟨p1,p3⟩ (by rw [eV];exact UB hV ho p2 s.Tick (acts.getD i 0))];rfl
       ·rw [bR q];rfl
   rw [J2 key]
   exact UC K S O ht acts k n (i+1) (by omega)
theorem UD {m:Map}(K:KitM m)(acts:List Int): ∀(n:Nat) (s:State),StateOK m s→s.Tick+ (n:Int)<1099511627776→s.In.length≤1000000→n≤1000→loop (X9 acts m) ((n:Int) - 1,s)=some (.inl ())
  |0,s,_,_,_,_=>C7 (by unfold X9;dsimp only;rw [bK (by omega)];rfl)
  |n+1,s,O,ht,hI,hn=>by
   have S:=O.size K hI
   obtain ⟨e1,O',e3,_⟩:=YU K O (by omega) acts
   have S':=(cI K S acts).1
   have hnum:=O.num
   have key:X9 acts m (((n+1:Nat):Int) - 1,s)=some (.go ((n:Int) - 1,(Qp m s acts).1)):=by
     unfold X9
     dsimp only
     rw [bJ (by omega),bO,iE K S (mR O) acts,lB,e1]
     have h1:((Qp m s acts).1.Agents.length:Int)=(s.Agents.length:Int):=by rw [e3];dsimp only;rw [Nl]
     rw [h1]
     simp only [bne_self_eq_false,Bool.or_self,bP]
     have:=UC K S O (by omega) acts (((n+1:Nat):Int) - 1) (s.Agents.length - 1) 1 (by omega)
     have this:loop (V3 m (((n+1:Nat):Int) - 1,s) (Qp m s acts)) 1=some (.inl ()):=this
     rw [this,F1 (by omega)]
     show some (Stp.go _)=some (Stp.go _)
     rw [show ((n+1:Nat):Int) - 1 - 1=(n:Int) - 1 by omega]
   rw [J2 key]
   exact UD K acts n _ O' (by rw [e3];dsimp only;omega) S'.ins (by omega)
theorem Wt (n:Int)(ps:List KitActor)(x:Int)(acts:List Int):Lk n ps x acts=some true:=by
  obtain ⟨m,hm,K,_⟩:=mJ n
  unfold Lk
  rw [gL]
  by_cases q:7<ps.length∨8<acts.length
  ·rw [show (decide ((ps.length:Int)>7)||decide ((acts.length:Int)>8))=true by simp only [bV,bM];omega];rfl
  ·rw [show (decide ((ps.length:Int)>7)||decide ((acts.length:Int)>8))=false by simp only [wA,wC];omega,bP,hm,lB]
   obtain ⟨A,e,h0,L⟩:=iL K ps (by omega)
   obtain ⟨n1,O⟩:=iK K h0
   have m1:=wR x (show (31:Int)≠0 by omega)
   have m2:=wS x (show (0:Int)<31 by omega)
   have h:=UD K acts ((x % 31).toNat+1) (Qq m A).1 O (by rw [n1];dsimp only;omega) (iH K L.size).ins (by omega)
   rw [show (((x % 31).toNat+1:Nat):Int) - 1=x % 31 by omega]at h
   rw [e,lB,Po (by omega) (by omega),lB,h];rfl
end
end Go.Abs.World
