/-
  Plain facts, second part: the law itself.
-/
import Derived.Test.YtgjdiioennhoeaaGreatPlain
set_option linter.all false
namespace Go.Abs.World
open Go Go.Abs
theorem EM (c:Int)(h:Sn ⟨[⟨0,0⟩,⟨c,0⟩]⟩=some c):Vf ⟨[⟨0,0⟩,⟨c,0⟩]⟩=c:=by
  have h1:=curve_Length_le _ _ h
  rw [BQ _ (by simp)]at h1
  exact lD h1
/-- The first lane of a map of the kit: a road, long enough. -/
theorem KY (k:Nat)(lim:Int): ∃l,(Pk k lim)[0]? =some l∧l.Kind=1∧l.Limit=lim∧20000≤Vf l.Curve_∧Vf l.Curve_≤60000:=by
  have e6:=EM 60000 (by decide+kernel)
  have e5:=EM 50000 (by decide+kernel)
  have e3:=EM 30000 (by decide+kernel)
  have e2:=EM 20000 (by decide+kernel)
  unfold Pk
  split
  ·exact ⟨_,rfl,rfl,rfl,by show 20000≤Vf ⟨[⟨0,0⟩,⟨60000,0⟩]⟩∧Vf ⟨[⟨0,0⟩,⟨60000,0⟩]⟩≤60000;rw [e6];decide⟩
  ·exact ⟨_,rfl,rfl,rfl,by show 20000≤Vf ⟨[⟨0,0⟩,⟨50000,0⟩]⟩∧Vf ⟨[⟨0,0⟩,⟨50000,0⟩]⟩≤60000;rw [e5];decide⟩
  ·exact ⟨_,rfl,rfl,rfl,by show 20000≤Vf ⟨[⟨0,0⟩,⟨50000,0⟩]⟩∧Vf ⟨[⟨0,0⟩,⟨50000,0⟩]⟩≤60000;rw [e5];decide⟩
  ·exact ⟨_,rfl,rfl,rfl,by show 20000≤Vf ⟨[⟨0,0⟩,⟨30000,0⟩]⟩∧Vf ⟨[⟨0,0⟩,⟨30000,0⟩]⟩≤60000;rw [e3];decide⟩
  ·exact ⟨_,rfl,rfl,rfl,by show 20000≤Vf ⟨[⟨0,0⟩,⟨30000,0⟩]⟩∧Vf ⟨[⟨0,0⟩,⟨30000,0⟩]⟩≤60000;rw [e3];decide⟩
  ·exact ⟨_,rfl,rfl,rfl,by show 20000≤Vf ⟨[⟨0,0⟩,⟨20000,0⟩]⟩∧Vf ⟨[⟨0,0⟩,⟨20000,0⟩]⟩≤60000;rw [e2];decide⟩
  ·exact ⟨_,rfl,rfl,rfl,by show 20000≤Vf ⟨[⟨0,0⟩,⟨20000,0⟩]⟩∧Vf ⟨[⟨0,0⟩,⟨20000,0⟩]⟩≤60000;rw [e2];decide⟩
theorem qT {m:Map}{l:Lane}(hl:m.Lanes[0]? =some l)(hk:l.Kind=1){w:Work}(h:w.Lane_=0∧0≤w.From∧w.From≤w.To∧w.To≤Vf l.Curve_∧0≤w.Begin∧w.Begin<w.End∧w.End≤1099511627776∧0≤w.Limit∧w.Limit≤2000):workE m 0 w=none:=by
  obtain ⟨h1,h2,h3,h4,h5,h6,h7,h8,h9⟩:=h
  have hlen:=J4 hl
  unfold workE S7
  rw [h1,show ((0:Int).toNat)=0 from rfl,hl,bH (by omega),bH]
  simp only [lF,Option.getD_some,Option.get!_some,hk,Zu,Uo,if_true,bL,bD,Bool.not_eq_true',not_or,Bool.not_eq_false,bK]
  omega
/-- A map of the kit is valid, with such works. -/
theorem iZ {k:Nat}{p:Par}(hk:k<8)(h:ParOK p){W:List Work}(hw:W.length≤8)(hW: ∀w∈W,w.Lane_=0∧0≤w.From∧w.From≤w.To∧w.To≤S7 (JD k p) 0∧0≤w.Begin∧w.Begin<w.End∧w.End≤1099511627776∧0≤w.Limit∧w.Limit≤2000):ValR ⟨p.ver,Pk k p.lim,GX k p.r,Zo k p.o p.o',W⟩:=by
  have V:=qS hk h
  obtain ⟨l,l1,l2,l3,l4,l5⟩:=KY k p.lim
  have hv:=h.ver
  refine ValR.change (v:=0) (S:=Zo k 0 0) (W:= []) V (by omega) (dL k _ _ _ _) (fun s hs=>iY h.o h.o' (by exact YZ k p.lim) s hs) hw (fun w hwm=> ?_)
  obtain ⟨a1,a2,a3,a4,a5,a6,a7,a8,a9⟩:=hW w hwm
  refine qT (l:=l) l1 l2 ⟨a1,a2,a3,?_,a5,a6,a7,a8,a9⟩
  have:S7 (JD k p) 0=Vf l.Curve_:=by
    unfold S7 JD
    dsimp only
    rw [show ((0:Int).toNat)=0 from rfl,l1];rfl
  omega
theorem dM (k:Nat)(p:Par):20000≤S7 (JD k p) 0∧S7 (JD k p) 0≤60000:=by
  obtain ⟨l,l1,l2,l3,l4,l5⟩:=KY k p.lim
  unfold S7 JD
  dsimp only
  rw [show ((0:Int).toNat)=0 from rfl,l1]
  exact ⟨l4,l5⟩
theorem mX {k:Nat}{p:Par}(hk:k<8)(h:ParOK p):ValR (JD k p):=by
  have hl:=dM k p
  refine iZ hk h (Nat.le_trans h.wk1 (by decide)) (fun w hw=> ?_)
  rcases h.wk with e|⟨b,l,h1,h2,h3,h4,e⟩
  ·rw [e]at hw;cases hw
  ·rw [e]at hw
   simp only [bA]at hw
   subst hw
   dsimp only
   omega
/-! ### Limits -/
end Go.Abs.World
namespace Go.Abs
theorem Zp {α β:Type}{g:Nat→α→Option β}{x:β}: ∀{l:List α} {i:Nat},x∈Jx g i l↔∃j a,l[j]? =some a∧g (i+j) a=some x
  | [],i=>by simp [Jx]
  |a::r,i=>by
   unfold Jx
   have ih:=Zp (g:=g) (x:=x) (l:=r) (i:=i+1)
   have sh:(∃j b,(a::r)[j]? =some b∧g (i+j) b=some x)↔g i a=some x∨∃j b,r[j]? =some b∧g (i+1+j) b=some x:=by
     constructor
     ·rintro ⟨j,b,h1,h2⟩
      cases j with
      |zero=>simp at h1;subst h1;exact .inl h2
      |succ j=>exact .inr ⟨j,b,by simpa using h1,by rwa [show i+1+j=i+ (j+1) by omega]⟩
     ·rintro (h|⟨j,b,h1,h2⟩)
      ·exact ⟨0,a,rfl,h⟩
      ·exact ⟨j+1,b,by simpa using h1,by rwa [show i+ (j+1)=i+1+j by omega]⟩
   rw [sh,← ih]
   cases h:g i a with
   |none=>simp
   |some b=>simp [eq_comm]
end Go.Abs
namespace Go.Abs.World
open Go Go.Abs
/-! ### How long lanes are -/
theorem jA: ∀(l:List Int) (s:Int),(∀x∈l,0≤x∧x≤1048576)→0≤s→s+1048576*l.length≤9000000000000000000→s≤GR s l∧GR s l≤s+1048576*l.length
  | [],s,_,_,_=>by simp [GR]
  |a::r,s,h,h0,h1=>by
   have ha:=h a (by simp)
   simp only [lK]at h1 ⊢
   rw [GR,L6 (by omega)]
   have:=jA r (s+a) (fun x hx=>h x (by simp [hx])) (by omega) (by omega)
   omega
theorem jB: ∀{l:List Spot} {last:Option CurveVector},Good last l→∀x∈EU l,1000≤x∧x≤1048576:=by
  intro l last h
  induction h with
  |one last p=>intro x hx;simp [EU]at hx
  |cons last p q r h1 h2 h3 h4 h ih=>
   intro x hx
   rw [Zl,lT]at hx
   rcases hx with rfl|hx
   ·exact ⟨h2,h3⟩
   ·exact ih x hx
theorem mY {c:Curve}(h:Ey c.Pts=0):1000≤Vf c∧Vf c≤16777216:=by
  have V:=checkM_zero.1 h
  unfold Vf Pc
  rw [bG h]
  have h16:=V.most
  have h2:=V.two
  have hm:=jB V.good
  cases hp:c.Pts with
  |nil=>rw [hp]at h2;simp at h2
  |cons p r=>
   rw [hp]at hm h16 h2
   cases r with
   |nil=>simp at h2
   |cons q r=>
    simp only [lK]at h16
    rw [Zl]at hm ⊢
    have ha:=hm _ (List.mem_cons_self)
    have hl:=Yc r q
    rw [GR,L6 (by omega),Int.zero_add]
    have:=jA (EU (q::r)) (rt (N4 (V2 p q) (V2 p q))) (fun x hx=>by have:=hm x (List.mem_cons_of_mem _ hx);omega) (by omega) (by rw [hl];omega)
    rw [hl]at this
    omega
theorem ValR.long {m:Map}(V:ValR m){k:Int}(h0:0≤k)(h1:k<m.Lanes.length):1000≤S7 m k∧S7 m k≤16777216:=by
  obtain ⟨l,e1,e2⟩:=BC h0 h1
  unfold S7
  rw [e1]
  exact mY (V.laneOK e1).curve
/-! ### Routes -/
def Up (m:Map):Int→List Int→Bool
  |_,[]=>true
  |a,b::r=>(nextOf m a.toNat).contains b&&Up m b r
noncomputable def Q9 (m:Map)(r:List Int):Int:=
  if Zn m≠0 then Zn m
  else match r with
    | []=>13
    |a::t=>if 7<t.length∨a<0∨(m.Lanes.length:Int)≤a∨So m a≠ []∨Up m a t=false then 13 else 0
/-- What a route is. -/
structure RouteOK (m:Map)(a:Int)(t:List Int):Prop where
  val:ValR m
  most:t.length≤7
  first:0≤a∧a<m.Lanes.length
  source:So m a= []
  chain:Up m a t=true
theorem chkRoute_zero {m:Map}{r:List Int}:Q9 m r=0↔∃a t,r=a::t∧RouteOK m a t:=by
  unfold Q9
  constructor
  ·intro h
   split at h
   ·exact absurd h (by assumption)
   ·rename_i h1
    have V:=chkR_zero.1 (Decidable.not_not.1 h1)
    split at h
    ·cases h
    ·rename_i a t
     split at h
     ·cases h
     ·rename_i h2
      exact ⟨a,t,rfl,V,by omega,by omega,Decidable.not_not.1 fun q=>h2 (.inr (.inr (.inr (.inl q)))),by
        cases q:Up m a t with
        |true=>rfl
        |false=>exact absurd (.inr (.inr (.inr (.inr q)))) h2⟩
  ·rintro ⟨a,t,rfl,V,h1,h2,h3,h4⟩
   rw [bH (by rw [chkR_zero.2 V];simp)]
   dsimp only
   rw [bH]
   rintro (q|q|q|q|q)
   ·omega
   ·omega
   ·omega
   ·exact q h3
   ·rw [h4]at q;cases q
theorem RJ {m:Map}(V:ValR m): ∀{t:List Int} {a:Int},Up m a t=true→0≤a→∀x∈t,a<x∧x<m.Lanes.length
  | [],_,_,_,x,hx=>by cases hx
  |b::r,a,h,h0,x,hx=>by
   rw [Up,bK,List.contains_iff_mem]at h
   have hb:=V.nextOf h.1
   rcases lT.1 hx with rfl|hx
   ·omega
   ·have:=RJ V h.2 (by omega) x hx;omega
theorem RouteOK.mem {m:Map}{a:Int}{t:List Int}(R:RouteOK m a t){x:Int}(hx:x∈a::t):0≤x∧x<m.Lanes.length:=by
  have:=R.first
  rcases lT.1 hx with rfl|hx
  ·exact this
  ·have:=RJ R.val R.chain (by omega) x hx;omega
theorem ZA {m:Map}(B:BearM m)(V:ValR m)(l:List Int)(hl:l.length≤1000000): ∀(r:List Int) (i:Nat) (a:Int),l.drop i=r→i≤l.length→0≤a→a<m.Lanes.length→loop (S6 m l) (a,(i:Int))=some (if Up m a r=true then .inl ()else .inr 13):=by
  intro r
  induction r with
  |nil=>
   intro i a hi hil h0 h1
   have:=Q6 hi
   obtain rfl:i=l.length:=by omega
   refine D8 ?_
   unfold S6
   rw [K2];rfl
  |cons b r ih=>
   intro i a hi hil h0 h1
   have hlt:=O0 hi
   have hb:=Bs hi
   obtain ⟨ln,e1,e2⟩:=BC h0 h1
   have hs:S6 m l (a,(i:Int))=some (if ln.Next.contains b=true then .go (b,((i+1:Nat):Int))else .out (.inr 13)):=by
     unfold S6
     dsimp only
     rw [L5 hlt,D1 hb,bE,lB,e2,lB,DU _ (B.toBear.pts _ (lG e1)).2,lB,I7 hlt (by omega)]
     cases ln.Next.contains b<;>rfl
   have hn:nextOf m a.toNat=ln.Next:=by unfold nextOf;rw [e1];rfl
   rw [Up,hn]
   cases q:ln.Next.contains b
   ·rw [q]at hs;rw [D8 hs];rfl
   ·rw [q]at hs
    have hbm:=V.next e1 (List.contains_iff_mem.1 q)
    rw [L7 hs,ih (i+1) b (L9 hi) (by omega) (by omega) (by omega),bI]
theorem FP {m:Map}(B:BearM m)(r:List Int)(hr:r.length≤1000000):Bd m r=some (Q9 m r):=by
  unfold Bd Q9
  rw [Qx B,lB]
  by_cases q:Zn m=0
  ·have V:=chkR_zero.1 q
   rw [bH (by simpa using q),show (Zn m !=0)=false by simpa using q,bF]
   cases r with
   |nil=>rfl
   |cons a t=>
    dsimp only
    simp only [lK]at hr ⊢
    by_cases h8:7<t.length
    ·rw [bG (.inl h8),show ((((t.length+1:Nat):Int)==0)||(decide (((t.length+1:Nat):Int)>8)))=true by simp;omega];rfl
    ·rw [show ((((t.length+1:Nat):Int)==0)||(decide (((t.length+1:Nat):Int)>8)))=false by simp;omega]
     rw [show B7 (a::t) 0=some a from rfl]
     simp only [bN,bE,lB,bO]
     by_cases h0:a<0
     ·rw [bG (.inr (.inl h0)),bB h0];rfl
     ·rw [bC h0]
      simp only [bN,bE,lB,bO]
      by_cases h1:(m.Lanes.length:Int)≤a
      ·rw [bG (.inr (.inr (.inl h1))),show decide (a≥(m.Lanes.length:Int))=true from bB h1];rfl
      ·rw [show decide (a≥(m.Lanes.length:Int))=false from bC (by omega)]
       simp only [bN,bE,bO]
       rw [lB,dI B,lB]
       by_cases hb:So m a= []
       ·rw [hb]
        have e1:XZ (a::t) 1 ((t.length+1:Nat):Int)=some t:=by
          unfold XZ
          rw [bG (by simp;omega)]
          simp
        rw [e1,show decide ((([]:List Int).length:Int)>0)=false from rfl,bF,lB]
        have:=ZA B V t (by omega) t 0 a rfl (by omega) (by omega) (by omega)
        rw [show ((0:Nat):Int)=0 from rfl]at this
        rw [this]
        by_cases hc:Up m a t=true
        ·rw [bG hc,bH (by rw [hc];simp;omega)];rfl
        ·rw [bH hc,bG (.inr (.inr (.inr (.inr (by simpa using hc)))))];rfl
       ·rw [bG (.inr (.inr (.inr (.inl hb)))),show decide (((So m a).length:Int)>0)=true from bB (by have:=List.length_pos_iff.2 hb;omega)];rfl
  ·rw [bG q,show (Zn m !=0)=true by simpa using q];rfl
/-- Where the lanes of a route begin. -/
noncomputable def R0 (m:Map):Int→List Int→List Int
  |_,[]=> []
  |s,a::r=>s::R0 m (s+S7 m a) r
noncomputable def Gk (m:Map):Int→List Int→Int
  |s,[]=>s
  |s,a::r=>Gk m (s+S7 m a) r
theorem Tm (m:Map): ∀(r:List Int) (s:Int),(R0 m s r).length=r.length
  | [],_=>rfl
  |_::r,_=>by rw [R0,lK,Tm m r,lK]
noncomputable def Dc (m:Map)(r:List Int):RoadsWay:=if Q9 m r=0 then ⟨m,r,R0 m 0 r,Gk m 0 r⟩else ⟨⟨0,[],[],[],[]⟩,[],[],0⟩
theorem Vn {m:Map}(B:BearM m)(r:List Int)(hr:r.length≤1000000):Cr m r=some (Dc m r):=by
  unfold Cr Dc
  rw [FP B r hr,lB]
  by_cases q:Q9 m r=0
  ·rw [bG q,q]
   obtain ⟨a,t,rfl,R⟩:=chkRoute_zero.1 q
   have key: ∀(l:List Int) (i:Nat) (s:Int) (st:List Int),(a::t).drop i=l→i≤(a::t).length→0≤s→s≤16777216*i→st.length=i→loop (Ay m (a::t)) ((i:Int),(st,s))=some (st++R0 m s l,Gk m s l):=by
     intro l
     induction l with
     |nil=>
      intro i s st hi hil _ _ _
      have:=Q6 hi
      obtain rfl:i=(a::t).length:=by omega
      refine D8 ?_
      unfold Ay
      rw [K2,R0,Gk,lO];rfl
     |cons x l ih=>
      intro i s st hi hil h0 h1 h2
      have hlt:=O0 hi
      have hx:=Bs hi
      have hm:=R.mem (lG hx)
      have hl:=R.val.long hm.1 hm.2
      have hm7:=R.most
      simp only [lK]at hlt
      rw [L7 (s':=(((i+1:Nat):Int),(st++ [s],s+S7 m x)))]
      ·rw [ih (i+1) _ _ (L9 hi) (by simp;omega) (by omega) (by omega) (by simp [h2]),R0,Gk,lN];rfl
      ·unfold Ay
       dsimp only
       rw [L5 (by simpa using hlt),D1 hx,bE,lB,Qb (by simp;omega),lB,ML B.toBear hm.1 hm.2,lB,I7 hlt (by omega),WO (by omega)]
   have:=key (a::t) 0 0 [] rfl (by omega) (by decide) (by decide) rfl
   rw [show ((0:Nat):Int)=0 from rfl]at this
   show (loop (Ay m (a::t)) (0,([],0))).bind _=_
   rw [this];rfl
  ·rw [bH q,show (Q9 m r !=0)=true by simpa using q];rfl
/-- The place in a route at which it enters a zone. -/
noncomputable def Gv (m:Map)(r:List Int)(k:Int):Int:=match m.Zones[k.toNat]? with
  |some z=>if 0≤k∧Q9 m r=0 then KD (fun l=>(Qy z l).2) r else -1
  |none=> -1
theorem jC {m:Map}(B:BearM m)(r:List Int)(hr:r.length≤1000000)(k:Int):Jt m r k=some (Gv m r k):=by
  unfold Jt Gv
  rw [Vn B r hr,lB]
  by_cases h:k<0∨(m.Zones.length:Int)≤k
  ·rw [show ((decide (k<0))||(decide (k≥(m.Zones.length:Int))))=true by simpa using h,bE]
   cases hz:m.Zones[k.toNat]? with
   |none=>rfl
   |some z=>
    have:=J4 hz
    dsimp only
    rw [bH (fun x=>by have:=x.1;omega)]
  ·obtain ⟨z,z1,z2⟩:=aL (m:=m) (k:=k) (by omega) (by omega)
   rw [show ((decide (k<0))||(decide (k≥(m.Zones.length:Int))))=false by rw [bP];simpa using h,bF,z1]
   dsimp only
   have hp:=B.toBearZ.parts z (lG z1)
   have key: ∀l:List Int,l.length≤1000000→J0 l m k=some (KD (fun l=>(Qy z l).2) l):=by
     intro l hl
     unfold J0
     rw [Xf l (fun l=>(Qy z l).2) (by omega) (fun i a h=>by
      have hi:=J4 h
      unfold I0 Cu
      rw [L5 hi,D1 h,bE,lB,z2,lB,mV hp,lB,lB]
      cases (Qy z a).2<;>rfl) (by unfold I0;rw [K2];rfl)]
   unfold Dc
   by_cases q:Q9 m r=0
   ·rw [bG q,bG ⟨by omega,q⟩,key r hr];rfl
   ·rw [bH q,bH (fun x=>q x.2),key [] (by simp)];rfl
end Go.Abs.World
/-! Lists that are sorted, and how an insertion sort makes them. -/
namespace Go.Abs
open Go
/-- What a comparison must satisfy. -/
structure LtOK {α:Type}(lt:α→α→Bool):Prop where
  asym: ∀a b,lt a b=true→lt b a=false
  trans: ∀a b c,lt b a=false→lt c b=false→lt c a=false
def Srt {α:Type}(lt:α→α→Bool)(l:List α):Prop:=l.Pairwise fun a b=>lt b a=false
section
variable {α:Type}
theorem JE (U V:List α)(x y:α)(n:Int)(h:n=(U.length:Int)):Mo (U++x::V) n y=U++y::V:=by
  subst h
  simp [Mo]
theorem Zq (U V:List α)(x:α)(n:Int)(h:n=(U.length:Int)):B7 (U++x::V) n=some x:=by
  subst h
  simp [B7]
theorem ZB {Q:List α}(h:Q≠ []): ∃Q' q,Q=Q'++ [q]:=⟨Q.dropLast,Q.getLast h,(List.dropLast_concat_getLast h).symm⟩
variable {lt:α→α→Bool}
theorem Srt.ins (L:LtOK lt){Q1 Q2:List α}{x:α}(h:Srt lt (Q1++Q2))(h1: ∀q∈Q1,lt x q=false)(h2: ∀q∈Q2,lt x q=true):Srt lt (Q1++x::Q2):=by
  unfold Srt at h ⊢
  rw [List.pairwise_append]at h ⊢
  refine ⟨h.1,List.pairwise_cons.2 ⟨fun b hb=>L.asym _ _ (h2 b hb),h.2.1⟩,fun a ha b hb=> ?_⟩
  rcases lT.1 hb with rfl|hb
  ·exact h1 a ha
  ·exact h.2.2 a ha b hb
theorem LtOK.irr (L:LtOK lt)(a:α):lt a a=false:=by
  cases h:lt a a with
  |false=>rfl
  |true=>rw [L.asym a a h]at h;cases h
theorem Srt.get (L:LtOK lt){l:List α}(h:Srt lt l){i j:Nat}(hij:i≤j)(hj:j<l.length):lt l[j] l[i]=false:=by
  rcases Nat.lt_or_eq_of_le hij with h1|h1
  ·exact l8.1 h i j (by omega) hj h1
  ·subst h1;exact L.irr _
/-- The first place from which a test fails. -/
theorem mZ {F:Int×Int→Option (Stp (Int×Int) Int)}(Q:Nat→Bool)(lo hi:Nat)(hle:lo≤hi)
    (hF: ∀x y:Nat,lo≤x→x<y→y≤hi→F ((x:Int),(y:Int))=some (if Q ((x+y) / 2)then .go ((((x+y) / 2+1:Nat):Int),(y:Int))else .go ((x:Int),(((x+y) / 2:Nat):Int))))
    (hstop: ∀x y:Nat,¬x<y→F ((x:Int),(y:Int))=some (.out (x:Int)))
    (mono: ∀c c',lo≤c→c≤c'→c'<hi→Q c'=true→Q c=true):
    ∃s:Nat,loop F ((lo:Int),(hi:Int))=some (s:Int)∧lo≤s∧s≤hi∧(∀c,lo≤c→c<s→Q c=true)∧∀c,s≤c→c<hi→Q c=false:=by
  have key: ∀(k x y:Nat),y - x≤k→lo≤x→x≤y→y≤hi→(∀c,lo≤c→c<x→Q c=true)→(∀c,y≤c→c<hi→Q c=false)→
   ∃s:Nat,loop F ((x:Int),(y:Int))=some (s:Int)∧lo≤s∧s≤hi∧(∀c,lo≤c→c<s→Q c=true)∧∀c,s≤c→c<hi→Q c=false:=by
    intro k
    induction k with
    |zero=>
     intro x y hk h1 h2 h3 h4 h5
     obtain rfl:x=y:=by omega
     exact ⟨x,D8 (hstop x x (by omega)),h1,h3,h4,h5⟩
    |succ k ih=>
     intro x y hk h1 h2 h3 h4 h5
     by_cases hxy:x<y
     ·have hf:=hF x y h1 hxy h3
      cases hq:Q ((x+y) / 2)with
      |true=>
       rw [hq,bG rfl]at hf
       obtain ⟨s,g1,g2⟩:=ih ((x+y) / 2+1) y (by omega) (by omega) (by omega) h3 (fun c hc1 hc2=>mono c ((x+y) / 2) hc1 (by omega) (by omega) hq) h5
       exact ⟨s,by rw [L7 hf];exact g1,g2⟩
      |false=>
       rw [hq,bH (by simp)]at hf
       obtain ⟨s,g1,g2⟩:=ih x ((x+y) / 2) (by omega) h1 (by omega) (by omega) h4 (fun c hc1 hc2=>by
         cases hc:Q c with
         |false=>rfl
         |true=>rw [mono ((x+y) / 2) c (by omega) hc1 hc2 hc]at hq;cases hq)
       exact ⟨s,by rw [L7 hf];exact g1,g2⟩
     ·obtain rfl:x=y:=by omega
      exact ⟨x,D8 (hstop x x (by omega)),h1,h3,h4,h5⟩
  exact key (hi - lo) lo hi (bW _) (bW _) hle (bW _) (fun c h1 h2=>absurd h2 (by omega)) (fun c h1 h2=>absurd h2 (by omega))
/-- The inner loop: an element goes down to its place. -/
theorem RK (L:LtOK lt){F:Int×List α→Option (Stp (Int×List α) (List α))}{P T:List α}(N:Nat)
    (hstop: ∀xs,F ((P.length:Int),xs)=some (.out xs))
    (hF: ∀(U V:List α) (q x:α),P.length≤U.length→(U++q::x::V).length=N→F (((U.length:Int)+1),U++q::x::V)=some (if lt x q then .go ((U.length:Int),U++x::q::V)else .out (U++q::x::V))) (x:α):
    ∀(n:Nat) (Q1 Q2:List α),Q1.length=n→Srt lt (Q1++Q2)→(∀q∈Q2,lt x q=true)→(P++Q1++x::Q2++T).length=N→
     ∃Q,loop F (((P.length+Q1.length:Nat):Int),P++Q1++x::Q2++T)=some (P++Q++T)∧Q.Perm (x::(Q1++Q2))∧Srt lt Q:=by
  intro n
  induction n with
  |zero=>
   intro Q1 Q2 hn hs hg hN
   obtain rfl:=List.length_eq_zero_iff.1 hn
   refine ⟨x::Q2,?_,by simp,?_⟩
   ·rw [D8 (by rw [lM,Nat.add_zero];exact hstop _)]
    simp
   ·exact hs.ins L (by simp) hg
  |succ n ih=>
   intro Q1 Q2 hn hs hg hN
   obtain ⟨Q',q,rfl⟩:=ZB (Q:=Q1) (by rintro rfl;simp at hn)
   rw [lL,List.length_singleton]at hn
   have e1:P++ (Q'++ [q])++x::Q2++T=(P++Q')++q::x::(Q2++T):=by simp
   have e2:((P.length+ (Q'++ [q]).length:Nat):Int)=((P++Q').length:Int)+1:=by simp;omega
   have hF1:=hF (P++Q') (Q2++T) q x (by simp) (by rw [← e1];exact hN)
   by_cases hl:lt x q=true
   ·rw [bG hl]at hF1
    obtain ⟨Q,g1,g2,g3⟩:=ih Q' (q::Q2) (by omega) (by simpa using hs) (fun y hy=>by
      rcases lT.1 hy with rfl|hy
      ·exact hl
      ·exact hg y hy) (by rw [← hN];simp)
    refine ⟨Q,?_,g2.trans (by simp),g3⟩
    rw [e1,e2,L7 hF1,← g1]
    congr 1
    simp
   ·rw [bH hl]at hF1
    have hl':lt x q=false:=by simpa using hl
    refine ⟨Q'++ [q]++x::Q2,?_,?_,hs.ins L (fun y hy=> ?_) hg⟩
    ·rw [e1,e2,D8 hF1];simp
    ·have:=List.perm_middle (a:=x) (l₁:=Q'++ [q]) (l₂:=Q2);exact this
    ·rcases lS.1 hy with h|h
     ·have hq:lt q y=false:=by
        unfold Srt at hs
        rw [lN,List.pairwise_append]at hs
        exact hs.2.2 y h q (by simp)
      exact L.trans y q x hq hl'
     ·rw [bA.1 h];exact hl'
/-- The outer loop. -/
theorem dN {F:Int×List α→Option (Stp (Int×List α) (List α))}{P S:List α}(N:Nat)(b:Nat)
    (hend: ∀xs (i:Nat),b≤i→F ((i:Int),xs)=some (.out xs))
    (hF: ∀(Q R:List α) (x:α),(P++Q++x::R++S).length=N→P.length+Q.length<b→Srt lt Q→∃Q',F (((P.length+Q.length:Nat):Int),P++Q++x::R++S)=some (.go (((P.length+Q.length+1:Nat):Int),P++Q'++R++S))∧Q'.Perm (x::Q)∧Srt lt Q'):
    ∀(R Q:List α),(P++Q++R++S).length=N→P.length+Q.length+R.length=b→Srt lt Q→∃Q',loop F (((P.length+Q.length:Nat):Int),P++Q++R++S)=some (P++Q'++S)∧Q'.Perm (Q++R)∧Srt lt Q':=by
  intro R
  induction R with
  |nil=>
   intro Q hN hb hs
   refine ⟨Q,?_,by simp,hs⟩
   rw [D8 (hend _ _ (by simpa using Nat.le_of_eq hb.symm))]
   simp
  |cons x R ih=>
   intro Q hN hb hs
   rw [lK]at hb
   obtain ⟨Q',g1,g2,g3⟩:=hF Q R x hN (by omega) hs
   have hl:Q'.length=Q.length+1:=by rw [g2.length_eq];simp
   obtain ⟨Q2,k1,k2,k3⟩:=ih Q' (by rw [← hN];simp [hl];omega) (by omega) g3
   refine ⟨Q2,?_,k2.trans ((g2.append_right R).trans ?_),k3⟩
   ·rw [L7 g1,← k1,hl]
    congr 1
   ·exact (List.perm_middle (a:=x) (l₁:=Q) (l₂:=R)).symm
end
end Go.Abs
/-! How the lists are sorted. -/
namespace Go.Abs.World
open Go Go.Abs
theorem nA {α:Type}(U V:List α)(q x:α):U++q::x::V=(U++ [q])++x::V:=by simp
structure SigOK (s:Signal):Prop where
  pos:0<s.Phases.length
  many:s.Phases.length≤6
  off:0≤s.Offset∧s.Offset≤1099511627776
  ticks: ∀p∈s.Phases,1≤p.Ticks∧p.Ticks≤10000
  green: ∀p∈s.Phases,p.Green.length≤1000000
theorem ValR.sig {m:Map}(B:BearM m)(V:ValR m){i:Nat}{s:Signal}(h:m.Signals[i]? =some s):SigOK s:=by
  have:=firstE_none.1 V.signalE i s h
  unfold World.signalE at this
  split at this
  ·cases this
  split at this
  ·cases this
  split at this
  ·cases this
  split at this
  ·cases this
  rename_i h1 h2 h3 h4
  refine ⟨by omega,by omega,?_,fun p hp=> ?_,(B.toBearS.phases s (lG h)).2⟩
  ·have:Zu s.Offset 0 1099511627776=true:=by simpa using h3
   simpa [Zu] using this
  ·have:Zu p.Ticks 1 10000=true:=by
     cases q:Zu p.Ticks 1 10000 with
     |true=>rfl
     |false=>exact absurd (lY.2 ⟨p,hp,by rw [q];rfl⟩) h4
   simpa [Zu] using this
def Rf:List Phase→Int
  | []=>0
  |p::r=>p.Ticks+Rf r
def KZ (lane:Int):Int→List Phase→Bool
  |_,[]=>false
  |at_,p::r=>if p.Ticks≤at_ then KZ lane (at_ - p.Ticks) r else p.Green.contains lane
def ZC (s:Signal)(lane tick:Int):Bool:=KZ lane ((s.Offset+tick) % Rf s.Phases) s.Phases
theorem aN: ∀{l:List Phase},(∀p∈l,1≤p.Ticks∧p.Ticks≤10000)→(l.length:Int)≤Rf l∧Rf l≤10000*l.length
  | [],_=>by simp [Rf]
  |p::r,h=>by
   have:=aN (l:=r) fun q hq=>h q (List.mem_cons_of_mem _ hq)
   have:=h p (by simp)
   simp only [Rf,lK]
   omega
theorem SigOK.sum {s:Signal}(S:SigOK s):1≤Rf s.Phases∧Rf s.Phases≤60000:=by
  have:=aN S.ticks
  have:=S.pos
  have:=S.many
  omega
theorem rR (s:Signal)(S:SigOK s): ∀(r:List Phase) (i:Nat) (a:Int),s.Phases.drop i=r→i≤s.Phases.length→0≤a→a+10000*r.length≤1000000→loop (At s) (a,(i:Int))=some (a+Rf r):=by
  intro r
  induction r with
  |nil=>
   intro i a hi hil h0 h1
   have:=Q6 hi
   obtain rfl:i=s.Phases.length:=by omega
   refine D8 ?_
   unfold At
   rw [K2];simp [Rf]
  |cons p r ih=>
   intro i a hi hil h0 h1
   have hlt:=O0 hi
   have hp:=Bs hi
   have hb:=S.ticks p (lG hp)
   simp only [lK]at h1
   have hs:At s (a,(i:Int))=some (.go (a+p.Ticks,((i+1:Nat):Int))):=by
     unfold At
     dsimp only
     rw [L5 hlt,D1 hp,bE,lB,L6 (by omega),I7 hlt (by have:=S.many;omega)]
   rw [L7 hs,ih (i+1) _ (L9 hi) (by omega) (by omega) (by omega),Rf]
   congr 1;omega
theorem rS (s:Signal)(S:SigOK s)(lane:Int): ∀(r:List Phase) (i:Nat) (a:Int),s.Phases.drop i=r→i≤s.Phases.length→0≤a→a≤1000000→thenS (loop (Z0 s lane) (a,(i:Int))) (fun _=>some false) (fun r=>some r)=some (KZ lane a r):=by
  intro r
  induction r with
  |nil=>
   intro i a hi hil h0 h1
   have:=Q6 hi
   obtain rfl:i=s.Phases.length:=by omega
   rw [D8 (t:= .inl ())]
   ·rfl
   ·unfold Z0
    rw [K2];rfl
  |cons p r ih=>
   intro i a hi hil h0 h1
   have hlt:=O0 hi
   have hp:=Bs hi
   have hb:=S.ticks p (lG hp)
   by_cases hc:p.Ticks≤a
   ·have hs:Z0 s lane (a,(i:Int))=some (.go (a - p.Ticks,((i+1:Nat):Int))):=by
      unfold Z0
      dsimp only
      rw [L5 hlt,D1 hp,bE,lB,show decide (a≥p.Ticks)=true from bB hc,bE,L6 (by omega),I7 hlt (by have:=S.many;omega)]
    rw [L7 hs,ih (i+1) _ (L9 hi) (by omega) (by omega) (by omega),KZ,bG hc]
   ·have hs:Z0 s lane (a,(i:Int))=some (.out (.inr (p.Green.contains lane))):=by
      unfold Z0
      dsimp only
      rw [L5 hlt,D1 hp,bE,lB,show decide (a≥p.Ticks)=false from bC (by omega),bF,DU _ (S.green p (lG hp)),lB]
    rw [D8 hs,KZ,bH hc];rfl
theorem oG {s:Signal}(S:SigOK s){tick:Int}(h:0≤tick):(C5 (s.Offset.tmod (Rf s.Phases)+tick.tmod (Rf s.Phases))).tmod (Rf s.Phases)=(s.Offset+tick) % Rf s.Phases:=by
  obtain ⟨h1,h2⟩:=S.sum
  have ho:=S.off.1
  rw [Int.tmod_eq_emod_of_nonneg ho,Int.tmod_eq_emod_of_nonneg h]
  have a1:=Int.emod_nonneg s.Offset (b:=Rf s.Phases) (by omega)
  have a2:=Int.emod_nonneg tick (b:=Rf s.Phases) (by omega)
  have a3:=wC s.Offset (b:=Rf s.Phases) (by omega)
  have a4:=wC tick (b:=Rf s.Phases) (by omega)
  rw [L6 (by omega),Int.tmod_eq_emod_of_nonneg (by omega),← Int.add_emod]
theorem dO {s:Signal}(S:SigOK s)(lane:Int){tick:Int}(h:0≤tick):Hh s lane tick=some (ZC s lane tick):=by
  obtain ⟨h1,h2⟩:=S.sum
  unfold Hh
  have e1:loop (At s) (0,0)=some (Rf s.Phases):=by
    have:=rR s S s.Phases 0 0 rfl (by omega) (by omega) (by have:=S.many;omega)
    rw [Int.zero_add]at this;exact this
  have hne:Rf s.Phases≠0:=by omega
  rw [e1,lB]
  unfold ER
  rw [bH hne,lB,bH hne,lB,bH hne,lB,oG S h]
  refine rS s S lane s.Phases 0 _ rfl (by omega) (Int.emod_nonneg _ hne) ?_
  have:=wC (s.Offset+tick) (b:=Rf s.Phases) (by omega)
  omega
noncomputable def KF (m:Map)(g lane tick:Int):Bool:=(((decide (tick≥0))&& (decide (g≥0)))&& (decide (g< (m.Signals.length:Int))))&&YS m lane&&ZC (m.Signals.getD g.toNat default) lane tick
theorem jD {m:Map}(B:BearM m)(g lane tick:Int):Ju m g lane tick=some (KF m g lane tick):=by
  unfold Ju KF
  rw [KW B]
  cases hc:(((decide (tick≥0))&& (decide (g≥0)))&& (decide (g< (m.Signals.length:Int))))
  ·rfl
  ·cases hi:YS m lane
   ·rfl
   ·simp only [bK,bD]at hc
    obtain ⟨⟨c1,c2⟩,c3⟩:=hc
    have hl:g.toNat<m.Signals.length:=by omega
    have hget:m.Signals[g.toNat]? =some (m.Signals.getD g.toNat default):=by rw [List.getD,lH hl];rfl
    have hg:B7 m.Signals g=some (m.Signals.getD g.toNat default):=by unfold B7;rw [bG c2,hget]
    have S:=((isM_true.1 hi).2.2).sig B hget
    simp only [bE,lB,bI,hg,dO S lane c1]
theorem Xh {high:Int}: ∀{l:List Int} {low:Int},Ep high low l=true→l.Pairwise (· < ·)
  | [],_,_=>List.Pairwise.nil
  |n::r,low,h=>by
   simp only [Ep,bK]at h
   refine List.pairwise_cons.2 ⟨fun x hx=> ?_,Xh h.2⟩
   have:=(Ob h.2 x hx).1
   omega
end Go.Abs.World
namespace Go.Abs
open Go
section
variable {α β σ τ:Type}
/-- What rounds put one behind the other. -/
def JF (g:Nat→α→List β):Nat→List α→List β
  |_,[]=> []
  |i,a::r=>g i a++JF g (i+1) r
theorem RL (g:Nat→α→List β)(C:Nat): ∀(l:List α) (i:Nat),(∀(j:Nat) a,l[j]? =some a→(g (i+j) a).length≤C)→(JF g i l).length≤l.length*C
  | [],_,_=>by simp [JF]
  |a::r,i,h=>by
   have h1:=h 0 a rfl
   have h2:=RL g C r (i+1) (fun j b hb=>by have:=h (j+1) b (by simpa using hb);rwa [show i+1+j=i+ (j+1) by omega])
   rw [JF,lL,lK,Nat.succ_mul]
   rw [Nat.add_zero]at h1
   omega
end
end Go.Abs
namespace Go.Abs.World
open Go Go.Abs
theorem jE {z:Zone}(hl:z.Parts.length≤1000000)(k:Int):AQ z k=some (Qy z k):=by
  have key: ∀(r:List Part) (i:Nat),z.Parts.drop i=r→i≤z.Parts.length→thenS (loop (Ii z k) (i:Int)) (fun _=>some ((⟨0,0,0,0⟩:Part),false)) (fun r=>some r)=some (match r.find? (fun p=>p.Lane_==k)with|some p=>(p,true)|none=>(⟨0,0,0,0⟩,false)):=by
    intro r
    induction r with
    |nil=>
     intro i hi hil
     have:=Q6 hi
     obtain rfl:i=z.Parts.length:=by omega
     rw [D8 (t:= .inl ()) (by unfold Ii;rw [K2];rfl)];rfl
    |cons p r ih=>
     intro i hi hil
     have hlt:=O0 hi
     have hp:=Bs hi
     rw [List.find?_cons]
     cases q:p.Lane_==k
     ·rw [L7 (s':=((i+1:Nat):Int)) (by unfold Ii;rw [L5 hlt,D1 hp,bE,lB,q,I7 hlt (by omega)];rfl)]
      exact ih (i+1) (L9 hi) (by omega)
     ·rw [D8 (t:= .inr (p,true)) (by unfold Ii;rw [L5 hlt,D1 hp,bE,lB,q,bE,lB])];rfl
  exact key z.Parts 0 rfl (by omega)
theorem qU (s:Signal)(S:SigOK s): ∀(r:List Phase) (i:Nat) (a:Int),s.Phases.drop i=r→i≤s.Phases.length→0≤a→a+10000*r.length≤1000000→loop (Ef s) (a,(i:Int))=some (a+Rf r):=by
  intro r
  induction r with
  |nil=>
   intro i a hi hil h0 h1
   have:=Q6 hi
   obtain rfl:i=s.Phases.length:=by omega
   refine D8 ?_
   unfold Ef
   rw [K2];simp [Rf]
  |cons p r ih=>
   intro i a hi hil h0 h1
   have hlt:=O0 hi
   have hp:=Bs hi
   have hb:=S.ticks p (lG hp)
   simp only [lK]at h1
   have hs:Ef s (a,(i:Int))=some (.go (a+p.Ticks,((i+1:Nat):Int))):=by
     unfold Ef
     dsimp only
     rw [L5 hlt,D1 hp,bE,lB,L6 (by omega),I7 hlt (by have:=S.many;omega)]
   rw [L7 hs,ih (i+1) _ (L9 hi) (by omega) (by omega) (by omega),Rf]
   congr 1;omega
theorem qV (s:Signal)(S:SigOK s)(lane:Int): ∀(r:List Phase) (i:Nat) (a:Int),s.Phases.drop i=r→i≤s.Phases.length→0≤a→a≤1000000→thenS (loop (Cw s lane) (a,(i:Int))) (fun _=>some false) (fun r=>some r)=some (KZ lane a r):=by
  intro r
  induction r with
  |nil=>
   intro i a hi hil h0 h1
   have:=Q6 hi
   obtain rfl:i=s.Phases.length:=by omega
   rw [D8 (t:= .inl ())]
   ·rfl
   ·unfold Cw
    rw [K2];rfl
  |cons p r ih=>
   intro i a hi hil h0 h1
   have hlt:=O0 hi
   have hp:=Bs hi
   have hb:=S.ticks p (lG hp)
   by_cases hc:p.Ticks≤a
   ·have hs:Cw s lane (a,(i:Int))=some (.go (a - p.Ticks,((i+1:Nat):Int))):=by
      unfold Cw
      dsimp only
      rw [L5 hlt,D1 hp,bE,lB,show decide (a<p.Ticks)=false from bC (by omega),bF,lB,L6 (by omega),I7 hlt (by have:=S.many;omega)]
    rw [L7 hs,ih (i+1) _ (L9 hi) (by omega) (by omega) (by omega),KZ,bG hc]
   ·have hs:Cw s lane (a,(i:Int))=some (.out (.inr (p.Green.contains lane))):=by
      unfold Cw
      dsimp only
      rw [L5 hlt,D1 hp,bE,lB,show decide (a<p.Ticks)=true from bB (by omega),bE,lB,YT _ (S.green p (lG hp)),lB]
    rw [D8 hs,KZ,bH hc];rfl
theorem dP {s:Signal}(S:SigOK s)(lane:Int){tick:Int}(h:0≤tick):Tg s lane tick=some (ZC s lane tick):=by
  obtain ⟨h1,h2⟩:=S.sum
  unfold Tg
  have e1:loop (Ef s) (0,0)=some (Rf s.Phases):=by
    have:=qU s S s.Phases 0 0 rfl (by omega) (by omega) (by have:=S.many;omega)
    rw [Int.zero_add]at this;exact this
  have hne:Rf s.Phases≠0:=by omega
  rw [e1,lB]
  unfold ER
  rw [bH hne,lB,bH hne,lB,bH hne,lB,oG S h]
  refine qV s S lane s.Phases 0 _ rfl (by omega) (Int.emod_nonneg _ hne) ?_
  have:=wC (s.Offset+tick) (b:=Rf s.Phases) (by omega)
  omega
theorem dQ {m:Map}(B:BearM m)(g lane tick:Int):Th m g lane tick=some (KF m g lane tick):=by
  unfold Th KF
  rw [FO B,lB]
  have e:(((YS m lane&& (decide (g≥0)))&& (decide (g< (m.Signals.length:Int))))&& (decide (tick≥0)))=((((decide (tick≥0))&& (decide (g≥0)))&& (decide (g< (m.Signals.length:Int))))&&YS m lane):=by
    cases YS m lane<;>cases decide (g≥0)<;>cases decide (g< (m.Signals.length:Int))<;>cases decide (tick≥0)<;>rfl
  rw [e]
  cases hc:((((decide (tick≥0))&& (decide (g≥0)))&& (decide (g< (m.Signals.length:Int))))&&YS m lane)
  ·rfl
  ·simp only [bK,bD]at hc
   obtain ⟨⟨⟨c1,c2⟩,c3⟩,c4⟩:=hc
   have hl:g.toNat<m.Signals.length:=by omega
   have hget:m.Signals[g.toNat]? =some (m.Signals.getD g.toNat default):=by rw [List.getD,lH hl];rfl
   have hg:B7 m.Signals g=some (m.Signals.getD g.toNat default):=by unfold B7;rw [bG c2,hget]
   have S:=((isM_true.1 c4).2.2).sig B hget
   simp only [bE,lB,bI,hg,dP S lane c1]
def KG (x y:Int):Int:=if x<y then -1 else if x>y then 1 else 0
def nB (a b:Pass):Int:=if KG a.From b.From≠0 then KG a.From b.From else KG a.Zone_ b.Zone_
def BT (a b:Pass):Bool:=decide (a.From<b.From∨a.From=b.From∧a.Zone_<b.Zone_)
theorem ltP_ok:LtOK BT:=⟨fun a b h=>by simp only [BT,bD,bR]at h ⊢;omega,fun a b c h1 h2=>by simp only [BT,bR]at h1 h2 ⊢;omega⟩
theorem nC (a b:Pass):decide (nB a b<0)=BT a b:=by
  unfold nB BT KG
  rw [decide_eq_decide]
  split<;>(repeat' split)<;>omega
theorem qW (x y:Int):Et [x,y]=some (if x≠0 then x else y):=by
  have f0:Z7 [x,y] 0=some (if x≠0 then .out (.inr x)else .go 1):=by
    by_cases h:x=0
    ·subst h;rfl
    ·have hb:(x !=0)=true:=by simp [h]
     unfold Z7
     simp [B7,h,hb]
  have f1:Z7 [x,y] 1=some (if y≠0 then .out (.inr y)else .go 2):=by
    by_cases h:y=0
    ·subst h;rfl
    ·have hb:(y !=0)=true:=by simp [h]
     unfold Z7
     simp [B7,h,hb]
  have f2:Z7 [x,y] 2=some (.out (.inl ())):=rfl
  unfold Et
  by_cases hx:x=0
  ·by_cases hy:y=0
   ·rw [L7 (by rw [f0,bH (by simp [hx])]),L7 (by rw [f1,bH (by simp [hy])]),D8 f2]
    subst hx hy;rfl
   ·rw [L7 (by rw [f0,bH (by simp [hx])]),D8 (by rw [f1,bG hy]),bH (by simp [hx])];rfl
  ·rw [D8 (by rw [f0,bG hx]),bG hx];rfl
theorem TL (a b:Int):Af a b=some (KG a b):=by
  have h: ∀x:Int,Y7 x=some false:=fun x=>by unfold Y7;simp
  unfold Af KG
  rw [h,h]
  simp only [lB,bF,aA]
  split<;>(repeat' split)<;>rfl
theorem GY (a b:Int):Y6 a b=some (KG a b):=by
  have h: ∀x:Int,Dw x=some false:=fun x=>by unfold Dw;simp
  unfold Y6 KG
  rw [h,h]
  simp only [lB,bF,aA]
  split<;>(repeat' split)<;>rfl
theorem nD (a b:Pass):Ed a b=some (nB a b):=by
  unfold Ed nB
  rw [TL,lB,GY,lB,qW];rfl
theorem ZD (P T:List Pass)(x:Pass)(Q:List Pass)(hs:Srt BT Q)(hN:(P++Q++x::T).length≤1000000):
    ∃Q',loop (C7 (P.length:Int)) (((P.length+Q.length:Nat):Int),P++Q++x::T)=some (P++Q'++T)∧Q'.Perm (x::Q)∧Srt BT Q':=by
  have hstop: ∀xs,C7 (P.length:Int) ((P.length:Int),xs)=some (.out xs):=fun xs=>by
    unfold C7
    simp only [show decide ((P.length:Int)>(P.length:Int))=false from bC (by omega),bF,bJ,lB]
  have hF: ∀(U V:List Pass) (q y:Pass),P.length≤U.length→(U++q::y::V).length=(P++Q++x::T).length→C7 (P.length:Int) (((U.length:Int)+1),U++q::y::V)=some (if BT y q then .go ((U.length:Int),U++y::q::V)else .out (U++q::y::V)):=fun U V q y hP hl=>by
    unfold C7
    have hb:U.length+2≤1000000:=by rw [← hl]at hN;simp at hN;omega
    have e1:C5 ((U.length:Int)+1 - 1)=(U.length:Int):=by rw [L6 (by omega)];omega
    have g1:B7 (U++q::y::V) ((U.length:Int)+1)=some y:=by rw [nA];exact Zq _ _ _ _ (by simp)
    have g2:B7 (U++q::y::V) (U.length:Int)=some q:=Zq _ _ _ _ rfl
    have s1:Mo (U++q::y::V) ((U.length:Int)+1) q=U++q::q::V:=by rw [nA,JE _ _ _ _ _ (by simp)];simp
    have g3:B7 (U++q::q::V) (U.length:Int)=some q:=Zq _ _ _ _ rfl
    have s2:Mo (U++q::q::V) (U.length:Int) y=U++y::q::V:=JE _ _ _ _ _ rfl
    simp only [show decide (((U.length:Int)+1)>(P.length:Int))=true from bB (by omega),bE,bI,e1,g1,g2,s1,g3,s2,lB,nD,nC]
    cases BT y q<;>rfl
  obtain ⟨Q',h1,h2,h3⟩:=RK ltP_ok (P:=P) (T:=T) (P++Q++x::T).length hstop hF x Q.length Q [] rfl (by simpa using hs) (by simp) (by simp)
  refine ⟨Q',?_,by simpa using h2,h3⟩
  rw [← h1];congr 1;simp
theorem TM (P A S:List Pass)(hN:(P++A++S).length≤1000000):
    ∃A',D3 (P++A++S) (P.length:Int) ((P.length+A.length:Nat):Int)=some (P++A'++S)∧A'.Perm A∧Srt BT A':=by
  unfold D3
  have hend: ∀(xs:List Pass) (i:Nat),P.length+A.length≤i→D5 (P.length:Int) ((P.length+A.length:Nat):Int) ((i:Int),xs)=some (.out xs):=fun xs i hi=>by
    unfold D5
    rw [show decide ((i:Int)< ((P.length+A.length:Nat):Int))=false from bC (by omega)];rfl
  simp only [lL]at hN
  have hw:C5 ((P.length:Int)+1)=((P.length+1:Nat):Int):=by rw [L6 (by omega)];omega
  cases A with
  |nil=>
   refine ⟨[],?_,by simp,List.Pairwise.nil⟩
   rw [hw,D8 (hend _ _ (by simp))]
  |cons a A=>
   have hF: ∀(Q R:List Pass) (x:Pass),(P++Q++x::R++S).length=(P++a::A++S).length→P.length+Q.length<P.length+ (a::A).length→Srt BT Q→∃Q',D5 (P.length:Int) ((P.length+ (a::A).length:Nat):Int) (((P.length+Q.length:Nat):Int),P++Q++x::R++S)=some (.go (((P.length+Q.length+1:Nat):Int),P++Q'++R++S))∧Q'.Perm (x::Q)∧Srt BT Q':=fun Q R x hl hb hs=>by
     obtain ⟨Q',k1,k2,k3⟩:=ZD P (R++S) x Q hs (by simp only [lL,lK]at hl hN ⊢;omega)
     refine ⟨Q',?_,k2,k3⟩
     unfold D5
     have e1:P++Q++x::R++S=P++Q++x::(R++S):=by simp
     rw [show decide (((P.length+Q.length:Nat):Int)< ((P.length+ (a::A).length:Nat):Int))=true from bB (by omega),bE]
     simp only [e1,k1,lB]
     rw [L6 (by simp only [lK]at hN hb;omega)]
     simp
   obtain ⟨A',h1,h2,h3⟩:=dN (lt:=BT) (P:=P) (S:=S) (P++a::A++S).length (P.length+ (a::A).length) hend hF A [a] (by simp) (by simp;omega) (List.pairwise_singleton _ _)
   refine ⟨A',?_,h2,h3⟩
   rw [hw,← h1];congr 1;simp
theorem nE (x y:Nat)(h:x+y≤4000000):C5 ((IntKind.wrap .u64 (C5 ((x:Int)+ (y:Int)))).fdiv (2^ (min (1:Int).toNat (IntKind.bits .u64))))=(((x+y) / 2:Nat):Int):=by
  rw [L6 (n:=(x:Int)+ (y:Int)) (by omega)]
  have e:IntKind.wrap .u64 ((x:Int)+ (y:Int))=(x:Int)+ (y:Int):=by
    unfold IntKind.wrap
    simp only [IntKind.signed,IntKind.bits,bJ,Bool.false_eq_true,if_false]
    omega
  rw [e,show (2:Int)^ (min (1:Int).toNat (IntKind.bits .u64))=2 from rfl,Int.fdiv_eq_ediv_of_nonneg _ (by omega),L6 (by omega)]
  omega
def BlkS (w:Nat)(l:List Pass):Prop:= ∀i,Srt BT ((l.drop (i*w)).take w)
theorem BlkS.cons {w:Nat}{M R:List Pass}(hM:M.length=w)(h1:Srt BT M)(h2:BlkS w R):BlkS w (M++R):=by
  intro i
  cases i with
  |zero=>rw [Nat.zero_mul,List.drop_zero,List.take_append_of_le_length (by omega),List.take_of_length_le (by omega)];exact h1
  |succ i=>
   have:=h2 i
   rw [bY,Nat.one_mul,List.drop_append,List.drop_eq_nil_of_le (by omega),lP,show i*w+w - M.length=i*w by omega]
   exact this
theorem BlkS.last {w:Nat}{M:List Pass}(hM:M.length≤w)(h1:Srt BT M):BlkS w M:=by
  intro i
  exact h1.sublist ((List.take_sublist _ _).trans (List.drop_sublist _ _))
theorem BlkS.drop {w:Nat}{R:List Pass}(h:BlkS w R):BlkS w (R.drop w):=by
  intro i
  have:=h (i+1)
  rwa [bY,Nat.one_mul,Nat.add_comm,← List.drop_drop]at this
theorem BlkS.head {w:Nat}{R:List Pass}(h:BlkS w R):Srt BT (R.take w):=by
  have:=h 0
  rwa [Nat.zero_mul,List.drop_zero]at this
theorem qX (n:Nat)(hn:n≤100): ∀(k:Nat) (R D:List Pass),R.length≤k→D.length+R.length=n→
    ∃y R',loop (D9 (n:Int)) ((D.length:Int),((D.length+20:Nat):Int),D++R)=some y∧D3 y.2 y.1 (n:Int)=some (D++R')∧BlkS 20 R'∧R'.Perm R:=by
  intro k
  induction k with
  |zero=>
   intro R D hk hl
   obtain rfl:=List.length_eq_zero_iff.1 (show R.length=0 by omega)
   obtain ⟨A',g1,g2,g3⟩:=TM D [] [] (by simp;omega)
   simp only [lO,lM,Nat.add_zero]at g1 hl ⊢
   refine ⟨_,A',D8 (t:=((D.length:Int),D)) ?_,by rw [← hl];exact g1, .last (by rw [g2.length_eq];simp) g3,g2⟩
   unfold D9
   rw [show decide (((D.length+20:Nat):Int)≤(n:Int))=false from bC (by omega)];rfl
  |succ k ih=>
   intro R D hk hl
   by_cases h20:20≤R.length
   ·have eR:=List.take_append_drop 20 R
    have l1:(R.take 20).length=20:=by rw [lU];omega
    obtain ⟨A',g1,g2,g3⟩:=TM D (R.take 20) (R.drop 20) (by rw [lN,eR];simp;omega)
    have lA:A'.length=20:=by rw [g2.length_eq];exact l1
    rw [l1,lN,eR]at g1
    obtain ⟨y,R',k1,k2,k3,k4⟩:=ih (R.drop 20) (D++A') (by rw [List.length_drop];omega) (by rw [lL,List.length_drop];omega)
    refine ⟨y,A'++R',?_,by rw [k2,lN], .cons lA g3 k3,?_⟩
    ·rw [← k1,show (D++A').length=D.length+20 by rw [lL,lA]]
     refine L7 ?_
     unfold D9
     simp only [show decide (((D.length+20:Nat):Int)≤(n:Int))=true from bB (by omega),bE,g1,lB]
     rw [L6 (n:=((D.length+20:Nat):Int)+20) (by omega)]
     simp
    ·exact (g2.append k4).trans (by rw [eR])
   ·obtain ⟨A',g1,g2,g3⟩:=TM D R [] (by simp;omega)
    simp only [lO]at g1
    rw [hl]at g1
    refine ⟨_,A',D8 (t:=((D.length:Int),D++R)) ?_,g1, .last (by rw [g2.length_eq];omega) g3,g2⟩
    unfold D9
    rw [show decide (((D.length+20:Nat):Int)≤(n:Int))=false from bC (by omega)];rfl
theorem dR (xs:List Pass)(h:xs.length≤19): ∃ys,G0 xs=some ys∧ys.Perm xs∧Srt BT ys:=by
  obtain ⟨y,R,k1,k2,k3,k4⟩:=qX xs.length (by omega) xs.length xs [] (bW _) (by simp)
  refine ⟨R,?_,k4,?_⟩
  ·unfold G0 J9
   have k1':loop (D9 (xs.length:Int)) (0,20,xs)=some y:=k1
   have k2':D3 y.2 y.1 (xs.length:Int)=some R:=k2
   have g1':loop (G9 (xs.length:Int) R) 20=some R:=by
     refine D8 ?_
     unfold G9
     rw [show decide ((20:Int)< (xs.length:Int))=false from bC (by omega)];rfl
   simp only [k1',lB,k2',g1']
  ·have:=k3.head
   rwa [List.take_of_length_le (by rw [k4.length_eq];omega)]at this
theorem GZ:G1=some ():=by
  have i0:E6 0 0=some ():=by
    unfold E6
    exact D8 rfl
  have h1:loop (I9 0) (0,20)=some 0:=D8 rfl
  have h2:loop (I8 0) 20=some ():=D8 rfl
  unfold G1 K0
  simp only [h1,lB,i0,h2]
theorem BE (m:Map): ∀(r:List Int) (s:Int),Gk m s r=s+Gk m 0 r
  | [],s=>by simp [Gk]
  |a::r,s=>by rw [Gk,Gk,BE m r (s+S7 m a),BE m r (0+S7 m a)];omega
theorem Pw (m:Map): ∀(r:List Int) (s:Int) (i:Nat),i<r.length→(R0 m s r)[i]? =some (s+Gk m 0 (r.take i))
  | [],_,_,h=>absurd h (by simp)
  |a::r,s,0,_=>by simp [R0,Gk]
  |a::r,s,i+1,h=>by
   rw [R0,List.getElem?_cons_succ,Pw m r _ i (by simpa using h),List.take_succ_cons,Gk,BE m _ (0+S7 m a)]
   congr 1;omega
noncomputable def Sh (m:Map)(r:List Int)(i:Nat):Int:=Gk m 0 (r.take i)
theorem DV (m:Map)(r:List Int):Sh m r 0=0:=rfl
theorem LA (m:Map)(x:Int): ∀(l:List Int) (s:Int),Gk m s (l++ [x])=Gk m s l+S7 m x
  | [],s=>rfl
  |a::l,s=>by rw [List.cons_append,Gk,Gk,LA m x l]
theorem Xi {m:Map}{r:List Int}{i:Nat}{a:Int}(h:r[i]? =some a):Sh m r (i+1)=Sh m r i+S7 m a:=by
  unfold Sh
  rw [List.take_add_one,h]
  exact LA m a _ _
theorem nF (m:Map)(r:List Int):Sh m r r.length=Gk m 0 r:=by rw [Sh,List.take_length]
theorem RouteOK.len {m:Map}{a:Int}{t:List Int}(R:RouteOK m a t){i:Nat}{x:Int}(h:(a::t)[i]? =some x):1000≤S7 m x∧S7 m x≤16777216:=by
  have:=R.mem (lG h)
  exact R.val.long this.1 this.2
theorem RouteOK.mono {m:Map}{a:Int}{t:List Int}(R:RouteOK m a t): ∀(j i:Nat),i+j≤(a::t).length→Sh m (a::t) i+1000*j≤Sh m (a::t) (i+j)∧Sh m (a::t) (i+j)≤Sh m (a::t) i+16777216*j
  |0,i,_=>by simp
  |j+1,i,h=>by
   have:=R.mono j i (by omega)
   have e:(a::t)[i+j]? =some (a::t)[i+j]:=lH (by omega)
   have hl:=R.len e
   rw [← Nat.add_assoc,Xi e]
   omega
theorem RouteOK.lt {m:Map}{a:Int}{t:List Int}(R:RouteOK m a t){i j:Nat}(hij:i<j)(hj:j≤(a::t).length):Sh m (a::t) i+1000≤Sh m (a::t) j:=by
  have:=(R.mono (j - i) i (by omega)).1
  rw [show i+ (j - i)=j by omega]at this
  omega
theorem RouteOK.bd {m:Map}{a:Int}{t:List Int}(R:RouteOK m a t){i:Nat}(hi:i≤(a::t).length):0≤Sh m (a::t) i∧Sh m (a::t) i≤134217728:=by
  have:=R.mono i 0 (by omega)
  have h7:=R.most
  simp only [lK]at hi
  rw [bZ,DV]at this
  omega
theorem RouteOK.follow {m:Map}{a:Int}{t:List Int}(R:RouteOK m a t):Dc m (a::t)=⟨m,a::t,R0 m 0 (a::t),Sh m (a::t) (a::t).length⟩:=by
  unfold Dc
  rw [bG (chkRoute_zero.2 ⟨a,t,rfl,R⟩),nF]
theorem RouteOK.starts {m:Map}{a:Int}{t:List Int}{i:Nat}(hi:i< (a::t).length):B7 (R0 m 0 (a::t)) (i:Int)=some (Sh m (a::t) i):=by
  rw [D1 (Pw m _ 0 i hi),Int.zero_add];rfl
def Rh (lane s:Int)(zi:Nat):Nat→List Part→List Pass
  |_,[]=> []
  |k,p::r=>(if p.Lane_==lane then [⟨(zi:Int),(k:Int),s+p.From,s+p.To⟩]else [])++Rh lane s zi (k+1) r
def Uw (lane s:Int):Nat→List Zone→List Pass
  |_,[]=> []
  |zi,z::r=>Rh lane s zi 0 z.Parts++Uw lane s (zi+1) r
noncomputable def Of (m:Map):Int→List Int→List Pass
  |_,[]=> []
  |s,a::r=>Uw a s 0 m.Zones++Of m (s+S7 m a) r
theorem EN (lane s:Int)(zi:Nat): ∀(l:List Part) (k:Nat),(l.map (·.Lane_)).Pairwise (· < ·)→(Rh lane s zi k l).length≤1
  | [],_,_=>by simp [Rh]
  |p::r,k,h=>by
   obtain ⟨h1,h2⟩:=List.pairwise_cons.1 h
   have nil: ∀(r:List Part) (k:Nat),(∀q∈r,q.Lane_≠lane)→Rh lane s zi k r= []:=by
     intro r
     induction r with
     |nil=>intro k _;rfl
     |cons q r ih=>
      intro k hq
      rw [Rh,ih (k+1) (fun y hy=>hq y (List.mem_cons_of_mem _ hy)),show (q.Lane_==lane)=false by simp [hq q (by simp)]]
      rfl
   rw [Rh]
   by_cases e:p.Lane_=lane
   ·rw [nil r (k+1) (fun q hq=>by
    have:p.Lane_<q.Lane_:=h1 q.Lane_ (List.mem_map_of_mem hq)
    omega)]
    simp [e]
   ·rw [show (p.Lane_==lane)=false by simp [e]]
    exact EN lane s zi r (k+1) h2
theorem EO {m:Map}(lane s:Int): ∀(l:List Zone) (zi:Nat),(∀z∈l,ZoneOK m z)→(Uw lane s zi l).length≤l.length
  | [],_,_=>by simp [Uw]
  |z::r,zi,h=>by
   have:=EN lane s zi z.Parts 0 (Xh (h z (by simp)).rise)
   have:=EO lane s r (zi+1) fun y hy=>h y (List.mem_cons_of_mem _ hy)
   rw [Uw,lL,lK]
   omega
theorem RM (lane s:Int)(zi:Nat): ∀(l:List Part) (k:Nat) (x:Pass),x∈Rh lane s zi k l→∃(j:Nat) (p:Part),l[j]? =some p∧p.Lane_=lane∧x=⟨(zi:Int),((k+j:Nat):Int),s+p.From,s+p.To⟩
  | [],_,x,h=>by simp [Rh]at h
  |p::r,k,x,h=>by
   rw [Rh,lS]at h
   rcases h with h|h
   ·by_cases e:p.Lane_=lane
    ·rw [bG (by simp [e]),bA]at h
     exact ⟨0,p,rfl,e,h⟩
    ·rw [bH (by simp [e])]at h;simp at h
   ·obtain ⟨j,q,h1,h2,h3⟩:=RM lane s zi r (k+1) x h
    exact ⟨j+1,q,by simpa using h1,h2,by rw [h3];congr 1;omega⟩
theorem RN (lane s:Int): ∀(l:List Zone) (zi:Nat) (x:Pass),x∈Uw lane s zi l→∃(j:Nat) (z:Zone) (k:Nat) (p:Part),l[j]? =some z∧z.Parts[k]? =some p∧p.Lane_=lane∧x=⟨((zi+j:Nat):Int),(k:Int),s+p.From,s+p.To⟩
  | [],_,x,h=>by simp [Uw]at h
  |z::r,zi,x,h=>by
   rw [Uw,lS]at h
   rcases h with h|h
   ·obtain ⟨k,p,h1,h2,h3⟩:=RM lane s zi z.Parts 0 x h
    exact ⟨0,z,k,p,rfl,h1,h2,by rw [h3,bZ];rfl⟩
   ·obtain ⟨j,y,k,p,h0,h1,h2,h3⟩:=RN lane s r (zi+1) x h
    exact ⟨j+1,y,k,p,by simpa using h0,h1,h2,by rw [h3];congr 1;omega⟩
theorem EP (m:Map): ∀(r:List Int) (s:Int) (x:Pass),x∈Of m s r→∃(i:Nat) (lane:Int) (j:Nat) (z:Zone) (k:Nat) (p:Part),r[i]? =some lane∧m.Zones[j]? =some z∧z.Parts[k]? =some p∧p.Lane_=lane∧x=⟨(j:Int),(k:Int),s+Gk m 0 (r.take i)+p.From,s+Gk m 0 (r.take i)+p.To⟩
  | [],_,x,h=>by simp [Of]at h
  |a::r,s,x,h=>by
   rw [Of,lS]at h
   rcases h with h|h
   ·obtain ⟨j,z,k,p,h1,h2,h3,h4⟩:=RN a s m.Zones 0 x h
    exact ⟨0,a,j,z,k,p,rfl,h1,h2,h3,by rw [h4];simp [Gk]⟩
   ·obtain ⟨i,lane,j,z,k,p,h0,h1,h2,h3,h4⟩:=EP m r _ x h
    refine ⟨i+1,lane,j,z,k,p,by simpa using h0,h1,h2,h3,?_⟩
    rw [h4,List.take_succ_cons,Gk,BE m _ (0+S7 m a)]
    congr 1<;>omega
section
variable {m:Map}{a:Int}{t:List Int}
theorem nG (B:BearM m)(R:RouteOK m a t){i:Nat}{lane:Int}(hi:i< (a::t).length)(zi:Nat){z:Zone}(hz:m.Zones[zi]? =some z)(o1 o2:List Pass):
    ∀(r:List Part) (k:Nat) (out:List Pass),z.Parts.drop k=r→k≤z.Parts.length→out.length+r.length≤1000→
     loop (Y8 (Dc m (a::t)) (o1,(i:Int)) lane (o2,(zi:Int)) z) (out,(k:Int))=some (out++Rh lane (Sh m (a::t) i) zi k r):=by
  have Z:=R.val.zoneOK (lG hz)
  have h6:=Z.six
  intro r
  induction r with
  |nil=>
   intro k out hk hkl hl
   have:=Q6 hk
   obtain rfl:k=z.Parts.length:=by omega
   refine D8 ?_
   unfold Y8
   rw [K2];simp [Rh]
  |cons p r ih=>
   intro k out hk hkl hl
   have hlt:=O0 hk
   have hp:=Bs hk
   have hpm:=lG hp
   have hpt:=Z.part p hpm
   have hln:=Ob Z.rise p.Lane_ (List.mem_map_of_mem hpm)
   have hll:=R.val.long hln.1 hln.2
   have hb:=R.bd (Nat.le_of_lt hi)
   simp only [lK]at hl
   have hs:Y8 (Dc m (a::t)) (o1,(i:Int)) lane (o2,(zi:Int)) z (out,(k:Int))=some (.go (out++ (if p.Lane_==lane then [⟨(zi:Int),(k:Int),Sh m (a::t) i+p.From,Sh m (a::t) i+p.To⟩]else []),((k+1:Nat):Int))):=by
     unfold Y8
     dsimp only
     rw [L5 hlt,D1 hp,bE,lB,I7 hlt (by omega)]
     cases p.Lane_==lane
     ·simp
     ·rw [R.follow]
      dsimp only
      rw [bE,RouteOK.starts hi,lB,lB,L6 (by omega),L6 (by omega),Qb (by simp;omega)]
      rfl
   rw [L7 hs,ih (k+1) _ (L9 hk) (by omega) (by rw [lL];split<;>simp<;>omega),Rh,lN]
theorem nH (B:BearM m)(R:RouteOK m a t){i:Nat}{lane:Int}(hi:i< (a::t).length)(o1:List Pass):
    ∀(r:List Zone) (zi:Nat) (out:List Pass),m.Zones.drop zi=r→zi≤m.Zones.length→out.length+r.length≤500→
     loop (Y9 m (Dc m (a::t)) (o1,(i:Int)) lane) (out,(zi:Int))=some (out++Uw lane (Sh m (a::t) i) zi r):=by
  intro r
  induction r with
  |nil=>
   intro zi out hk hkl hl
   have:=Q6 hk
   obtain rfl:zi=m.Zones.length:=by omega
   refine D8 ?_
   unfold Y9
   rw [K2];simp [Uw]
  |cons z r ih=>
   intro zi out hk hkl hl
   have hlt:=O0 hk
   have hz:=Bs hk
   have Z:=R.val.zoneOK (lG hz)
   have h6:=Z.six
   have hnz:=R.val.zones
   simp only [lK]at hl
   have h1:=EN lane (Sh m (a::t) i) zi z.Parts 0 (Xh Z.rise)
   have h3:loop (Y8 (Dc m (a::t)) (o1,(i:Int)) lane (out,(zi:Int)) z) (out,0)=_:=nG B R hi zi hz o1 out z.Parts 0 out rfl (by omega) (by omega)
   have hs:Y9 m (Dc m (a::t)) (o1,(i:Int)) lane (out,(zi:Int))=some (.go (out++Rh lane (Sh m (a::t) i) zi 0 z.Parts,((zi+1:Nat):Int))):=by
     unfold Y9
     dsimp only
     rw [L5 hlt,D1 hz,bE,lB,h3,lB,I7 hlt (by omega)]
   rw [L7 hs,ih (zi+1) _ (L9 hk) (by omega) (by rw [lL];omega),Uw,lN]
theorem nI (B:BearM m)(R:RouteOK m a t):
    ∀(r:List Int) (i:Nat) (out:List Pass),(a::t).drop i=r→i≤(a::t).length→out.length+12*r.length≤200→
     loop (P0 m (Dc m (a::t))) (out,(i:Int))=some (out++Of m (Sh m (a::t) i) r):=by
  have hl:(Dc m (a::t)).lanes=a::t:=by rw [R.follow]
  intro r
  induction r with
  |nil=>
   intro i out hk hkl hle
   have:=Q6 hk
   obtain rfl:i=(a::t).length:=by omega
   refine D8 ?_
   unfold P0
   dsimp only
   rw [hl,K2];simp [Of]
  |cons x r ih=>
   intro i out hk hkl hle
   have hlt:=O0 hk
   have hx:=Bs hk
   have hm7:=R.most
   have hnz:=R.val.zones
   simp only [lK]at hle hlt
   have h2:loop (Y9 m (Dc m (a::t)) (out,(i:Int)) x) (out,0)=_:=nH B R (lane:=x) (O0 hk) out m.Zones 0 out rfl (by omega) (by omega)
   have hs:P0 m (Dc m (a::t)) (out,(i:Int))=some (.go (out++Uw x (Sh m (a::t) i) 0 m.Zones,((i+1:Nat):Int))):=by
     unfold P0
     dsimp only
     rw [hl,L5 (O0 hk),D1 hx,bE,lB,h2,lB,I7 (O0 hk) (by simp only [lK];omega)]
   have:=EO (m:=m) x (Sh m (a::t) i) m.Zones 0 fun z hz=>R.val.zoneOK hz
   rw [L7 hs,ih (i+1) _ (L9 hk) (by simp only [lK];omega) (by rw [lL];omega),Xi hx,Of,lN]
/-- A map with so few zones as the kit's. -/
structure BearK (m:Map):Prop extends BearM m where
  zones2:m.Zones.length≤2
theorem PC {m:Map}(V:ValR m): ∀(r:List Int) (s:Int),(Of m s r).length≤m.Zones.length*r.length
  | [],s=>by simp [Of]
  |a::r,s=>by
   have h1:=EO (m:=m) a s m.Zones 0 fun z hz=>V.zoneOK hz
   have h2:=PC V r (s+S7 m a)
   rw [Of,lL,lK,Nat.mul_add,Nat.mul_one];omega
/-- The passes: sorted, and those that there are. -/
theorem RO (B:BearK m)(R:RouteOK m a t): ∃ps,Ai m (a::t)=some ps∧ps.Perm (Of m 0 (a::t))∧Srt BT ps∧ps.length≤16:=by
  have hm7:=R.most
  have hlen:(Of m 0 (a::t)).length≤16:=by
    have:=PC R.val (a::t) 0
    have h2:m.Zones.length* (a::t).length≤2*8:=Nat.mul_le_mul B.zones2 (by simp only [lK];omega)
    omega
  have h1:loop (P0 m (Dc m (a::t))) ([],0)=some (Of m 0 (a::t)):=by
    have:=nI B.toBearM R (a::t) 0 [] rfl (by omega) (by simp;omega)
    rw [lP,DV]at this
    exact this
  unfold Ai
  rw [Vn B.toBearM _ (by simp;omega),lB,h1,lB]
  cases q:Of m 0 (a::t)with
  |nil=>exact ⟨[],by rw [GZ];rfl, .refl _,List.Pairwise.nil,by simp⟩
  |cons x l=>
   rw [q]at hlen
   obtain ⟨ys,g1,g2,g3⟩:=dR (x::l) (by omega)
   exact ⟨ys,by rw [show List.isEmpty (x::l)=false from rfl,bF,g1];rfl,g2,g3,by rw [g2.length_eq];exact hlen⟩
end
theorem VZ {m:Map}(B:BearM m)(V:ValR m)(l:List Int)(hl:l.length≤1000000): ∀(r:List Int) (i:Nat) (a:Int),l.drop (i+1)=r→l[i]? =some a→0≤a→a<m.Lanes.length→thenS (loop (Bj m l) ((i+1:Nat):Int)) (fun _=>some 0) (fun r=>some r)=some (if Up m a r=true then 0 else 13):=by
  intro r
  induction r with
  |nil=>
   intro i a hi ha h0 h1
   have h2:=Q6 hi
   have h3:=(lI.1 ha).1
   have h4:i+1=l.length:=by omega
   rw [D8 (t:= .inl ())]
   ·rfl
   ·unfold Bj
    rw [show decide (((i+1:Nat):Int)< (l.length:Int))=false from bC (by omega)];rfl
  |cons b r ih=>
   intro i a hi ha h0 h1
   have hlt:=O0 hi
   have hb:=Bs hi
   obtain ⟨ln,e1,e2⟩:=BC h0 h1
   have hw:C5 (((i+1:Nat):Int) - 1)=(i:Int):=by rw [L6 (by omega)];omega
   have hs:Bj m l ((i+1:Nat):Int)=some (if ln.Next.contains b=true then .go (((i+1+1:Nat):Int))else .out (.inr 13)):=by
     unfold Bj
     rw [L5 hlt,bE,hw,D1 ha,lB,e2,lB,D1 hb,lB,YT _ (B.toBear.pts _ (lG e1)).2,lB,I7 hlt (by omega)]
     cases ln.Next.contains b<;>rfl
   have hn:nextOf m a.toNat=ln.Next:=by unfold nextOf;rw [e1];rfl
   rw [Up,hn]
   cases q:ln.Next.contains b
   ·rw [q]at hs;rw [D8 hs];rfl
   ·rw [q]at hs
    have hbm:=V.next e1 (List.contains_iff_mem.1 q)
    rw [L7 hs,ih (i+1) b (L9 hi) hb (by omega) (by omega),bI]
theorem Ra {m:Map}(B:BearM m)(r:List Int)(hr:r.length≤1000000):Ce m r=some (Q9 m r):=by
  unfold Ce Q9
  rw [Xg B,lB]
  by_cases q:Zn m=0
  ·have V:=chkR_zero.1 q
   rw [bH (by simpa using q),show (Zn m !=0)=false by simpa using q,bF]
   cases r with
   |nil=>rfl
   |cons a t=>
    dsimp only
    simp only [lK]at hr ⊢
    by_cases h8:7<t.length
    ·rw [bG (.inl h8),show ((((t.length+1:Nat):Int)==0)||(decide (((t.length+1:Nat):Int)>8)))=true by simp;omega];rfl
    ·rw [show ((((t.length+1:Nat):Int)==0)||(decide (((t.length+1:Nat):Int)>8)))=false by simp;omega]
     rw [show B7 (a::t) 0=some a from rfl]
     simp only [bN,bE,lB,bO]
     by_cases h0:a<0
     ·rw [bG (.inr (.inl h0)),bB h0];rfl
     ·rw [bC h0]
      simp only [bN,bE,lB,bO]
      by_cases h1:(m.Lanes.length:Int)≤a
      ·rw [bG (.inr (.inr (.inl h1))),show decide (a≥(m.Lanes.length:Int))=true from bB h1];rfl
      ·rw [show decide (a≥(m.Lanes.length:Int))=false from bC (by omega)]
       simp only [bN,bE,bO]
       rw [lB,YU B,lB]
       by_cases hb:So m a= []
       ·rw [hb,show decide ((([]:List Int).length:Int)>0)=false from rfl,bF]
        have:=VZ B V (a::t) (by simpa using hr) t 0 a rfl rfl (by omega) (by omega)
        rw [show ((0+1:Nat):Int)=1 from rfl]at this
        rw [this]
        by_cases hc:Up m a t=true
        ·rw [bG hc,bH (by rw [hc];simp;omega)]
        ·rw [bH hc,bG (.inr (.inr (.inr (.inr (by simpa using hc)))))]
       ·rw [bG (.inr (.inr (.inr (.inl hb)))),show decide (((So m a).length:Int)>0)=true from bB (by have:=List.length_pos_iff.2 hb;omega)];rfl
  ·rw [bG q,show (Zn m !=0)=true by simpa using q];rfl
theorem RP {m:Map}(B:BearM m){a:Int}{t:List Int}(R:RouteOK m a t):Nx m (a::t)=some (R0 m 0 (a::t),Sh m (a::t) (a::t).length):=by
  have hm7:=R.most
  have key: ∀(l:List Int) (i:Nat) (st:List Int),(a::t).drop i=l→i≤(a::t).length→st.length=i→loop (Ew m (a::t)) (st,Sh m (a::t) i,(i:Int))=some (st++R0 m (Sh m (a::t) i) l,Sh m (a::t) (a::t).length):=by
    intro l
    induction l with
    |nil=>
     intro i st hi hil _
     have:=Q6 hi
     obtain rfl:i=(a::t).length:=by omega
     refine D8 ?_
     unfold Ew
     dsimp only
     rw [K2,R0,lO];rfl
    |cons x l ih=>
     intro i st hi hil h2
     have hlt:=O0 hi
     have hx:=Bs hi
     have hm:=R.mem (lG hx)
     have hl:=R.len hx
     have hb:=R.bd (Nat.le_of_lt hlt)
     simp only [lK]at hlt
     rw [L7 (s':=(st++ [Sh m (a::t) i],Sh m (a::t) (i+1),((i+1:Nat):Int)))]
     ·rw [ih (i+1) _ (L9 hi) (by simp;omega) (by simp [h2]),R0,Xi hx,lN];rfl
     ·unfold Ew
      dsimp only
      rw [L5 (by simpa using hlt),Qb (by simp;omega),bE,lB,D1 hx,lB,BS B hm.1 hm.2,lB,I7 hlt (by omega),L6 (by omega),Xi hx]
  have:=key (a::t) 0 [] rfl (by omega) rfl
  rw [DV]at this
  have this':loop (Ew m (a::t)) ([],0,0)=_:=this
  unfold Nx
  rw [this',lB,lP]
noncomputable def StartsM (m:Map)(r:List Int):List Int:=(Dc m r).starts
noncomputable def LongM (m:Map)(r:List Int):Int:=(Dc m r).length
theorem RQ {m:Map}(B:BearM m)(r:List Int)(hr:r.length≤1000000):Du m r=some (StartsM m r):=by
  unfold Du StartsM
  rw [Vn B r hr];rfl
theorem aO {m:Map}(B:BearM m)(r:List Int)(hr:r.length≤1000000):Ae m r=some (LongM m r):=by
  unfold Ae LongM
  rw [Vn B r hr];rfl
theorem Xj {m:Map}{r:List Int}(q:Q9 m r≠0):Dc m r=⟨⟨0,[],[],[],[]⟩,[],[],0⟩:=by unfold Dc;rw [bH q]
theorem BF {m:Map}(B:BearM m)(r:List Int)(hr:r.length≤1000000):Kk m r=some (StartsM m r):=by
  unfold Kk
  rw [Ra B r hr,lB]
  by_cases q:Q9 m r=0
  ·obtain ⟨a,t,rfl,R⟩:=chkRoute_zero.1 q
   rw [q,show ((0:Int) !=0)=false from rfl,bF,RP B R,lB,StartsM,R.follow]
  ·rw [show (Q9 m r !=0)=true by simpa using q,bE,StartsM,Xj q]
theorem WA {m:Map}(B:BearM m)(r:List Int)(hr:r.length≤1000000):El m r=some (LongM m r):=by
  unfold El
  rw [Ra B r hr,lB]
  by_cases q:Q9 m r=0
  ·obtain ⟨a,t,rfl,R⟩:=chkRoute_zero.1 q
   rw [q,show ((0:Int) !=0)=false from rfl,bF,RP B R,lB,LongM,R.follow]
  ·rw [show (Q9 m r !=0)=true by simpa using q,bE,LongM,Xj q]
theorem KH {m:Map}(B:BearM m)(r:List Int)(hr:r.length≤1000000)(k:Int):Nf m r k=some (Gv m r k):=by
  unfold Nf Gv
  rw [Ra B r hr,lB]
  by_cases h:k<0∨(m.Zones.length:Int)≤k
  ·have e:(((Q9 m r !=0)||(decide (k<0)))||(decide (k≥(m.Zones.length:Int))))=true:=by
     rcases h with h|h
     ·rw [bB h];simp
     ·rw [show decide (k≥(m.Zones.length:Int))=true from bB h];simp
   rw [e,bE]
   cases hz:m.Zones[k.toNat]? with
   |none=>rfl
   |some z=>
    have:=J4 hz
    dsimp only
    rw [bH (fun x=>by have:=x.1;omega)]
  ·obtain ⟨z,z1,z2⟩:=aL (m:=m) (k:=k) (by omega) (by omega)
   rw [show decide (k<0)=false from bC (by omega),show decide (k≥(m.Zones.length:Int))=false from bC (by omega),Bool.or_false,Bool.or_false,z1]
   dsimp only
   have hp:=B.toBearZ.parts z (lG z1)
   by_cases q:Q9 m r=0
   ·rw [bG ⟨by omega,q⟩,q,show ((0:Int) !=0)=false from rfl,bF]
    exact Xf r (fun l=>(Qy z l).2) (by omega) (fun i a h=>by
      have hi:=J4 h
      unfold Nd
      rw [L5 hi,z2,bE,lB,D1 h,lB,jE hp,lB]
      cases (Qy z a).2<;>rfl) (by unfold Nd;rw [K2];rfl)
   ·rw [bH (fun x=>q x.2),show (Q9 m r !=0)=true by simpa using q];rfl
def pX {α τ:Type}:Stp (List α×Int) τ→Stp (Int×List α) τ
  | .go x=> .go (x.2,x.1)
  | .out t=> .out t
theorem dS {α τ:Type}(F:List α×Int→Option (Stp (List α×Int) τ))(l:List α)(i:Int)(t:τ)(h:loop (fun s:Int×List α=>(F (s.2,s.1)).map pX) (i,l)=some t):loop F (l,i)=some t:=by
  obtain ⟨n,hn⟩:=loop_some.1 h
  refine loop_some.2 ⟨n,?_⟩
  clear h
  induction n generalizing l i with
  |zero=>cases hn
  |succ n ih=>
   rw [loopN]at hn ⊢
   dsimp only at hn
   cases hf:F (l,i)with
   |none=>rw [hf]at hn;cases hn
   |some x=>
    rw [hf]at hn
    cases x with
    |go s=>exact ih s.1 s.2 hn
    |out t'=>exact hn
theorem WB: ∀{l l':List Pass},Srt BT l→Srt BT l'→l.Perm l'→(∀x∈l,∀y∈l,BT x y=false→BT y x=false→x=y)→l=l'
  | [],l',_,_,h,_=>(List.Perm.nil_eq h)
  |a::l,[],_,_,h,_=>absurd h.length_eq (by simp)
  |a::l,b::l',h1,h2,h,hk=>by
   obtain ⟨a1,a2⟩:=List.pairwise_cons.1 h1
   obtain ⟨b1,b2⟩:=List.pairwise_cons.1 h2
   have hbl:b∈a::l:=h.mem_iff.2 (by simp)
   have hal:a∈b::l':=h.mem_iff.1 (by simp)
   have e1:BT b a=false:=by
     rcases lT.1 hbl with e|e
     ·rw [e];exact ltP_ok.irr a
     ·exact a1 b e
   have e2:BT a b=false:=by
     rcases lT.1 hal with e|e
     ·rw [e];exact ltP_ok.irr b
     ·exact b1 a e
   have hab:=hk a (by simp) b hbl e2 e1
   subst hab
   congr 1
   exact WB a2 b2 (List.Perm.cons_inv h) fun x hx y hy=>hk x (List.mem_cons_of_mem _ hx) y (List.mem_cons_of_mem _ hy)
section
variable {m:Map}{a:Int}{t:List Int}
theorem dU (R:RouteOK m a t): ∀x∈Of m 0 (a::t),∀y∈Of m 0 (a::t),BT x y=false→BT y x=false→x=y:=by
  intro x hx y hy h1 h2
  obtain ⟨i,l,j,z,k,p,e1,e2,e3,e4,e5⟩:=EP m _ 0 x hx
  obtain ⟨i',l',j',z',k',p',f1,f2,f3,f4,f5⟩:=EP m _ 0 y hy
  subst e4 f4
  have hx1:x.From=Sh m (a::t) i+p.From:=by rw [e5];show 0+Sh m (a::t) i+p.From=_;omega
  have hy1:y.From=Sh m (a::t) i'+p'.From:=by rw [f5];show 0+Sh m (a::t) i'+p'.From=_;omega
  have hx2:x.Zone_=(j:Int):=by rw [e5]
  have hy2:y.Zone_=(j':Int):=by rw [f5]
  simp only [BT,bR]at h1 h2
  have hj:j=j':=by omega
  subst hj
  rw [e2]at f2
  obtain rfl:=lD f2
  have Z:=R.val.zoneOK (lG e2)
  have g1:=Z.part p (lG e3)
  have g2:=Z.part p' (lG f3)
  have n1:=Xi (m:=m) e1
  have n2:=Xi (m:=m) f1
  have hil:=(lI.1 e1).1
  have hil':=(lI.1 f1).1
  have hii:i=i':=by
    rcases Nat.lt_trichotomy i i' with h|h|h
    ·exfalso
     have:Sh m (a::t) (i+1)≤Sh m (a::t) i':=by
       rcases Nat.lt_or_ge (i+1) i' with h'|h'
       ·have:=R.lt h' (Nat.le_of_lt hil');omega
       ·rw [show i'=i+1 by omega];omega
     omega
    ·exact h
    ·exfalso
     have:Sh m (a::t) (i'+1)≤Sh m (a::t) i:=by
       rcases Nat.lt_or_ge (i'+1) i with h'|h'
       ·have:=R.lt h' (Nat.le_of_lt hil);omega
       ·rw [show i=i'+1 by omega];omega
     omega
  subst hii
  rw [e1]at f1
  have hlane:=lD f1
  have hkk:k=k':=by
    have hp:=Xh Z.rise
    have hk1:=(lI.1 e3).1
    have hk2:=(lI.1 f3).1
    have q1:z.Parts[k]=p:=(lI.1 e3).2
    have q2:z.Parts[k']=p':=(lI.1 f3).2
    have hpi:=l8.1 hp
    rcases Nat.lt_trichotomy k k' with h|h|h
    ·have:=hpi k k' (by simpa using hk1) (by simpa using hk2) h
     simp only [List.getElem_map,q1,q2]at this;omega
    ·exact h
    ·have:=hpi k' k (by simpa using hk2) (by simpa using hk1) h
     simp only [List.getElem_map,q1,q2]at this;omega
  subst hkk
  rw [e3]at f3
  obtain rfl:=lD f3
  rw [e5,f5]
theorem qY (B:BearM m)(R:RouteOK m a t){i:Nat}{lane:Int}(hx:(a::t)[i]? =some lane)(zi:Nat){z:Zone}(hz:m.Zones[zi]? =some z)(o1 o2:List Pass):
    ∀(r:List Part) (k:Nat) (out:List Pass),z.Parts.drop k=r→k≤z.Parts.length→out.length+r.length≤1000→
     loop (Da m (a::t) (R0 m 0 (a::t)) (o1,(i:Int)) (o2,(zi:Int))) (out,(k:Int))=some (out++Rh lane (Sh m (a::t) i) zi k r):=by
  have Z:=R.val.zoneOK (lG hz)
  have h6:=Z.six
  have hi:i< (a::t).length:=(lI.1 hx).1
  intro r
  induction r with
  |nil=>
   intro k out hk hkl hl
   have:=Q6 hk
   obtain rfl:k=z.Parts.length:=by omega
   refine D8 ?_
   unfold Da
   dsimp only
   rw [D1 hz,lB,K2];simp [Rh]
  |cons p r ih=>
   intro k out hk hkl hl
   have hlt:=O0 hk
   have hp:=Bs hk
   have hpm:=lG hp
   have hpt:=Z.part p hpm
   have hln:=Ob Z.rise p.Lane_ (List.mem_map_of_mem hpm)
   have hll:=R.val.long hln.1 hln.2
   have hb:=R.bd (Nat.le_of_lt hi)
   simp only [lK]at hl
   have hs:Da m (a::t) (R0 m 0 (a::t)) (o1,(i:Int)) (o2,(zi:Int)) (out,(k:Int))=some (.go (out++ (if p.Lane_==lane then [⟨(zi:Int),(k:Int),Sh m (a::t) i+p.From,Sh m (a::t) i+p.To⟩]else []),((k+1:Nat):Int))):=by
     unfold Da
     dsimp only
     rw [D1 hz,lB,L5 hlt,bE,lB,D1 hp,lB,D1 hx,lB,I7 hlt (by omega)]
     cases p.Lane_==lane
     ·simp
     ·rw [bE,RouteOK.starts hi,lB,lB,L6 (by omega),L6 (by omega),Qb (by simp;omega)]
      rfl
   rw [L7 hs,ih (k+1) _ (L9 hk) (by omega) (by rw [lL];split<;>simp<;>omega),Rh,lN]
theorem qZ (B:BearM m)(R:RouteOK m a t){i:Nat}{lane:Int}(hx:(a::t)[i]? =some lane)(o1:List Pass):
    ∀(r:List Zone) (zi:Nat) (out:List Pass),m.Zones.drop zi=r→zi≤m.Zones.length→out.length+r.length≤500→
     loop (Db m (a::t) (R0 m 0 (a::t)) (o1,(i:Int))) (out,(zi:Int))=some (out++Uw lane (Sh m (a::t) i) zi r):=by
  intro r
  induction r with
  |nil=>
   intro zi out hk hkl hl
   have:=Q6 hk
   obtain rfl:zi=m.Zones.length:=by omega
   refine D8 ?_
   unfold Db
   rw [K2];simp [Uw]
  |cons z r ih=>
   intro zi out hk hkl hl
   have hlt:=O0 hk
   have hz:=Bs hk
   have Z:=R.val.zoneOK (lG hz)
   have h6:=Z.six
   have hnz:=R.val.zones
   simp only [lK]at hl
   have h1:=EN lane (Sh m (a::t) i) zi z.Parts 0 (Xh Z.rise)
   have h3:loop (Da m (a::t) (R0 m 0 (a::t)) (o1,(i:Int)) (out,(zi:Int))) (out,0)=_:=qY B R hx zi hz o1 out z.Parts 0 out rfl (by omega) (by omega)
   have hs:Db m (a::t) (R0 m 0 (a::t)) (o1,(i:Int)) (out,(zi:Int))=some (.go (out++Rh lane (Sh m (a::t) i) zi 0 z.Parts,((zi+1:Nat):Int))):=by
     unfold Db
     dsimp only
     rw [L5 hlt,bE,h3,lB,I7 hlt (by omega)]
   rw [L7 hs,ih (zi+1) _ (L9 hk) (by omega) (by rw [lL];omega),Uw,lN]
theorem rA (B:BearM m)(R:RouteOK m a t):
    ∀(r:List Int) (i:Nat) (out:List Pass),(a::t).drop i=r→i≤(a::t).length→out.length+12*r.length≤200→
     loop (Bw m (a::t) (R0 m 0 (a::t))) (out,(i:Int))=some (out++Of m (Sh m (a::t) i) r):=by
  have hlen:(R0 m 0 (a::t)).length=(a::t).length:=Tm _ _ _
  intro r
  induction r with
  |nil=>
   intro i out hk hkl hle
   have:=Q6 hk
   have hii:i=(a::t).length:=by omega
   refine D8 ?_
   unfold Bw
   dsimp only
   rw [hlen,hii,K2];simp [Of]
  |cons x r ih=>
   intro i out hk hkl hle
   have hlt:=O0 hk
   have hx:=Bs hk
   have hm7:=R.most
   have hnz:=R.val.zones
   simp only [lK]at hle hlt
   have h2:loop (Db m (a::t) (R0 m 0 (a::t)) (out,(i:Int))) (out,0)=_:=qZ B R hx out m.Zones 0 out rfl (by omega) (by omega)
   have hs:Bw m (a::t) (R0 m 0 (a::t)) (out,(i:Int))=some (.go (out++Uw x (Sh m (a::t) i) 0 m.Zones,((i+1:Nat):Int))):=by
     unfold Bw
     dsimp only
     rw [hlen,L5 (O0 hk),bE,h2,lB,I7 (O0 hk) (by simp only [lK];omega)]
   have:=EO (m:=m) x (Sh m (a::t) i) m.Zones 0 fun z hz=>R.val.zoneOK hz
   rw [L7 hs,ih (i+1) _ (L9 hk) (by simp only [lK];omega) (by rw [lL];omega),Xi hx,Of,lN]
end
/-- The document's insertion sort. -/
theorem jF (T:List Pass)(x:Pass)(Q:List Pass)(hs:Srt BT Q)(hN:(Q++x::T).length≤1000000):
    ∃Q',loop Z1 (Q++x::T,(Q.length:Int))=some (Q'++T)∧Q'.Perm (x::Q)∧Srt BT Q':=by
  have hstop: ∀xs:List Pass,(fun s:Int×List Pass=>(Z1 (s.2,s.1)).map pX) ((([]:List Pass).length:Int),xs)=some (.out xs):=fun xs=>by
    show (Z1 (xs,0)).map pX=_
    unfold Z1
    rfl
  have hF: ∀(U V:List Pass) (q y:Pass),([]:List Pass).length≤U.length→(U++q::y::V).length=(Q++x::T).length→(fun s:Int×List Pass=>(Z1 (s.2,s.1)).map pX) (((U.length:Int)+1),U++q::y::V)=some (if BT y q then .go ((U.length:Int),U++y::q::V)else .out (U++q::y::V)):=fun U V q y _ hl=>by
    show (Z1 (U++q::y::V,(U.length:Int)+1)).map pX=_
    unfold Z1
    have hb:U.length+2≤1000000:=by rw [← hl]at hN;simp at hN;omega
    have e1:C5 ((U.length:Int)+1 - 1)=(U.length:Int):=by rw [L6 (by omega)];omega
    have g1:B7 (U++q::y::V) ((U.length:Int)+1)=some y:=by rw [nA];exact Zq _ _ _ _ (by simp)
    have g2:B7 (U++q::y::V) (U.length:Int)=some q:=Zq _ _ _ _ rfl
    have s1:Mo (U++q::y::V) ((U.length:Int)+1) q=U++q::q::V:=by rw [nA,JE _ _ _ _ _ (by simp)];simp
    have g3:B7 (U++q::q::V) (U.length:Int)=some q:=Zq _ _ _ _ rfl
    have s2:Mo (U++q::q::V) (U.length:Int) y=U++y::q::V:=JE _ _ _ _ _ rfl
    simp only [show decide (((U.length:Int)+1)>0)=true from bB (by omega),bE,bI,e1,g1,g2,s1,g3,s2,lB]
    by_cases h1:y.From<q.From
    ·rw [bB h1,show BT y q=true from bB (.inl h1)];rfl
    ·rw [bC h1]
     simp only [bN,bE,lB,bI,bO]
     by_cases h2:y.From=q.From
     ·rw [show (y.From==q.From)=true by simp [h2]]
      simp only [bE,lB,bI]
      by_cases h3:y.Zone_<q.Zone_
      ·rw [bB h3,show BT y q=true from bB (.inr ⟨h2,h3⟩)];rfl
      ·rw [bC h3,show BT y q=false from bC (by omega)];rfl
     ·rw [show (y.From==q.From)=false by simp [h2],show BT y q=false from bC (by omega)];rfl
  obtain ⟨Q',h1,h2,h3⟩:=RK ltP_ok (F:=fun s:Int×List Pass=>(Z1 (s.2,s.1)).map pX) (P:= []) (T:=T) (Q++x::T).length hstop hF x Q.length Q [] rfl (by simpa using hs) (by simp) (by simp)
  refine ⟨Q',dS _ _ _ _ ?_,by simpa using h2,h3⟩
  have e:(((([]:List Pass).length+Q.length:Nat):Int),[]++Q++ [x]++T)=((Q.length:Int),Q++x::T):=by simp
  rw [e]at h1
  rw [h1];rfl
theorem oH (A:List Pass)(hN:A.length≤1000000): ∃A',loop Cz (A,1)=some A'∧A'.Perm A∧Srt BT A':=by
  have hend: ∀(xs:List Pass) (i:Nat),xs.length≤i→Cz (xs,(i:Int))=some (.out xs):=fun xs i hi=>by
    unfold Cz
    rw [show decide ((i:Int)< (xs.length:Int))=false from bC (by omega)];rfl
  have key: ∀(R Q:List Pass),(Q++R).length≤1000000→Srt BT Q→∃A',loop Cz (Q++R,(Q.length:Int))=some A'∧A'.Perm (Q++R)∧Srt BT A':=by
    intro R
    induction R with
    |nil=>
     intro Q hl hs
     exact ⟨Q,by rw [lO];exact D8 (hend _ _ (bW _)),by simp,hs⟩
    |cons x R ih=>
     intro Q hl hs
     obtain ⟨Q',k1,k2,k3⟩:=jF R x Q hs hl
     have hlq:Q'.length=Q.length+1:=by rw [k2.length_eq];simp
     simp only [lL,lK]at hl
     obtain ⟨A',g1,g2,g3⟩:=ih Q' (by rw [lL];omega) k3
     refine ⟨A',?_,g2.trans ((k2.append_right R).trans (List.perm_middle (a:=x) (l₁:=Q) (l₂:=R)).symm),g3⟩
     rw [← g1,hlq]
     refine L7 ?_
     unfold Cz
     dsimp only
     rw [show decide ((Q.length:Int)< ((Q++x::R).length:Int))=true from bB (by simp;omega),bE,k1,lB,L6 (by omega)]
     congr 2
  cases A with
  |nil=>exact ⟨[],D8 (hend [] 1 (by simp)), .refl _,List.Pairwise.nil⟩
  |cons a A=>
   obtain ⟨A',g1,g2,g3⟩:=key A [a] (by simpa using hN) (List.pairwise_singleton _ _)
   exact ⟨A',g1,g2,g3⟩
theorem ZE {m:Map}(B:BearK m)(r:List Int)(hr:r.length≤1000000): ∃ps,Ai m r=some ps∧Hp m r=some ps∧ps.length≤16:=by
  by_cases q:Q9 m r=0
  ·obtain ⟨a,t,rfl,R⟩:=chkRoute_zero.1 q
   obtain ⟨ps,p1,p2,p3,p4⟩:=RO B R
   refine ⟨ps,p1,?_,p4⟩
   have hm7:=R.most
   have hlen:(Of m 0 (a::t)).length≤16:=by rw [← p2.length_eq];exact p4
   have h1:loop (Bw m (a::t) (R0 m 0 (a::t))) ([],0)=some (Of m 0 (a::t)):=by
     have:=rA B.toBearM R (a::t) 0 [] rfl (by omega) (by simp;omega)
     rw [lP,DV]at this
     exact this
   obtain ⟨A',g1,g2,g3⟩:=oH (Of m 0 (a::t)) (by omega)
   have:ps=A':=WB p3 g3 (p2.trans g2.symm) fun x hx y hy=>dU R x (p2.mem_iff.1 hx) y (p2.mem_iff.1 hy)
   unfold Hp
   rw [BF B.toBearM _ hr,lB,show StartsM m (a::t)=R0 m 0 (a::t) by unfold StartsM;rw [R.follow],h1,lB,g1,this];rfl
  ·refine ⟨[],?_,?_,by simp⟩
   ·have h1:loop (P0 m (Dc m r)) ([],0)=some []:=by
      refine D8 ?_
      unfold P0
      rw [Xj q];rfl
    unfold Ai
    rw [Vn B.toBearM r hr,lB,h1,lB,GZ];rfl
   ·have h1:loop (Bw m r []) ([],0)=some []:=D8 rfl
    obtain ⟨A',g1,g2,_⟩:=oH [] (by simp)
    obtain rfl:A'= []:=List.length_eq_zero_iff.1 g2.length_eq
    unfold Hp
    rw [BF B.toBearM r hr,lB,StartsM,Xj q]
    dsimp only
    rw [h1,lB,g1];rfl
structure SmallS (s:State):Prop where
  agents:s.Agents.length≤10
  ins:s.In.length≤20
  routes: ∀a∈s.Agents,a.Route.length≤10
theorem jG (s:State): ∃b,Sz s=some b∧(b=true→SmallS s):=by
  unfold Sz
  by_cases h:10<s.Agents.length∨20<s.In.length
  ·rw [show (decide ((s.Agents.length:Int)>10)||decide ((s.In.length:Int)>20))=true by simp only [bL,bD];omega]
   exact ⟨false,rfl,nofun⟩
  ·rw [show (decide ((s.Agents.length:Int)>10)||decide ((s.In.length:Int)>20))=false by simp only [Bool.or_eq_false_iff,bR];omega,bF]
   have hk:=Ao s.Agents (Iy s) (fun _ a=>if 10<a.Route.length then some false else none) (fun i a ha=>by
     have hi:=J4 ha
     unfold Iy
     rw [L5 hi,D1 ha,bE,lB]
     by_cases q:10<a.Route.length
     ·rw [bG q,bB (show (a.Route.length:Int)>10 by omega)];rfl
     ·rw [bH q,bC (show ¬(a.Route.length:Int)>10 by omega),bF,I7 hi (by omega)]) (by unfold Iy;rw [K2];rfl)
   rw [hk]
   cases hf:K1 (fun _ (a:Agent)=>if 10<a.Route.length then some false else none) 0 s.Agents with
   |some b=>
    refine ⟨b,rfl,fun hb=> ?_⟩
    subst hb
    exfalso
    have: ∀(l:List Agent) (i:Nat),K1 (fun _ (a:Agent)=>if 10<a.Route.length then some false else none) i l≠some true:=by
      intro l
      induction l with
      |nil=>intro i h;cases h
      |cons a l ih=>
       intro i h
       unfold K1 at h
       by_cases q:10<a.Route.length
       ·rw [bG q]at h;cases h
       ·rw [bH q]at h;exact ih _ h
    exact this _ _ hf
   |none=>
    refine ⟨true,rfl,fun _=>⟨by omega,by omega,fun a ha=> ?_⟩⟩
    obtain ⟨j,hj⟩:=List.getElem?_of_mem ha
    have:=firstE_none.1 hf j a hj
    by_cases q:10<a.Route.length
    ·rw [bG q]at this;cases this
    ·omega
/-! ### Copies -/
theorem JG {α:Type}{l:List α}(h:l.length≤1000000):Bo ([]:List α) l=some l:=by
  rw [Qb (by simp;omega),lP]
structure SizeS (s:State):Prop where
  agents:s.Agents.length≤1000
  ins:s.In.length≤1000000
  routes: ∀a∈s.Agents,a.Route.length≤1000
theorem SmallS.size {s:State}(h:SmallS s):SizeS s:=⟨by have:=h.agents;omega,by have:=h.ins;omega,fun a ha=>by have:=h.routes a ha;omega⟩
theorem RR (F:Int×State→Option (Stp (Int×State) State))(s:State)(h:SizeS s)(l0:List Stay)
    (hF: ∀(i:Nat) (a:Agent) (t:State),s.Agents[i]? =some a→F ((i:Int),t)=(Bo t.Agents [a]).bind fun v=>some (.go (C5 ((i:Int)+1),⟨t.Tick,v,t.In⟩))) (h0: ∀t:State,F ((s.Agents.length:Int),t)=some (.out t)):
    loop F (0,⟨s.Tick,[],l0⟩)=some ⟨s.Tick,s.Agents,l0⟩:=by
  have key: ∀(r:List Agent) (i:Nat),s.Agents.drop i=r→i≤s.Agents.length→loop F ((i:Int),⟨s.Tick,s.Agents.take i,l0⟩)=some ⟨s.Tick,s.Agents,l0⟩:=by
    intro r
    induction r with
    |nil=>
     intro i hi hil
     have:=Q6 hi
     obtain rfl:i=s.Agents.length:=by omega
     rw [D8 (h0 _),List.take_length]
    |cons a r ih=>
     intro i hi hil
     have hlt:=O0 hi
     have ha:=Bs hi
     have hh:=h.agents
     rw [L7 (s':=(((i+1:Nat):Int),⟨s.Tick,s.Agents.take (i+1),l0⟩)),ih (i+1) (L9 hi) hlt]
     rw [hF i a _ ha,Qb (by rw [lU];simp;omega),lB,I7 hlt (by omega),List.take_add_one,ha];rfl
  exact key s.Agents 0 rfl (by omega)
theorem jH {s:State}(h:SizeS s):OM s=some s:=by
  unfold OM
  rw [JG h.ins,lB,RR (Sm s) s h s.In (fun i a t ha=> ?_) (fun t=>by unfold Sm;dsimp only;rw [K2];rfl)]
  ·rfl
  ·unfold Sm
   dsimp only
   rw [L5 (J4 ha),D1 ha,bE,lB,JG (by have:=h.routes a (lG ha);omega),lB]
theorem dV {l:List Int}(h:l.length≤1000000):Cc l=some l:=JG h
theorem WC {a:Agent}(h:a.Route.length≤1000):Bp a=some a:=by
  unfold Bp
  rw [dV (by omega),lB]
theorem aP {s:State}(h:SizeS s):Ka s=some s:=by
  unfold Ka
  rw [show T7 s.In=some s.In from JG h.ins,lB,RR (Dr s) s h s.In (fun i a t ha=> ?_) (fun t=>by unfold Dr;dsimp only;rw [K2];rfl)]
  ·rfl
  ·unfold Dr
   dsimp only
   rw [L5 (J4 ha),D1 ha,bE,lB,WC (h.routes a (lG ha)),lB]
/-! ### Equal states -/
theorem ZF (a:Agent)(h:a.Route.length≤1000000):loop (Ik a a) 0=some (.inl ()):=by
  rw [Ao a.Route (Ik a a) (fun _ _=>(none:Option Bool)) (fun i x hx=> ?_) (by unfold Ik;rw [K2];rfl)]
  ·rw [firstE_none.2 fun _ _ _=>rfl];rfl
  ·unfold Ik
   rw [L5 (J4 hx),D1 hx,bE,lB,lB,show (x !=x)=false by simp,bF,I7 (J4 hx) (by omega)]
theorem dW {s:State}(h:SizeS s):Wj s s=some true:=by
  unfold Wj
  rw [show (((s.Tick !=s.Tick)||((s.Agents.length:Int) !=(s.Agents.length:Int)))||((s.In.length:Int) !=(s.In.length:Int)))=false by simp,bF]
  have h1:=Ao s.Agents (Ls s s) (fun _ _=>(none:Option Bool)) (fun i x hx=>by
    unfold Ls
    have hr:=h.routes x (lG hx)
    have:=h.agents
    rw [L5 (J4 hx),D1 hx,bE,lB,lB]
    rw [show ((((((((x.Route.length:Int) !=(x.Route.length:Int))||(x.S !=x.S))||(x.V !=x.V))||(x.Len !=x.Len))||(x.Begin !=x.Begin))||(!(x.Obey==x.Obey)))||(!(x.Gone==x.Gone)))=false by simp,bF,ZF x (by omega),I7 (J4 hx) (by omega)];rfl) (by unfold Ls;rw [K2];rfl)
  have h2:=Ao s.In (Lr s s) (fun _ _=>(none:Option Bool)) (fun i x hx=>by
    unfold Lr
    have:=h.ins
    rw [L5 (J4 hx),D1 hx,bE,lB,lB]
    rw [show (!(x.Agent_==x.Agent_&& (x.Zone_==x.Zone_&& (x.Since==x.Since&& (x.Rank==x.Rank&&true)))))=false by simp,bF,I7 (J4 hx) (by omega)]) (by unfold Lr;rw [K2];rfl)
  rw [h1,h2,firstE_none.2 fun _ _ _=>rfl,firstE_none.2 fun _ _ _=>rfl];rfl
/-! ### The lane of an agent -/
/-- The last place up to a number. -/
def Xk (S:Int):Nat→Nat→List Int→Nat
  |_,b,[]=>b
  |i,b,x::r=>Xk S (i+1) (if x≤S then i else b) r
theorem WD (st:List Int)(S:Int): ∀(r:List Int) (i b:Nat),st.drop i=r→i≤st.length→(i=0→b=0)→(0<i→b<i∧(∃y,st[b]? =some y∧y≤S)∧∀(j:Nat) y,b<j→j<i→st[j]? =some y→S<y)→(∃y,st[0]? =some y∧y≤S)→
    (∃y,st[Xk S i b r]? =some y∧y≤S)∧∀(j:Nat) y,Xk S i b r<j→st[j]? =some y→S<y:=by
  intro r
  induction r with
  |nil=>
   intro i b hi hil h0 h1 hne
   have:=Q6 hi
   obtain ⟨y0,g0,_⟩:=hne
   have:=J4 g0
   obtain ⟨q1,q2,q3⟩:=h1 (by omega)
   exact ⟨q2,fun j y hj hy=>q3 j y hj (by have:=J4 hy;omega) hy⟩
  |cons x r ih=>
   intro i b hi hil h0 h1 hne
   have hx:=Bs hi
   have hlt:=O0 hi
   unfold Xk
   refine ih (i+1) _ (L9 hi) hlt (by omega) (fun _=> ?_) hne
   by_cases q:x≤S
   ·rw [bG q]
    exact ⟨by omega,⟨x,hx,q⟩,fun j y h2 h3=>by omega⟩
   ·rw [bH q]
    by_cases z:i=0
    ·subst z
     obtain ⟨y0,g0,g1⟩:=hne
     rw [hx]at g0;cases g0;exact absurd g1 q
    ·obtain ⟨q1,q2,q3⟩:=h1 (by omega)
     refine ⟨by omega,q2,fun j y h2 h3 hy=> ?_⟩
     by_cases e:j=i
     ·subst e;rw [hx]at hy;cases hy;omega
     ·exact q3 j y h2 (by omega) hy
theorem dX {st:List Int}{S:Int}(hne: ∃y,st[0]? =some y∧y≤S):(∃y,st[Xk S 0 0 st]? =some y∧y≤S)∧∀(j:Nat) y,Xk S 0 0 st<j→st[j]? =some y→S<y:=
  WD st S st 0 0 rfl (by omega) (fun _=>rfl) (fun h=>by omega) hne
theorem nJ (g:Agent)(st:List Int)(hl:st.length≤1000000): ∀(r:List Int) (i b:Nat),st.drop i=r→i≤st.length→loop (Ig g st) ((b:Int),(i:Int))=some ((Xk g.S i b r:Nat):Int):=by
  intro r
  induction r with
  |nil=>
   intro i b hi hil
   have:=Q6 hi
   obtain rfl:i=st.length:=by omega
   exact D8 (by unfold Ig;dsimp only;rw [K2];rfl)
  |cons x r ih=>
   intro i b hi hil
   have hx:=Bs hi
   have hlt:=O0 hi
   unfold Xk
   by_cases q:x≤g.S
   ·rw [bG q,L7 (s':=((i:Int),((i+1:Nat):Int))),ih (i+1) i (L9 hi) hlt]
    unfold Ig;dsimp only
    rw [L5 hlt,D1 hx,bE,lB,bB q,bE,I7 hlt (by omega)]
   ·rw [bH q,L7 (s':=((b:Int),((i+1:Nat):Int))),ih (i+1) b (L9 hi) hlt]
    unfold Ig;dsimp only
    rw [L5 hlt,D1 hx,bE,lB,bC q,bF,I7 hlt (by omega)]
theorem dY (g:Agent)(st:List Int)(hl:st.length≤1000000)(k:Nat)(hk: ∃y,st[k]? =some y∧y≤g.S)(hj: ∀(j:Nat) y,k<j→st[j]? =some y→g.S<y): ∀(n i:Nat),i=k+n→i<st.length→loop (Dv g st) (i:Int)=some (k:Int):=by
  intro n
  induction n with
  |zero=>
   intro i hi hil
   obtain ⟨y,h1,h2⟩:=hk
   obtain rfl:i=k:=by omega
   exact D8 (by unfold Dv;rw [D1 h1,lB,bC (show ¬y>g.S by omega)];rfl)
  |succ n ih=>
   intro i hi hil
   have h1:st[i]? =some st[i]:=lH hil
   have h2:=hj i _ (by omega) h1
   rw [L7 (s':=((i - 1:Nat):Int)) (by unfold Dv;rw [D1 h1,lB,bB (show st[i]>g.S by omega),bE,L6 (by omega)];congr 2;omega)]
   exact ih (i - 1) (by omega) (by omega)
noncomputable def QF (m:Map)(g:Agent):Nat:=Xk g.S 0 0 (StartsM m g.Route)
/-- The lane of an agent, and its offset. -/
noncomputable def LB (m:Map)(g:Agent):Int×Int:=(g.Route.getD (QF m g) 0,g.S - (StartsM m g.Route).getD (QF m g) 0)
theorem RouteOK.StartsM {m:Map}{a:Int}{t:List Int}(R:RouteOK m a t):StartsM m (a::t)=R0 m 0 (a::t):=by unfold World.StartsM;rw [R.follow]
theorem RouteOK.LongM {m:Map}{a:Int}{t:List Int}(R:RouteOK m a t):LongM m (a::t)=Sh m (a::t) (a::t).length:=by unfold World.LongM;rw [R.follow]
theorem RS {m:Map}{a:Int}{t:List Int}(R:RouteOK m a t){g:Agent}(hg:g.Route=a::t)(h0:0≤g.S):
    ∃x,QF m g< (a::t).length∧(a::t)[QF m g]? =some x∧LB m g=(x,g.S - Sh m (a::t) (QF m g))∧Sh m (a::t) (QF m g)≤g.S∧(∀j,QF m g<j→j< (a::t).length→g.S<Sh m (a::t) j):=by
  have hl:=Tm m (a::t) 0
  have h00:(R0 m 0 (a::t))[0]? =some 0:=by rw [R0];rfl
  obtain ⟨⟨y,y1,y2⟩,y3⟩:=dX (st:=R0 m 0 (a::t)) (S:=g.S) ⟨0,h00,h0⟩
  have e:QF m g=Xk g.S 0 0 (R0 m 0 (a::t)):=by unfold QF;rw [hg,R.StartsM]
  rw [← e]at y1 y3
  have hlt:=J4 y1
  rw [hl]at hlt
  have hy:y=Sh m (a::t) (QF m g):=by
    have:=Pw m (a::t) 0 (QF m g) hlt
    rw [y1,Int.zero_add]at this
    exact lD this
  refine ⟨(a::t)[QF m g],hlt,lH hlt,?_,by omega,fun j hj hjl=> ?_⟩
  ·unfold LB
   rw [hg,R.StartsM,List.getD,List.getD,lH hlt,y1,hy];rfl
  ·have:=Pw m (a::t) 0 j hjl
   rw [Int.zero_add]at this
   exact y3 j _ hj this
theorem jI {m:Map}(B:BearM m){a:Int}{t:List Int}(R:RouteOK m a t){g:Agent}(hg:g.Route=a::t)(h0:0≤g.S)(h1:g.S≤9223372036854775807):Kc m g=some (LB m g)∧We m g=some (LB m g):=by
  obtain ⟨x,q1,q2,q3,q4,q5⟩:=RS R hg h0
  have hm7:=R.most
  have hr:g.Route.length≤1000000:=by rw [hg];simp;omega
  have hl:=Tm m (a::t) 0
  have hbd:=R.bd (i:=QF m g) (by omega)
  have hs:B7 (R0 m 0 (a::t)) ((QF m g:Nat):Int)=some (Sh m (a::t) (QF m g)):=RouteOK.starts q1
  have hk:(R0 m 0 (a::t))[QF m g]? =some (Sh m (a::t) (QF m g)):=by rw [Pw m _ 0 _ q1,Int.zero_add];rfl
  constructor
  ·unfold Kc
   rw [RQ B _ hr,lB,hg,R.StartsM]
   have hn:C5 (((R0 m 0 (a::t)).length:Int) - 1)=((t.length:Nat):Int):=by rw [hl,L6 (by simp;omega)];simp
   rw [hn,dY g _ (by rw [hl];simp;omega) (QF m g) ⟨_,hk,q4⟩ (fun j y hj hy=>by
    have hjl:=J4 hy
    rw [hl]at hjl
    have:=Pw m (a::t) 0 j hjl
    rw [hy,Int.zero_add]at this
    cases this
    exact q5 j hj hjl) (t.length - QF m g) t.length (by simp only [lK]at q1;omega) (by rw [hl];simp),lB,D1 q2,lB,hs,lB,q3,L6 (by omega)]
  ·unfold We
   rw [BF B _ hr,lB,hg,R.StartsM]
   have:=nJ g (R0 m 0 (a::t)) (by rw [hl];simp;omega) (R0 m 0 (a::t)) 0 0 rfl (by omega)
   have e:QF m g=Xk g.S 0 0 (R0 m 0 (a::t)):=by unfold QF;rw [hg,R.StartsM]
   rw [← e]at this
   rw [show ((0:Int),(0:Int))=(((0:Nat):Int),((0:Nat):Int)) from rfl,this,lB,D1 q2,lB,hs,lB,q3,L6 (by omega)]
noncomputable def ZG (m:Map)(x:Int):Int:=((m.Lanes[x.toNat]?).map (·.Kind)).getD 0
/-- The greatest speed, acceleration and braking where an agent is. -/
noncomputable def jJ (m:Map)(g:Agent):Int×Int×Int:=Uo (ZG m (LB m g).1)
noncomputable def LC (m:Map)(g:Agent):Bool:=decide (C5 (g.S - g.Len)>LongM m g.Route)
def TN (g:Agent):Bool:=(((decide (g.Len<300)||decide (g.Len>20000))||decide (g.Begin<0))||decide (g.Begin>1099511627776))||decide (g.S<0)
/-- The error of an agent of a state. -/
noncomputable def Gl (m:Map)(s:State)(i:Int)(g:Agent):Int:=
  if Q9 m g.Route=0 then
   if TN g=true∨g.S>LongM m g.Route+g.Len+2000 then 2
   else if g.V<0∨g.V>(jJ m g).1 then 2
   else if g.Gone≠LC m g∨(g.Begin>s.Tick∧g.S≠0)∨(i=0∧g.Begin≠0)then 10 else 0
  else 13
theorem WE {m:Map}{a:Int}{t:List Int}(R:RouteOK m a t):1000≤LongM m (a::t)∧LongM m (a::t)≤134217728:=by
  have h1:=R.bd (bW _)
  have h2:=R.lt (i:=0) (j:=(a::t).length) (by simp) (bW _)
  rw [DV]at h2
  rw [R.LongM];omega
theorem aQ {m:Map}(B:BearM m){g:Agent}(hr:g.Route.length≤1000000):Kd m g=some (LC m g)∧Wf m g=some (LC m g):=by
  constructor
  ·unfold Kd Bx
   rw [lB,aO B _ hr];rfl
  ·unfold Wf
   rw [WA B _ hr];rfl
theorem dZ {m:Map}{a:Int}{t:List Int}(R:RouteOK m a t){g:Agent}(hg:g.Route=a::t)(h0:0≤g.S): ∃l,B7 m.Lanes (LB m g).1=some l∧ZG m (LB m g).1=l.Kind∧m.Lanes[(LB m g).1.toNat]? =some l:=by
  obtain ⟨x,q1,q2,q3,_⟩:=RS R hg h0
  have hx:=R.mem (lG q2)
  have hl:m.Lanes[x.toNat]? =some m.Lanes[x.toNat]:=lH (by omega)
  have hg:=D1 hl
  rw [bV hx.1]at hg
  refine ⟨_,by rw [q3];exact hg,?_,by rw [q3];exact hl⟩
  rw [q3];unfold ZG
  dsimp only
  rw [hl];rfl
theorem PD {g:Agent}(h:TN g=false):300≤g.Len∧g.Len≤20000∧0≤g.Begin∧g.Begin≤1099511627776∧0≤g.S:=by
  unfold TN at h
  simp only [Bool.or_eq_false_iff,bR]at h
  omega
theorem WF {m:Map}(B:BearM m)(s:State){i:Int}{g:Agent}(hi:B7 s.Agents i=some g)(hr:g.Route.length≤1000)(hS:g.S≤9223372036854775807):
    Cd m s i=some (Gl m s i g)∧Jg m s i=some (Gl m s i g):=by
  have hr':g.Route.length≤1000000:=by omega
  unfold Cd Jg Gl
  rw [hi,lB,lB,FP B _ hr',Ra B _ hr',lB,lB]
  by_cases q:Q9 m g.Route=0
  case neg=>
    rw [bH q,show (Q9 m g.Route !=0)=true by simpa using q]
    exact ⟨rfl,rfl⟩
  rw [bG q,q,show ((0:Int) !=0)=false from rfl,bF,bF]
  obtain ⟨a,t,ht,R⟩:=chkRoute_zero.1 q
  have hL:=WE R
  rw [← ht]at hL
  rw [aO B _ hr',WA B _ hr']
  have e:((((decide (g.Len<300)||decide (g.Len>20000))||decide (g.Begin<0))||decide (g.Begin>1099511627776))||decide (g.S<0))=TN g:=rfl
  rw [e]
  by_cases o:TN g=true
  ·rw [bG (.inl o),o];exact ⟨rfl,rfl⟩
  have o':TN g=false:=by simpa using o
  obtain ⟨o1,o2,o3,o4,o5⟩:=PD o'
  rw [o',bN,bE,lB,lB,bO,L6 (n:=LongM m g.Route+g.Len) (by omega),L6 (n:=LongM m g.Route+g.Len+2000) (by omega)]
  by_cases l:g.S>LongM m g.Route+g.Len+2000
  ·rw [bG (.inr l),bB l];exact ⟨rfl,rfl⟩
  rw [bH (fun h=>h.elim (fun h=>by cases h) l),bC l,bF,bF]
  obtain ⟨l1,l2⟩:=jI B R ht o5 hS
  obtain ⟨ln,k1,k2,_⟩:=dZ R ht o5
  rw [l1,l2,lB,lB,k1,lB,lB,KA,GS,lB,lB]
  have ev:(jJ m g).1=(Uo ln.Kind).1:=by unfold jJ;rw [k2]
  rw [ev]
  by_cases v:g.V<0∨g.V>(Uo ln.Kind).1
  ·rw [bG v,show (decide (g.V<0)||decide (g.V>(Uo ln.Kind).1))=true by simpa using v];exact ⟨rfl,rfl⟩
  rw [bH v,show (decide (g.V<0)||decide (g.V>(Uo ln.Kind).1))=false by rw [bP];simpa using v,bF,bF,(aQ B hr').1,(aQ B hr').2,lB,lB]
  have hb: ∀b:Bool,(b=true↔g.Gone≠LC m g∨(g.Begin>s.Tick∧g.S≠0)∨(i=0∧g.Begin≠0))→cond b (some (10:Int)) (some 0)=some (if g.Gone≠LC m g∨(g.Begin>s.Tick∧g.S≠0)∨(i=0∧g.Begin≠0)then 10 else 0):=by
    intro b hb
    by_cases h:g.Gone≠LC m g∨(g.Begin>s.Tick∧g.S≠0)∨(i=0∧g.Begin≠0)
    ·rw [bG h,hb.2 h];rfl
    ·rw [bH h]
     cases b
     ·rfl
     ·exact absurd (hb.1 rfl) h
  exact ⟨hb _ (by simp),hb _ (by simp [or_assoc])⟩
/-! ### The whole check -/
def Mk (a b:Stay):Bool:=decide (a.Agent_<b.Agent_)||(a.Agent_==b.Agent_&&decide (a.Zone_<b.Zone_))
theorem pQ (a b:Int):Et [a,b]=some (if a≠0 then a else b):=by
  unfold Et
  by_cases h:a=0
  ·subst h
   rw [L7 (s':=1) rfl,bH (by simp)]
   by_cases h:b=0
   ·subst h;rw [L7 (s':=2) rfl,D8 (t:= .inl ()) rfl];rfl
   ·rw [D8 (t:= .inr b) (by unfold Z7;rw [show B7 [(0:Int),b] 1=some b from rfl,lB,show (b !=0)=true by simpa using h];rfl)];rfl
  ·rw [D8 (t:= .inr a) (by unfold Z7;rw [show B7 [a,b] 0=some a from rfl,lB,show (a !=0)=true by simpa using h];rfl),bG h];rfl
/-- What the order of two stays is. -/
def QG (a b:Stay):Int:=if KG a.Agent_ b.Agent_≠0 then KG a.Agent_ b.Agent_ else KG a.Zone_ b.Zone_
theorem PE (a b:Stay):Fj a b=some (QG a b):=by
  unfold Fj QG
  rw [GY,lB,GY,lB,pQ,lB]
theorem WG (a b:Stay):decide (QG a b≥0)= !Mk a b:=by
  unfold QG Mk KG
  by_cases h1:a.Agent_<b.Agent_
  ·simp [h1]
  ·by_cases h2:a.Agent_>b.Agent_
   ·have:a.Agent_≠b.Agent_:=by omega
    simp [h1,h2,this]
   ·have:a.Agent_=b.Agent_:=by omega
    by_cases h3:a.Zone_<b.Zone_
    ·simp [this,h3]
    ·by_cases h4:a.Zone_>b.Zone_
     ·simp [this,h3,h4]
     ·simp [this,h3,h4]
def FQ (m:Map)(s:State)(x:Stay):Bool:=((decide (x.Agent_<0)||decide (x.Agent_≥(s.Agents.length:Int)))||decide (x.Zone_<0))||decide (x.Zone_≥(m.Zones.length:Int))
def eI (m:Map)(s:State)(i:Nat)(x:Stay):Option Int:=if FQ m s x=true∨(0<i∧∃y,s.In[i - 1]? =some y∧Mk y x=false)then some 11 else none
def BG (s:State)(x:Stay):Bool:=((decide (x.Since<0)||decide (x.Since>s.Tick))||decide (x.Rank<0))||decide (x.Rank>100)
noncomputable def QH (m:Map)(s:State):Int:=
  if Zn m=0 then
   if s.Tick<0∨s.Tick>1099511627776 then 2 else if s.Agents.length=0 then 6 else if 8<s.Agents.length then 8
   else match K1 (fun i g=>if Gl m s (i:Int) g=0 then none else some (Gl m s (i:Int) g)) 0 s.Agents with
     |some e=>e
     |none=>match K1 (eI m s) 0 s.In with
      |some e=>e
      |none=>if s.In.any (BG s)=true then 2 else 0
  else Zn m
theorem WH {m:Map}(B:BearM m){s:State}(h:SizeS s)(hw: ∀g∈s.Agents,g.S≤9223372036854775807):
    loop (Ct m s) 0=some (LY (K1 (fun i g=>if Gl m s (i:Int) g=0 then none else some (Gl m s (i:Int) g)) 0 s.Agents))∧
    loop (Jj m s) 0=some (LY (K1 (fun i g=>if Gl m s (i:Int) g=0 then none else some (Gl m s (i:Int) g)) 0 s.Agents)):=by
  have hh:=h.agents
  constructor
  ·refine Ao s.Agents _ _ (fun i g hg=> ?_) (by unfold Ct;rw [K2];rfl)
   have hm:=lG hg
   unfold Ct
   rw [L5 (J4 hg),bE,(WF B s (D1 hg) (h.routes g hm) (hw g hm)).1,lB]
   by_cases q:Gl m s (i:Int) g=0
   ·rw [bG q,q,show ((0:Int) !=0)=false from rfl,bF,I7 (J4 hg) (by omega)]
   ·rw [bH q,show (Gl m s (i:Int) g !=0)=true by simpa using q];rfl
  ·refine Ao s.Agents _ _ (fun i g hg=> ?_) (by unfold Jj;rw [K2];rfl)
   have hm:=lG hg
   unfold Jj
   rw [L5 (J4 hg),bE,(WF B s (D1 hg) (h.routes g hm) (hw g hm)).2,lB]
   by_cases q:Gl m s (i:Int) g=0
   ·rw [bG q,q,show ((0:Int) !=0)=false from rfl,bF,I7 (J4 hg) (by omega)]
   ·rw [bH q,show (Gl m s (i:Int) g !=0)=true by simpa using q];rfl
theorem WI {α:Type}{l:List α}{i:Nat}{a:α}(h:l[i]? =some a)(h0:0<i): ∃y,l[i - 1]? =some y∧B7 l (C5 ((i:Int) - 1))=some y∨1000000000000<i:=by
  by_cases hb:1000000000000<i
  ·exact ⟨a, .inr hb⟩
  ·have:=J4 h
   have e:l[i - 1]? =some l[i - 1]:=lH (by omega)
   refine ⟨_, .inl ⟨e,?_⟩⟩
   rw [L6 (by omega),show (i:Int) - 1=((i - 1:Nat):Int) by omega]
   exact D1 e
theorem jK (m:Map){s:State}(h:SizeS s):
    loop (Cs m s) 0=some (LY (K1 (eI m s) 0 s.In))∧loop (Ji m s) 0=some (LY (K1 (eI m s) 0 s.In)):=by
  have hh:=h.ins
  constructor
  ·refine Ao s.In _ _ (fun i x hx=> ?_) (by unfold Cs;rw [K2];rfl)
   have hi:=J4 hx
   unfold Cs
   rw [L5 hi,bE,D1 hx,lB]
   have e:(((decide (x.Agent_<0)||decide (x.Agent_≥(s.Agents.length:Int)))||decide (x.Zone_<0))||decide (x.Zone_≥(m.Zones.length:Int)))=FQ m s x:=rfl
   rw [e]
   unfold eI
   by_cases hb:FQ m s x=true
   ·rw [hb,bG (.inl rfl)];rfl
   have hb':FQ m s x=false:=by simpa using hb
   rw [hb',bN,bI]
   by_cases h0:0<i
   ·obtain ⟨y,hy⟩:=WI hx h0
    rcases hy with ⟨y1,y2⟩|hy
    ·rw [bB (show (i:Int)>0 by omega),bE,y2,lB,bE,PE,lB,bO,bI,WG]
     by_cases q:Mk y x=true
     ·rw [q,bH (by rintro (h|⟨_,z,z1,z2⟩);exact (by cases h);rw [y1]at z1;cases z1;rw [q]at z2;cases z2),bM,bF,I7 hi (by omega)]
     ·have q':Mk y x=false:=by simpa using q
      rw [q',bG (.inr ⟨h0,y,y1,q'⟩)];rfl
    ·omega
   ·rw [bC (show ¬(i:Int)>0 by omega),bF,lB,bF,lB,bO,bJ,bF,bH (by rintro (h|⟨h,_⟩);exact (by cases h);exact h0 h),I7 hi (by omega)]
  ·refine Ao s.In _ _ (fun i x hx=> ?_) (by unfold Ji;rw [K2];rfl)
   have hi:=J4 hx
   unfold Ji
   rw [L5 hi,bE,D1 hx,lB]
   have e:(((decide (x.Agent_<0)||decide (x.Agent_≥(s.Agents.length:Int)))||decide (x.Zone_<0))||decide (x.Zone_≥(m.Zones.length:Int)))=FQ m s x:=rfl
   rw [e]
   unfold eI
   by_cases hb:FQ m s x=true
   ·rw [hb,bG (.inl rfl)];rfl
   have hb':FQ m s x=false:=by simpa using hb
   rw [hb',bF]
   by_cases h0:0<i
   ·obtain ⟨y,hy⟩:=WI hx h0
    rcases hy with ⟨y1,y2⟩|hy
    ·rw [bB (show (i:Int)>0 by omega),bE,y2,lB,bI]
     have hc: ∀b:Bool,(cond b (some y) (some default)).bind (fun v=>some v)=some (cond b y default):=by intro b;cases b<;>rfl
     by_cases q1:x.Agent_<y.Agent_
     ·rw [bB q1,bG (.inr ⟨h0,y,y1,by unfold Mk;simp;omega⟩)];rfl
     ·rw [bC q1,bN,bE,lB,bI]
      by_cases q2:x.Agent_=y.Agent_
      ·rw [show (x.Agent_==y.Agent_)=true by simpa using q2,bE,lB,bO,bI,bI]
       by_cases q3:x.Zone_≤y.Zone_
       ·rw [bB q3,bG (.inr ⟨h0,y,y1,by unfold Mk;simp;omega⟩)];rfl
       ·rw [bC q3,bH (by rintro (h|⟨_,z,z1,z2⟩);exact (by cases h);rw [y1]at z1;cases z1;unfold Mk at z2;simp at z2;omega),bF,I7 hi (by omega)]
      ·rw [show (x.Agent_==y.Agent_)=false by simpa using q2,bF,lB,bO,bI,bJ,bF,bH (by rintro (h|⟨_,z,z1,z2⟩);exact (by cases h);rw [y1]at z1;cases z1;unfold Mk at z2;simp at z2;omega),I7 hi (by omega)]
    ·omega
   ·rw [bC (show ¬(i:Int)>0 by omega),bF,lB]
    simp only [bJ,bF,lB]
    rw [bH (by rintro (h|⟨h,_⟩);exact (by cases h);exact h0 h),I7 hi (by omega)]
theorem Rb {α:Type}(l:List α)(P:α→Bool)(F:Int→Option (Stp Int (Sum Unit Int)))(hl:l.length≤1000000000)(hF: ∀(i:Nat) a,l[i]? =some a→F (i:Int)=some (if P a then .out (.inr (i:Int))else .go (C5 ((i:Int)+1))))(h0:F (l.length:Int)=some (.out (.inl ()))):
    (thenS (loop F 0) (fun _=>some (-1)) (fun r=>some r)).bind (fun v=>some (decide (v≥0)))=some (l.any P):=by
  rw [OV l P hl hF h0]
  have:=Zm P l
  unfold KD at this
  cases hq:l.findIdx? P with
  |some i=>rw [hq]at this;show some _=_;rw [← this]
  |none=>rw [hq]at this;show some _=_;rw [← this]
theorem nK {s:State}(h:SizeS s):F7 s.In s=some (s.In.any (BG s)):=by
  have hh:=h.ins
  unfold F7 K3
  refine Rb s.In (BG s) _ (by omega) (fun i x hx=> ?_) (by unfold H5;rw [K2];rfl)
  unfold H5 Eu
  rw [L5 (J4 hx),D1 hx,bE,lB,lB]
  have e:(((decide (x.Since<0)||decide (x.Since>s.Tick))||decide (x.Rank<0))||decide (x.Rank>100))=BG s x:=rfl
  rw [e]
  cases BG s x<;>rfl
theorem jL {s:State}(h:SizeS s):thenS (loop (Jh s) 0) (fun _=>some 0) (fun r=>some r)=some (if s.In.any (BG s)=true then 2 else 0):=by
  have hh:=h.ins
  rw [Ao s.In _ (fun _ x=>if BG s x=true then some 2 else none) (fun i x hx=> ?_) (by unfold Jh;rw [K2];rfl)]
  ·by_cases q:s.In.any (BG s)=true
   ·rw [bG q]
    cases hf:K1 (fun _ x=>if BG s x=true then some (2:Int)else none) 0 s.In with
    |some e=>
     have: ∀(l:List Stay) (i:Nat),K1 (fun _ x=>if BG s x=true then some (2:Int)else none) i l=some e→e=2:=by
       intro l
       induction l with
       |nil=>intro i h;cases h
       |cons a l ih=>
        intro i h
        unfold K1 at h
        by_cases z:BG s a=true
        ·rw [bG z]at h;cases h;rfl
        ·rw [bH z]at h;exact ih _ h
     rw [this _ _ hf];rfl
    |none=>
     obtain ⟨x,x1,x2⟩:=lY.1 q
     obtain ⟨j,hj⟩:=List.getElem?_of_mem x1
     have:=firstE_none.1 hf j x hj
     rw [bG x2]at this;cases this
   ·rw [bH q,firstE_none.2 fun j x hj=> ?_]
    ·rfl
    ·by_cases z:BG s x=true
     ·exact absurd (lY.2 ⟨x,lG hj,z⟩) q
     ·rw [bH z]
  ·unfold Jh
   rw [L5 (J4 hx),D1 hx,bE,lB]
   have e:(((decide (x.Since<0)||decide (x.Since>s.Tick))||decide (x.Rank<0))||decide (x.Rank>100))=BG s x:=rfl
   rw [e]
   by_cases z:BG s x=true
   ·rw [bG z,z];rfl
   ·rw [bH z,show BG s x=false by simpa using z,bF,I7 (J4 hx) (by omega)]
theorem jM {m:Map}(B:BearM m){s:State}(h:SizeS s)(hw: ∀g∈s.Agents,g.S≤9223372036854775807):Fk m s=some (QH m s)∧Tf m s=some (QH m s):=by
  obtain ⟨a1,a2⟩:=WH B h hw
  obtain ⟨i1,i2⟩:=jK m h
  unfold Fk Tf QH
  rw [Qx B,Xg B,lB,lB]
  by_cases q:Zn m=0
  case neg=>rw [bH q,show (Zn m !=0)=true by simpa using q];exact ⟨rfl,rfl⟩
  rw [bG q,q,show ((0:Int) !=0)=false from rfl,bF,bF]
  by_cases t:s.Tick<0∨s.Tick>1099511627776
  ·rw [bG t,show (decide (s.Tick<0)||decide (s.Tick>1099511627776))=true by simpa using t];exact ⟨rfl,rfl⟩
  rw [bH t,show (decide (s.Tick<0)||decide (s.Tick>1099511627776))=false by rw [bP];simpa using t,bF,bF]
  by_cases n0:s.Agents.length=0
  ·rw [bG n0,show (((s.Agents.length:Nat):Int)==0)=true by rw [n0];rfl];exact ⟨rfl,rfl⟩
  rw [bH n0,show (((s.Agents.length:Nat):Int)==0)=false by simpa using (show ((s.Agents.length:Nat):Int)≠0 by omega),bF,bF]
  by_cases n8:8<s.Agents.length
  ·rw [bG n8,bB (show (s.Agents.length:Int)>8 by omega)];exact ⟨rfl,rfl⟩
  rw [bH n8,bC (show ¬(s.Agents.length:Int)>8 by omega),bF,bF,a1,a2]
  cases K1 (fun i g=>if Gl m s (i:Int) g=0 then none else some (Gl m s (i:Int) g)) 0 s.Agents with
  |some e=>exact ⟨rfl,rfl⟩
  |none=>
   show thenS _ _ _=_∧thenS _ _ _=_
   rw [i1,i2]
   cases K1 (eI m s) 0 s.In with
   |some e=>exact ⟨rfl,rfl⟩
   |none=>
    refine ⟨?_,jL h⟩
    show (F7 s.In s).bind _=_
    rw [nK h,lB]
    cases s.In.any (BG s)<;>rfl
abbrev nL (g:Agent):Prop:=(∀x∈g.Route,Tp x)∧Tp g.S∧Tp g.V∧Tp g.Len∧Tp g.Begin∧True∧True
/-- A map of the kit. -/
structure KitM (m:Map):Prop extends BearK m where
  val:ValR m
theorem nM (n:Int): ∃m,EJ n=some m∧KitM m∧∃k p,k<8∧ParOK p∧m=JD k p:=by
  obtain ⟨k,p,hk,hp,hm⟩:=YX n
  exact ⟨_,hm,⟨⟨iX hp,(KX k p.r).1⟩,mX hk hp⟩,k,p,hk,hp,rfl⟩
theorem KitM.chk {m:Map}(K:KitM m):Zn m=0:=chkR_zero.2 K.val
/-- Who is there. -/
def Ca (s:State)(i:Int):Bool:=match B7 s.Agents i with
  |some g=> !g.Gone&&decide (g.Begin≤s.Tick)
  |none=>false
theorem RU {α:Type}{l:List α}{i:Int}(h: ¬(0≤i∧i<l.length)):B7 l i=none:=by
  unfold B7
  by_cases h0:0≤i
  ·rw [bG h0]
   exact List.getElem?_eq_none (by omega)
  ·rw [bH h0]
theorem Zr {α:Type}{l:List α}{i:Int}(h0:0≤i)(h1:i<l.length): ∃a,B7 l i=some a∧l[i.toNat]? =some a:=by
  have:l[i.toNat]? =some l[i.toNat]:=lH (by omega)
  exact ⟨_,by unfold B7;rw [bG h0];exact this,this⟩
theorem Xl (s:State)(i:Int):Ec s i=some (Ca s i)∧Nc s i=some (Ca s i):=by
  unfold Ec Nc Ca
  by_cases h:0≤i∧i<s.Agents.length
  ·obtain ⟨g,hg,_⟩:=Zr h.1 h.2
   rw [show (decide (i≥0)&&decide (i< (s.Agents.length:Int)))=true by simp only [bK,bD];exact h,bE,hg,lB,lB]
   simp only [bE,lB,bI]
   constructor
   ·cases g.Gone<;>simp
   ·by_cases q:g.Begin≤s.Tick<;>simp [q]
  ·rw [show (decide (i≥0)&&decide (i< (s.Agents.length:Int)))=false by rw [bP];simp only [ne_eq,bK,bD];exact h,RU h]
   exact ⟨rfl,rfl⟩
/-- What is known of an agent of a valid state. -/
structure AgentOK (m:Map)(s:State)(i:Int)(g:Agent):Prop where
  route: ∃a t,g.Route=a::t∧RouteOK m a t
  len:300≤g.Len∧g.Len≤20000
  begin:0≤g.Begin∧g.Begin≤1099511627776
  S:0≤g.S∧g.S≤LongM m g.Route+g.Len+2000
  V:0≤g.V∧g.V≤(jJ m g).1
  gone:g.Gone=LC m g
  late: ¬(g.Begin>s.Tick∧g.S≠0)
  first:i=0→g.Begin=0
theorem agentM_zero {m:Map}{s:State}{i:Int}{g:Agent}:Gl m s i g=0↔AgentOK m s i g:=by
  unfold Gl
  constructor
  ·intro h
   by_cases q:Q9 m g.Route=0
   ·rw [bG q]at h
    by_cases o:TN g=true∨g.S>LongM m g.Route+g.Len+2000
    ·rw [bG o]at h;cases h
    ·rw [bH o]at h
     by_cases v:g.V<0∨g.V>(jJ m g).1
     ·rw [bG v]at h;cases h
     ·rw [bH v]at h
      by_cases z:g.Gone≠LC m g∨(g.Begin>s.Tick∧g.S≠0)∨(i=0∧g.Begin≠0)
      ·rw [bG z]at h;cases h
      ·obtain ⟨o1,o2,o3,o4,o5⟩:=PD (g:=g) (by cases hq:TN g<;>simp_all)
       refine ⟨chkRoute_zero.1 q,⟨o1,o2⟩,⟨o3,o4⟩,⟨o5,?_⟩,?_,?_,fun h=>z (.inr (.inl h)),fun h=> ?_⟩
       ·exact Int.not_lt.1 fun h=>o (.inr h)
       ·omega
       ·exact Classical.byContradiction fun h=>z (.inl h)
       ·exact Classical.byContradiction fun h'=>z (.inr (.inr ⟨h,h'⟩))
   ·rw [bH q]at h;cases h
  ·intro A
   have l:=A.len;have b:=A.begin;have S:=A.S;have V:=A.V
   rw [bG (chkRoute_zero.2 A.route),bH,bH,bH]
   ·rintro (h|h|h)
    ·exact h A.gone
    ·exact A.late h
    ·exact h.2 (A.first h.1)
   ·omega
   ·rintro (h|h)
    ·unfold TN at h
     simp only [bL,bD]at h
     omega
    ·omega
structure StateOK (m:Map)(s:State):Prop where
  tick:0≤s.Tick∧s.Tick≤1099511627776
  num:0<s.Agents.length∧s.Agents.length≤8
  agent: ∀(i:Nat) g,s.Agents[i]? =some g→AgentOK m s (i:Int) g
  ins: ∀(i:Nat) x,s.In[i]? =some x→FQ m s x=false
  sorted: ∀(i:Nat) x y,s.In[i]? =some x→s.In[i+1]? =some y→Mk x y=true
  rank: ∀x∈s.In,BG s x=false
theorem eA {m:Map}(K:KitM m){s:State}:QH m s=0↔StateOK m s:=by
  unfold QH
  rw [bG K.chk]
  constructor
  ·intro h
   by_cases t:s.Tick<0∨s.Tick>1099511627776
   ·rw [bG t]at h;cases h
   rw [bH t]at h
   by_cases n0:s.Agents.length=0
   ·rw [bG n0]at h;cases h
   rw [bH n0]at h
   by_cases n8:8<s.Agents.length
   ·rw [bG n8]at h;cases h
   rw [bH n8]at h
   cases ha:K1 (fun i g=>if Gl m s (i:Int) g=0 then none else some (Gl m s (i:Int) g)) 0 s.Agents with
   |some e=>
    rw [ha]at h
    have: ∀(l:List Agent) (i:Nat),K1 (fun i g=>if Gl m s (i:Int) g=0 then none else some (Gl m s (i:Int) g)) i l=some e→e≠0:=by
      intro l
      induction l with
      |nil=>intro i h;cases h
      |cons a l ih=>
       intro i h
       unfold K1 at h
       by_cases z:Gl m s (i:Int) a=0
       ·rw [bG z]at h;exact ih _ h
       ·rw [bH z]at h;cases h;exact z
    exact absurd h (this _ _ ha)
   |none=>
    rw [ha]at h
    cases hi:K1 (eI m s) 0 s.In with
    |some e=>
     rw [hi]at h
     have: ∀(l:List Stay) (i:Nat),K1 (eI m s) i l=some e→e≠0:=by
       intro l
       induction l with
       |nil=>intro i h;cases h
       |cons a l ih=>
        intro i h
        unfold K1 at h
        cases z:eI m s i a with
        |none=>rw [z]at h;exact ih _ h
        |some e'=>
         rw [z]at h;cases h
         unfold eI at z
         split at z
         ·cases z;decide
         ·cases z
     exact absurd h (this _ _ hi)
    |none=>
     rw [hi]at h
     have ha':=firstE_none.1 ha
     have hi':=firstE_none.1 hi
     simp only [bZ]at ha' hi'
     have hin: ∀(i:Nat) x,s.In[i]? =some x→¬(FQ m s x=true∨(0<i∧∃y,s.In[i - 1]? =some y∧Mk y x=false)):=by
       intro i x hx q
       have:=hi' i x hx
       unfold eI at this
       rw [bG q]at this;cases this
     have hr:s.In.any (BG s)=false:=by
       cases q:s.In.any (BG s)with
       |false=>rfl
       |true=>rw [q]at h;cases h
     refine ⟨by omega,by omega,fun i g hg=>agentM_zero.1 ?_,fun i x hx=> ?_,fun i x y hx hy=> ?_,fun x hx=> ?_⟩
     ·have:=ha' i g hg
      by_cases z:Gl m s (i:Int) g=0
      ·exact z
      ·rw [bH z]at this;cases this
     ·have:=hin i x hx
      cases q:FQ m s x with
      |false=>rfl
      |true=>exact absurd (.inl q) this
     ·have:=hin (i+1) y hy
      cases q:Mk x y with
      |true=>rfl
      |false=>exact absurd (.inr ⟨by omega,x,hx,q⟩) this
     ·have:=List.any_eq_false.1 hr x hx
      simpa using this
  ·intro O
   have t:=O.tick;have n:=O.num
   rw [bH (by omega),bH (by omega),bH (by omega)]
   rw [firstE_none.2 fun i g hg=>by rw [bZ,bG (agentM_zero.2 (O.agent i g hg))]]
   rw [firstE_none.2 fun i x hx=> ?_]
   ·dsimp only
    rw [bH]
    intro h
    obtain ⟨x,x1,x2⟩:=lY.1 h
    rw [O.rank x x1]at x2;cases x2
   ·rw [bZ]
    unfold eI
    rw [bH]
    rintro (h|⟨h0,y,y1,y2⟩)
    ·rw [O.ins i x hx]at h;cases h
    ·have:=O.sorted (i - 1) y x y1 (by rw [show i - 1+1=i by omega];exact hx)
     rw [this]at y2;cases y2
theorem AgentOK.bd {m:Map}{s:State}{i:Int}{g:Agent}(A:AgentOK m s i g):1000≤LongM m g.Route∧LongM m g.Route≤134217728:=by
  obtain ⟨a,t,h,R⟩:=A.route
  rw [h];exact WE R
def FR (g:Agent):Bool:=(((decide (g.S≥0))&& (decide (g.S≤1099511627776)))&& (decide (g.Len≥0)))&& (decide (g.Len≤1099511627776))
noncomputable def Oc (m:Map)(r:List Int):List Pass:=(Ai m r).getD []
theorem eB {m:Map}(B:BearK m)(r:List Int)(hr:r.length≤1000000):Ai m r=some (Oc m r)∧Hp m r=some (Oc m r)∧(Oc m r).length≤16:=by
  obtain ⟨ps,h1,h2,h3⟩:=ZE B r hr
  unfold Oc
  rw [h1,h2]
  exact ⟨rfl,rfl,h3⟩
def Yx (g g':Agent)(z:Int)(p:Pass):Bool:=((p.Zone_==z)&&decide (p.From≤g'.S))&&decide (C5 (g.S - g.Len)≤p.To)
/-- Whether an agent is present in a zone during a tick. -/
noncomputable def Lh (m:Map)(g g':Agent)(z:Int):Bool:=(FR g&&FR g')&& (Oc m g.Route).any (Yx g g' z)
theorem BH {m:Map}(B:BearK m){g g':Agent}(hr:g.Route.length≤1000)(z:Int):Fl m g g' z=some (Lh m g g' z)∧Ih m g g' z=some (Lh m g g' z):=by
  obtain ⟨p1,p2,p3⟩:=eB B g.Route (by omega)
  have s1: ∀g,Ib g=some (FR g):=fun _=>rfl
  have s2: ∀g,Pf g=some (FR g):=fun _=>rfl
  have hc:G4 (Oc m g.Route) z ⟨C5 (g.S - g.Len),g'.S⟩=some ((Oc m g.Route).any (Yx g g' z)):=by
    unfold G4 J2
    refine Rb _ (Yx g g' z) _ (by omega) (fun i x hx=> ?_) (by unfold G3;rw [K2];rfl)
    unfold G3 Bh
    rw [L5 (J4 hx),D1 hx,bE,lB,lB]
    show cond (Yx g g' z x) _ _=_
    cases Yx g g' z x<;>rfl
  have hd:thenS (loop (Ft g g' z (Oc m g.Route)) 0) (fun _=>some false) (fun r=>some r)=some ((Oc m g.Route).any (Yx g g' z)):=by
    rw [OY (Oc m g.Route) (Yx g g' z) true (fun i x hx=> ?_) (by unfold Ft;rw [K2];rfl)]
    ·cases (Oc m g.Route).any (Yx g g' z)<;>rfl
    ·unfold Ft Yx
     rw [L5 (J4 hx),D1 hx,bE,lB,I7 (J4 hx) (by omega)]
     by_cases q1:x.Zone_=z
     ·rw [show (x.Zone_==z)=true by simpa using q1,bE,lB,bI]
      by_cases q2:C5 (g.S - g.Len)≤x.To
      ·rw [bB q2,bE,lB,bI,Bool.and_true]
       by_cases q3:x.From≤g'.S
       ·rw [bB (show g'.S≥x.From from q3)];rfl
       ·rw [bC (show ¬g'.S≥x.From from q3)];rfl
      ·rw [bC q2,Bool.and_false];rfl
     ·rw [show (x.Zone_==z)=false by simpa using q1];rfl
  unfold Fl Ih Lh
  rw [s1,s2,lB,lB]
  cases hs:FR g
  ·exact ⟨rfl,rfl⟩
  ·rw [bM,bN,bE,bE,s1,s2,lB,lB]
   cases hs':FR g'
   ·exact ⟨rfl,rfl⟩
   ·simp only [bM,Bool.or_self,bF,bI]
    constructor
    ·show (Bx g).bind _=_
     unfold Bx
     rw [lB,p1,lB,hc];rfl
    ·show (Hp m g.Route).bind _=_
     rw [p2,lB,hd]
/-! ### The entry, and the rank -/
theorem aR {α:Type}{P:α→Bool}{l:List α}(h:0≤KD P l): ∃x,l[(KD P l).toNat]? =some x∧P x=true∧l.find? P=some x:=by
  unfold KD at h ⊢
  cases hq:l.findIdx? P with
  |none=>rw [hq]at h;exact absurd h (by simp)
  |some i=>
   obtain ⟨h1,h2,h3⟩:=List.findIdx?_eq_some_iff_getElem.1 hq
   refine ⟨l[i],by rw [bU];exact lH h1,h2,?_⟩
   exact List.find?_eq_some_iff_getElem.2 ⟨h2,i,h1,rfl,fun j hj=>by simpa using h3 j hj⟩
theorem eC {m:Map}{r:List Int}{z:Int}(h:0≤Gv m r z): ∃zn l,0≤z∧m.Zones[z.toNat]? =some zn∧Q9 m r=0∧r[(Gv m r z).toNat]? =some l∧(Qy zn l).2=true:=by
  unfold Gv at h ⊢
  cases hz:m.Zones[z.toNat]? with
  |none=>rw [hz]at h;exact absurd h (by simp)
  |some zn=>
   rw [hz]at h
   dsimp only at h ⊢
   by_cases q:0≤z∧Q9 m r=0
   ·rw [bG q]at h ⊢
    obtain ⟨l,h1,h2,_⟩:=aR h
    exact ⟨zn,l,q.1,rfl,q.2,h1,h2⟩
   ·rw [bH q]at h;exact absurd h (by simp)
/-- The lane on which a route enters a zone; -1 if it does not. -/
noncomputable def Pl (m:Map)(r:List Int)(z:Int):Int:=if 0≤Gv m r z then r.getD (Gv m r z).toNat 0 else -1
theorem JH {m:Map}{r:List Int}{z:Int}(h:0≤Gv m r z): ∃zn,0≤z∧m.Zones[z.toNat]? =some zn∧r[(Gv m r z).toNat]? =some (Pl m r z)∧(Qy zn (Pl m r z)).2=true∧0≤Pl m r z:=by
  obtain ⟨zn,l,h0,h1,h2,h3,h4⟩:=eC h
  have e:Pl m r z=l:=by unfold Pl;rw [bG h,List.getD,h3];rfl
  obtain ⟨a,t,rfl,R⟩:=chkRoute_zero.1 h2
  have:=R.mem (lG h3)
  rw [e]
  exact ⟨zn,h0,h1,h3,h4,this.1⟩
theorem KI {m:Map}(B:BearM m){r:List Int}(hr:r.length≤1000000)(z:Int):Fm m r z=some (Pl m r z):=by
  unfold Fm
  rw [jC B r hr,lB]
  by_cases q:0≤Gv m r z
  ·obtain ⟨zn,_,_,h3,_⟩:=JH q
   have hg:=D1 h3
   rw [bV q]at hg
   rw [bB (show Gv m r z≥0 from q),bE,hg];rfl
  ·rw [bC (show ¬Gv m r z≥0 from q)]
   unfold Pl;rw [bH q];rfl
/-- The rank of an agent in a zone. -/
noncomputable def WJ (m:Map)(r:List Int)(z tick:Int):Int:=
  if 0≤Gv m r z then
   match m.Zones[z.toNat]? with
   |some zn=>if zn.Signal_>0 then (if KF m (zn.Signal_ - 1) (Pl m r z) tick=true then 2 else 0)else (Qy zn (Pl m r z)).1.Rank
   |none=>0
  else 0
theorem aS {m:Map}(K:KitM m){g:Agent}(hr:g.Route.length≤1000)(z tick:Int):Ic m g z tick=some (WJ m g.Route z tick)∧Wi m g z tick=some (WJ m g.Route z tick):=by
  have B:=K.toBearM
  have hr':g.Route.length≤1000000:=by omega
  unfold Ic Wi WJ
  rw [KI B hr',KH B _ hr',lB,lB]
  by_cases q:0≤Gv m g.Route z
  case neg=>
    rw [bH q,bB (show Gv m g.Route z<0 by omega)]
    have:Pl m g.Route z= -1:=by unfold Pl;rw [bH q]
    rw [this]
    exact ⟨rfl,rfl⟩
  obtain ⟨zn,h0,h1,h3,h4,h5⟩:=JH q
  have hz:=D1 h1
  rw [bV h0]at hz
  have hg:=D1 h3
  rw [bV q]at hg
  have Z:=K.val.zoneOK (lG h1)
  have hS:=Z.sig
  have hsl:=K.val.signals
  have hp:=B.toBearZ.parts zn (lG h1)
  rw [bG q,h1,bC (show ¬Pl m g.Route z<0 by omega),bC (show ¬Gv m g.Route z<0 by omega),bF,bF,hz,lB,lB]
  dsimp only
  by_cases s:zn.Signal_>0
  ·rw [bG s,bB s,L6 (by omega),jD B,hg]
   simp only [lB,bE,dQ B,bI]
   cases KF m (zn.Signal_ - 1) (Pl m g.Route z) tick<;>exact ⟨rfl,rfl⟩
  ·rw [bH s,bC s,bF,bF,lB,bJ,bF]
   have hany:zn.Parts.any (fun p=>p.Lane_==Pl m g.Route z)=true:=by
     unfold Qy at h4
     cases hf:zn.Parts.find? (fun p=>p.Lane_==Pl m g.Route z)with
     |none=>rw [hf]at h4;cases h4
     |some p=>
      exact lY.2 ⟨p,List.mem_of_find?_eq_some hf,List.find?_some (p:=fun p:Part=>p.Lane_==Pl m g.Route z) hf⟩
   have hidx:0≤KD (fun p:Part=>p.Lane_==Pl m g.Route z) zn.Parts:=by
     have:=Zm (fun p:Part=>p.Lane_==Pl m g.Route z) zn.Parts
     rw [hany]at this
     simpa using this
   obtain ⟨p,p1,p2,p3⟩:=aR hidx
   have hpr:(Qy zn (Pl m g.Route z)).1.Rank=p.Rank:=by unfold Qy;rw [p3]
   constructor
   ·have e:J1 zn.Parts (Pl m g.Route z)=some (KD (fun p:Part=>p.Lane_==Pl m g.Route z) zn.Parts):=by
      unfold J1
      refine Xf zn.Parts (fun p:Part=>p.Lane_==Pl m g.Route z) (by omega) (fun i a h=> ?_) (by unfold I3;rw [K2];rfl)
      unfold I3 Gc
      rw [L5 (J4 h),D1 h,bE,lB,lB]
      cases a.Lane_==Pl m g.Route z<;>rfl
    have hgp:=D1 p1
    rw [bV hidx]at hgp
    rw [e,lB,hgp,lB,hpr]
   ·have key: ∀(l:List Part) (i:Nat),zn.Parts.drop i=l→i≤zn.Parts.length→thenS (loop (Ij g (Gv m g.Route z) zn) (i:Int)) (fun _=>some 0) (fun r=>some r)=some (match l.find? (fun p=>p.Lane_==Pl m g.Route z)with|some p=>p.Rank|none=>0):=by
      intro l
      induction l with
      |nil=>
       intro i hi hil
       have:=Q6 hi
       obtain rfl:i=zn.Parts.length:=by omega
       rw [D8 (t:= .inl ()) (by unfold Ij;rw [K2];rfl)];rfl
      |cons x l ih=>
       intro i hi hil
       have hx:=Bs hi
       have hlt:=O0 hi
       rw [List.find?_cons]
       cases hq:x.Lane_==Pl m g.Route z with
       |true=>
        rw [D8 (t:= .inr x.Rank) (by unfold Ij;rw [L5 hlt,D1 hx,bE,lB,hg,lB,hq,bE,lB])];rfl
       |false=>
        rw [L7 (s':=((i+1:Nat):Int)) (by unfold Ij;rw [L5 hlt,D1 hx,bE,lB,hg,lB,hq,bF,I7 hlt (by omega)])]
        exact ih (i+1) (L9 hi) hlt
    have:=key zn.Parts 0 rfl (bX _)
    rw [p3]at this
    rw [show ((0:Nat):Int)=0 from rfl]at this
    rw [bF,this,hpr]
/-! ### Stays -/
def PF (i z:Int)(x:Stay):Bool:=x.Agent_==i&&x.Zone_==z
def jN (l:List Stay):Prop:=l.Pairwise fun a b=>Mk a b=true
theorem WK {a b c:Stay}(h1:Mk a b=true)(h2:Mk b c=true):Mk a c=true:=by
  unfold Mk at*
  simp only [bL,bD,bK,bQ]at*
  omega
theorem nN (a b:Stay):decide (QG a b<0)=Mk a b:=by
  have:=WG a b
  have e:decide (QG a b<0)= !decide (QG a b≥0):=by
    by_cases h:QG a b<0
    ·rw [bB h,bC (by omega)];rfl
    ·rw [bC h,bB (by omega)];rfl
  rw [e,this,Bool.not_not]
theorem jO (a b:Stay):(QG a b==0)=PF b.Agent_ b.Zone_ a:=by
  unfold QG PF KG
  by_cases h1:a.Agent_<b.Agent_
  ·have:a.Agent_≠b.Agent_:=by omega
   simp [h1,this]
  ·by_cases h2:a.Agent_>b.Agent_
   ·have:a.Agent_≠b.Agent_:=by omega
    simp [h1,h2,this]
   ·have:a.Agent_=b.Agent_:=by omega
    by_cases h3:a.Zone_<b.Zone_
    ·have:a.Zone_≠b.Zone_:=by omega
     simp [h3,this, *]
    ·by_cases h4:a.Zone_>b.Zone_
     ·have:a.Zone_≠b.Zone_:=by omega
      simp [h3,h4,this, *]
     ·have:a.Zone_=b.Zone_:=by omega
      simp [this, *]
theorem nO {l:List Stay}(hl:l.length≤1000000)(hs:jN l)(y:Stay): ∃s:Nat,D0 l y=some ((s:Int),(l.find? (PF y.Agent_ y.Zone_)).isSome)∧∀x,l.find? (PF y.Agent_ y.Zone_)=some x→l[s]? =some x:=by
  have hget: ∀c,c<l.length→l[c]? =some (l.getD c default):=by
    intro c hc
    rw [List.getD,lH hc];rfl
  obtain ⟨s,h1,_,h3,h4,h5⟩:=mZ (F:=D4 l y) (fun c=>Mk (l.getD c default) y) 0 l.length (bX _) (fun a b _ hab hb=>by
    unfold D4
    dsimp only
    have hm:(a+b) / 2<l.length:=by omega
    rw [bB (show (a:Int)< (b:Int) by omega),bE,nE a b (by omega),D1 (hget _ hm),lB,PE,lB,nN]
    by_cases q:Mk (l.getD ((a+b) / 2) default) y=true
    ·rw [bG q,q,bE,I7 hm (by omega)]
    ·rw [bH q,show Mk (l.getD ((a+b) / 2) default) y=false by simpa using q];rfl) (fun a b hab=>by
    unfold D4
    dsimp only
    rw [bC (show ¬(a:Int)< (b:Int) by omega)];rfl) (fun c c' _ hcc hc' q=>by
    rcases Nat.lt_or_eq_of_le hcc with h|h
    ·have h1:=l8.1 hs c c' (by omega) hc' h
     have e1:=hget c (by omega);have e2:=hget c' hc'
     rw [lH (by omega)]at e1 e2
     rw [lD e1,lD e2]at h1
     exact WK h1 q
    ·subst h;exact q)
  have hmem: ∀x,l.find? (PF y.Agent_ y.Zone_)=some x→l[s]? =some x:=by
    intro x hx
    have k1:=List.find?_some hx
    have k2:=List.mem_of_find?_eq_some hx
    obtain ⟨j,hj⟩:=List.getElem?_of_mem k2
    have hjl:=J4 hj
    have e1:=hget j hjl
    rw [hj]at e1
    have ex:x=l.getD j default:=lD e1
    have nl:Mk x y=false:=by
      unfold PF at k1;unfold Mk
      simp only [bK,bQ]at k1
      rw [bP]
      simp only [ne_eq,bL,bD,bK,bQ]
      omega
    have hsj:s≤j:=by
      refine Nat.not_lt.1 fun h=> ?_
      have:=h4 j (bX _) h
      rw [← ex,nl]at this;cases this
    rcases Nat.lt_or_eq_of_le hsj with h|h
    ·exfalso
     have h6:=h5 s (bW _) (by omega)
     have h7:=l8.1 hs s j (by omega) hjl h
     have e2:=hget s (by omega)
     rw [lH (by omega)]at e2
     have e3:=hj
     rw [lH hjl]at e3
     rw [lD e2,lD e3]at h7
     unfold PF at k1;unfold Mk at h6 h7
     simp only [bK,bQ]at k1
     rw [bP]at h6
     simp only [ne_eq,bL,bD,bK,bQ]at h6 h7
     omega
    ·subst h;exact hj
  refine ⟨s,?_,hmem⟩
  have h1':loop (D4 l y) (0,(l.length:Int))=some (s:Int):=h1
  unfold D0
  rw [h1',lB]
  by_cases hlt:s<l.length
  ·have e:=hget s hlt
   rw [L5 hlt,bE,D1 e,lB,bE,PE,lB,jO,bI]
   congr 2
   cases hf:l.find? (PF y.Agent_ y.Zone_)with
   |some x=>
    have:=hmem x hf
    rw [e]at this
    rw [lD this,List.find?_some hf];rfl
   |none=>
    have:=List.find?_eq_none.1 hf (l.getD s default) (lG e)
    simpa using this
  ·rw [show decide ((s:Int)< (l.length:Int))=false from bC (by omega),bF,lB,bF,lB,bJ]
   congr 2
   cases hf:l.find? (PF y.Agent_ y.Zone_)with
   |some x=>have:=J4 (hmem x hf);omega
   |none=>rfl
theorem jP {S α β τ:Type}{F:S→Option (Stp S τ)}(pk:Nat→List β→S)(l:List α)(g:Nat→α→Option β)(fin:List β→τ)(s0:List β)(B:Nat){S0:S}(hS:pk 0 s0=S0)(hB:s0.length+l.length≤B)
    (hF: ∀(i:Nat) a (s:List β),l[i]? =some a→s.length+1≤B→F (pk i s)=some (.go (pk (i+1) (match g i a with|some b=>s++ [b]|none=>s))))
    (h0: ∀s,F (pk l.length s)=some (.out (fin s))):loop F S0=some (fin (s0++Jx g 0 l)):=by
  have:=iO (F:=F) pk l (fun i s=>s.length≤s0.length+i) (fun i s a=>match g i a with|some b=>s++ [b]|none=>s) fin (s0:=s0) (S0:=S0) hS (by simp) (fun i a s h hs=>hF i a s h (by have:=(lI.1 h).1;omega)) (fun i a s _ hs=>by
    cases g i a<;>simp<;>omega) (fun s _=>h0 s)
  exact this.trans (congrArg (fun x=>some (fin x)) (GW g l 0 s0))
theorem jQ {S α β τ:Type}{F:S→Option (Stp S τ)}(pk:Nat→List β→S)(l:List α)(g:Nat→α→List β)(fin:List β→τ)(s0:List β)(C B:Nat){S0:S}(hS:pk 0 s0=S0)(hB:s0.length+l.length*C≤B)(hC: ∀(i:Nat) a,l[i]? =some a→(g i a).length≤C)
    (hF: ∀(i:Nat) a (s:List β),l[i]? =some a→s.length+C≤B→F (pk i s)=some (.go (pk (i+1) (s++g i a))))
    (h0: ∀s,F (pk l.length s)=some (.out (fin s))):loop F S0=some (fin (s0++JF g 0 l)):=by
  have key: ∀(r:List α) (i:Nat) (s:List β),JB (fun i s a=>s++g i a) i s r=s++JF g i r:=by
    intro r
    induction r with
    |nil=>intro i s;simp [JB,JF]
    |cons a r ih=>intro i s;simp [JB,JF,ih]
  have:=iO (F:=F) pk l (fun i s=>s.length≤s0.length+i*C) (fun i s a=>s++g i a) fin (s0:=s0) (S0:=S0) hS (by simp) (fun i a s h hs=>hF i a s h (by
    have h1:=(lI.1 h).1
    have h2:(i+1)*C≤l.length*C:=Nat.mul_le_mul_right C h1
    rw [bY,Nat.one_mul]at h2;omega)) (fun i a s h hs=>by
    have h3:=hC i a h
    rw [lL,bY,Nat.one_mul];omega) (fun s _=>h0 s)
  exact this.trans (congrArg (fun x=>some (fin x)) (key l 0 s0))
/-- Present at both ends of a tick. -/
noncomputable def BU (m:Map)(s:State)(A:List Agent)(i z:Int):Bool:=Ca s i&& (match B7 s.Agents i,B7 A i with
  |some g,some g'=>Lh m g g' z
  |_,_=>false)
theorem HA {s:State}{i:Int}(h:Ca s i=true): ∃g,B7 s.Agents i=some g∧s.Agents[i.toNat]? =some g∧0≤i∧i<s.Agents.length∧g.Gone=false∧g.Begin≤s.Tick:=by
  unfold Ca at h
  by_cases q:0≤i∧i<s.Agents.length
  ·obtain ⟨g,h1,h2⟩:=Zr q.1 q.2
   rw [h1]at h
   dsimp only at h
   rw [bK,bD]at h
   exact ⟨g,h1,h2,q.1,q.2,by simpa using h.1,h.2⟩
  ·rw [RU q]at h;cases h
theorem DW {m:Map}(B:BearK m){s:State}(S:SizeS s){sc:WorldScene}{A:List Agent}(hm:sc.m=m)(hb:sc.before=s)(ha:sc.after.Agents=A)(hl:A.length=s.Agents.length)(i z:Int):N9 sc i z=some (BU m s A i z):=by
  unfold N9 BU
  rw [hm,hb,ha,(Xl s i).1,lB]
  cases h:Ca s i
  ·rfl
  ·obtain ⟨g,h1,h2,h3,h4,_⟩:=HA h
   obtain ⟨g',h5,_⟩:=Zr (l:=A) h3 (by omega)
   rw [h1,h5]
   simp only [bE,lB,bI]
   rw [(BH B (S.routes g (lG h2)) z).1];rfl
/-- The stay of who is present. -/
noncomputable def rB (m:Map)(s:State)(i z:Int):Stay:=match s.In.find? (PF i z)with
  |some x=>x
  |none=>⟨i,z,s.Tick,match B7 s.Agents i with|some g=>WJ m g.Route z s.Tick|none=>0⟩
noncomputable def RW (m:Map)(s:State)(A:List Agent)(i:Nat)(z:Nat)(_:Zone):Option Stay:=if BU m s A i z=true then some (rB m s i z)else none
noncomputable def DX (m:Map)(s:State)(A:List Agent)(i:Nat)(_:Agent):List Stay:=Jx (RW m s A i) 0 m.Zones
/-- The stays after a tick. -/
noncomputable def BI (m:Map)(s:State)(A:List Agent):List Stay:=JF (DX m s A) 0 s.Agents
theorem HB (m:Map)(s:State)(A:List Agent)(i:Nat)(a:Agent):(DX m s A i a).length≤m.Zones.length:=KE _ _ _
theorem Zp {α β:Type}{g:Nat→α→Option β}{b:β}: ∀(l:List α) (k:Nat),b∈Jx g k l↔∃(i:Nat) (a:α),l[i]? =some a∧g (k+i) a=some b
  | [],k=>by simp [Jx]
  |a::r,k=>by
   have ih:=Zp (g:=g) (b:=b) r (k+1)
   have e:(∃(i:Nat) (a':α),(a::r)[i]? =some a'∧g (k+i) a'=some b)↔g k a=some b∨∃(i:Nat) (a':α),r[i]? =some a'∧g (k+1+i) a'=some b:=by
     constructor
     ·rintro ⟨i,a',h1,h2⟩
      cases i with
      |zero=>simp at h1;subst h1;exact .inl h2
      |succ i=>exact .inr ⟨i,a',by simpa using h1,by rw [show k+1+i=k+ (i+1) by omega];exact h2⟩
     ·rintro (h|⟨i,a',h1,h2⟩)
      ·exact ⟨0,a,rfl,h⟩
      ·exact ⟨i+1,a',by simpa using h1,by rw [show k+ (i+1)=k+1+i by omega];exact h2⟩
   rw [e,Jx]
   cases hg:g k a with
   |none=>simp [ih]
   |some c=>simp [ih,eq_comm]
theorem RX (m:Map)(s:State)(A:List Agent):(BI m s A).length≤s.Agents.length*m.Zones.length:=RL _ _ _ _ fun _ _ _=>HB _ _ _ _ _
/-- The program's choice of a stay. -/
theorem eD {m:Map}(K:KitM m){s:State}(S:SizeS s)(hs:jN s.In){i z:Int}{g:Agent}(hg:B7 s.Agents i=some g)(hr:g.Route.length≤1000):
    ∃v8,D0 s.In (Stay.mk i z s.Tick 0)=some v8∧cond v8.2 ((B7 s.In v8.1).bind fun v9=>some v9) ((Ic m g z s.Tick).bind fun v10=>some (Stay.mk i z s.Tick v10))=some (rB m s i z):=by
  obtain ⟨k,h1,h2⟩:=nO S.ins hs (Stay.mk i z s.Tick 0)
  refine ⟨_,h1,?_⟩
  unfold rB
  dsimp only at h2 ⊢
  cases hf:s.In.find? (PF i z)with
  |some x=>rw [D1 (h2 x hf)];rfl
  |none=>rw [(aS K hr z s.Tick).1,hg];rfl
theorem ZH {m:Map}{s:State}{A:List Agent}{i:Nat}(h:Ca s i=false)(a:Agent):DX m s A i a= []:=by
  apply List.eq_nil_iff_forall_not_mem.2
  intro x hx
  unfold DX at hx
  obtain ⟨z,zn,_,h2⟩:=(Zp _ _).1 hx
  unfold RW BU at h2
  rw [h,bJ,bH (by simp)]at h2
  cases h2
theorem ZI {m:Map}(B:BearK m){r:List Int}(hr:r.length≤1000000){p:Pass}(hp:p∈Oc m r):0≤Gv m r p.Zone_:=by
  unfold Oc at hp
  by_cases q:Q9 m r=0
  ·obtain ⟨a,t,rfl,R⟩:=chkRoute_zero.1 q
   obtain ⟨ps,p1,p2,_⟩:=RO B R
   rw [p1]at hp
   obtain ⟨i,lane,j,z,k,pt,h1,h2,h3,h4,rfl⟩:=EP m (a::t) 0 p (p2.mem_iff.1 hp)
   unfold Gv
   dsimp only
   rw [bU,h2]
   dsimp only
   rw [bG ⟨by omega,q⟩]
   have hz:(Qy z lane).2=true:=by
     unfold Qy
     cases hf:z.Parts.find? (fun p=>p.Lane_==lane)with
     |some _=>rfl
     |none=>
      have:=List.find?_eq_none.1 hf pt (lG h3)
      exact absurd (by simpa using h4) this
   have h5:=Zm (fun l=>(Qy z l).2) (a::t)
   rw [show ((a::t).any fun l=>(Qy z l).2)=true from lY.2 ⟨lane,lG h1,hz⟩]at h5
   exact of_decide_eq_true h5
  ·have h1:loop (P0 m (Dc m r)) ([],0)=some []:=by
     refine D8 ?_
     unfold P0
     rw [Xj q];rfl
   have:Ai m r=some []:=by
     unfold Ai
     rw [Vn B.toBearM r hr,lB,h1,lB,GZ];rfl
   rw [this]at hp
   cases hp
theorem FS {m:Map}(B:BearK m){g g':Agent}(hr:g.Route.length≤1000){z:Int}(h:Lh m g g' z=true):0≤Gv m g.Route z:=by
  unfold Lh at h
  rw [bK]at h
  obtain ⟨p,h1,h2⟩:=lY.1 h.2
  unfold Yx at h2
  simp only [bK,bQ]at h2
  rw [← h2.1.1]
  exact ZI B (by omega) h1
/-! ### Along a lane -/
/-- Two agents in a tick: what is known of them. -/
structure Two (m:Map)(s:State)(A:List Agent)(i j:Int)(gi gj gi' gj':Agent):Prop where
  hi:B7 s.Agents i=some gi
  hj:B7 s.Agents j=some gj
  hi':B7 A i=some gi'
  hj':B7 A j=some gj'
  ti:Ca s i=true
  tj:Ca s j=true
  ri:gi.Route.length≤1000
  rj:gj.Route.length≤1000
  oi: ∃a t,gi.Route=a::t∧RouteOK m a t
  oj: ∃a t,gj.Route=a::t∧RouteOK m a t
noncomputable def Uq (m:Map)(s:State)(A:List Agent)(i j:Int)(gi gj:Agent)(z:Int):Bool:=(BU m s A i z&&BU m s A j z)&& (Pl m gi.Route z !=Pl m gj.Route z)
theorem eE {m:Map}(B:BearK m){s:State}(S:SizeS s){sc:WorldScene}{A:List Agent}(hm:sc.m=m)(hb:sc.before=s)(ha:sc.after.Agents=A)(hl:A.length=s.Agents.length){i j:Int}{gi gj:Agent}(hi:B7 s.Agents i=some gi)(hj:B7 s.Agents j=some gj)(hri:gi.Route.length≤1000)(hrj:gj.Route.length≤1000)(z:Int):
    W2 sc i j z=some (Uq m s A i j gi gj z):=by
  unfold W2 Uq
  rw [DW B S hm hb ha hl,DW B S hm hb ha hl,hm,hb,lB,hi,hj]
  cases BU m s A i z
  ·rfl
  ·simp only [bE,lB,bI]
   cases BU m s A j z
   ·rfl
   ·simp only [bE,lB,KI B.toBearM (show gi.Route.length≤1000000 by omega),KI B.toBearM (show gj.Route.length≤1000000 by omega)]
noncomputable def Yy (m:Map)(s:State)(A:List Agent)(i j:Int)(gi gj:Agent):List Int:=Jx (fun z (_:Zone)=>if Uq m s A i j gi gj z=true then some (z:Int)else none) 0 m.Zones
theorem eF {m:Map}(B:BearK m){s s':State}{A:List Agent}(hA:s'.Agents=A){i j:Int}{gi gj gi' gj':Agent}(T:Two m s A i j gi gj gi' gj'):Ti m s s' i j=some (Yy m s A i j gi gj):=by
  have h2:=B.zones2
  have e:loop (Jk m s s' i j) ([],0)=some (Yy m s A i j gi gj):=by
    refine OX m.Zones (fun z (_:Zone)=>if Uq m s A i j gi gj z=true then some (z:Int)else none) id (fun z zn l hz hb=> ?_) (fun l=> ?_)
    ·have ec:Uq m s A i j gi gj (z:Int)=((Lh m gi gi' (z:Int)&&Lh m gj gj' (z:Int))&& (Pl m gi.Route (z:Int) !=Pl m gj.Route (z:Int))):=by
       unfold Uq BU
       rw [T.hi,T.hj,T.hi',T.hj',T.ti,T.tj,bI,bI]
     have hno:Uq m s A i j gi gj (z:Int)=false→(if Uq m s A i j gi gj (z:Int)=true then some (z:Int)else none)=none:=fun h=>bH (by rw [h];simp)
     unfold Jk
     dsimp only
     rw [L5 (J4 hz),bE,hA,T.hi,lB,T.hj,lB,T.hi',lB,(BH B T.ri z).2,lB,I7 (J4 hz) (by omega),T.hj']
     cases h1:Lh m gi gi' (z:Int)
     ·rw [hno (by rw [ec,h1];rfl)];rfl
     ·simp only [bM,bN,bE,bF,lB,bO,bI]
      rw [(BH B T.rj z).2,lB]
      cases h3:Lh m gj gj' (z:Int)
      ·rw [hno (by rw [ec,h1,h3];rfl)];rfl
      ·have q1:=FS B T.ri h1
       have q2:=FS B T.rj h3
       obtain ⟨_,_,_,g1,_⟩:=JH q1
       obtain ⟨_,_,_,g2,_⟩:=JH q2
       have g1:=D1 g1
       have g2:=D1 g2
       rw [bV q1]at g1
       rw [bV q2]at g2
       rw [bM,bF,KH B.toBearM _ (by have:=T.ri;omega),lB,g1,lB,KH B.toBearM _ (by have:=T.rj;omega),lB,g2,lB]
       cases e:(Pl m gi.Route (z:Int) !=Pl m gj.Route (z:Int))
       ·rw [hno (by rw [ec,h1,h3,e];rfl)];rfl
       ·rw [bG (show Uq m s A i j gi gj (z:Int)=true by rw [ec,h1,h3,e];rfl),bE,Bo,bG (by have:=J4 hz;simp;omega)];rfl
    ·unfold Jk
     dsimp only
     rw [K2];rfl
  unfold Ti
  rw [e];rfl
theorem jR {m:Map}{s:State}(O: ∀g∈s.Agents,∃a t,g.Route=a::t∧RouteOK m a t)(S:SizeS s){A:List Agent}(hA:A.length=s.Agents.length){i j:Int}(hi:Ca s i=true)(hj:Ca s j=true): ∃gi gj gi' gj',Two m s A i j gi gj gi' gj':=by
  obtain ⟨gi,a1,a2,a3,a4,_⟩:=HA hi
  obtain ⟨gj,b1,b2,b3,b4,_⟩:=HA hj
  obtain ⟨gi',c1,_⟩:=Zr (l:=A) a3 (by omega)
  obtain ⟨gj',d1,_⟩:=Zr (l:=A) b3 (by omega)
  have mi:=lG a2
  have mj:=lG b2
  exact ⟨gi,gj,gi',gj',a1,b1,c1,d1,hi,hj,S.routes gi mi,S.routes gj mj,O gi mi,O gj mj⟩
def EV (s:State)(i:Nat):Nat→Nat→List (Int×Int)
  |0,_=> []
  |k+1,j=>cond (Ca s i&&Ca s j) (((i:Int),(j:Int))::EV s i k (j+1)) (EV s i k (j+1))
def Ux (s:State)(n:Nat):Nat→Nat→List (Int×Int)
  |0,_=> []
  |k+1,i=>EV s i (n - (i+1)) (i+1)++Ux s n k (i+1)
theorem RY (s:State)(i:Nat): ∀k j,Yk s i k j=some (EV s i k j)
  |0,_=>rfl
  |k+1,j=>by rw [Yk,(Xl s i).1,lB,(Xl s j).1,lB,RY s i k (j+1)];rfl
theorem RZ (s:State)(n:Nat): ∀k i,AM s n k i=some (Ux s n k i)
  |0,_=>rfl
  |k+1,i=>by rw [AM,RY,lB,RZ s n k (i+1)];rfl
theorem eG {s:State}(S:SizeS s):AN s=some (Ux s s.Agents.length s.Agents.length 0):=by
  have:=S.agents
  unfold AN
  rw [bG (by omega),RZ]
theorem PG {s:State}{i:Nat}{p:Int×Int}: ∀{k j},p∈EV s i k j→p.1=i∧Ca s i=true∧Ca s p.2=true∧∃j':Nat,p.2=j'∧j≤j'∧j'<j+k
  |0,_,h=>by simp [EV]at h
  |k+1,j,h=>by
   rw [EV]at h
   cases hc:(Ca s i&&Ca s j)
   ·rw [hc,bF]at h
    obtain ⟨h1,h2,h3,j',h4,h5,h6⟩:=PG h
    exact ⟨h1,h2,h3,j',h4,by omega,by omega⟩
   ·rw [hc,bE]at h
    rw [bK]at hc
    rcases lT.1 h with rfl|h
    ·exact ⟨rfl,hc.1,hc.2,j,rfl,by omega,by omega⟩
    ·obtain ⟨h1,h2,h3,j',h4,h5,h6⟩:=PG h
     exact ⟨h1,h2,h3,j',h4,by omega,by omega⟩
theorem SA {s:State}{n:Nat}{p:Int×Int}: ∀{k i},p∈Ux s n k i→∃a b:Nat,p=((a:Int),(b:Int))∧i≤a∧a<b∧b<n∧Ca s a=true∧Ca s b=true
  |0,_,h=>by simp [Ux]at h
  |k+1,i,h=>by
   rw [Ux]at h
   rcases lS.1 h with h|h
   ·obtain ⟨h1,h2,h3,j',h4,h5,h6⟩:=PG h
    obtain ⟨x,y⟩:=p
    dsimp only at h1 h3 h4
    subst h1 h4
    exact ⟨i,j',rfl,by omega,by omega,by omega,h2,h3⟩
   ·obtain ⟨a,b,h1,h2,h3⟩:=SA h
    exact ⟨a,b,h1,by omega,h3⟩
noncomputable def DY (m:Map)(g:Agent)(i:Nat)(st:Int):Option Span:=
  if max 0 (C5 (C5 (g.S - g.Len) - st))≤min (C5 (g.S - st)) (Ye m (g.Route.getD i 0))then some ⟨g.Route.getD i 0,max 0 (C5 (C5 (g.S - g.Len) - st)),min (C5 (g.S - st)) (Ye m (g.Route.getD i 0))⟩else none
/-- The spans of lanes that an agent covers. -/
noncomputable def Gs (m:Map)(g:Agent):List Span:=if FR g=true then Jx (DY m g) 0 (StartsM m g.Route)else []
theorem PH {m:Map}(r:List Int):(StartsM m r).length≤r.length:=by
  unfold StartsM Dc
  split
  ·dsimp only;rw [Tm];exact bW _
  ·simp
theorem aT {m:Map}(B:BearM m){g:Agent}(hr:g.Route.length≤1000):Kh m g=some (Gs m g)∧Rv m g=some (Gs m g):=by
  have s1:Ib g=some (FR g):=rfl
  have s2:Pf g=some (FR g):=rfl
  have hsl:=PH (m:=m) g.Route
  have hrt: ∀(i:Nat) st,(StartsM m g.Route)[i]? =some st→B7 g.Route (i:Int)=some (g.Route.getD i 0):=fun i st h=>by
    have:=J4 h
    apply D1
    rw [List.getD,lH (by omega)];rfl
  have e1:loop (Dz m g (StartsM m g.Route)) ([],0)=some (Jx (DY m g) 0 (StartsM m g.Route)):=by
    refine OX (StartsM m g.Route) (DY m g) id (fun i st l h hl=> ?_) (fun l=> ?_)
    ·have hi:=J4 h
     unfold Dz DY
     dsimp only
     rw [L5 hi,bE,D1 h,lB,hrt i st h,I7 hi (by omega)]
     simp only [lB,Bx,Az,Cv,Be,LZ B,MD,ME]
     rw [Int.max_comm 0]
     by_cases q:max (C5 (C5 (g.S - g.Len) - st)) 0≤min (C5 (g.S - st)) (Ye m (g.Route.getD i 0))
     ·rw [bG q,bC (by omega),bN,bE,Bo,bG (by simp;omega)];rfl
     ·rw [bH q,bB (by omega)];rfl
    ·unfold Dz
     dsimp only
     rw [K2];rfl
  have e2:loop (Lq m g (StartsM m g.Route)) ([],0)=some (Jx (DY m g) 0 (StartsM m g.Route)):=by
    refine OX (StartsM m g.Route) (DY m g) id (fun i st l h hl=> ?_) (fun l=> ?_)
    ·have hi:=J4 h
     unfold Lq DY
     dsimp only
     rw [L5 hi,bE,D1 h,lB,lB,hrt i st h,I7 hi (by omega)]
     simp only [lB,MA B,MD,ME]
     by_cases q:max 0 (C5 (C5 (g.S - g.Len) - st))≤min (C5 (g.S - st)) (Ye m (g.Route.getD i 0))
     ·rw [bG q,bB q,bE,Bo,bG (by simp;omega)];rfl
     ·rw [bH q,bC q];rfl
    ·unfold Lq
     dsimp only
     rw [K2];rfl
  unfold Kh Rv Gs
  rw [s1,s2,lB,lB]
  cases hs:FR g
  ·exact ⟨rfl,rfl⟩
  ·simp only [bM,bF,if_true]
   rw [RQ B _ (by omega),BF B _ (by omega),lB,lB,e1,e2]
   exact ⟨rfl,rfl⟩
theorem WL (m:Map)(g:Agent):(Gs m g).length≤g.Route.length:=by
  unfold Gs
  split
  ·exact Nat.le_trans (KE _ _ _) (PH _)
  ·simp
theorem aU {m:Map}{g:Agent}{x:Span}(h:x∈Gs m g):x.From≤x.To:=by
  unfold Gs at h
  split at h
  ·obtain ⟨i,st,_,h⟩:=(Zp _ _).1 h
   unfold DY at h
   split at h
   ·cases h;assumption
   ·cases h
  ·cases h
def Zs (x y:Span):Bool:=((x.Lane_==y.Lane_)&&decide (x.From≤y.To))&&decide (y.From≤x.To)
noncomputable def Yz (m:Map)(g g':Agent):Bool:=(Gs m g).any fun x=>(Gs m g').any fun y=>Zs x y
theorem LD {m:Map}(B:BearM m){g g':Agent}(hr:g.Route.length≤1000)(hr':g'.Route.length≤1000):Ee m g g'=some (Yz m g g')∧Ng m g g'=some (Yz m g g'):=by
  obtain ⟨b1,b2⟩:=aT B hr
  obtain ⟨c1,c2⟩:=aT B hr'
  have l1:=WL m g
  have l2:=WL m g'
  constructor
  ·have inner: ∀x∈Gs m g,F6 (Gs m g') x=some ((Gs m g').any fun y=>Zs x y):=by
     intro x hx
     unfold F6 I4
     refine Rb _ (fun y=>Zs x y) _ (by omega) (fun i y hy=> ?_) (by unfold F5;rw [K2];rfl)
     have o1:=aU hx
     have o2:=aU (lG hy)
     unfold F5 Au
     rw [L5 (J4 hy),bE,D1 hy,lB]
     simp only [Cv,Be,MD,ME]
     unfold Zs
     by_cases e:x.Lane_=y.Lane_
     ·rw [e]
      simp only [beq_self_eq_true,bE,lB,bI]
      by_cases q:x.From≤y.To∧y.From≤x.To
      ·rw [bB q.1,bB q.2,bC (by omega)];rfl
      ·rw [show (decide (x.From≤y.To)&&decide (y.From≤x.To))=false by rw [bP];simpa using q,bB (by omega)];rfl
     ·rw [show (x.Lane_==y.Lane_)=false by simpa using e];rfl
   have outer:G6 (Gs m g) (Gs m g')=some (Yz m g g'):=by
     unfold G6 J3 Yz
     refine Rb _ (fun x=>(Gs m g').any fun y=>Zs x y) _ (by omega) (fun i x hx=> ?_) (by unfold G5;rw [K2];rfl)
     unfold G5 By
     rw [L5 (J4 hx),bE,D1 hx,lB,inner x (lG hx)]
     simp only [lB]
     cases (Gs m g').any fun y=>Zs x y<;>rfl
   unfold Ee
   rw [c1,lB,b1,lB,outer];rfl
  ·have inner: ∀(i:Nat) x,(Gs m g)[i]? =some x→loop (Em (Gs m g) (Gs m g') (i:Int)) 0=some (if (Gs m g').any (fun y=>Zs x y)then .inr true else .inl ()):=by
     intro i x hx
     refine OY (Gs m g') (fun y=>Zs x y) true (fun j y hy=> ?_) (by unfold Em;rw [K2];rfl)
     unfold Em Zs
     rw [L5 (J4 hy),bE,D1 hx,lB,D1 hy,lB,I7 (J4 hy) (by omega)]
     cases e:(x.Lane_==y.Lane_)
     ·rfl
     ·simp only [bE,lB,bI]
      cases e2:decide (x.From≤y.To)
      ·rfl
      ·simp only [bE,lB,bI]
       cases decide (y.From≤x.To)<;>rfl
   have outer:loop (En (Gs m g) (Gs m g')) 0=some (if (Gs m g).any (fun x=>(Gs m g').any fun y=>Zs x y)then .inr true else .inl ()):=by
     refine OY (Gs m g) (fun x=>(Gs m g').any fun y=>Zs x y) true (fun i x hx=> ?_) (by unfold En;rw [K2];rfl)
     unfold En
     rw [L5 (J4 hx),bE,inner i x hx,I7 (J4 hx) (by omega)]
     cases (Gs m g').any fun y=>Zs x y<;>rfl
   unfold Ng Yz
   rw [b2,lB,c2,lB,outer]
   cases (Gs m g).any fun x=>(Gs m g').any fun y=>Zs x y<;>rfl
/-- Two agents that may not begin together. -/
noncomputable def DZ (m:Map)(s:State)(A:List Agent)(i j:Int):Bool:=match B7 s.Agents i,B7 s.Agents j with
  |some gi,some gj=>Yz m gi gj||decide (0< (Yy m s A i j gi gj).length)
  |_,_=>false
theorem PI {α β:Type}(c:Nat→Bool)(v:β): ∀(l:List α) (k:Nat),K1 (fun i _=>if c i=true then some v else none) k l=if 0< (Jx (fun i _=>if c i=true then some (i:Int)else none) k l).length then some v else none
  | [],_=>rfl
  |a::r,k=>by
   rw [K1,Jx]
   by_cases h:c k=true
   ·rw [bG h,bG h];simp
   ·rw [bH h,bH h];exact PI c v r (k+1)
theorem rC {m:Map}(B:BearK m){s:State}(S:SizeS s){sc:WorldScene}{A:List Agent}(hm:sc.m=m)(hb:sc.before=s)(ha:sc.after.Agents=A)(hl:A.length=s.Agents.length){i j:Int}{gi gj gi' gj':Agent}(T:Two m s A i j gi gj gi' gj'):
    loop (Fd m sc (i,j)) 0=some (LY (if 0< (Yy m s A i j gi gj).length then some ((⟨0,[],[]⟩:State),(12:Int))else none)):=by
  have h2:=B.zones2
  rw [Ao m.Zones _ (fun z (_:Zone)=>if Uq m s A i j gi gj (z:Int)=true then some ((⟨0,[],[]⟩:State),(12:Int))else none) (fun z zn hz=>by
   unfold Fd
   dsimp only
   rw [L5 (J4 hz),bE,eE B S hm hb ha hl T.hi T.hj T.ri T.rj,lB,I7 (J4 hz) (by omega)]
   cases Uq m s A i j gi gj (z:Int)<;>rfl) (by unfold Fd;rw [K2];rfl),PI (fun z=>Uq m s A i j gi gj (z:Int))]
  rfl
theorem SB {m:Map}(B:BearK m){s:State}(S:SizeS s)(O: ∀g∈s.Agents,∃a t,g.Route=a::t∧RouteOK m a t){sc:WorldScene}(hm:sc.m=m)(hb:sc.before=s)(ha:sc.after.Agents=s.Agents): ∀(L:List (Int×Int)),(∀p∈L,Ca s p.1=true∧Ca s p.2=true)→
    loopL (Hl m s.Agents sc) (fun _=> .inl ()) L ()=some (if L.any (fun p=>DZ m s s.Agents p.1 p.2)=true then .inr ((⟨0,[],[]⟩:State),(12:Int))else .inl ())
  | [],_=>rfl
  |p::L,h=>by
   obtain ⟨i,j⟩:=p
   have hp:=h (i,j) (by simp)
   obtain ⟨gi,gj,gi',gj',T⟩:=jR O S rfl hp.1 hp.2
   have hbad:DZ m s s.Agents i j=(Yz m gi gj||decide (0< (Yy m s s.Agents i j gi gj).length)):=by unfold DZ;rw [T.hi,T.hj]
   rw [loopL,List.any_cons,hbad]
   unfold Hl
   rw [T.hi,T.hj,lB,lB,(LD B.toBearM T.ri T.rj).1,lB]
   cases Yz m gi gj
   ·rw [bF,rC B S hm hb ha rfl T]
    by_cases q:0< (Yy m s s.Agents i j gi gj).length
    ·rw [bG q,bB q];rfl
    ·rw [bH q,bC q]
     exact SB B S O hm hb ha L fun q hq=>h q (by simp [hq])
   ·rfl
theorem ZJ {m:Map}(K:KitM m){s a:State}(S:SizeS s)(hs:jN s.In)(ha:a.Agents.length=s.Agents.length)(acts:List Int)(cs:List Crash):Z9 ⟨m,s,a,acts,cs⟩=some ⟨m,s,⟨a.Tick,a.Agents,BI m s a.Agents⟩,acts,cs⟩:=by
  have hl:=S.agents
  have hz:=K.zones2
  unfold Z9
  refine jQ (fun i l=>((i:Int),l)) s.Agents (DX m s a.Agents) (fun l=>(⟨m,s,⟨a.Tick,a.Agents,l⟩,acts,cs⟩:WorldScene)) [] 2 1000000 rfl (by simp;omega) (fun i a _=>Nat.le_trans (HB _ _ _ _ _) hz) (fun i g l h hb=> ?_) (fun l=> ?_)
  ·have hg:=D1 h
   have hr:=S.routes g (lG h)
   have e:loop (Q4 ⟨m,s,a,acts,cs⟩ ((i:Int),l) g) (0,l)=some (l++DX m s a.Agents i g):=by
     refine jP (fun z l=>((z:Int),l)) m.Zones (RW m s a.Agents i) id l 1000000 rfl (by omega) (fun z zn l' hz' hb'=> ?_) (fun l'=> ?_)
     ·unfold Q4 RW
      dsimp only
      rw [L5 (J4 hz'),bE,DW K.toBearK S rfl rfl rfl ha,lB,I7 (J4 hz') (by omega)]
      cases hh:BU m s a.Agents i z
      ·rfl
      ·obtain ⟨v8,p1,p2⟩:=eD K S hs (z:=(z:Int)) hg hr
       rw [bM,bF,p1,lB,p2,lB,Bo,bG (by simp;omega)];rfl
     ·unfold Q4
      dsimp only
      rw [K2];rfl
   unfold U2
   dsimp only
   rw [L5 (J4 h),bE,hg,lB,e,lB,I7 (J4 h) (by omega)]
  ·unfold U2
   dsimp only
   rw [K2];rfl
abbrev Pd:State:=⟨0,[],[]⟩
theorem ZK {m:Map}(K:KitM m){A:List Agent}(S:SizeS ⟨0,A,[]⟩):loop (Kn m A) (0,(⟨0,A,[]⟩:State))=some ⟨0,A,BI m ⟨0,A,[]⟩ A⟩:=by
  have hl:A.length≤1000:=S.agents
  have hz:=K.zones2
  refine jQ (fun i l=>((i:Int),(⟨0,A,l⟩:State))) A (DX m ⟨0,A,[]⟩ A) (fun l=>(⟨0,A,l⟩:State)) [] 2 1000000 rfl (by simp;omega) (fun i a _=>Nat.le_trans (HB _ _ _ _ _) hz) (fun i g l h hb=> ?_) (fun l=> ?_)
  ·have hg:B7 A (i:Int)=some g:=D1 h
   have hr:g.Route.length≤1000:=S.routes g (lG h)
   have e:loop (Km m A ((i:Int),(⟨0,A,l⟩:State))) (0,(⟨0,A,l⟩:State))=some ⟨0,A,l++DX m ⟨0,A,[]⟩ A i g⟩:=by
     have th: ∀l',Ca ⟨0,A,l'⟩ (i:Int)=Ca ⟨0,A,[]⟩ (i:Int):=fun _=>rfl
     cases ht:Ca ⟨0,A,[]⟩ (i:Int)
     ·rw [D8 (t:=(⟨0,A,l⟩:State)),ZH ht,lO]
      unfold Km
      dsimp only
      rw [(Xl _ _).2,th,ht]
      cases decide ((0:Int)< (m.Zones.length:Int))<;>rfl
     ·refine jP (fun z l=>((z:Int),(⟨0,A,l⟩:State))) m.Zones (RW m ⟨0,A,[]⟩ A i) (fun l=>(⟨0,A,l⟩:State)) l 1000000 rfl (by omega) (fun z zn l' hz' hb'=> ?_) (fun l'=> ?_)
      ·unfold Km RW
       dsimp only
       rw [L5 (J4 hz'),bE,(Xl _ _).2,lB,th,ht,bI,bE,hg,lB,lB,(BH K.toBearK hr z).2,lB,I7 (J4 hz') (by omega)]
       have e:BU m ⟨0,A,[]⟩ A i z=Lh m g g z:=by
         unfold BU;rw [ht,bI];dsimp only;rw [hg]
       rw [e]
       cases hh:Lh m g g z
       ·rfl
       ·have es:rB m ⟨0,A,[]⟩ (i:Int) (z:Int)=⟨(i:Int),(z:Int),0,WJ m g.Route z 0⟩:=by
          unfold rB
          simp only [List.find?_nil,hg]
        rw [bE,lB,(aS K hr z 0).2,lB,Bo,bG (by simp;omega),bG rfl,es];rfl
      ·unfold Km
       dsimp only
       rw [K2];rfl
   unfold Kn
   dsimp only
   rw [L5 (J4 h),bE,e,lB,I7 (J4 h) (by omega)]
  ·unfold Kn
   dsimp only
   rw [K2];rfl
theorem ZL {m:Map}(B:BearK m){s:State}(S:SizeS s)(O: ∀g∈s.Agents,∃a t,g.Route=a::t∧RouteOK m a t)(i:Nat): ∀(k j:Nat),j+k=s.Agents.length→
    loop (Kl m s.Agents ((i:Int),s)) (j:Int)=some (if (EV s i k j).any (fun p=>DZ m s s.Agents p.1 p.2)=true then .inr (Pd,12)else .inl ())
  |0,j,hj=>by
   obtain rfl:j=s.Agents.length:=by omega
   rw [D8 (t:= .inl ()) (by unfold Kl;rw [K2];rfl)];rfl
  |k+1,j,hj=>by
   have hjl:j<s.Agents.length:=by omega
   have hn:=S.agents
   have key:Kl m s.Agents ((i:Int),s) (j:Int)=some (if (Ca s i&&Ca s j)&&DZ m s s.Agents i j=true then .out (.inr (Pd,12))else .go ((j+1:Nat):Int)):=by
     unfold Kl
     dsimp only
     rw [L5 hjl,bE,(Xl s i).2,lB,I7 hjl (by omega)]
     cases h1:Ca s i
     ·rfl
     ·simp only [bM,bN,bE,bO,bI]
      rw [(Xl s j).2,lB]
      cases h2:Ca s j
      ·rfl
      ·obtain ⟨gi,gj,gi',gj',T⟩:=jR O S rfl h1 h2
       have hbad:DZ m s s.Agents i j=(Yz m gi gj||decide (0< (Yy m s s.Agents i j gi gj).length)):=by unfold DZ;rw [T.hi,T.hj]
       rw [bM,bF,T.hi,T.hj,lB,lB,(LD B.toBearM T.ri T.rj).2,lB,hbad]
       cases Yz m gi gj
       ·rw [bN,bE,eF B rfl T,lB]
        by_cases q:0< (Yy m s s.Agents i j gi gj).length
        ·rw [bB (show ((Yy m s s.Agents i j gi gj).length:Int)>0 by omega),bB q];rfl
        ·rw [bC (show ¬((Yy m s s.Agents i j gi gj).length:Int)>0 by omega),bC q];rfl
       ·rfl
   rw [EV]
   cases h1:(Ca s i&&Ca s j)
   ·rw [h1]at key
    rw [L7 (s':=((j+1:Nat):Int)) (by rw [key];rfl),bF]
    exact ZL B S O i k (j+1) (by omega)
   ·rw [h1]at key
    rw [bE,List.any_cons]
    cases h2:DZ m s s.Agents i j
    ·rw [h2]at key
     rw [L7 (s':=((j+1:Nat):Int)) (by rw [key];rfl),bO]
     exact ZL B S O i k (j+1) (by omega)
    ·rw [h2]at key
     rw [D8 (t:= .inr (Pd,12)) (by rw [key];rfl)];rfl
theorem jS {m:Map}(B:BearK m){s:State}(S:SizeS s)(O: ∀g∈s.Agents,∃a t,g.Route=a::t∧RouteOK m a t): ∀(k i:Nat),i+k=s.Agents.length→
    loop (Hq m s.Agents) ((i:Int),s)=some (if (Ux s s.Agents.length k i).any (fun p=>DZ m s s.Agents p.1 p.2)=true then .inr (Pd,12)else .inl s)
  |0,i,hi=>by
   obtain rfl:i=s.Agents.length:=by omega
   rw [D8 (t:= .inl s) (by unfold Hq;dsimp only;rw [K2];rfl)];rfl
  |k+1,i,hi=>by
   have hil:i<s.Agents.length:=by omega
   have hn:=S.agents
   have key:Hq m s.Agents ((i:Int),s)=some (if (EV s i (s.Agents.length - (i+1)) (i+1)).any (fun p=>DZ m s s.Agents p.1 p.2)=true then .out (.inr (Pd,12))else .go (((i+1:Nat):Int),s)):=by
     unfold Hq
     dsimp only
     rw [L5 hil,bE,I7 hil (by omega),ZL B S O i (s.Agents.length - (i+1)) (i+1) (by omega)]
     cases (EV s i (s.Agents.length - (i+1)) (i+1)).any (fun p=>DZ m s s.Agents p.1 p.2)<;>rfl
   rw [Ux,List.any_append]
   cases h:(EV s i (s.Agents.length - (i+1)) (i+1)).any (fun p=>DZ m s s.Agents p.1 p.2)
   ·rw [h]at key
    rw [L7 (s':=(((i+1:Nat):Int),s)) (by rw [key];rfl),bO]
    exact jS B S O k (i+1) (by omega)
   ·rw [h]at key
    rw [D8 (t:= .inr (Pd,12)) (by rw [key];rfl)];rfl
theorem aV (A:List Agent)(l:List Stay)(i:Nat): ∀k j,EV ⟨0,A,l⟩ i k j=EV ⟨0,A,[]⟩ i k j
  |0,_=>rfl
  |k+1,j=>by rw [EV,EV,aV A l i k (j+1)];rfl
theorem WM (A:List Agent)(l:List Stay)(n:Nat): ∀k i,Ux ⟨0,A,l⟩ n k i=Ux ⟨0,A,[]⟩ n k i
  |0,_=>rfl
  |k+1,i=>by rw [Ux,Ux,aV,WM A l n k (i+1)]
/-- The first state. -/
noncomputable def jT (m:Map)(A:List Agent):State×Int:=
  if QH m ⟨0,A,[]⟩≠0 then (Pd,QH m ⟨0,A,[]⟩)
  else if A.any (fun g=>g.Gone)=true then (Pd,10)
  else if (Ux ⟨0,A,[]⟩ A.length A.length 0).any (fun p=>DZ m ⟨0,A,[]⟩ A p.1 p.2)=true then (Pd,12)
  else (⟨0,A,BI m ⟨0,A,[]⟩ A⟩,0)
theorem pR {m:Map}(K:KitM m){A:List Agent}(S:SizeS ⟨0,A,[]⟩)(w: ∀g∈A,g.S≤9223372036854775807):Nt m A=some (jT m A)∧Zj m A=some (jT m A):=by
  obtain ⟨c1,c2⟩:=jM K.toBearM S w
  have hl:A.length≤1000:=S.agents
  have e2:Sl ⟨0,A,[]⟩=some ⟨0,A,[]⟩:=jH S
  unfold Nt Zj jT
  rw [aP S,e2,lB,lB,c1,c2,lB,lB]
  by_cases q:QH m ⟨0,A,[]⟩=0
  case neg=>
    rw [bG q,show (QH m ⟨0,A,[]⟩ !=0)=true by simpa using q];exact ⟨rfl,rfl⟩
  rw [bH (by simp [q]),show (QH m ⟨0,A,[]⟩ !=0)=false by simp [q],bF,bF]
  have O:=(eA K).1 q
  have OR: ∀g∈A,∃a t,g.Route=a::t∧RouteOK m a t:=fun g hg=>by
    obtain ⟨i,hi⟩:=List.getElem?_of_mem hg
    exact (O.agent i g hi).route
  have g1:H8 A=some (A.any fun g=>g.Gone):=by
    unfold H8 K6
    refine Rb A (fun g=>g.Gone) _ (by omega) (fun i x hx=> ?_) (by unfold H7;rw [K2];rfl)
    unfold H7 Mt
    rw [L5 (J4 hx),bE,D1 hx,lB,lB]
    cases x.Gone<;>rfl
  have g2:loop (Ny A) 0=some (if A.any (fun g=>g.Gone)then .inr (Pd,10)else .inl ()):=by
    refine OY A (fun g=>g.Gone) (Pd,10) (fun i x hx=> ?_) (by unfold Ny;rw [K2];rfl)
    unfold Ny
    rw [L5 (J4 hx),bE,D1 hx,lB,I7 (J4 hx) (by omega)]
    cases x.Gone<;>rfl
  rw [g1,g2]
  cases hG:A.any (fun g=>g.Gone)
  case true=>exact ⟨rfl,rfl⟩
  have S':SizeS ⟨0,A,BI m ⟨0,A,[]⟩ A⟩:=by
    have h1:=RX m ⟨0,A,[]⟩ A
    have h2:A.length*m.Zones.length≤1000*2:=Nat.mul_le_mul hl K.zones2
    exact ⟨hl,by dsimp only at h1 ⊢;omega,S.routes⟩
  constructor
  ·have h3:=ZJ K (a:=⟨0,A,[]⟩) S List.Pairwise.nil rfl [] []
   have h4:=SB K.toBearK S OR (sc:=⟨m,⟨0,A,[]⟩,⟨0,A,BI m ⟨0,A,[]⟩ A⟩,[],[]⟩) rfl rfl rfl (Ux ⟨0,A,[]⟩ A.length A.length 0) (fun p hp=>by
     obtain ⟨a,b,rfl,_,_,_,h3,h4⟩:=SA hp
     exact ⟨h3,h4⟩)
   have h5:=eG S
   dsimp only at h3 h4 h5
   rw [bH (by simp),lB,bF,aP S,lB,h3,lB]
   dsimp only
   unfold Ns
   rw [lB,h5,lB,h4]
   cases (Ux ⟨0,A,[]⟩ A.length A.length 0).any (fun p=>DZ m ⟨0,A,[]⟩ A p.1 p.2)<;>rfl
  ·have h4:loop (Hq m A) (0,⟨0,A,BI m ⟨0,A,[]⟩ A⟩)=_:=jS (s:=⟨0,A,BI m ⟨0,A,[]⟩ A⟩) K.toBearK S' OR A.length 0 (by dsimp only;omega)
   dsimp only at h4
   rw [WM]at h4
   have e5:(fun p:Int×Int=>DZ m ⟨0,A,BI m ⟨0,A,[]⟩ A⟩ A p.1 p.2)=fun p=>DZ m ⟨0,A,[]⟩ A p.1 p.2:=rfl
   rw [e5]at h4
   rw [bH (by simp)]
   show (loop (Kn m A) (0,⟨0,A,[]⟩)).bind _=_
   rw [ZK K S,lB,h4]
   cases (Ux ⟨0,A,[]⟩ A.length A.length 0).any (fun p=>DZ m ⟨0,A,[]⟩ A p.1 p.2)<;>rfl
theorem jU {m:Map}(K:KitM m){A:List Agent}(S:SizeS ⟨0,A,[]⟩):SizeS (jT m A).1:=by
  have h0:SizeS Pd:=⟨by simp,by simp,by simp⟩
  unfold jT
  split
  ·exact h0
  split
  ·exact h0
  split
  ·exact h0
  have hl:A.length≤1000:=S.agents
  have h1:=RX m ⟨0,A,[]⟩ A
  have h2:A.length*m.Zones.length≤1000*2:=Nat.mul_le_mul hl K.zones2
  exact ⟨hl,by dsimp only at h1 ⊢;omega,S.routes⟩
theorem Zt (n:Int)(A:List Agent)(_w0:Tp n)(w1: ∀a∈A,nL a):Mg n A=some true:=by
  obtain ⟨b,h1,h2⟩:=jG ⟨0,A,[]⟩
  obtain ⟨m,hm,K,_⟩:=nM n
  unfold Mg
  rw [h1,lB,iW]
  cases b
  ·rfl
  ·have S:=(h2 rfl).size
   obtain ⟨c1,c2⟩:=pR K S (fun g hg=>(w1 g hg).2.1.2)
   rw [hm]
   simp only [bM,bF,lB,c1,c2]
   rw [dW (jU K S)]
   simp
end Go.Abs.World
