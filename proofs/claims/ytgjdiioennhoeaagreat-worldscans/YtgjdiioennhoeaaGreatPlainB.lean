/-
  Plain facts, second part: the law itself.
-/
import Derived.Test.YtgjdiioennhoeaaGreatPlain
set_option linter.all false
namespace Go.Abs.World
open Go Go.Abs
/-! ### How long lanes are -/
theorem dH: ∀(l:List Int) (s:Int),(∀x∈l,0≤x∧x≤1048576)→0≤s→s+1048576*l.length≤9000000000000000000→s≤Vm s l∧Vm s l≤s+1048576*l.length
  | [],s,_,_,_=>by simp [Vm]
  |a::r,s,h,h0,h1=>by
   have ha:=h a (by simp)
   simp only [lJ]at h1 ⊢
   rw [Vm,E9 (by omega)]
   have:=dH r (s+a) (fun x hx=>h x (by simp [hx])) (by omega) (by omega)
   omega
theorem dI: ∀{l:List Spot} {last:Option CurveVector},Good last l→∀x∈Y4 l,1000≤x∧x≤1048576:=by
  intro l last h
  induction h with
  |one last p=>intro x hx;simp [Y4]at hx
  |cons last p q r h1 h2 h3 h4 h ih=>
   intro x hx
   rw [Ri,lR]at hx
   rcases hx with rfl|hx
   ·exact ⟨h2,h3⟩
   ·exact ih x hx
theorem gE {c:Curve}(h:Ac c.Pts=0):1000≤Qy c∧Qy c≤16777216:=by
  have V:=checkM_zero.1 h
  unfold Qy Dl
  rw [bF h]
  have h16:=V.most
  have h2:=V.two
  have hm:=dI V.good
  cases hp:c.Pts with
  |nil=>rw [hp]at h2;simp at h2
  |cons p r=>
   rw [hp]at hm h16 h2
   cases r with
   |nil=>simp at h2
   |cons q r=>
    simp only [lJ]at h16
    rw [Ri]at hm ⊢
    have ha:=hm _ (List.mem_cons_self)
    have hl:=Gm r q
    rw [Vm,E9 (by omega),Int.zero_add]
    have:=dH (Y4 (q::r)) (rt (L6 (M7 p q) (M7 p q))) (fun x hx=>by have:=hm x (List.mem_cons_of_mem _ hx);omega) (by omega) (by rw [hl];omega)
    rw [hl]at this
    omega
theorem ValR.long {m:Map}(V:ValR m){k:Int}(h0:0≤k)(h1:k<m.Lanes.length):1000≤R0 m k∧R0 m k≤16777216:=by
  obtain ⟨l,e1,e2⟩:=Vp h0 h1
  unfold R0
  rw [e1]
  exact gE (V.laneOK e1).curve
/-! ### Routes -/
def Nt (m:Map):Int→List Int→Bool
  |_,[]=>true
  |a,b::r=>(nextOf m a.toNat).contains b&&Nt m b r
noncomputable def W6 (m:Map)(r:List Int):Int:=
  if Ur m≠0 then Ur m
  else match r with
    | []=>13
    |a::t=>if 7<t.length∨a<0∨(m.Lanes.length:Int)≤a∨Oy m a≠ []∨Nt m a t=false then 13 else 0
/-- What a route is. -/
structure RouteOK (m:Map)(a:Int)(t:List Int):Prop where
  val:ValR m
  most:t.length≤7
  first:0≤a∧a<m.Lanes.length
  source:Oy m a= []
  chain:Nt m a t=true
theorem chkRoute_zero {m:Map}{r:List Int}:W6 m r=0↔∃a t,r=a::t∧RouteOK m a t:=by
  unfold W6
  constructor
  ·intro h
   split at h
   ·exact absurd h (by assumption)
   ·rename_i h1
    have V:=chkR_zero.1 (Decidable.not_not.1 h1)
    split at h
    ·cases h
    ·rename_i a t
     split at h
     ·cases h
     ·rename_i h2
      exact ⟨a,t,rfl,V,by omega,by omega,Decidable.not_not.1 fun q=>h2 (.inr (.inr (.inr (.inl q)))),by
        cases q:Nt m a t with
        |true=>rfl
        |false=>exact absurd (.inr (.inr (.inr (.inr q)))) h2⟩
  ·rintro ⟨a,t,rfl,V,h1,h2,h3,h4⟩
   rw [bG (by rw [chkR_zero.2 V];simp)]
   dsimp only
   rw [bG]
   rintro (q|q|q|q|q)
   ·omega
   ·omega
   ·omega
   ·exact q h3
   ·rw [h4]at q;cases q
theorem MK {m:Map}(V:ValR m): ∀{t:List Int} {a:Int},Nt m a t=true→0≤a→∀x∈t,a<x∧x<m.Lanes.length
  | [],_,_,_,x,hx=>by cases hx
  |b::r,a,h,h0,x,hx=>by
   rw [Nt,bJ,List.contains_iff_mem]at h
   have hb:=V.nextOf h.1
   rcases lR.1 hx with rfl|hx
   ·omega
   ·have:=MK V h.2 (by omega) x hx;omega
theorem RouteOK.mem {m:Map}{a:Int}{t:List Int}(R:RouteOK m a t){x:Int}(hx:x∈a::t):0≤x∧x<m.Lanes.length:=by
  have:=R.first
  rcases lR.1 hx with rfl|hx
  ·exact this
  ·have:=MK R.val R.chain (by omega) x hx;omega
theorem UN {m:Map}(B:BearM m)(V:ValR m)(l:List Int)(hl:l.length≤1000000): ∀(r:List Int) (i:Nat) (a:Int),l.drop i=r→i≤l.length→0≤a→a<m.Lanes.length→loop (O7 m l) (a,(i:Int))=some (if Nt m a r=true then .inl ()else .inr 13):=by
  intro r
  induction r with
  |nil=>
   intro i a hi hil h0 h1
   have:=S6 hi
   obtain rfl:i=l.length:=by omega
   refine F4 ?_
   unfold O7
   rw [N6];rfl
  |cons b r ih=>
   intro i a hi hil h0 h1
   have hlt:=P4 hi
   have hb:=Em hi
   obtain ⟨ln,e1,e2⟩:=Vp h0 h1
   have hs:O7 m l (a,(i:Int))=some (if ln.Next.contains b=true then .go (b,((i+1:Nat):Int))else .out (.inr 13)):=by
     unfold O7
     dsimp only
     rw [Q7 hlt,E7 hb,bD,lA,e2,lA,FT _ (B.toBear.pts _ (lF e1)).2,lA,J9 hlt (by omega)]
     cases ln.Next.contains b<;>rfl
   have hn:nextOf m a.toNat=ln.Next:=by unfold nextOf;rw [e1];rfl
   rw [Nt,hn]
   cases q:ln.Next.contains b
   ·rw [q]at hs;rw [F4 hs];rfl
   ·rw [q]at hs
    have hbm:=V.next e1 (List.contains_iff_mem.1 q)
    rw [M6 hs,ih (i+1) b (L5 hi) (by omega) (by omega) (by omega),bH]
theorem AM {m:Map}(B:BearM m)(r:List Int)(hr:r.length≤1000000):V4 m r=some (W6 m r):=by
  unfold V4 W6
  rw [Ns B,lA]
  by_cases q:Ur m=0
  ·have V:=chkR_zero.1 q
   rw [bG (by simpa using q),show (Ur m !=0)=false by simpa using q,bE]
   cases r with
   |nil=>rfl
   |cons a t=>
    dsimp only
    simp only [lJ]at hr ⊢
    by_cases h8:7<t.length
    ·rw [bF (.inl h8),show ((((t.length+1:Nat):Int)==0)||(decide (((t.length+1:Nat):Int)>8)))=true by simp;omega];rfl
    ·rw [show ((((t.length+1:Nat):Int)==0)||(decide (((t.length+1:Nat):Int)>8)))=false by simp;omega]
     rw [show C8 (a::t) 0=some a from rfl]
     simp only [bM,bD,lA,bN]
     by_cases h0:a<0
     ·rw [bF (.inr (.inl h0)),l9 h0];rfl
     ·rw [bA h0]
      simp only [bM,bD,lA,bN]
      by_cases h1:(m.Lanes.length:Int)≤a
      ·rw [bF (.inr (.inr (.inl h1))),show decide (a≥(m.Lanes.length:Int))=true from l9 h1];rfl
      ·rw [show decide (a≥(m.Lanes.length:Int))=false from bA (by omega)]
       simp only [bM,bD,bN]
       rw [lA,XR B,lA]
       by_cases hb:Oy m a= []
       ·rw [hb]
        have e1:QD (a::t) 1 ((t.length+1:Nat):Int)=some t:=by
          unfold QD
          rw [bF (by simp;omega)]
          simp
        rw [e1,show decide ((([]:List Int).length:Int)>0)=false from rfl,bE,lA]
        have:=UN B V t (by omega) t 0 a rfl (by omega) (by omega) (by omega)
        rw [show ((0:Nat):Int)=0 from rfl]at this
        rw [this]
        by_cases hc:Nt m a t=true
        ·rw [bF hc,bG (by rw [hc];simp;omega)];rfl
        ·rw [bG hc,bF (.inr (.inr (.inr (.inr (by simpa using hc)))))];rfl
       ·rw [bF (.inr (.inr (.inr (.inl hb)))),show decide (((Oy m a).length:Int)>0)=true from l9 (by have:=List.length_pos_iff.2 hb;omega)];rfl
  ·rw [bF q,show (Ur m !=0)=true by simpa using q];rfl
/-- Where the lanes of a route begin. -/
noncomputable def R1 (m:Map):Int→List Int→List Int
  |_,[]=> []
  |s,a::r=>s::R1 m (s+R0 m a) r
noncomputable def Hd (m:Map):Int→List Int→Int
  |s,[]=>s
  |s,a::r=>Hd m (s+R0 m a) r
theorem Ms (m:Map): ∀(r:List Int) (s:Int),(R1 m s r).length=r.length
  | [],_=>rfl
  |_::r,_=>by rw [R1,lJ,Ms m r,lJ]
noncomputable def Kk (m:Map)(r:List Int):RoadsWay:=if W6 m r=0 then ⟨m,r,R1 m 0 r,Hd m 0 r⟩else ⟨⟨0,[],[],[],[]⟩,[],[],0⟩
theorem FB {m:Map}(B:BearM m)(r:List Int)(hr:r.length≤1000000):X6 m r=some (Kk m r):=by
  unfold X6 Kk
  rw [AM B r hr,lA]
  by_cases q:W6 m r=0
  ·rw [bF q,q]
   obtain ⟨a,t,rfl,R⟩:=chkRoute_zero.1 q
   have key: ∀(l:List Int) (i:Nat) (s:Int) (st:List Int),(a::t).drop i=l→i≤(a::t).length→0≤s→s≤16777216*i→st.length=i→loop (V1 m (a::t)) ((i:Int),(st,s))=some (st++R1 m s l,Hd m s l):=by
     intro l
     induction l with
     |nil=>
      intro i s st hi hil _ _ _
      have:=S6 hi
      obtain rfl:i=(a::t).length:=by omega
      refine F4 ?_
      unfold V1
      rw [N6,R1,Hd,List.append_nil];rfl
     |cons x l ih=>
      intro i s st hi hil h0 h1 h2
      have hlt:=P4 hi
      have hx:=Em hi
      have hm:=R.mem (lF hx)
      have hl:=R.val.long hm.1 hm.2
      have hm7:=R.most
      simp only [lJ]at hlt
      rw [M6 (s':=(((i+1:Nat):Int),(st++ [s],s+R0 m x)))]
      ·rw [ih (i+1) _ _ (L5 hi) (by simp;omega) (by omega) (by omega) (by simp [h2]),R1,Hd,lM];rfl
      ·unfold V1
       dsimp only
       rw [Q7 (by simpa using hlt),E7 hx,bD,lA,Ff (by simp;omega),lA,GY B.toBear hm.1 hm.2,lA,J9 hlt (by omega),SE (by omega)]
   have:=key (a::t) 0 0 [] rfl (by omega) (by decide) (by decide) rfl
   rw [show ((0:Nat):Int)=0 from rfl]at this
   show (loop (V1 m (a::t)) (0,([],0))).bind _=_
   rw [this];rfl
  ·rw [bG q,show (W6 m r !=0)=true by simpa using q];rfl
end Go.Abs.World
/-! Lists that are sorted, and how an insertion sort makes them. -/
namespace Go.Abs
open Go
/-- What a comparison must satisfy. -/
structure LtOK {α:Type}(lt:α→α→Bool):Prop where
  asym: ∀a b,lt a b=true→lt b a=false
  trans: ∀a b c,lt b a=false→lt c b=false→lt c a=false
def Srt {α:Type}(lt:α→α→Bool)(l:List α):Prop:=l.Pairwise fun a b=>lt b a=false
section
variable {α:Type}
theorem RL (U V:List α)(x y:α)(n:Int)(h:n=(U.length:Int)):Qu (U++x::V) n y=U++y::V:=by
  subst h
  simp [Qu]
variable {lt:α→α→Bool}
theorem Srt.ins (L:LtOK lt){Q1 Q2:List α}{x:α}(h:Srt lt (Q1++Q2))(h1: ∀q∈Q1,lt x q=false)(h2: ∀q∈Q2,lt x q=true):Srt lt (Q1++x::Q2):=by
  unfold Srt at h ⊢
  rw [List.pairwise_append]at h ⊢
  refine ⟨h.1,List.pairwise_cons.2 ⟨fun b hb=>L.asym _ _ (h2 b hb),h.2.1⟩,fun a ha b hb=> ?_⟩
  rcases lR.1 hb with rfl|hb
  ·exact h1 a ha
  ·exact h.2.2 a ha b hb
theorem LtOK.irr (L:LtOK lt)(a:α):lt a a=false:=by
  cases h:lt a a with
  |false=>rfl
  |true=>rw [L.asym a a h]at h;cases h
theorem Srt.get (L:LtOK lt){l:List α}(h:Srt lt l){i j:Nat}(hij:i≤j)(hj:j<l.length):lt l[j] l[i]=false:=by
  rcases Nat.lt_or_eq_of_le hij with h1|h1
  ·exact List.pairwise_iff_getElem.1 h i j (by omega) hj h1
  ·subst h1;exact L.irr _
theorem Srt.left {l m:List α}(h:Srt lt (l++m)):Srt lt l:=(List.pairwise_append.1 h).1
end
end Go.Abs
/-! How the lists are sorted. -/
namespace Go.Abs.World
open Go Go.Abs
structure SigOK (s:Signal):Prop where
  pos:0<s.Phases.length
  many:s.Phases.length≤6
  off:0≤s.Offset∧s.Offset≤1099511627776
  ticks: ∀p∈s.Phases,1≤p.Ticks∧p.Ticks≤10000
  green: ∀p∈s.Phases,p.Green.length≤1000000
theorem ValR.sig {m:Map}(B:BearM m)(V:ValR m){i:Nat}{s:Signal}(h:m.Signals[i]? =some s):SigOK s:=by
  have:=firstE_none.1 V.signalE i s h
  unfold World.signalE at this
  split at this
  ·cases this
  split at this
  ·cases this
  split at this
  ·cases this
  split at this
  ·cases this
  rename_i h1 h2 h3 h4
  refine ⟨by omega,by omega,?_,fun p hp=> ?_,(B.toBearS.phases s (lF h)).2⟩
  ·have:Ua s.Offset 0 1099511627776=true:=by simpa using h3
   simpa [Ua] using this
  ·have:Ua p.Ticks 1 10000=true:=by
     cases q:Ua p.Ticks 1 10000 with
     |true=>rfl
     |false=>exact absurd (List.any_eq_true.2 ⟨p,hp,by rw [q];rfl⟩) h4
   simpa [Ua] using this
def UO:List Phase→Int
  | []=>0
  |p::r=>p.Ticks+UO r
theorem VY: ∀{l:List Phase},(∀p∈l,1≤p.Ticks∧p.Ticks≤10000)→(l.length:Int)≤UO l∧UO l≤10000*l.length
  | [],_=>by simp [UO]
  |p::r,h=>by
   have:=VY (l:=r) fun q hq=>h q (List.mem_cons_of_mem _ hq)
   have:=h p (by simp)
   simp only [UO,lJ]
   omega
theorem SigOK.sum {s:Signal}(S:SigOK s):1≤UO s.Phases∧UO s.Phases≤60000:=by
  have:=VY S.ticks
  have:=S.pos
  have:=S.many
  omega
end Go.Abs.World
namespace Go.Abs
open Go
section
variable {α β σ τ:Type}
/-- What rounds put one behind the other. -/
def Sp (g:Nat→α→List β):Nat→List α→List β
  |_,[]=> []
  |i,a::r=>g i a++Sp g (i+1) r
theorem ML (g:Nat→α→List β)(C:Nat): ∀(l:List α) (i:Nat),(∀(j:Nat) a,l[j]? =some a→(g (i+j) a).length≤C)→(Sp g i l).length≤l.length*C
  | [],_,_=>by simp [Sp]
  |a::r,i,h=>by
   have h1:=h 0 a rfl
   have h2:=ML g C r (i+1) (fun j b hb=>by have:=h (j+1) b (by simpa using hb);rwa [show i+1+j=i+ (j+1) by omega])
   rw [Sp,lK,lJ,Nat.succ_mul]
   rw [Nat.add_zero]at h1
   omega
theorem kO {F:List β×Int→Option (Stp (List β×Int) τ)}(l:List α)(g:Nat→α→List β)(fin:List β→τ)(s0:List β)(C B:Nat)(hB:s0.length+l.length*C≤B)(hC: ∀(i:Nat) a,l[i]? =some a→(g i a).length≤C)
    (hF: ∀(i:Nat) a (s:List β),l[i]? =some a→s.length+C≤B→F (s,(i:Int))=some (.go (s++g i a,((i+1:Nat):Int))))
    (h0: ∀s,F (s,(l.length:Int))=some (.out (fin s))):loop F (s0,0)=some (fin (s0++Sp g 0 l)):=by
  have key: ∀(r:List α) (i:Nat) (s:List β),DP (fun i s a=>s++g i a) i s r=s++Sp g i r:=by
    intro r
    induction r with
    |nil=>intro i s;simp [DP,Sp]
    |cons a r ih=>intro i s;rw [DP,ih,Sp,lM]
  have:=iE (F:=F) (fun i s=>(s,(i:Int))) l (fun i s=>i≤l.length→s.length≤s0.length+i*C) (fun i s a=>s++g i a) fin (s0:=s0) (S0:=(s0,0)) rfl (by simp) (fun i a s h hs=>by
    have hi:=(lH.1 h).1
    have:=hs (by omega)
    have e:i*C+C≤l.length*C:=by rw [← Nat.succ_mul];exact Nat.mul_le_mul_right _ hi
    exact hF i a s h (by omega)) (fun i a s h hs=>by
    intro hi
    have:=hs (by omega)
    have:=hC i a h
    rw [lK,Nat.succ_mul];omega) (fun s _=>h0 s)
  rw [this,key]
end
end Go.Abs
namespace Go.Abs.World
open Go Go.Abs
def XV (x y:Int):Int:=if x<y then -1 else if x>y then 1 else 0
def mD (a b:Pass):Bool:=decide (a.From<b.From∨a.From=b.From∧a.Zone_<b.Zone_)
theorem JV (a b:Int):Z9 a b=some (XV a b):=by
  have h: ∀x:Int,Ia x=some false:=fun x=>by unfold Ia;simp
  unfold Z9 XV
  rw [h,h]
  simp only [lA,bE,CS]
  split<;>(repeat' split)<;>rfl
def BlkS (w:Nat)(l:List Pass):Prop:= ∀i,Srt mD ((l.drop (i*w)).take w)
theorem BlkS.cons {w:Nat}{M R:List Pass}(hM:M.length=w)(h1:Srt mD M)(h2:BlkS w R):BlkS w (M++R):=by
  intro i
  cases i with
  |zero=>rw [Nat.zero_mul,List.drop_zero,List.take_append_of_le_length (by omega),List.take_of_length_le (by omega)];exact h1
  |succ i=>
   have:=h2 i
   rw [bW,Nat.one_mul,List.drop_append,List.drop_eq_nil_of_le (by omega),lN,show i*w+w - M.length=i*w by omega]
   exact this
theorem BlkS.last {w:Nat}{M:List Pass}(hM:M.length≤w)(h1:Srt mD M):BlkS w M:=by
  intro i
  exact h1.sublist ((List.take_sublist _ _).trans (List.drop_sublist _ _))
theorem BlkS.drop {w:Nat}{R:List Pass}(h:BlkS w R):BlkS w (R.drop w):=by
  intro i
  have:=h (i+1)
  rwa [bW,Nat.one_mul,Nat.add_comm,← List.drop_drop]at this
theorem BN (m:Map): ∀(r:List Int) (s:Int),Hd m s r=s+Hd m 0 r
  | [],s=>by simp [Hd]
  |a::r,s=>by rw [Hd,Hd,BN m r (s+R0 m a),BN m r (0+R0 m a)];omega
theorem Jq (m:Map): ∀(r:List Int) (s:Int) (i:Nat),i<r.length→(R1 m s r)[i]? =some (s+Hd m 0 (r.take i))
  | [],_,_,h=>absurd h (by simp)
  |a::r,s,0,_=>by simp [R1,Hd]
  |a::r,s,i+1,h=>by
   rw [R1,List.getElem?_cons_succ,Jq m r _ i (by simpa using h),List.take_succ_cons,Hd,BN m _ (0+R0 m a)]
   congr 1;omega
noncomputable def Sx (m:Map)(r:List Int)(i:Nat):Int:=Hd m 0 (r.take i)
theorem Yx (m:Map)(r:List Int):Sx m r 0=0:=rfl
theorem FW (m:Map)(x:Int): ∀(l:List Int) (s:Int),Hd m s (l++ [x])=Hd m s l+R0 m x
  | [],s=>rfl
  |a::l,s=>by rw [lS,Hd,Hd,FW m x l]
theorem JW {m:Map}{r:List Int}{i:Nat}{a:Int}(h:r[i]? =some a):Sx m r (i+1)=Sx m r i+R0 m a:=by
  unfold Sx
  rw [List.take_add_one,h]
  exact FW m a _ _
theorem gF (m:Map)(r:List Int):Sx m r r.length=Hd m 0 r:=by rw [Sx,List.take_length]
theorem RouteOK.len {m:Map}{a:Int}{t:List Int}(R:RouteOK m a t){i:Nat}{x:Int}(h:(a::t)[i]? =some x):1000≤R0 m x∧R0 m x≤16777216:=by
  have:=R.mem (lF h)
  exact R.val.long this.1 this.2
theorem RouteOK.mono {m:Map}{a:Int}{t:List Int}(R:RouteOK m a t): ∀(j i:Nat),i+j≤(a::t).length→Sx m (a::t) i+1000*j≤Sx m (a::t) (i+j)∧Sx m (a::t) (i+j)≤Sx m (a::t) i+16777216*j
  |0,i,_=>by simp
  |j+1,i,h=>by
   have:=R.mono j i (by omega)
   have e:(a::t)[i+j]? =some (a::t)[i+j]:=lG (by omega)
   have hl:=R.len e
   rw [← Nat.add_assoc,JW e]
   omega
theorem RouteOK.lt {m:Map}{a:Int}{t:List Int}(R:RouteOK m a t){i j:Nat}(hij:i<j)(hj:j≤(a::t).length):Sx m (a::t) i+1000≤Sx m (a::t) j:=by
  have:=(R.mono (j - i) i (by omega)).1
  rw [show i+ (j - i)=j by omega]at this
  omega
theorem RouteOK.bd {m:Map}{a:Int}{t:List Int}(R:RouteOK m a t){i:Nat}(hi:i≤(a::t).length):0≤Sx m (a::t) i∧Sx m (a::t) i≤134217728:=by
  have:=R.mono i 0 (by omega)
  have h7:=R.most
  simp only [lJ]at hi
  rw [bX,Yx]at this
  omega
theorem RouteOK.follow {m:Map}{a:Int}{t:List Int}(R:RouteOK m a t):Kk m (a::t)=⟨m,a::t,R1 m 0 (a::t),Sx m (a::t) (a::t).length⟩:=by
  unfold Kk
  rw [bF (chkRoute_zero.2 ⟨a,t,rfl,R⟩),gF]
theorem RouteOK.starts {m:Map}{a:Int}{t:List Int}{i:Nat}(hi:i< (a::t).length):C8 (R1 m 0 (a::t)) (i:Int)=some (Sx m (a::t) i):=by
  rw [E7 (Jq m _ 0 i hi),Int.zero_add];rfl
/-- The place of a coordinate. -/
theorem dJ {m:Map}(B:BearM m){a:Int}{t:List Int}(R:RouteOK m a t){s:Int}(h0:0≤s)(h1:s≤Sx m (a::t) (a::t).length):
    ∃(k:Nat) (x:Int),(a::t)[k]? =some x∧Mm m (a::t) s=some (x,s - Sx m (a::t) k,true)∧Sx m (a::t) k≤s∧∀j,k<j→j< (a::t).length→s<Sx m (a::t) j:=by
  have hm7:=R.most
  have hbd:=R.bd (bU _)
  have key: ∀(k:Nat),k< (a::t).length→(∀j,k<j→j< (a::t).length→s<Sx m (a::t) j)→
   ∃k',k'< (a::t).length∧loop (Cy s (Kk m (a::t))) (k:Int)=some (k':Int)∧Sx m (a::t) k'≤s∧∀j,k'<j→j< (a::t).length→s<Sx m (a::t) j:=by
    intro k
    induction k with
    |zero=>
     intro hk hj
     refine ⟨0,hk,F4 ?_,by rw [Yx];exact h0,hj⟩
     unfold Cy
     rw [R.follow]
     dsimp only
     rw [RouteOK.starts hk,lA,Yx,show decide ((0:Int)>s)=false from bA (by omega)];rfl
    |succ k ih=>
     intro hk hj
     by_cases hc:s<Sx m (a::t) (k+1)
     ·obtain ⟨k',g1,g2,g3,g4⟩:=ih (by omega) (fun j h1 h2=>by
        rcases Nat.lt_or_ge (k+1) j with h|h
        ·exact hj j h h2
        ·obtain rfl:j=k+1:=by omega
         exact hc)
      refine ⟨k',g1,?_,g3,g4⟩
      rw [← g2]
      refine M6 ?_
      unfold Cy
      rw [R.follow]
      dsimp only
      rw [RouteOK.starts hk,lA,show decide (Sx m (a::t) (k+1)>s)=true from l9 (by omega),bD,E9 (by simp only [lJ]at hk;omega)]
      congr 2;omega
     ·refine ⟨k+1,hk,F4 ?_,by omega,hj⟩
      unfold Cy
      rw [R.follow]
      dsimp only
      rw [RouteOK.starts hk,lA,show decide (Sx m (a::t) (k+1)>s)=false from bA (by omega)];rfl
  obtain ⟨k,g1,g2,g3,g4⟩:=key ((a::t).length - 1) (by simp) (fun j h1 h2=>by omega)
  have hx:(a::t)[k]? =some (a::t)[k]:=lG g1
  refine ⟨k,(a::t)[k],hx,?_,g3,g4⟩
  unfold Mm
  rw [FB B _ (by simp;omega),lA]
  have hl:(Kk m (a::t)).lanes=a::t:=by rw [R.follow]
  have hst:(Kk m (a::t)).starts=R1 m 0 (a::t):=by rw [R.follow]
  have htl:(Kk m (a::t)).length=Sx m (a::t) (a::t).length:=by rw [R.follow]
  rw [hl,hst,htl,show (((a::t).length:Int)==0)=false by simp;omega]
  simp only [bM,bD,On,lA,bN]
  rw [show Ua s 0 (Sx m (a::t) (a::t).length)=true by unfold Ua;rw [l9 h0,l9 h1];rfl,show C9 (((a::t).length:Int) - 1)=(((a::t).length - 1:Nat):Int) by rw [E9 (by simp only [lJ];omega)];simp only [lJ];omega,g2]
  simp only [bL,bE,lA]
  rw [E7 hx,RouteOK.starts g1,lA,lA,E9 (by have:=R.bd (Nat.le_of_lt g1);omega)]
/-! ### Passes -/
section
variable {m:Map}{a:Int}{t:List Int}
/-- A map with so few zones as the kit's. -/
structure BearK (m:Map):Prop extends BearM m where
  zones2:m.Zones.length≤2
end
theorem RM {m:Map}(B:BearM m)(V:ValR m)(l:List Int)(hl:l.length≤1000000): ∀(r:List Int) (i:Nat) (a:Int),l.drop (i+1)=r→l[i]? =some a→0≤a→a<m.Lanes.length→thenS (loop (V9 m l) ((i+1:Nat):Int)) (fun _=>some 0) (fun r=>some r)=some (if Nt m a r=true then 0 else 13):=by
  intro r
  induction r with
  |nil=>
   intro i a hi ha h0 h1
   have h2:=S6 hi
   have h3:=(lH.1 ha).1
   have h4:i+1=l.length:=by omega
   rw [F4 (t:= .inl ())]
   ·rfl
   ·unfold V9
    rw [show decide (((i+1:Nat):Int)< (l.length:Int))=false from bA (by omega)];rfl
  |cons b r ih=>
   intro i a hi ha h0 h1
   have hlt:=P4 hi
   have hb:=Em hi
   obtain ⟨ln,e1,e2⟩:=Vp h0 h1
   have hw:C9 (((i+1:Nat):Int) - 1)=(i:Int):=by rw [E9 (by omega)];omega
   have hs:V9 m l ((i+1:Nat):Int)=some (if ln.Next.contains b=true then .go (((i+1+1:Nat):Int))else .out (.inr 13)):=by
     unfold V9
     rw [Q7 hlt,bD,hw,E7 ha,lA,e2,lA,E7 hb,lA,dC _ (B.toBear.pts _ (lF e1)).2,lA,J9 hlt (by omega)]
     cases ln.Next.contains b<;>rfl
   have hn:nextOf m a.toNat=ln.Next:=by unfold nextOf;rw [e1];rfl
   rw [Nt,hn]
   cases q:ln.Next.contains b
   ·rw [q]at hs;rw [F4 hs];rfl
   ·rw [q]at hs
    have hbm:=V.next e1 (List.contains_iff_mem.1 q)
    rw [M6 hs,ih (i+1) b (L5 hi) hb (by omega) (by omega),bH]
theorem Sq {m:Map}(B:BearM m)(r:List Int)(hr:r.length≤1000000):Ao m r=some (W6 m r):=by
  unfold Ao W6
  rw [So B,lA]
  by_cases q:Ur m=0
  ·have V:=chkR_zero.1 q
   rw [bG (by simpa using q),show (Ur m !=0)=false by simpa using q,bE]
   cases r with
   |nil=>rfl
   |cons a t=>
    dsimp only
    simp only [lJ]at hr ⊢
    by_cases h8:7<t.length
    ·rw [bF (.inl h8),show ((((t.length+1:Nat):Int)==0)||(decide (((t.length+1:Nat):Int)>8)))=true by simp;omega];rfl
    ·rw [show ((((t.length+1:Nat):Int)==0)||(decide (((t.length+1:Nat):Int)>8)))=false by simp;omega]
     rw [show C8 (a::t) 0=some a from rfl]
     simp only [bM,bD,lA,bN]
     by_cases h0:a<0
     ·rw [bF (.inr (.inl h0)),l9 h0];rfl
     ·rw [bA h0]
      simp only [bM,bD,lA,bN]
      by_cases h1:(m.Lanes.length:Int)≤a
      ·rw [bF (.inr (.inr (.inl h1))),show decide (a≥(m.Lanes.length:Int))=true from l9 h1];rfl
      ·rw [show decide (a≥(m.Lanes.length:Int))=false from bA (by omega)]
       simp only [bM,bD,bN]
       rw [lA,UI B,lA]
       by_cases hb:Oy m a= []
       ·rw [hb,show decide ((([]:List Int).length:Int)>0)=false from rfl,bE]
        have:=RM B V (a::t) (by simpa using hr) t 0 a rfl rfl (by omega) (by omega)
        rw [show ((0+1:Nat):Int)=1 from rfl]at this
        rw [this]
        by_cases hc:Nt m a t=true
        ·rw [bF hc,bG (by rw [hc];simp;omega)]
        ·rw [bG hc,bF (.inr (.inr (.inr (.inr (by simpa using hc)))))]
       ·rw [bF (.inr (.inr (.inr (.inl hb)))),show decide (((Oy m a).length:Int)>0)=true from l9 (by have:=List.length_pos_iff.2 hb;omega)];rfl
  ·rw [bF q,show (Ur m !=0)=true by simpa using q];rfl
theorem MM {m:Map}(B:BearM m){a:Int}{t:List Int}(R:RouteOK m a t):Kf m (a::t)=some (R1 m 0 (a::t),Sx m (a::t) (a::t).length):=by
  have hm7:=R.most
  have key: ∀(l:List Int) (i:Nat) (st:List Int),(a::t).drop i=l→i≤(a::t).length→st.length=i→loop (Bq m (a::t)) (st,Sx m (a::t) i,(i:Int))=some (st++R1 m (Sx m (a::t) i) l,Sx m (a::t) (a::t).length):=by
    intro l
    induction l with
    |nil=>
     intro i st hi hil _
     have:=S6 hi
     obtain rfl:i=(a::t).length:=by omega
     refine F4 ?_
     unfold Bq
     dsimp only
     rw [N6,R1,List.append_nil];rfl
    |cons x l ih=>
     intro i st hi hil h2
     have hlt:=P4 hi
     have hx:=Em hi
     have hm:=R.mem (lF hx)
     have hl:=R.len hx
     have hb:=R.bd (Nat.le_of_lt hlt)
     simp only [lJ]at hlt
     rw [M6 (s':=(st++ [Sx m (a::t) i],Sx m (a::t) (i+1),((i+1:Nat):Int)))]
     ·rw [ih (i+1) _ (L5 hi) (by simp;omega) (by simp [h2]),R1,JW hx,lM];rfl
     ·unfold Bq
      dsimp only
      rw [Q7 (by simpa using hlt),Ff (by simp;omega),bD,lA,E7 hx,lA,Wj B hm.1 hm.2,lA,J9 hlt (by omega),E9 (by omega),JW hx]
  have:=key (a::t) 0 [] rfl (by omega) rfl
  rw [Yx]at this
  have this':loop (Bq m (a::t)) ([],0,0)=_:=this
  unfold Kf
  rw [this',lA,lN]
noncomputable def StartsM (m:Map)(r:List Int):List Int:=(Kk m r).starts
noncomputable def LongM (m:Map)(r:List Int):Int:=(Kk m r).length
theorem MN {m:Map}(B:BearM m)(r:List Int)(hr:r.length≤1000000):Au m r=some (StartsM m r):=by
  unfold Au StartsM
  rw [FB B r hr];rfl
theorem OP {m:Map}(B:BearM m)(r:List Int)(hr:r.length≤1000000):R5 m r=some (LongM m r):=by
  unfold R5 LongM
  rw [FB B r hr];rfl
theorem JX {m:Map}{r:List Int}(q:W6 m r≠0):Kk m r=⟨⟨0,[],[],[],[]⟩,[],[],0⟩:=by unfold Kk;rw [bG q]
theorem BO {m:Map}(B:BearM m)(r:List Int)(hr:r.length≤1000000):Ha m r=some (StartsM m r):=by
  unfold Ha
  rw [Sq B r hr,lA]
  by_cases q:W6 m r=0
  ·obtain ⟨a,t,rfl,R⟩:=chkRoute_zero.1 q
   rw [q,show ((0:Int) !=0)=false from rfl,bE,MM B R,lA,StartsM,R.follow]
  ·rw [show (W6 m r !=0)=true by simpa using q,bD,StartsM,JX q]
theorem DS {m:Map}(B:BearM m)(r:List Int)(hr:r.length≤1000000):W1 m r=some (LongM m r):=by
  unfold W1
  rw [Sq B r hr,lA]
  by_cases q:W6 m r=0
  ·obtain ⟨a,t,rfl,R⟩:=chkRoute_zero.1 q
   rw [q,show ((0:Int) !=0)=false from rfl,bE,MM B R,lA,LongM,R.follow]
  ·rw [show (W6 m r !=0)=true by simpa using q,bD,LongM,JX q]
section
variable {m:Map}{a:Int}{t:List Int}
end
structure SmallS (s:State):Prop where
  agents:s.Agents.length≤10
  ins:s.In.length≤20
  routes: ∀a∈s.Agents,a.Route.length≤10
theorem dK (s:State): ∃b,Pk s=some b∧(b=true→SmallS s):=by
  unfold Pk
  by_cases h:10<s.Agents.length∨20<s.In.length
  ·rw [show (decide ((s.Agents.length:Int)>10)||decide ((s.In.length:Int)>20))=true by simp only [bK,bB];omega]
   exact ⟨false,rfl,nofun⟩
  ·rw [show (decide ((s.Agents.length:Int)>10)||decide ((s.In.length:Int)>20))=false by simp only [Bool.or_eq_false_iff,bR];omega,bE]
   have hk:=U1 s.Agents (Fl s) (fun _ a=>if 10<a.Route.length then some false else none) (fun i a ha=>by
     have hi:=K6 ha
     unfold Fl
     rw [Q7 hi,E7 ha,bD,lA]
     by_cases q:10<a.Route.length
     ·rw [bF q,l9 (show (a.Route.length:Int)>10 by omega)];rfl
     ·rw [bG q,bA (show ¬(a.Route.length:Int)>10 by omega),bE,J9 hi (by omega)]) (by unfold Fl;rw [N6];rfl)
   rw [hk]
   cases hf:G4 (fun _ (a:Agent)=>if 10<a.Route.length then some false else none) 0 s.Agents with
   |some b=>
    refine ⟨b,rfl,fun hb=> ?_⟩
    subst hb
    exfalso
    have: ∀(l:List Agent) (i:Nat),G4 (fun _ (a:Agent)=>if 10<a.Route.length then some false else none) i l≠some true:=by
      intro l
      induction l with
      |nil=>intro i h;cases h
      |cons a l ih=>
       intro i h
       unfold G4 at h
       by_cases q:10<a.Route.length
       ·rw [bF q]at h;cases h
       ·rw [bG q]at h;exact ih _ h
    exact this _ _ hf
   |none=>
    refine ⟨true,rfl,fun _=>⟨by omega,by omega,fun a ha=> ?_⟩⟩
    obtain ⟨j,hj⟩:=List.getElem?_of_mem ha
    have:=firstE_none.1 hf j a hj
    by_cases q:10<a.Route.length
    ·rw [bF q]at this;cases this
    ·omega
theorem jL {n k:Int}(hk:0<k)(hk2:k≤1000000):Up n k=some (n % k):=by
  have h1:=FA (n:=n) hk
  have a:=Kj n hk
  have b: -k≤n.tmod k∧n.tmod k<k:=by
    have:=Int.tmod_lt_of_pos n hk
    split at h1<;>omega
  unfold Up Xr
  rw [bG (by omega),lA,E9 (by omega),bG (by omega),lA]
  congr 1
  rw [h1]
  by_cases q:n.tmod k<0
  ·rw [bF q,Int.tmod_eq_of_lt (by omega) (by omega)]
  ·rw [bG q,Int.tmod_eq_emod_of_nonneg (by omega),Int.add_emod_right]
   exact Int.emod_eq_of_lt (by omega) (by omega)
theorem gG {n k:Int}(hk:0<k)(hk2:k≤1000000):Uq n k=some (n % k):=by
  have h1:=FA (n:=n) hk
  have a:=Kj n hk
  unfold Uq Xr
  rw [bG (by omega),lA]
  by_cases q:n.tmod k<0
  ·rw [bF q]at h1
   rw [l9 q,bD,E9 (by omega),← h1]
  ·rw [bG q]at h1
   rw [bA q,bE,← h1]
/-! ### Copies -/
structure SizeS (s:State):Prop where
  agents:s.Agents.length≤1000
  ins:s.In.length≤1000000
  routes: ∀a∈s.Agents,a.Route.length≤1000
theorem SmallS.size {s:State}(h:SmallS s):SizeS s:=⟨by have:=h.agents;omega,by have:=h.ins;omega,fun a ha=>by have:=h.routes a ha;omega⟩
/-- The last place up to a number. -/
def Qk (S:Int):Nat→Nat→List Int→Nat
  |_,b,[]=>b
  |i,b,x::r=>Qk S (i+1) (if x≤S then i else b) r
theorem RN (st:List Int)(S:Int): ∀(r:List Int) (i b:Nat),st.drop i=r→i≤st.length→(i=0→b=0)→(0<i→b<i∧(∃y,st[b]? =some y∧y≤S)∧∀(j:Nat) y,b<j→j<i→st[j]? =some y→S<y)→(∃y,st[0]? =some y∧y≤S)→
    (∃y,st[Qk S i b r]? =some y∧y≤S)∧∀(j:Nat) y,Qk S i b r<j→st[j]? =some y→S<y:=by
  intro r
  induction r with
  |nil=>
   intro i b hi hil h0 h1 hne
   have:=S6 hi
   obtain ⟨y0,g0,_⟩:=hne
   have:=K6 g0
   obtain ⟨q1,q2,q3⟩:=h1 (by omega)
   exact ⟨q2,fun j y hj hy=>q3 j y hj (by have:=K6 hy;omega) hy⟩
  |cons x r ih=>
   intro i b hi hil h0 h1 hne
   have hx:=Em hi
   have hlt:=P4 hi
   unfold Qk
   refine ih (i+1) _ (L5 hi) hlt (by omega) (fun _=> ?_) hne
   by_cases q:x≤S
   ·rw [bF q]
    exact ⟨by omega,⟨x,hx,q⟩,fun j y h2 h3=>by omega⟩
   ·rw [bG q]
    by_cases z:i=0
    ·subst z
     obtain ⟨y0,g0,g1⟩:=hne
     rw [hx]at g0;cases g0;exact absurd g1 q
    ·obtain ⟨q1,q2,q3⟩:=h1 (by omega)
     refine ⟨by omega,q2,fun j y h2 h3 hy=> ?_⟩
     by_cases e:j=i
     ·subst e;rw [hx]at hy;cases hy;omega
     ·exact q3 j y h2 (by omega) hy
theorem XW {st:List Int}{S:Int}(hne: ∃y,st[0]? =some y∧y≤S):(∃y,st[Qk S 0 0 st]? =some y∧y≤S)∧∀(j:Nat) y,Qk S 0 0 st<j→st[j]? =some y→S<y:=
  RN st S st 0 0 rfl (by omega) (fun _=>rfl) (fun h=>by omega) hne
theorem VZ (g:Agent)(st:List Int)(hl:st.length≤1000000): ∀(r:List Int) (i b:Nat),st.drop i=r→i≤st.length→loop (Ew g st) ((b:Int),(i:Int))=some ((Qk g.S i b r:Nat):Int):=by
  intro r
  induction r with
  |nil=>
   intro i b hi hil
   have:=S6 hi
   obtain rfl:i=st.length:=by omega
   exact F4 (by unfold Ew;dsimp only;rw [N6];rfl)
  |cons x r ih=>
   intro i b hi hil
   have hx:=Em hi
   have hlt:=P4 hi
   unfold Qk
   by_cases q:x≤g.S
   ·rw [bF q,M6 (s':=((i:Int),((i+1:Nat):Int))),ih (i+1) i (L5 hi) hlt]
    unfold Ew;dsimp only
    rw [Q7 hlt,E7 hx,bD,lA,l9 q,bD,J9 hlt (by omega)]
   ·rw [bG q,M6 (s':=((b:Int),((i+1:Nat):Int))),ih (i+1) b (L5 hi) hlt]
    unfold Ew;dsimp only
    rw [Q7 hlt,E7 hx,bD,lA,bA q,bE,J9 hlt (by omega)]
theorem XX (g:Agent)(st:List Int)(hl:st.length≤1000000)(k:Nat)(hk: ∃y,st[k]? =some y∧y≤g.S)(hj: ∀(j:Nat) y,k<j→st[j]? =some y→g.S<y): ∀(n i:Nat),i=k+n→i<st.length→loop (Hy g st) (i:Int)=some (k:Int):=by
  intro n
  induction n with
  |zero=>
   intro i hi hil
   obtain ⟨y,h1,h2⟩:=hk
   obtain rfl:i=k:=by omega
   exact F4 (by unfold Hy;rw [E7 h1,lA,bA (show ¬y>g.S by omega)];rfl)
  |succ n ih=>
   intro i hi hil
   have h1:st[i]? =some st[i]:=lG hil
   have h2:=hj i _ (by omega) h1
   rw [M6 (s':=((i - 1:Nat):Int)) (by unfold Hy;rw [E7 h1,lA,l9 (show st[i]>g.S by omega),bD,E9 (by omega)];congr 2;omega)]
   exact ih (i - 1) (by omega) (by omega)
noncomputable def BP (m:Map)(g:Agent):Nat:=Qk g.S 0 0 (StartsM m g.Route)
/-- The lane of an agent, and its offset. -/
noncomputable def Wm (m:Map)(g:Agent):Int×Int:=(g.Route.getD (BP m g) 0,g.S - (StartsM m g.Route).getD (BP m g) 0)
theorem RouteOK.StartsM {m:Map}{a:Int}{t:List Int}(R:RouteOK m a t):StartsM m (a::t)=R1 m 0 (a::t):=by unfold World.StartsM;rw [R.follow]
theorem RouteOK.LongM {m:Map}{a:Int}{t:List Int}(R:RouteOK m a t):LongM m (a::t)=Sx m (a::t) (a::t).length:=by unfold World.LongM;rw [R.follow]
theorem Zl {m:Map}{a:Int}{t:List Int}(R:RouteOK m a t){g:Agent}(hg:g.Route=a::t)(h0:0≤g.S):
    ∃x,BP m g< (a::t).length∧(a::t)[BP m g]? =some x∧Wm m g=(x,g.S - Sx m (a::t) (BP m g))∧Sx m (a::t) (BP m g)≤g.S∧(∀j,BP m g<j→j< (a::t).length→g.S<Sx m (a::t) j):=by
  have hl:=Ms m (a::t) 0
  have h00:(R1 m 0 (a::t))[0]? =some 0:=by rw [R1];rfl
  obtain ⟨⟨y,y1,y2⟩,y3⟩:=XW (st:=R1 m 0 (a::t)) (S:=g.S) ⟨0,h00,h0⟩
  have e:BP m g=Qk g.S 0 0 (R1 m 0 (a::t)):=by unfold BP;rw [hg,R.StartsM]
  rw [← e]at y1 y3
  have hlt:=K6 y1
  rw [hl]at hlt
  have hy:y=Sx m (a::t) (BP m g):=by
    have:=Jq m (a::t) 0 (BP m g) hlt
    rw [y1,Int.zero_add]at this
    exact lC this
  refine ⟨(a::t)[BP m g],hlt,lG hlt,?_,by omega,fun j hj hjl=> ?_⟩
  ·unfold Wm
   rw [hg,R.StartsM,List.getD,List.getD,lG hlt,y1,hy];rfl
  ·have:=Jq m (a::t) 0 j hjl
   rw [Int.zero_add]at this
   exact y3 j _ hj this
theorem dL {m:Map}(B:BearM m){a:Int}{t:List Int}(R:RouteOK m a t){g:Agent}(hg:g.Route=a::t)(h0:0≤g.S)(h1:g.S≤9223372036854775807):Gr m g=some (Wm m g)∧Si m g=some (Wm m g):=by
  obtain ⟨x,q1,q2,q3,q4,q5⟩:=Zl R hg h0
  have hm7:=R.most
  have hr:g.Route.length≤1000000:=by rw [hg];simp;omega
  have hl:=Ms m (a::t) 0
  have hbd:=R.bd (i:=BP m g) (by omega)
  have hs:C8 (R1 m 0 (a::t)) ((BP m g:Nat):Int)=some (Sx m (a::t) (BP m g)):=RouteOK.starts q1
  have hk:(R1 m 0 (a::t))[BP m g]? =some (Sx m (a::t) (BP m g)):=by rw [Jq m _ 0 _ q1,Int.zero_add];rfl
  constructor
  ·unfold Gr
   rw [MN B _ hr,lA,hg,R.StartsM]
   have hn:C9 (((R1 m 0 (a::t)).length:Int) - 1)=((t.length:Nat):Int):=by rw [hl,E9 (by simp;omega)];simp
   rw [hn,XX g _ (by rw [hl];simp;omega) (BP m g) ⟨_,hk,q4⟩ (fun j y hj hy=>by
    have hjl:=K6 hy
    rw [hl]at hjl
    have:=Jq m (a::t) 0 j hjl
    rw [hy,Int.zero_add]at this
    cases this
    exact q5 j hj hjl) (t.length - BP m g) t.length (by simp only [lJ]at q1;omega) (by rw [hl];simp),lA,E7 q2,lA,hs,lA,q3,E9 (by omega)]
  ·unfold Si
   rw [BO B _ hr,lA,hg,R.StartsM]
   have:=VZ g (R1 m 0 (a::t)) (by rw [hl];simp;omega) (R1 m 0 (a::t)) 0 0 rfl (by omega)
   have e:BP m g=Qk g.S 0 0 (R1 m 0 (a::t)):=by unfold BP;rw [hg,R.StartsM]
   rw [← e]at this
   rw [show ((0:Int),(0:Int))=(((0:Nat):Int),((0:Nat):Int)) from rfl,this,lA,E7 q2,lA,hs,lA,q3,E9 (by omega)]
noncomputable def UP (m:Map)(x:Int):Int:=((m.Lanes[x.toNat]?).map (·.Kind)).getD 0
/-- The greatest speed, acceleration and braking where an agent is. -/
noncomputable def XY (m:Map)(g:Agent):Int×Int×Int:=Qj (UP m (Wm m g).1)
noncomputable def DT (m:Map)(g:Agent):Bool:=decide (C9 (g.S - g.Len)>LongM m g.Route)
def OQ (g:Agent):Bool:=(((decide (g.Len<300)||decide (g.Len>20000))||decide (g.Begin<0))||decide (g.Begin>1099511627776))||decide (g.S<0)
/-- The error of an agent of a state. -/
noncomputable def Dj (m:Map)(s:State)(i:Int)(g:Agent):Int:=
  if W6 m g.Route=0 then
   if OQ g=true∨g.S>LongM m g.Route+g.Len+2000 then 2
   else if g.V<0∨g.V>(XY m g).1 then 2
   else if g.Gone≠DT m g∨(g.Begin>s.Tick∧g.S≠0)∨(i=0∧g.Begin≠0)then 10 else 0
  else 13
theorem Yy {m:Map}{a:Int}{t:List Int}(R:RouteOK m a t):1000≤LongM m (a::t)∧LongM m (a::t)≤134217728:=by
  have h1:=R.bd (bU _)
  have h2:=R.lt (i:=0) (j:=(a::t).length) (by simp) (bU _)
  rw [Yx]at h2
  rw [R.LongM];omega
theorem WA {m:Map}(B:BearM m){g:Agent}(hr:g.Route.length≤1000000):Gs m g=some (DT m g)∧Sj m g=some (DT m g):=by
  constructor
  ·unfold Gs Es
   rw [lA,OP B _ hr];rfl
  ·unfold Sj
   rw [DS B _ hr];rfl
theorem XZ {m:Map}{a:Int}{t:List Int}(R:RouteOK m a t){g:Agent}(hg:g.Route=a::t)(h0:0≤g.S): ∃l,C8 m.Lanes (Wm m g).1=some l∧UP m (Wm m g).1=l.Kind∧m.Lanes[(Wm m g).1.toNat]? =some l:=by
  obtain ⟨x,q1,q2,q3,_⟩:=Zl R hg h0
  have hx:=R.mem (lF q2)
  have hl:m.Lanes[x.toNat]? =some m.Lanes[x.toNat]:=lG (by omega)
  have hg:=E7 hl
  rw [Int.toNat_of_nonneg hx.1]at hg
  refine ⟨_,by rw [q3];exact hg,?_,by rw [q3];exact hl⟩
  rw [q3];unfold UP
  dsimp only
  rw [hl];rfl
theorem JY {g:Agent}(h:OQ g=false):300≤g.Len∧g.Len≤20000∧0≤g.Begin∧g.Begin≤1099511627776∧0≤g.S:=by
  unfold OQ at h
  simp only [Bool.or_eq_false_iff,bR]at h
  omega
theorem RO {m:Map}(B:BearM m)(s:State){i:Int}{g:Agent}(hi:C8 s.Agents i=some g)(hr:g.Route.length≤1000)(hS:g.S≤9223372036854775807):
    Y3 m s i=some (Dj m s i g)∧Fx m s i=some (Dj m s i g):=by
  have hr':g.Route.length≤1000000:=by omega
  unfold Y3 Fx Dj
  rw [hi,lA,lA,AM B _ hr',Sq B _ hr',lA,lA]
  by_cases q:W6 m g.Route=0
  case neg=>
    rw [bG q,show (W6 m g.Route !=0)=true by simpa using q]
    exact ⟨rfl,rfl⟩
  rw [bF q,q,show ((0:Int) !=0)=false from rfl,bE,bE]
  obtain ⟨a,t,ht,R⟩:=chkRoute_zero.1 q
  have hL:=Yy R
  rw [← ht]at hL
  rw [OP B _ hr',DS B _ hr']
  have e:((((decide (g.Len<300)||decide (g.Len>20000))||decide (g.Begin<0))||decide (g.Begin>1099511627776))||decide (g.S<0))=OQ g:=rfl
  rw [e]
  by_cases o:OQ g=true
  ·rw [bF (.inl o),o];exact ⟨rfl,rfl⟩
  have o':OQ g=false:=by simpa using o
  obtain ⟨o1,o2,o3,o4,o5⟩:=JY o'
  rw [o',bM,bD,lA,lA,bN,E9 (n:=LongM m g.Route+g.Len) (by omega),E9 (n:=LongM m g.Route+g.Len+2000) (by omega)]
  by_cases l:g.S>LongM m g.Route+g.Len+2000
  ·rw [bF (.inr l),l9 l];exact ⟨rfl,rfl⟩
  rw [bG (fun h=>h.elim (fun h=>by cases h) l),bA l,bE,bE]
  obtain ⟨l1,l2⟩:=dL B R ht o5 hS
  obtain ⟨ln,k1,k2,_⟩:=XZ R ht o5
  rw [l1,l2,lA,lA,k1,lA,lA,EW,BJ,lA,lA]
  have ev:(XY m g).1=(Qj ln.Kind).1:=by unfold XY;rw [k2]
  rw [ev]
  by_cases v:g.V<0∨g.V>(Qj ln.Kind).1
  ·rw [bF v,show (decide (g.V<0)||decide (g.V>(Qj ln.Kind).1))=true by simpa using v];exact ⟨rfl,rfl⟩
  rw [bG v,show (decide (g.V<0)||decide (g.V>(Qj ln.Kind).1))=false by rw [bP];simpa using v,bE,bE,(WA B hr').1,(WA B hr').2,lA,lA]
  have hb: ∀b:Bool,(b=true↔g.Gone≠DT m g∨(g.Begin>s.Tick∧g.S≠0)∨(i=0∧g.Begin≠0))→cond b (some (10:Int)) (some 0)=some (if g.Gone≠DT m g∨(g.Begin>s.Tick∧g.S≠0)∨(i=0∧g.Begin≠0)then 10 else 0):=by
    intro b hb
    by_cases h:g.Gone≠DT m g∨(g.Begin>s.Tick∧g.S≠0)∨(i=0∧g.Begin≠0)
    ·rw [bF h,hb.2 h];rfl
    ·rw [bG h]
     cases b
     ·rfl
     ·exact absurd (hb.1 rfl) h
  exact ⟨hb _ (by simp),hb _ (by simp [or_assoc])⟩
/-! ### The whole check -/
def Wn (a b:Stay):Bool:=decide (a.Agent_<b.Agent_)||(a.Agent_==b.Agent_&&decide (a.Zone_<b.Zone_))
theorem jM (a b:Int):Et [a,b]=some (if a≠0 then a else b):=by
  unfold Et
  by_cases h:a=0
  ·subst h
   rw [M6 (s':=1) rfl,bG (by simp)]
   by_cases h:b=0
   ·subst h;rw [M6 (s':=2) rfl,F4 (t:= .inl ()) rfl];rfl
   ·rw [F4 (t:= .inr b) (by unfold Kz;rw [show C8 [(0:Int),b] 1=some b from rfl,lA,show (b !=0)=true by simpa using h];rfl)];rfl
  ·rw [F4 (t:= .inr a) (by unfold Kz;rw [show C8 [a,b] 0=some a from rfl,lA,show (a !=0)=true by simpa using h];rfl),bF h];rfl
/-- What the order of two stays is. -/
def gH (a b:Stay):Int:=if XV a.Agent_ b.Agent_≠0 then XV a.Agent_ b.Agent_ else XV a.Zone_ b.Zone_
theorem dM (a b:Stay):Cd a b=some (gH a b):=by
  unfold Cd gH
  rw [JV,lA,JV,lA,jM,lA]
theorem dN (a b:Stay):decide (gH a b≥0)= !Wn a b:=by
  unfold gH Wn XV
  by_cases h1:a.Agent_<b.Agent_
  ·simp [h1]
  ·by_cases h2:a.Agent_>b.Agent_
   ·have:a.Agent_≠b.Agent_:=by omega
    simp [h1,h2,this]
   ·have:a.Agent_=b.Agent_:=by omega
    by_cases h3:a.Zone_<b.Zone_
    ·simp [this,h3]
    ·by_cases h4:a.Zone_>b.Zone_
     ·simp [this,h3,h4]
     ·simp [this,h3,h4]
def AN (m:Map)(s:State)(x:Stay):Bool:=((decide (x.Agent_<0)||decide (x.Agent_≥(s.Agents.length:Int)))||decide (x.Zone_<0))||decide (x.Zone_≥(m.Zones.length:Int))
def YL (m:Map)(s:State)(i:Nat)(x:Stay):Option Int:=if AN m s x=true∨(0<i∧∃y,s.In[i - 1]? =some y∧Wn y x=false)then some 11 else none
def Vr (s:State)(x:Stay):Bool:=((decide (x.Since<0)||decide (x.Since>s.Tick))||decide (x.Rank<0))||decide (x.Rank>100)
noncomputable def BQ (m:Map)(s:State):Int:=
  if Ur m=0 then
   if s.Tick<0∨s.Tick>1099511627776 then 2 else if s.Agents.length=0 then 6 else if 8<s.Agents.length then 8
   else match G4 (fun i g=>if Dj m s (i:Int) g=0 then none else some (Dj m s (i:Int) g)) 0 s.Agents with
     |some e=>e
     |none=>match G4 (YL m s) 0 s.In with
      |some e=>e
      |none=>if s.In.any (Vr s)=true then 2 else 0
  else Ur m
theorem RP {m:Map}(B:BearM m){s:State}(h:SizeS s)(hw: ∀g∈s.Agents,g.S≤9223372036854775807):
    loop (Z0 m s) 0=some (EV (G4 (fun i g=>if Dj m s (i:Int) g=0 then none else some (Dj m s (i:Int) g)) 0 s.Agents))∧
    loop (Ga m s) 0=some (EV (G4 (fun i g=>if Dj m s (i:Int) g=0 then none else some (Dj m s (i:Int) g)) 0 s.Agents)):=by
  have hh:=h.agents
  constructor
  ·refine U1 s.Agents _ _ (fun i g hg=> ?_) (by unfold Z0;rw [N6];rfl)
   have hm:=lF hg
   unfold Z0
   rw [Q7 (K6 hg),bD,(RO B s (E7 hg) (h.routes g hm) (hw g hm)).1,lA]
   by_cases q:Dj m s (i:Int) g=0
   ·rw [bF q,q,show ((0:Int) !=0)=false from rfl,bE,J9 (K6 hg) (by omega)]
   ·rw [bG q,show (Dj m s (i:Int) g !=0)=true by simpa using q];rfl
  ·refine U1 s.Agents _ _ (fun i g hg=> ?_) (by unfold Ga;rw [N6];rfl)
   have hm:=lF hg
   unfold Ga
   rw [Q7 (K6 hg),bD,(RO B s (E7 hg) (h.routes g hm) (hw g hm)).2,lA]
   by_cases q:Dj m s (i:Int) g=0
   ·rw [bF q,q,show ((0:Int) !=0)=false from rfl,bE,J9 (K6 hg) (by omega)]
   ·rw [bG q,show (Dj m s (i:Int) g !=0)=true by simpa using q];rfl
theorem RQ {α:Type}{l:List α}{i:Nat}{a:α}(h:l[i]? =some a)(h0:0<i): ∃y,l[i - 1]? =some y∧C8 l (C9 ((i:Int) - 1))=some y∨1000000000000<i:=by
  by_cases hb:1000000000000<i
  ·exact ⟨a, .inr hb⟩
  ·have:=K6 h
   have e:l[i - 1]? =some l[i - 1]:=lG (by omega)
   refine ⟨_, .inl ⟨e,?_⟩⟩
   rw [E9 (by omega),show (i:Int) - 1=((i - 1:Nat):Int) by omega]
   exact E7 e
theorem dO (m:Map){s:State}(h:SizeS s):
    loop (Y9 m s) 0=some (EV (G4 (YL m s) 0 s.In))∧loop (Fz m s) 0=some (EV (G4 (YL m s) 0 s.In)):=by
  have hh:=h.ins
  constructor
  ·refine U1 s.In _ _ (fun i x hx=> ?_) (by unfold Y9;rw [N6];rfl)
   have hi:=K6 hx
   unfold Y9
   rw [Q7 hi,bD,E7 hx,lA]
   have e:(((decide (x.Agent_<0)||decide (x.Agent_≥(s.Agents.length:Int)))||decide (x.Zone_<0))||decide (x.Zone_≥(m.Zones.length:Int)))=AN m s x:=rfl
   rw [e]
   unfold YL
   by_cases hb:AN m s x=true
   ·rw [hb,bF (.inl rfl)];rfl
   have hb':AN m s x=false:=by simpa using hb
   rw [hb',bM,bH]
   by_cases h0:0<i
   ·obtain ⟨y,hy⟩:=RQ hx h0
    rcases hy with ⟨y1,y2⟩|hy
    ·rw [l9 (show (i:Int)>0 by omega),bD,y2,lA,bD,dM,lA,bN,bH,dN]
     by_cases q:Wn y x=true
     ·rw [q,bG (by rintro (h|⟨_,z,z1,z2⟩);exact (by cases h);rw [y1]at z1;cases z1;rw [q]at z2;cases z2),bL,bE,J9 hi (by omega)]
     ·have q':Wn y x=false:=by simpa using q
      rw [q',bF (.inr ⟨h0,y,y1,q'⟩)];rfl
    ·omega
   ·rw [bA (show ¬(i:Int)>0 by omega),bE,lA,bE,lA,bN,bI,bE,bG (by rintro (h|⟨h,_⟩);exact (by cases h);exact h0 h),J9 hi (by omega)]
  ·refine U1 s.In _ _ (fun i x hx=> ?_) (by unfold Fz;rw [N6];rfl)
   have hi:=K6 hx
   unfold Fz
   rw [Q7 hi,bD,E7 hx,lA]
   have e:(((decide (x.Agent_<0)||decide (x.Agent_≥(s.Agents.length:Int)))||decide (x.Zone_<0))||decide (x.Zone_≥(m.Zones.length:Int)))=AN m s x:=rfl
   rw [e]
   unfold YL
   by_cases hb:AN m s x=true
   ·rw [hb,bF (.inl rfl)];rfl
   have hb':AN m s x=false:=by simpa using hb
   rw [hb',bE]
   by_cases h0:0<i
   ·obtain ⟨y,hy⟩:=RQ hx h0
    rcases hy with ⟨y1,y2⟩|hy
    ·rw [l9 (show (i:Int)>0 by omega),bD,y2,lA,bH]
     have hc: ∀b:Bool,(cond b (some y) (some default)).bind (fun v=>some v)=some (cond b y default):=by intro b;cases b<;>rfl
     by_cases q1:x.Agent_<y.Agent_
     ·rw [l9 q1,bF (.inr ⟨h0,y,y1,by unfold Wn;simp;omega⟩)];rfl
     ·rw [bA q1,bM,bD,lA,bH]
      by_cases q2:x.Agent_=y.Agent_
      ·rw [show (x.Agent_==y.Agent_)=true by simpa using q2,bD,lA,bN,bH,bH]
       by_cases q3:x.Zone_≤y.Zone_
       ·rw [l9 q3,bF (.inr ⟨h0,y,y1,by unfold Wn;simp;omega⟩)];rfl
       ·rw [bA q3,bG (by rintro (h|⟨_,z,z1,z2⟩);exact (by cases h);rw [y1]at z1;cases z1;unfold Wn at z2;simp at z2;omega),bE,J9 hi (by omega)]
      ·rw [show (x.Agent_==y.Agent_)=false by simpa using q2,bE,lA,bN,bH,bI,bE,bG (by rintro (h|⟨_,z,z1,z2⟩);exact (by cases h);rw [y1]at z1;cases z1;unfold Wn at z2;simp at z2;omega),J9 hi (by omega)]
    ·omega
   ·rw [bA (show ¬(i:Int)>0 by omega),bE,lA]
    simp only [bI,bE,lA]
    rw [bG (by rintro (h|⟨h,_⟩);exact (by cases h);exact h0 h),J9 hi (by omega)]
theorem OR {α:Type}(l:List α)(P:α→Bool)(F:Int→Option (Stp Int (Sum Unit Int)))(hl:l.length≤1000000000)(hF: ∀(i:Nat) a,l[i]? =some a→F (i:Int)=some (if P a then .out (.inr (i:Int))else .go (C9 ((i:Int)+1))))(h0:F (l.length:Int)=some (.out (.inl ()))):
    (thenS (loop F 0) (fun _=>some (-1)) (fun r=>some r)).bind (fun v=>some (decide (v≥0)))=some (l.any P):=by
  rw [JO l P hl hF h0]
  have:=DO P l
  unfold cT at this
  cases hq:l.findIdx? P with
  |some i=>rw [hq]at this;show some _=_;rw [← this]
  |none=>rw [hq]at this;show some _=_;rw [← this]
theorem gI {s:State}(h:SizeS s):E8 s.In s=some (s.In.any (Vr s)):=by
  have hh:=h.ins
  unfold E8 H7
  refine OR s.In (Vr s) _ (by omega) (fun i x hx=> ?_) (by unfold K9;rw [N6];rfl)
  unfold K9 Lr
  rw [Q7 (K6 hx),E7 hx,bD,lA,lA]
  have e:(((decide (x.Since<0)||decide (x.Since>s.Tick))||decide (x.Rank<0))||decide (x.Rank>100))=Vr s x:=rfl
  rw [e]
  cases Vr s x<;>rfl
theorem dP {s:State}(h:SizeS s):thenS (loop (Fy s) 0) (fun _=>some 0) (fun r=>some r)=some (if s.In.any (Vr s)=true then 2 else 0):=by
  have hh:=h.ins
  rw [U1 s.In _ (fun _ x=>if Vr s x=true then some 2 else none) (fun i x hx=> ?_) (by unfold Fy;rw [N6];rfl)]
  ·by_cases q:s.In.any (Vr s)=true
   ·rw [bF q]
    cases hf:G4 (fun _ x=>if Vr s x=true then some (2:Int)else none) 0 s.In with
    |some e=>
     have: ∀(l:List Stay) (i:Nat),G4 (fun _ x=>if Vr s x=true then some (2:Int)else none) i l=some e→e=2:=by
       intro l
       induction l with
       |nil=>intro i h;cases h
       |cons a l ih=>
        intro i h
        unfold G4 at h
        by_cases z:Vr s a=true
        ·rw [bF z]at h;cases h;rfl
        ·rw [bG z]at h;exact ih _ h
     rw [this _ _ hf];rfl
    |none=>
     obtain ⟨x,x1,x2⟩:=List.any_eq_true.1 q
     obtain ⟨j,hj⟩:=List.getElem?_of_mem x1
     have:=firstE_none.1 hf j x hj
     rw [bF x2]at this;cases this
   ·rw [bG q,firstE_none.2 fun j x hj=> ?_]
    ·rfl
    ·by_cases z:Vr s x=true
     ·exact absurd (List.any_eq_true.2 ⟨x,lF hj,z⟩) q
     ·rw [bG z]
  ·unfold Fy
   rw [Q7 (K6 hx),E7 hx,bD,lA]
   have e:(((decide (x.Since<0)||decide (x.Since>s.Tick))||decide (x.Rank<0))||decide (x.Rank>100))=Vr s x:=rfl
   rw [e]
   by_cases z:Vr s x=true
   ·rw [bF z,z];rfl
   ·rw [bG z,show Vr s x=false by simpa using z,bE,J9 (K6 hx) (by omega)]
theorem Yz {m:Map}(B:BearM m){s:State}(h:SizeS s)(hw: ∀g∈s.Agents,g.S≤9223372036854775807):Ba m s=some (BQ m s)∧Mp m s=some (BQ m s):=by
  obtain ⟨a1,a2⟩:=RP B h hw
  obtain ⟨i1,i2⟩:=dO m h
  unfold Ba Mp BQ
  rw [Ns B,So B,lA,lA]
  by_cases q:Ur m=0
  case neg=>rw [bG q,show (Ur m !=0)=true by simpa using q];exact ⟨rfl,rfl⟩
  rw [bF q,q,show ((0:Int) !=0)=false from rfl,bE,bE]
  by_cases t:s.Tick<0∨s.Tick>1099511627776
  ·rw [bF t,show (decide (s.Tick<0)||decide (s.Tick>1099511627776))=true by simpa using t];exact ⟨rfl,rfl⟩
  rw [bG t,show (decide (s.Tick<0)||decide (s.Tick>1099511627776))=false by rw [bP];simpa using t,bE,bE]
  by_cases n0:s.Agents.length=0
  ·rw [bF n0,show (((s.Agents.length:Nat):Int)==0)=true by rw [n0];rfl];exact ⟨rfl,rfl⟩
  rw [bG n0,show (((s.Agents.length:Nat):Int)==0)=false by simpa using (show ((s.Agents.length:Nat):Int)≠0 by omega),bE,bE]
  by_cases n8:8<s.Agents.length
  ·rw [bF n8,l9 (show (s.Agents.length:Int)>8 by omega)];exact ⟨rfl,rfl⟩
  rw [bG n8,bA (show ¬(s.Agents.length:Int)>8 by omega),bE,bE,a1,a2]
  cases G4 (fun i g=>if Dj m s (i:Int) g=0 then none else some (Dj m s (i:Int) g)) 0 s.Agents with
  |some e=>exact ⟨rfl,rfl⟩
  |none=>
   show thenS _ _ _=_∧thenS _ _ _=_
   rw [i1,i2]
   cases G4 (YL m s) 0 s.In with
   |some e=>exact ⟨rfl,rfl⟩
   |none=>
    refine ⟨?_,dP h⟩
    show (E8 s.In s).bind _=_
    rw [gI h,lA]
    cases s.In.any (Vr s)<;>rfl
abbrev gJ (g:Agent):Prop:=(∀x∈g.Route,P3 x)∧P3 g.S∧P3 g.V∧P3 g.Len∧P3 g.Begin∧True∧True
abbrev jN (x:Stay):Prop:=P3 x.Agent_∧P3 x.Zone_∧P3 x.Since∧P3 x.Rank
abbrev WB (s:State):Prop:=P3 s.Tick∧(∀g∈s.Agents,gJ g)∧∀x∈s.In,jN x
/-- A map of the kit. -/
structure KitM (m:Map):Prop extends BearK m where
  val:ValR m
theorem gK (n:Int): ∃m,Zj n=some m∧KitM m∧∃k p,k<8∧ParOK p∧m=DR k p:=by
  obtain ⟨k,p,hk,hp,hm⟩:=UK n
  exact ⟨_,hm,⟨⟨dE hp,(FU k p.r).1⟩,gD hk hp⟩,k,p,hk,hp,rfl⟩
theorem KitM.chk {m:Map}(K:KitM m):Ur m=0:=chkR_zero.2 K.val
/-- Who is there. -/
def Fa (s:State)(i:Int):Bool:=match C8 s.Agents i with
  |some g=> !g.Gone&&decide (g.Begin≤s.Tick)
  |none=>false
theorem YA {α:Type}{l:List α}{i:Int}(h: ¬(0≤i∧i<l.length)):C8 l i=none:=by
  unfold C8
  by_cases h0:0≤i
  ·rw [bF h0]
   exact List.getElem?_eq_none (by omega)
  ·rw [bG h0]
theorem YB {α:Type}{l:List α}{i:Int}(h0:0≤i)(h1:i<l.length): ∃a,C8 l i=some a∧l[i.toNat]? =some a:=by
  have:l[i.toNat]? =some l[i.toNat]:=lG (by omega)
  exact ⟨_,by unfold C8;rw [bF h0];exact this,this⟩
theorem DU (s:State)(i:Int):Ce s i=some (Fa s i)∧Mr s i=some (Fa s i):=by
  unfold Ce Mr Fa
  by_cases h:0≤i∧i<s.Agents.length
  ·obtain ⟨g,hg,_⟩:=YB h.1 h.2
   rw [show (decide (i≥0)&&decide (i< (s.Agents.length:Int)))=true by simp only [bJ,bB];exact h,bD,hg,lA,lA]
   simp only [bD,lA,bH]
   constructor
   ·cases g.Gone<;>simp
   ·by_cases q:g.Begin≤s.Tick<;>simp [q]
  ·rw [show (decide (i≥0)&&decide (i< (s.Agents.length:Int)))=false by rw [bP];simp only [ne_eq,bJ,bB];exact h,YA h]
   exact ⟨rfl,rfl⟩
/-- What is known of an agent of a valid state. -/
structure AgentOK (m:Map)(s:State)(i:Int)(g:Agent):Prop where
  route: ∃a t,g.Route=a::t∧RouteOK m a t
  len:300≤g.Len∧g.Len≤20000
  begin:0≤g.Begin∧g.Begin≤1099511627776
  S:0≤g.S∧g.S≤LongM m g.Route+g.Len+2000
  V:0≤g.V∧g.V≤(XY m g).1
  gone:g.Gone=DT m g
  late: ¬(g.Begin>s.Tick∧g.S≠0)
  first:i=0→g.Begin=0
theorem agentM_zero {m:Map}{s:State}{i:Int}{g:Agent}:Dj m s i g=0↔AgentOK m s i g:=by
  unfold Dj
  constructor
  ·intro h
   by_cases q:W6 m g.Route=0
   ·rw [bF q]at h
    by_cases o:OQ g=true∨g.S>LongM m g.Route+g.Len+2000
    ·rw [bF o]at h;cases h
    ·rw [bG o]at h
     by_cases v:g.V<0∨g.V>(XY m g).1
     ·rw [bF v]at h;cases h
     ·rw [bG v]at h
      by_cases z:g.Gone≠DT m g∨(g.Begin>s.Tick∧g.S≠0)∨(i=0∧g.Begin≠0)
      ·rw [bF z]at h;cases h
      ·obtain ⟨o1,o2,o3,o4,o5⟩:=JY (g:=g) (by cases hq:OQ g<;>simp_all)
       refine ⟨chkRoute_zero.1 q,⟨o1,o2⟩,⟨o3,o4⟩,⟨o5,?_⟩,?_,?_,fun h=>z (.inr (.inl h)),fun h=> ?_⟩
       ·exact Int.not_lt.1 fun h=>o (.inr h)
       ·omega
       ·exact Classical.byContradiction fun h=>z (.inl h)
       ·exact Classical.byContradiction fun h'=>z (.inr (.inr ⟨h,h'⟩))
   ·rw [bG q]at h;cases h
  ·intro A
   have l:=A.len;have b:=A.begin;have S:=A.S;have V:=A.V
   rw [bF (chkRoute_zero.2 A.route),bG,bG,bG]
   ·rintro (h|h|h)
    ·exact h A.gone
    ·exact A.late h
    ·exact h.2 (A.first h.1)
   ·omega
   ·rintro (h|h)
    ·unfold OQ at h
     simp only [bK,bB]at h
     omega
    ·omega
structure StateOK (m:Map)(s:State):Prop where
  tick:0≤s.Tick∧s.Tick≤1099511627776
  num:0<s.Agents.length∧s.Agents.length≤8
  agent: ∀(i:Nat) g,s.Agents[i]? =some g→AgentOK m s (i:Int) g
  ins: ∀(i:Nat) x,s.In[i]? =some x→AN m s x=false
  sorted: ∀(i:Nat) x y,s.In[i]? =some x→s.In[i+1]? =some y→Wn x y=true
  rank: ∀x∈s.In,Vr s x=false
theorem YC {m:Map}(K:KitM m){s:State}:BQ m s=0↔StateOK m s:=by
  unfold BQ
  rw [bF K.chk]
  constructor
  ·intro h
   by_cases t:s.Tick<0∨s.Tick>1099511627776
   ·rw [bF t]at h;cases h
   rw [bG t]at h
   by_cases n0:s.Agents.length=0
   ·rw [bF n0]at h;cases h
   rw [bG n0]at h
   by_cases n8:8<s.Agents.length
   ·rw [bF n8]at h;cases h
   rw [bG n8]at h
   cases ha:G4 (fun i g=>if Dj m s (i:Int) g=0 then none else some (Dj m s (i:Int) g)) 0 s.Agents with
   |some e=>
    rw [ha]at h
    have: ∀(l:List Agent) (i:Nat),G4 (fun i g=>if Dj m s (i:Int) g=0 then none else some (Dj m s (i:Int) g)) i l=some e→e≠0:=by
      intro l
      induction l with
      |nil=>intro i h;cases h
      |cons a l ih=>
       intro i h
       unfold G4 at h
       by_cases z:Dj m s (i:Int) a=0
       ·rw [bF z]at h;exact ih _ h
       ·rw [bG z]at h;cases h;exact z
    exact absurd h (this _ _ ha)
   |none=>
    rw [ha]at h
    cases hi:G4 (YL m s) 0 s.In with
    |some e=>
     rw [hi]at h
     have: ∀(l:List Stay) (i:Nat),G4 (YL m s) i l=some e→e≠0:=by
       intro l
       induction l with
       |nil=>intro i h;cases h
       |cons a l ih=>
        intro i h
        unfold G4 at h
        cases z:YL m s i a with
        |none=>rw [z]at h;exact ih _ h
        |some e'=>
         rw [z]at h;cases h
         unfold YL at z
         split at z
         ·cases z;decide
         ·cases z
     exact absurd h (this _ _ hi)
    |none=>
     rw [hi]at h
     have ha':=firstE_none.1 ha
     have hi':=firstE_none.1 hi
     simp only [bX]at ha' hi'
     have hin: ∀(i:Nat) x,s.In[i]? =some x→¬(AN m s x=true∨(0<i∧∃y,s.In[i - 1]? =some y∧Wn y x=false)):=by
       intro i x hx q
       have:=hi' i x hx
       unfold YL at this
       rw [bF q]at this;cases this
     have hr:s.In.any (Vr s)=false:=by
       cases q:s.In.any (Vr s)with
       |false=>rfl
       |true=>rw [q]at h;cases h
     refine ⟨by omega,by omega,fun i g hg=>agentM_zero.1 ?_,fun i x hx=> ?_,fun i x y hx hy=> ?_,fun x hx=> ?_⟩
     ·have:=ha' i g hg
      by_cases z:Dj m s (i:Int) g=0
      ·exact z
      ·rw [bG z]at this;cases this
     ·have:=hin i x hx
      cases q:AN m s x with
      |false=>rfl
      |true=>exact absurd (.inl q) this
     ·have:=hin (i+1) y hy
      cases q:Wn x y with
      |true=>rfl
      |false=>exact absurd (.inr ⟨by omega,x,hx,q⟩) this
     ·have:=List.any_eq_false.1 hr x hx
      simpa using this
  ·intro O
   have t:=O.tick;have n:=O.num
   rw [bG (by omega),bG (by omega),bG (by omega)]
   rw [firstE_none.2 fun i g hg=>by rw [bX,bF (agentM_zero.2 (O.agent i g hg))]]
   rw [firstE_none.2 fun i x hx=> ?_]
   ·dsimp only
    rw [bG]
    intro h
    obtain ⟨x,x1,x2⟩:=List.any_eq_true.1 h
    rw [O.rank x x1]at x2;cases x2
   ·rw [bX]
    unfold YL
    rw [bG]
    rintro (h|⟨h0,y,y1,y2⟩)
    ·rw [O.ins i x hx]at h;cases h
    ·have:=O.sorted (i - 1) y x y1 (by rw [show i - 1+1=i by omega];exact hx)
     rw [this]at y2;cases y2
theorem AgentOK.bd {m:Map}{s:State}{i:Int}{g:Agent}(A:AgentOK m s i g):1000≤LongM m g.Route∧LongM m g.Route≤134217728:=by
  obtain ⟨a,t,h,R⟩:=A.route
  rw [h];exact Yy R
theorem mE {s:State}(w:WB s): ∀g∈s.Agents,g.S≤9223372036854775807:=fun g hg=>(w.2.1 g hg).2.1.2
def WC (g:Agent):Bool:=(((decide (g.S≥0))&& (decide (g.S≤1099511627776)))&& (decide (g.Len≥0)))&& (decide (g.Len≤1099511627776))
theorem Rk {α β:Type}{g:Nat→α→Option β}{b:β}: ∀(l:List α) (k:Nat),b∈Bi g k l↔∃(i:Nat) (a:α),l[i]? =some a∧g (k+i) a=some b
  | [],k=>by simp [Bi]
  |a::r,k=>by
   have ih:=Rk (g:=g) (b:=b) r (k+1)
   have e:(∃(i:Nat) (a':α),(a::r)[i]? =some a'∧g (k+i) a'=some b)↔g k a=some b∨∃(i:Nat) (a':α),r[i]? =some a'∧g (k+1+i) a'=some b:=by
     constructor
     ·rintro ⟨i,a',h1,h2⟩
      cases i with
      |zero=>simp at h1;subst h1;exact .inl h2
      |succ i=>exact .inr ⟨i,a',by simpa using h1,by rw [show k+1+i=k+ (i+1) by omega];exact h2⟩
     ·rintro (h|⟨i,a',h1,h2⟩)
      ·exact ⟨0,a,rfl,h⟩
      ·exact ⟨i+1,a',by simpa using h1,by rw [show k+ (i+1)=k+1+i by omega];exact h2⟩
   rw [e,Bi]
   cases hg:g k a with
   |none=>simp [ih]
   |some c=>simp [ih,eq_comm]
theorem Ut {α β:Type}{g:Nat→α→List β}{b:β}: ∀(l:List α) (k:Nat),b∈Sp g k l↔∃(i:Nat) (a:α),l[i]? =some a∧b∈g (k+i) a
  | [],k=>by simp [Sp]
  |a::r,k=>by
   have ih:=Ut (g:=g) (b:=b) r (k+1)
   rw [Sp,lQ,ih]
   constructor
   ·rintro (h|⟨i,a',h1,h2⟩)
    ·exact ⟨0,a,rfl,h⟩
    ·exact ⟨i+1,a',by simpa using h1,by rw [show k+ (i+1)=k+1+i by omega];exact h2⟩
   ·rintro ⟨i,a',h1,h2⟩
    cases i with
    |zero=>simp at h1;subst h1;exact .inl h2
    |succ i=>exact .inr ⟨i,a',by simpa using h1,by rw [show k+1+i=k+ (i+1) by omega];exact h2⟩
/-- Two agents in a tick: what is known of them. -/
structure Two (m:Map)(s:State)(A:List Agent)(i j:Int)(gi gj gi' gj':Agent):Prop where
  hi:C8 s.Agents i=some gi
  hj:C8 s.Agents j=some gj
  hi':C8 A i=some gi'
  hj':C8 A j=some gj'
  ti:Fa s i=true
  tj:Fa s j=true
  ri:gi.Route.length≤1000
  rj:gj.Route.length≤1000
  oi: ∃a t,gi.Route=a::t∧RouteOK m a t
  oj: ∃a t,gj.Route=a::t∧RouteOK m a t
noncomputable def Ql (m:Map)(g:Agent)(i:Nat)(st:Int):Option Span:=
  if max 0 (C9 (C9 (g.S - g.Len) - st))≤min (C9 (g.S - st)) (En m (g.Route.getD i 0))then some ⟨g.Route.getD i 0,max 0 (C9 (C9 (g.S - g.Len) - st)),min (C9 (g.S - st)) (En m (g.Route.getD i 0))⟩else none
/-- The spans of lanes that an agent covers. -/
noncomputable def Cl (m:Map)(g:Agent):List Span:=if WC g=true then Bi (Ql m g) 0 (StartsM m g.Route)else []
theorem BR {m:Map}(r:List Int):(StartsM m r).length≤r.length:=by
  unfold StartsM Kk
  split
  ·dsimp only;rw [Ms];exact bU _
  ·simp
theorem OS {m:Map}(B:BearM m){g:Agent}(hr:g.Route.length≤1000):Cw m g=some (Cl m g)∧Sl m g=some (Cl m g):=by
  have s1:Oc g=some (WC g):=rfl
  have s2:Vk g=some (WC g):=rfl
  have hsl:=BR (m:=m) g.Route
  have hrt: ∀(i:Nat) st,(StartsM m g.Route)[i]? =some st→C8 g.Route (i:Int)=some (g.Route.getD i 0):=fun i st h=>by
    have:=K6 h
    apply E7
    rw [List.getD,lG (by omega)];rfl
  have e1:loop (Aw m g (StartsM m g.Route)) ([],0)=some (Bi (Ql m g) 0 (StartsM m g.Route)):=by
    refine ON (StartsM m g.Route) (Ql m g) id (fun i st l h hl=> ?_) (fun l=> ?_)
    ·have hi:=K6 h
     unfold Aw Ql
     dsimp only
     rw [Q7 hi,bD,E7 h,lA,hrt i st h,J9 hi (by omega)]
     simp only [lA,Es,Bo,Cv,Ai,Wk B,Lm,Gp]
     rw [Int.max_comm 0]
     by_cases q:max (C9 (C9 (g.S - g.Len) - st)) 0≤min (C9 (g.S - st)) (En m (g.Route.getD i 0))
     ·rw [bF q,bA (by omega),bM,bD,Fk,bF (by simp;omega)];rfl
     ·rw [bG q,l9 (by omega)];rfl
    ·unfold Aw
     dsimp only
     rw [N6];rfl
  have e2:loop (Ik m g (StartsM m g.Route)) ([],0)=some (Bi (Ql m g) 0 (StartsM m g.Route)):=by
    refine ON (StartsM m g.Route) (Ql m g) id (fun i st l h hl=> ?_) (fun l=> ?_)
    ·have hi:=K6 h
     unfold Ik Ql
     dsimp only
     rw [Q7 hi,bD,E7 h,lA,lA,hrt i st h,J9 hi (by omega)]
     simp only [lA,Wl B,Lm,Gp]
     by_cases q:max 0 (C9 (C9 (g.S - g.Len) - st))≤min (C9 (g.S - st)) (En m (g.Route.getD i 0))
     ·rw [bF q,l9 q,bD,Fk,bF (by simp;omega)];rfl
     ·rw [bG q,bA q];rfl
    ·unfold Ik
     dsimp only
     rw [N6];rfl
  unfold Cw Sl Cl
  rw [s1,s2,lA,lA]
  cases hs:WC g
  ·exact ⟨rfl,rfl⟩
  ·simp only [bL,bE,if_true]
   rw [MN B _ (by omega),BO B _ (by omega),lA,lA,e1,e2]
   exact ⟨rfl,rfl⟩
theorem JZ (m:Map)(g:Agent):(Cl m g).length≤g.Route.length:=by
  unfold Cl
  split
  ·exact bY (EZ _ _ _) (BR _)
  ·simp
theorem gL {m:Map}{g:Agent}{x:Span}(h:x∈Cl m g):x.From≤x.To:=by
  unfold Cl at h
  split at h
  ·obtain ⟨i,st,_,h⟩:=(Rk _ _).1 h
   unfold Ql at h
   split at h
   ·cases h;assumption
   ·cases h
  ·cases h
theorem MO {m:Map}{a:Int}{t:List Int}(R:RouteOK m a t):(a::t).length≤8:=by
  have:=R.most
  rw [lJ];omega
/-- What the kit makes of an actor. -/
structure KAgent (m:Map)(first:Bool)(g:Agent):Prop where
  route: ∃a t,g.Route=a::t∧RouteOK m a t
  len:300≤g.Len∧g.Len≤5000
  begin:0≤g.Begin∧g.Begin≤40
  S:0≤g.S∧g.S≤LongM m g.Route
  V:0≤g.V∧g.V≤(XY m g).1
  gone:g.Gone=false
  late:g.Begin>0→g.S=0
  first:first=true→g.Begin=0∧g.Obey=false
structure KList (m:Map)(A:List Agent):Prop where
  few:A.length≤8
  ok: ∀(i:Nat) g,A[i]? =some g→KAgent m (decide (i=0)) g
theorem KList.size {m:Map}{A:List Agent}(h:KList m A):SizeS ⟨0,A,[]⟩:=by
  refine ⟨by have:=h.few;dsimp only;omega,by simp,fun g hg=> ?_⟩
  obtain ⟨i,hi⟩:=List.getElem?_of_mem hg
  obtain ⟨a,t,hR,R⟩:=(h.ok i g hi).route
  have:=MO R
  rw [hR];omega
theorem KList.chk {m:Map}(K:KitM m){A:List Agent}(h:KList m A)(hn:A≠ []):StateOK m ⟨0,A,[]⟩:=by
  refine ⟨by dsimp only;omega,⟨List.length_pos_iff.2 hn,h.few⟩,fun i g hg=> ?_,fun i x hx=>by simp at hx,fun i x y hx=>by simp at hx,fun x hx=>by simp at hx⟩
  have k:=h.ok i g hg
  obtain ⟨a,t,hR,R⟩:=k.route
  have hL:=Yy R
  rw [← hR]at hL
  have hS:=k.S
  have hl:=k.len
  have hb:=k.begin
  refine ⟨k.route,by omega,by omega,by omega,k.V,?_,?_,fun h0=>(k.first (by simpa using h0)).1⟩
  ·rw [k.gone];unfold DT;rw [E9 (by omega),bA (by omega)]
  ·rintro ⟨q,q2⟩
   exact q2 (k.late q)
theorem StateOK.size {m:Map}(K:KitM m){s:State}(O:StateOK m s)(h:s.In.length≤1000000):SizeS s:=by
  refine ⟨by have:=O.num;omega,h,fun g hg=> ?_⟩
  obtain ⟨i,hi⟩:=List.getElem?_of_mem hg
  obtain ⟨a,t,hR,R⟩:=(O.agent i g hi).route
  have:=MO R
  rw [hR];omega
theorem YD {m:Map}(B:BearM m){a:Int}{t:List Int}(R:RouteOK m a t){g:Agent}(hg:g.Route=a::t)(h0:0≤g.S)(h1:g.S≤9223372036854775807):Pr m g.Route g.S=some (if g.S≤LongM m g.Route then ((Wm m g).1,(Wm m g).2,true)else (0,0,false)):=by
  obtain ⟨x,q1,q2,q3,q4,q5⟩:=Zl R hg h0
  have hm7:=R.most
  have hr:g.Route.length≤1000000:=by rw [hg];simp;omega
  have hl:=Ms m (a::t) 0
  have hbd:=R.bd (i:=BP m g) (by omega)
  have hs:C8 (R1 m 0 (a::t)) ((BP m g:Nat):Int)=some (Sx m (a::t) (BP m g)):=RouteOK.starts q1
  unfold Pr
  rw [BO B _ hr,lA,DS B _ hr,bA (show ¬g.S<0 by omega)]
  have e0:((StartsM m g.Route).length:Int)=((a::t).length:Nat):=by rw [hg,R.StartsM,hl]
  rw [e0,show ((((a::t).length:Nat):Int)==0)=false by simp;omega]
  simp only [Bool.or_self,bM,bD,lA,bN]
  by_cases q:g.S≤LongM m g.Route
  ·rw [bF q,bA (show ¬g.S>LongM m g.Route by omega),bE,hg,R.StartsM]
   have:=VZ g (R1 m 0 (a::t)) (by rw [hl];simp;omega) (R1 m 0 (a::t)) 0 0 rfl (by omega)
   have e:BP m g=Qk g.S 0 0 (R1 m 0 (a::t)):=by unfold BP;rw [hg,R.StartsM]
   rw [← e]at this
   have this:loop (Nn g.S (R1 m 0 (a::t))) (0,0)=some ((BP m g:Nat):Int):=this
   rw [this,lA,E7 q2,lA,hs,lA,q3,E9 (by omega)]
  ·rw [bG q,l9 (show g.S>LongM m g.Route by omega)];rfl
/-- The spot of an offset of a lane. -/
noncomputable def Ae (m:Map)(x s:Int):Spot:=((C8 m.Lanes x).bind fun l=>Hm l.Curve_ s).getD ⟨0,0⟩
theorem Tj {m:Map}(V:ValR m){x:Int}(h0:0≤x)(h1:x<m.Lanes.length){s:Int}(hs:P3 s): ∃l,C8 m.Lanes x=some l∧Hm l.Curve_ s=some (Ae m x s)∧No l.Curve_ s=some (Ae m x s)∧Gc (Ae m x s)=true:=by
  have hl:m.Lanes[x.toNat]? =some m.Lanes[x.toNat]:=lG (by omega)
  have hg:=E7 hl
  rw [Int.toNat_of_nonneg h0]at hg
  have hV:Valid m.Lanes[x.toNat].Curve_.Pts:=checkM_zero.1 (V.laneOK hl).curve
  have hm:=hV.most
  obtain ⟨A,e⟩:=RB hV (by omega) hs
  obtain ⟨p,e1,e2⟩:=fZ m.Lanes[x.toNat].Curve_ (by omega) s hs
  have h:Ae m x s=p:=by unfold Ae;rw [hg,lA,e1];rfl
  refine ⟨_,hg,by rw [h,e1],by rw [h,e2],?_⟩
  rw [h]
  obtain rfl:=lC (e1.symm.trans e)
  obtain ⟨o1,o2⟩:=cO A hV
  have:=A.l1
  have:=A.hs
  exact cP o1 o2 (by omega) (by omega)
/-- The spot of a coordinate of a route. -/
noncomputable def LG (m:Map)(r:List Int)(s:Int):Spot:=Ae m (Wm m ⟨r,max 0 (min s (LongM m r)),0,0,0,false,false⟩).1 (Wm m ⟨r,max 0 (min s (LongM m r)),0,0,0,false,false⟩).2
theorem BS {m:Map}(B:BearM m){a:Int}{t:List Int}(R:RouteOK m a t)(s:Int):Po m (a::t) s=some (LG m (a::t) s)∧Jk m (a::t) s=some (LG m (a::t) s)∧Gc (LG m (a::t) s)=true:=by
  have hL:=Yy R
  have hm7:=R.most
  have hr:(a::t).length≤1000000:=by simp;omega
  unfold LG
  generalize hg:(⟨a::t,max 0 (min s (LongM m (a::t))),0,0,0,false,false⟩:Agent)=g
  have hR:g.Route=a::t:=by rw [← hg]
  have hS:g.S=max 0 (min s (LongM m (a::t))):=by rw [← hg]
  obtain ⟨x,q1,q2,q3,q4,q5⟩:=Zl R hR (by omega)
  have hx:=R.mem (lF q2)
  have hb:=R.bd (Nat.le_of_lt q1)
  obtain ⟨l,k1,k2,k3,k4⟩:=Tj R.val hx.1 hx.2 (s:=g.S - Sx m (a::t) (BP m g)) (by unfold P3;omega)
  have h1:Mm m (a::t) g.S=some (x,g.S - Sx m (a::t) (BP m g),true):=by
    obtain ⟨k,y,p1,p2,p3,p4⟩:=dJ B R (s:=g.S) (by omega) (by rw [← R.LongM];omega)
    have hk:k=BP m g:=by
      have:=K6 p1
      rcases Nat.lt_trichotomy k (BP m g)with h|h|h
      ·have:=p4 _ h q1;omega
      ·exact h
      ·have:=q5 _ h this;omega
    subst hk
    rw [q2]at p1
    obtain rfl:=lC p1
    exact p2
  have h2:=YD B R hR (by omega) (by omega)
  rw [hR,bF (show g.S≤LongM m (a::t) by omega),q3]at h2
  refine ⟨?_,?_,by rw [q3];exact k4⟩
  ·unfold Po
   rw [OP B _ hr,lA,Lm,Gp,← hS,h1,lA,k1,lA,k2,q3];rfl
  ·unfold Jk
   rw [DS B _ hr,lA,Lm,Gp,← hS,h2,lA,k1,lA,k3,q3];rfl
/-! ### The part of a body on a span -/
/-- Two spans of a lane together. -/
def UQ (x p:Span):Option Span:=if max p.From x.From≤min p.To x.To then some ⟨x.Lane_,max p.From x.From,min p.To x.To⟩else none
noncomputable def SF (m:Map)(g:Agent)(x:Span):Option Span:=((Cl m g).find? fun p=>p.Lane_==x.Lane_).bind (UQ x)
theorem Za {α β:Type}(P:α→Bool)(f:α→β): ∀(l:List α) (k:Nat),G4 (fun _ a=>if P a=true then some (f a)else none) k l=(l.find? P).map f
  | [],_=>rfl
  |a::r,k=>by
   rw [G4,List.find?_cons]
   cases P a
   ·exact Za P f r (k+1)
   ·rfl
theorem dQ (m:Map)(g:Agent)(hl:(Cl m g).length≤1000)(x:Span): ∃y,Pq (Cl m g) x=some (y,(SF m g x).isSome)∧∀z,SF m g x=some z→y=⟨z.From,z.To⟩:=by
  unfold Pq
  rw [U1 (Cl m g) (Mn (Cl m g) x) (fun _ p=>if (p.Lane_==x.Lane_)=true then some (⟨max p.From x.From,min p.To x.To⟩,!decide (max p.From x.From>min p.To x.To))else none) (fun i p hp=>by
   unfold Mn
   rw [Q7 (K6 hp),bD,E7 hp,lA]
   cases p.Lane_==x.Lane_
   ·rw [bE,J9 (K6 hp) (by omega)];rfl
   ·simp only [bD,Cv,Ai,Lm,Gp,lA];rfl) (by unfold Mn;rw [N6];rfl),Za]
  unfold SF
  cases (Cl m g).find? fun p=>p.Lane_==x.Lane_ with
  |none=>exact ⟨_,rfl,nofun⟩
  |some p=>
   refine ⟨⟨max p.From x.From,min p.To x.To⟩,?_,fun z hz=> ?_⟩
   ·show some (_,!decide _)=_
    rw [lA]
    unfold UQ
    by_cases q:max p.From x.From≤min p.To x.To
    ·rw [bF q,bA (by omega)];rfl
    ·rw [bG q,l9 (by omega)];rfl
   ·rw [lA]at hz
    unfold UQ at hz
    split at hz
    ·cases hz;rfl
    ·cases hz
theorem RR {m:Map}(V:ValR m): ∀(t:List Int) (a:Int),0≤a→Nt m a t=true→(a::t).Pairwise (· < ·)
  | [],a,_,_=>by simp
  |b::t,a,ha,h=>by
   rw [Nt,bJ]at h
   have hk:=V.nextOf (a:=a.toNat) (k:=b) (by simpa using h.1)
   have ih:=RR V t b (by omega) h.2
   refine List.pairwise_cons.2 ⟨fun x hx=> ?_,ih⟩
   rcases lR.1 hx with rfl|hx
   ·omega
   ·have:=(List.pairwise_cons.1 ih).1 x hx;omega
theorem RS (m:Map)(g:Agent): ∀(l:List Int) (k:Nat),k+l.length≤g.Route.length→((Bi (Ql m g) k l).map (·.Lane_)).Sublist (g.Route.drop k)
  | [],k,_=>by simp [Bi]
  |a::l,k,hk=>by
   rw [lJ]at hk
   rw [Bi]
   have ih:=RS m g l (k+1) (by omega)
   rw [List.drop_eq_getElem_cons (show k<g.Route.length by omega)]
   cases h:Ql m g k a with
   |none=>exact ih.cons _
   |some p=>
    have:p.Lane_=g.Route[k]:=by
      unfold Ql at h
      split at h
      ·cases h;simp [List.getD,lG (show k<g.Route.length by omega)]
      ·cases h
    dsimp only
    rw [lO,this]
    exact ih.cons_cons _
/-- The spans of a body lie on lanes of their own. -/
theorem gM {m:Map}{a:Int}{t:List Int}(R:RouteOK m a t){g:Agent}(hg:g.Route=a::t):((Cl m g).map (·.Lane_)).Pairwise (· < ·):=by
  unfold Cl
  split
  ·refine List.Pairwise.sublist (RS m g (StartsM m g.Route) 0 (by have:=BR (m:=m) g.Route;omega)) ?_
   rw [List.drop_zero,hg]
   exact RR R.val t a R.first.1 R.chain
  ·exact List.Pairwise.nil
theorem RU (x:Span)(hx:x.From≤x.To): ∀(l:List Span),(l.map (·.Lane_)).Pairwise (· < ·)→(∀p∈l,p.From≤p.To)→
    (l.find? fun p=>((p.Lane_==x.Lane_)&&decide (p.From≤x.To))&&decide (x.From≤p.To)).map (fun p=>(⟨x.Lane_,max p.From x.From,min p.To x.To⟩:Span))=(l.find? fun p=>p.Lane_==x.Lane_).bind (UQ x)
  | [],_,_=>rfl
  |p::r,h,hp=>by
   obtain ⟨h1,h2⟩:=List.pairwise_cons.1 h
   rw [List.find?_cons,List.find?_cons]
   by_cases e:p.Lane_=x.Lane_
   ·have e':(p.Lane_==x.Lane_)=true:=by simpa using e
    have hpp:=hp p (by simp)
    rw [e',bH]
    dsimp only
    rw [lA]
    unfold UQ
    by_cases q:max p.From x.From≤min p.To x.To
    ·rw [bF q,l9 (show p.From≤x.To by omega),l9 (show x.From≤p.To by omega)];rfl
    ·rw [bG q,show (decide (p.From≤x.To)&&decide (x.From≤p.To))=false by simp only [Bool.and_eq_false_iff,bR];omega]
     dsimp only
     rw [List.find?_eq_none.2 (fun y hy=>by
      have:p.Lane_<y.Lane_:=h1 y.Lane_ (List.mem_map_of_mem hy)
      rw [show (y.Lane_==x.Lane_)=false by simp;omega];simp)]
     rfl
   ·rw [show (p.Lane_==x.Lane_)=false by simpa using e,bI,bI]
    exact RU x hx r h2 (fun y hy=>hp y (by simp [hy]))
theorem dR {m:Map}(B:BearM m){a:Int}{t:List Int}(R:RouteOK m a t){g:Agent}(hg:g.Route=a::t){x:Span}(hx:x.From≤x.To):Un m g x=some ((SF m g x).getD ⟨0,0,0⟩,(SF m g x).isSome):=by
  have hm7:=R.most
  have hr:g.Route.length≤1000:=by rw [hg];simp;omega
  have hl:=JZ m g
  unfold Un
  rw [(OS B hr).2,lA]
  rw [U1 (Cl m g) (Mq x (Cl m g)) (fun _ p=>if (((p.Lane_==x.Lane_)&&decide (p.From≤x.To))&&decide (x.From≤p.To))=true then some ((⟨x.Lane_,max p.From x.From,min p.To x.To⟩:Span),true)else none) (fun i p hp=>by
   unfold Mq
   rw [Q7 (K6 hp),bD,E7 hp,lA]
   cases p.Lane_==x.Lane_
   ·simp only [bI,bE,lA]
    rw [J9 (K6 hp) (by omega)];rfl
   ·simp only [bH,bD,lA]
    by_cases q:p.From≤x.To
    ·simp only [l9 q,bH,bD,lA,Lm,Gp]
     by_cases q2:x.From≤p.To
     ·simp only [l9 q2,bD];rfl
     ·simp only [bA q2,bE,J9 (K6 hp) (show (Cl m g).length≤1000000000000 by omega)];rfl
    ·simp only [bA q,bI,bE,lA,J9 (K6 hp) (show (Cl m g).length≤1000000000000 by omega)];rfl) (by unfold Mq;rw [N6];rfl),Za]
  have h:=RU x hx (Cl m g) (gM R hg) (fun p hp=>gL hp)
  unfold SF
  rw [← h]
  cases (Cl m g).find? fun p=>((p.Lane_==x.Lane_)&&decide (p.From≤x.To))&&decide (x.From≤p.To)<;>rfl
theorem WD {m:Map}{g:Agent}{x y:Span}(h:SF m g x=some y):y.Lane_=x.Lane_∧y.From≤y.To∧x.From≤y.From∧y.To≤x.To:=by
  unfold SF at h
  cases hf:(Cl m g).find? fun p=>p.Lane_==x.Lane_ with
  |none=>rw [hf]at h;cases h
  |some p=>
   rw [hf,lA]at h
   unfold UQ at h
   split at h
   ·cases h;dsimp only;omega
   ·cases h
/-- The others that are there. -/
noncomputable def X7 (s:State):List Agent:=Bi (fun i g=>if Fa s (i:Int)=true then some g else none) 1 (s.Agents.drop 1)
theorem UR (s:State):X7 s=Bi (fun i g=>if 0<i∧Fa s (i:Int)=true then some g else none) 0 s.Agents:=by
  have key: ∀(l:List Agent) (k:Nat),0<k→Bi (fun i g=>if Fa s (i:Int)=true then some g else none) k l=Bi (fun i g=>if 0<i∧Fa s (i:Int)=true then some g else none) k l:=by
    intro l
    induction l with
    |nil=>intro k _;rfl
    |cons a r ih=>
     intro k hk
     rw [Bi,Bi,ih (k+1) (by omega)]
     by_cases h:Fa s (k:Int)=true
     ·rw [bF h,bF ⟨hk,h⟩]
     ·rw [bG h,bG (fun q=>h q.2)]
  unfold X7
  cases s.Agents with
  |nil=>rfl
  |cons a r=>
   rw [List.drop_one,List.tail_cons,key r 1 (by omega)]
   symm
   rw [Bi,bG (by omega)]
theorem US {s:State}{g:Agent}(h:g∈X7 s): ∃i:Nat,0<i∧s.Agents[i]? =some g∧Fa s (i:Int)=true:=by
  obtain ⟨j,a,h1,h2⟩:=(Rk _ _).1 h
  split at h2
  ·cases h2
   rename_i q
   refine ⟨1+j,by omega,?_,q⟩
   rw [lZ]at h1
   exact h1
  ·cases h2
/-- Does a body hide a spot of a cell from the eye? -/
noncomputable def Uu (m:Map)(eye p:Spot)(x:Span)(g:Agent):Bool:=(!(SF m g x).isSome)&&Ti eye p (LG m g.Route g.S) (LG m g.Route (C9 (g.S - g.Len)))
noncomputable def RW (m:Map)(s:State)(eye:Spot)(view:Int)(p:Spot)(x:Span):Bool:=Wh eye p view&& !((X7 s).any (Uu m eye p x))
/-- The eye. -/
noncomputable def Kt (m:Map)(s:State):Spot:=LG m (s.Agents.getD 0 default).Route (s.Agents.getD 0 default).S
noncomputable def Mt (m:Map)(s:State)(view:Int)(x:Span):Bool:=RW m s (Kt m s) view (Ae m x.Lane_ x.From) x&&RW m s (Kt m s) view (Ae m x.Lane_ x.To) x
/-- What a vehicle looks with. -/
noncomputable def Nu (m:Map)(s:State)(view:Int):WorldLooks:=⟨m,Kt m s,view,(X7 s).map (Cl m),(X7 s).map fun g=>⟨LG m g.Route g.S,LG m g.Route (C9 (g.S - g.Len))⟩⟩
section
variable {m:Map}{s:State}
theorem StateOK.eye (O:StateOK m s): ∃g,C8 s.Agents 0=some g∧s.Agents[0]? =some g∧s.Agents.getD 0 default=g:=by
  have:=O.num
  have h:s.Agents[0]? =some s.Agents[0]:=lG (by omega)
  exact ⟨_,E7 h,h,by rw [List.getD,h];rfl⟩
theorem gN (B:BearM m)(O:StateOK m s)(view:Int):Lh m s view=some (Nu m s view):=by
  obtain ⟨g0,e1,e2,e3⟩:=O.eye
  have hn:=O.num
  unfold Lh
  obtain ⟨a,t,hR,R⟩:=(O.agent 0 g0 e2).route
  have he:Po m g0.Route g0.S=some (Kt m s):=by
    unfold Kt
    rw [e3,hR];exact (BS B R _).1
  rw [e1,lA,lA,he,lA]
  rw [cU (F:=Ij m s) (S0:=(0,([],[]))) (fun i l=>((i:Int),(l.map (Cl m),l.map fun g=>(⟨LG m g.Route g.S,LG m g.Route (C9 (g.S - g.Len))⟩:WorldBar)))) s.Agents (fun i g=>if 0<i∧Fa s (i:Int)=true then some g else none) (fun l=>(l.map (Cl m),l.map fun g=>(⟨LG m g.Route g.S,LG m g.Route (C9 (g.S - g.Len))⟩:WorldBar))) rfl (fun i g l hg hl=>by
   have hi:=K6 hg
   obtain ⟨a,t,hR,R⟩:=(O.agent i g hg).route
   have hm7:=R.most
   have hw:C9 ((i:Int)+1)=((i+1:Nat):Int):=J9 hi (by omega)
   unfold Ij
   dsimp only
   rw [Q7 hi,bD,E7 hg,lA,(DU s i).1]
   by_cases h0:0<i
   ·rw [l9 (show (i:Int)>0 by omega),bD,lA,bH]
    by_cases th:Fa s (i:Int)=true
    ·rw [bF ⟨h0,th⟩,th,bD,(OS B (show g.Route.length≤1000 by rw [hR];simp;omega)).1,lA,Ff (by simp;omega),lA,hR,(BS B R _).1,(BS B R _).1,lA,lA,Ff (by simp;omega),lA,hw]
     simp [hR]
    ·rw [bG fun h=>th h.2,show Fa s (i:Int)=false by simpa using th,bE,hw]
   ·rw [bA (show ¬(i:Int)>0 by omega),bE,lA,bI,bE,bG fun h=>h0 h.1,hw]) (fun l=>by unfold Ij;dsimp only;rw [N6];rfl),← UR]
  rfl
theorem MP {x:Span}{eye p:Spot}(hl: ∀g∈X7 s,(Cl m g).length≤1000)(hn:(X7 s).length≤1000)(F:Int→Option (Stp Int (Sum Unit Bool)))
    (hF: ∀(i:Nat) g y b,(X7 s)[i]? =some g→Pq (Cl m g) x=some (y,b)→F (i:Int)=cond ((!b)&&Ti eye p (LG m g.Route g.S) (LG m g.Route (C9 (g.S - g.Len)))) (some (.out (.inr false))) (some (.go (C9 ((i:Int)+1)))))
    (h0:F ((X7 s).length:Int)=some (.out (.inl ()))):loop F 0=some (if (X7 s).any (Uu m eye p x)=true then .inr false else .inl ()):=by
  refine VW (X7 s) (Uu m eye p x) false (fun i g hg=> ?_) h0
  obtain ⟨y,h1,_⟩:=dQ m g (hl g (lF hg)) x
  rw [hF i g y _ hg h1,J9 (K6 hg) (by omega)]
  unfold Uu
  cases (!(SF m g x).isSome)&&Ti eye p (LG m g.Route g.S) (LG m g.Route (C9 (g.S - g.Len)))<;>rfl
theorem UT (O:StateOK m s):(X7 s).length≤8:=by
  have:=O.num
  unfold X7
  have:=EZ (fun (i:Nat) g=>if Fa s (i:Int)=true then some g else none) (s.Agents.drop 1) 1
  rw [lU]at this
  omega
theorem RX (O:StateOK m s): ∀g∈X7 s,(Cl m g).length≤1000:=fun g hg=>by
  obtain ⟨i,_,h2,_⟩:=US hg
  obtain ⟨a,t,hR,R⟩:=(O.agent i g h2).route
  have:=R.most
  have:=JZ m g
  rw [hR]at this
  simp at this
  omega
theorem gO (V:ValR m)(O:StateOK m s)(view:Int){x:Span}(h0:0≤x.Lane_)(h1:x.Lane_<m.Lanes.length)(hf:P3 x.From)(ht:P3 x.To):Da (Nu m s view) x=some (Mt m s view x):=by
  have hn:=UT O
  have hb:=RX O
  obtain ⟨l,k1,k2,_,_⟩:=Tj V h0 h1 hf
  obtain ⟨l',k1',k3,_,_⟩:=Tj V h0 h1 ht
  rw [k1]at k1'
  obtain rfl:=lC k1'
  have g1: ∀(i:Nat) g,(X7 s)[i]? =some g→C8 (Nu m s view).bars (i:Int)=some ⟨LG m g.Route g.S,LG m g.Route (C9 (g.S - g.Len))⟩:=fun i g h=>E7 (by simp [Nu,h])
  have g2: ∀(i:Nat) g,(X7 s)[i]? =some g→C8 (Nu m s view).bodies (i:Int)=some (Cl m g):=fun i g h=>E7 (by simp [Nu,h])
  have g3:(Nu m s view).bars.length=(X7 s).length:=by simp [Nu]
  have step: ∀(b c:Bool) (i:Int),((cond (!b) (some c) (some default)).bind fun v13=>cond ((!b)&&v13) (some (Stp.out (Sum.inr false:Sum Unit Bool))) (some (.go (C9 (i+1)))))=cond ((!b)&&c) (some (.out (.inr false))) (some (.go (C9 (i+1)))):=by
    intro b c i;cases b<;>cases c<;>rfl
  have e1:loop (W5 (Nu m s view) x (Ae m x.Lane_ x.From)) 0=_:=MP (x:=x) (eye:=Kt m s) (p:=Ae m x.Lane_ x.From) hb (by omega) _ (fun i g y b hg hy=>by
    unfold W5
    rw [g3,Q7 (K6 hg),bD,g1 i g hg,lA,g2 i g hg,lA,hy,lA,Wg]
    exact step _ _ _) (by unfold W5;rw [g3,N6];rfl)
  have e2:loop (W4 (Nu m s view) x (Ae m x.Lane_ x.To)) 0=_:=MP (x:=x) (eye:=Kt m s) (p:=Ae m x.Lane_ x.To) hb (by omega) _ (fun i g y b hg hy=>by
    unfold W4
    rw [g3,Q7 (K6 hg),bD,g1 i g hg,lA,g2 i g hg,lA,hy,lA,Wg]
    exact step _ _ _) (by unfold W4;rw [g3,N6];rfl)
  unfold Da Mt RW
  rw [show (Nu m s view).m=m from rfl,k1,lA,k2,lA,k3,lA,AJ,AJ,e1,e2,lA,lA]
  show thenS (cond (!Wh (Kt m s) _ view) _ _) _ _=_
  cases Wh (Kt m s) (Ae m x.Lane_ x.From) view
  ·rfl
  cases (X7 s).any (Uu m (Kt m s) (Ae m x.Lane_ x.From) x)
  ·show thenS (cond (!Wh (Kt m s) _ view) _ _) _ _=_
   cases Wh (Kt m s) (Ae m x.Lane_ x.To) view
   ·rfl
   cases (X7 s).any (Uu m (Kt m s) (Ae m x.Lane_ x.To) x)<;>rfl
  ·rfl
theorem YE {α β:Type}(l:List α)(F:Int→Option (Stp Int (Sum Unit β)))(g:Nat→α→Option β)(hF: ∀(i:Nat) a,0<i→l[i]? =some a→F (i:Int)=some (match g i a with|some e=> .out (.inr e)|none=> .go ((i+1:Nat):Int)))(h0:F (l.length:Int)=some (.out (.inl ())))(hl:0<l.length):
    loop F 1=some (EV (G4 g 1 (l.drop 1))):=by
  have key: ∀(r:List α) (i:Nat),0<i→l.drop i=r→i≤l.length→loop F (i:Int)=some (EV (G4 g i r)):=by
    intro r
    induction r with
    |nil=>
     intro i _ hi hil
     have:=S6 hi
     obtain rfl:i=l.length:=by omega
     exact F4 h0
    |cons a r ih=>
     intro i hp hi hil
     have hlt:=P4 hi
     have h:=hF i a hp (Em hi)
     rw [G4]
     cases hg:g i a with
     |some e=>rw [hg]at h;exact F4 h
     |none=>rw [hg]at h;rw [M6 h];exact ih (i+1) (by omega) (L5 hi) hlt
  exact key _ 1 (by omega) rfl hl
theorem FX {α β:Type}(Q:Nat→Bool)(P:α→Bool)(v:β): ∀(l:List α) (k:Nat),G4 (fun i a=>if (Q i&&P a)=true then some v else none) k l=if (Bi (fun i a=>if Q i=true then some a else none) k l).any P=true then some v else none
  | [],_=>rfl
  |a::r,k=>by
   have ih:=FX Q P v r (k+1)
   rw [G4,Bi]
   cases Q k
   ·exact ih
   ·simp only [bH,if_true,List.any_cons]
    cases P a
    ·simpa using ih
    ·rfl
theorem UU (B:BearM m)(O:StateOK m s){x:Span}(hx:x.From≤x.To)(eye p:Spot)(p1 p2:Spot)(x1:Int)(hp:C8 [p1,p2] x1=some p):
    loop (Il m s eye x p1 p2 x1) 1=some (if (X7 s).any (Uu m eye p x)=true then .inr false else .inl ()):=by
  have hn:=O.num
  rw [YE s.Agents _ (fun i g=>if (Fa s (i:Int)&&Uu m eye p x g)=true then some false else none) (fun i g _ hg=> ?_) (by unfold Il;rw [N6];rfl) (by omega),FX (fun i=>Fa s (i:Int))]
  ·show _=some (if (Bi _ 1 _).any _=true then _ else _)
   split<;>rfl
  ·obtain ⟨a,t,hR,R⟩:=(O.agent i g hg).route
   unfold Il Uu
   rw [Q7 (K6 hg),bD,E7 hg,lA,dR B R hR hx,lA,(DU s i).2,J9 (K6 hg) (by omega)]
   dsimp only
   cases (SF m g x).isSome
   ·simp only [bM,bD,lA,bN,bH]
    cases Fa s (i:Int)
    ·rfl
    ·simp only [bL,bE,bH]
     rw [hp,hR,(BS B R _).2.1,(BS B R _).2.1,lA,lA,lA,GS,lA]
     cases Ti eye p (LG m (a::t) g.S) (LG m (a::t) (C9 (g.S - g.Len)))<;>rfl
   ·simp only [bL,bE,lA,Bool.true_or,bD,bI,Bool.and_false];rfl
theorem dS (B:BearM m)(V:ValR m)(O:StateOK m s){view:Int}(hv:0≤view∧view≤16777216){x:Span}(hx:x.From≤x.To)(h0:0≤x.Lane_)(h1:x.Lane_<m.Lanes.length)(hf:P3 x.From)(ht:P3 x.To):Sm m s (Kt m s) view x=some (Mt m s view x):=by
  obtain ⟨l,k1,_,k2,o1⟩:=Tj V h0 h1 hf
  obtain ⟨l',k1',_,k3,o2⟩:=Tj V h0 h1 ht
  rw [k1]at k1'
  obtain rfl:=lC k1'
  obtain ⟨g0,e1,e2,e3⟩:=O.eye
  obtain ⟨a,t,hR,R⟩:=(O.agent 0 g0 e2).route
  have he:Gc (Kt m s)=true:=by unfold Kt;rw [e3,hR];exact (BS B R _).2.2
  have hvv:=Xv (show -16777216≤view∧view≤16777216 by omega) (show -16777216≤view∧view≤16777216 by omega)
  have hs: ∀p,Gc p=true→Wh (Kt m s) p view= !decide (Tz (Kt m s) p>C9 (view*view)):=fun p hp=>by
    unfold Wh
    rw [he,hp,E9 (by omega),l9 (show view≥0 by omega),l9 (show view≤33554432 by omega)]
    simp only [bO,bH]
    rw [← decide_not]
    exact decide_eq_decide.2 (by omega)
  unfold Sm Mt RW
  rw [k1,lA,k2,lA,lA,k3,lA,hs _ o1,hs _ o2]
  have step: ∀(i:Nat) p,[Ae m x.Lane_ x.From,Ae m x.Lane_ x.To][i]? =some p→Im m s (Kt m s) view x (Ae m x.Lane_ x.From) (Ae m x.Lane_ x.To) (i:Int)=some (if (!decide (Tz (Kt m s) p>C9 (view*view))&& !(X7 s).any (Uu m (Kt m s) p x))=true then .go ((i+1:Nat):Int)else .out (.inr false)):=fun i p hp=>by
    unfold Im
    rw [Q7 (K6 hp),bD,E7 hp,lA,JL,lA,UU B O hx _ p _ _ _ (E7 hp),J9 (K6 hp) (by simp)]
    cases decide (Tz (Kt m s) p>C9 (view*view))
    ·cases (X7 s).any (Uu m (Kt m s) p x)<;>rfl
    ·rfl
  have s0:=step 0 _ rfl
  have s1:=step 1 _ rfl
  cases c0:(!decide (Tz (Kt m s) (Ae m x.Lane_ x.From)>C9 (view*view))&& !(X7 s).any (Uu m (Kt m s) (Ae m x.Lane_ x.From) x))
  ·rw [c0]at s0
   rw [show (0:Int)=((0:Nat):Int) from rfl,F4 s0];rfl
  ·rw [c0]at s0
   rw [show (0:Int)=((0:Nat):Int) from rfl,M6 s0]
   cases c1:(!decide (Tz (Kt m s) (Ae m x.Lane_ x.To)>C9 (view*view))&& !(X7 s).any (Uu m (Kt m s) (Ae m x.Lane_ x.To) x))
   ·rw [c1]at s1
    rw [F4 s1];rfl
   ·rw [c1]at s1
    rw [M6 s1,F4 (t:= .inl ()) (by unfold Im;rfl)];rfl
end
theorem Kl {α:Type}(l:List α):l= []∨∃(i:List α) (y:α),l=i++ [y]:=by
  rcases List.eq_nil_or_concat l with h|⟨i,y,h⟩
  ·exact .inl h
  ·exact .inr ⟨i,y,by rw [h,List.concat_eq_append]⟩
/-- A cell more. -/
def BT (l:Int)(out:List Span)(frm to:Int):List Span:=
  match out.getLast? with
  |some y=>if y.To=frm then out.dropLast++ [⟨y.Lane_,y.From,to⟩]else out++ [⟨l,frm,to⟩]
  |none=>out++ [⟨l,frm,to⟩]
def Nv (P:Span→Bool)(l n:Int):Nat→Int→List Span→List Span
  |0,_,out=>out
  |k+1,frm,out=>if frm<n then Nv P l n k (frm+1000) (if P ⟨l,frm,min (frm+1000) n⟩=true then BT l out frm (min (frm+1000) n)else out)else out
theorem Zb (l frm to:Int):BT l [] frm to= [⟨l,frm,to⟩]:=rfl
theorem Nw (l:Int)(i:List Span)(y:Span)(frm to:Int):BT l (i++ [y]) frm to=if y.To=frm then i++ [⟨y.Lane_,y.From,to⟩]else i++ [y]++ [⟨l,frm,to⟩]:=by
  unfold BT
  rw [List.getLast?_concat]
  dsimp only
  rw [List.dropLast_concat]
theorem KA (l:Int)(out:List Span)(frm to:Int):(BT l out frm to).length≤out.length+1:=by
  rcases Kl out with rfl|⟨i,y,rfl⟩
  ·simp [Zb]
  ·rw [Nw]
   split<;>simp
theorem MQ {l:Int}{out:List Span}(h: ∀y∈out,y.Lane_=l)(frm to:Int): ∀y∈BT l out frm to,y.Lane_=l:=by
  rcases Kl out with rfl|⟨i,z,rfl⟩
  ·simp [Zb]
  ·rw [Nw]
   intro y hy
   have hz:=h z (by simp)
   split at hy
   ·rcases lQ.1 hy with q|q
    ·exact h y (by simp [q])
    ·simp at q;rw [q];exact hz
   ·rcases lQ.1 hy with q|q
    ·exact h y q
    ·simp at q;rw [q]
theorem KB {α:Type}(l:List α)(a:α)(h:l.length≤1000000000000):C8 (l++ [a]) (C9 (((l++ [a]).length:Int) - 1))=some a:=by
  rw [lK,E9 (by simp;omega),show ((l.length+ [a].length:Nat):Int) - 1=((l.length:Nat):Int) by simp]
  exact E7 List.getElem?_concat_length
theorem dU {α:Type}(l:List α)(a b:α)(h:l.length≤1000000000000):Qu (l++ [a]) (C9 (((l++ [a]).length:Int) - 1)) b=l++ [b]:=by
  rw [lK,E9 (by simp;omega)]
  exact RL l [] a b _ (by simp)
section
variable {m:Map}{s:State}
theorem YF (V:ValR m)(O:StateOK m s)(view:Int){l:Int}(h0:0≤l)(h1:l<m.Lanes.length){n:Int}(hn:n≤16777216)(o:List Span)(out:List Span){frm:Int}(hf:0≤frm)(hfn:frm<n)(hl:(out.length:Int)≤frm):
    Cg (Nu m s view) (o,l) n (out,frm)=some (.go (if Mt m s view ⟨l,frm,min (frm+1000) n⟩=true then BT l out frm (min (frm+1000) n)else out,frm+1000)):=by
  unfold Cg
  dsimp only
  rw [l9 hfn,bD,Gp,E9 (n:=frm+1000) (by omega),gO V O view h0 h1 (by unfold P3;dsimp only;omega) (by unfold P3;dsimp only;omega),lA]
  cases Mt m s view ⟨l,frm,min (frm+1000) n⟩
  ·rfl
  ·simp only [bL,bE,if_true]
   rcases Kl out with rfl|⟨i,y,rfl⟩
   ·rw [Zb,Ff (by simp)];rfl
   ·have hil:i.length≤1000000000 - 10:=by simp at hl;omega
    rw [KB i y (by omega),l9 (show ((i++ [y]).length:Int)>0 by simp),bD,lA,bH,lA,dU i y _ (by omega),Ff (by simp;omega),lA,Nw]
    by_cases q:y.To=frm
    ·rw [bF q,show (y.To==frm)=true by simpa using q,bD]
    ·rw [bG q,show (y.To==frm)=false by simpa using q,bE]
theorem KC (V:ValR m)(O:StateOK m s)(view:Int){l:Int}(h0:0≤l)(h1:l<m.Lanes.length){n:Int}(hn:n≤16777216)(o:List Span): ∀(k:Nat) (frm:Int) (out:List Span),0≤frm→(out.length:Int)≤frm→n≤frm+1000*k→
    loop (Cg (Nu m s view) (o,l) n) (out,frm)=some (Nv (Mt m s view) l n k frm out)
  |0,frm,out,hf,hl,hk=>F4 (by unfold Cg;dsimp only;rw [bA (by omega)];rfl)
  |k+1,frm,out,hf,hl,hk=>by
   rw [Nv]
   by_cases q:frm<n
   ·rw [bF q,M6 (YF V O view h0 h1 hn o out hf q hl)]
    refine KC V O view h0 h1 hn o k _ _ (by omega) ?_ (by omega)
    have:=KA l out frm (min (frm+1000) n)
    split<;>omega
   ·rw [bG q]
    exact F4 (by unfold Cg;dsimp only;rw [bA q];rfl)
theorem UV (B:BearM m)(V:ValR m)(O:StateOK m s){view:Int}(hv:0≤view∧view≤16777216){l:Int}(h0:0≤l)(h1:l<m.Lanes.length){n:Int}(hn:n≤16777216)(o o0:List Span)(out:List Span){frm:Int}(hf:0≤frm)(hfn:frm<n)(hl:(out.length:Int)≤frm)
    (hz:o0.length≤500000000) (ho: ∀y∈o0,y.Lane_≠l) (hlane: ∀y∈out,y.Lane_=l):
    Cj m s view (Kt m s) (o,l) n (o0++out,frm)=some (.go (o0++ (if Mt m s view ⟨l,frm,min (frm+1000) n⟩=true then BT l out frm (min (frm+1000) n)else out),frm+1000)):=by
  unfold Cj
  dsimp only
  rw [l9 hfn,bD,Gp,E9 (n:=frm+1000) (by omega),dS B V O hv (show (⟨l,frm,min (frm+1000) n⟩:Span).From≤(⟨l,frm,min (frm+1000) n⟩:Span).To by dsimp only;omega) h0 h1 (by unfold P3;dsimp only;omega) (by unfold P3;dsimp only;omega),lA]
  cases Mt m s view ⟨l,frm,min (frm+1000) n⟩
  ·rfl
  ·simp only [bL,bE,if_true]
   rcases Kl out with rfl|⟨i,y,rfl⟩
   ·rw [List.append_nil,Zb]
    rcases Kl o0 with rfl|⟨i,y,rfl⟩
    ·rfl
    ·have hy:=ho y (by simp)
     have hil:i.length≤500000000:=by simp at hz;omega
     rw [KB i y (by omega),show C9 (((i++ [y]).length:Int) - 1)=(i.length:Int) by rw [E9 (by simp;omega)];simp,l9 (show ((i.length:Int))≥0 by omega),bD,lA,bH,show (y.Lane_==l)=false by simpa using hy,bE,lA,bI,bE,Ff (by simp;omega)];rfl
   ·have hil:i.length≤20000000:=by simp at hl;omega
    have hy:=hlane y (by simp)
    rw [← lM,KB (o0++i) y (by simp;omega),show C9 (((o0++i++ [y]).length:Int) - 1)=((o0++i).length:Int) by rw [E9 (by simp;omega)];simp;omega,l9 (show (((o0++i).length:Int))≥0 by omega),bD,lA,bH,show (y.Lane_==l)=true by simpa using hy,bD,lA,bH,lA,Nw]
    by_cases q:y.To=frm
    ·rw [bF q,show (y.To==frm)=true by simpa using q,bD,RL (o0++i) [] y _ _ rfl,lM]
    ·rw [bG q,show (y.To==frm)=false by simpa using q,bE,Ff (by simp;omega)]
     simp
theorem FY (B:BearM m)(V:ValR m)(O:StateOK m s){view:Int}(hv:0≤view∧view≤16777216){l:Int}(h0:0≤l)(h1:l<m.Lanes.length){n:Int}(hn:n≤16777216)(o o0:List Span)(hz:o0.length≤500000000)(ho: ∀y∈o0,y.Lane_≠l): ∀(k:Nat) (frm:Int) (out:List Span),0≤frm→(out.length:Int)≤frm→n≤frm+1000*k→(∀y∈out,y.Lane_=l)→
    loop (Cj m s view (Kt m s) (o,l) n) (o0++out,frm)=some (o0++Nv (Mt m s view) l n k frm out)
  |0,frm,out,hf,hl,hk,_=>F4 (by unfold Cj;dsimp only;rw [bA (by omega)];rfl)
  |k+1,frm,out,hf,hl,hk,hlane=>by
   rw [Nv]
   by_cases q:frm<n
   ·rw [bF q,M6 (UV B V O hv h0 h1 hn o o0 out hf q hl hz ho hlane)]
    refine FY B V O hv h0 h1 hn o o0 hz ho k _ _ (by omega) ?_ (by omega) ?_
    ·have:=KA l out frm (min (frm+1000) n)
     split<;>omega
    ·split
     ·exact MQ hlane _ _
     ·exact hlane
   ·rw [bG q]
    exact F4 (by unfold Cj;dsimp only;rw [bA q];rfl)
theorem BU (P:Span→Bool)(l n:Int): ∀(k:Nat) (frm:Int) (out:List Span),(∀y∈out,y.Lane_=l)→∀y∈Nv P l n k frm out,y.Lane_=l
  |0,_,_,h=>h
  |k+1,frm,out,h=>by
   rw [Nv]
   split
   ·refine BU P l n k _ _ ?_
    split
    ·exact MQ h _ _
    ·exact h
   ·exact h
theorem Uv (P:Span→Bool)(l n:Int): ∀(k:Nat) (frm:Int) (out:List Span),(Nv P l n k frm out).length≤out.length+k
  |0,_,_=>bU _
  |k+1,frm,out=>by
   rw [Nv]
   split
   ·refine bY (Uv P l n k _ _) ?_
    have:=KA l out frm (min (frm+1000) n)
    split<;>omega
   ·omega
/-- What is seen of a lane. -/
noncomputable def Pw (m:Map)(s:State)(view:Int)(l:Int):List Span:=Nv (Mt m s view) l (En m l) 16778 0 []
noncomputable def Sr (m:Map)(s:State)(view:Int):List Span:=Sp (fun i (_:Lane)=>Pw m s view (i:Int)) 0 m.Lanes
theorem MR (V:ValR m){l:Int}(h0:0≤l)(h1:l<m.Lanes.length):1000≤En m l∧En m l≤16777216:=by
  have:=V.long h0 h1
  unfold En
  rw [bF (isM_true.2 ⟨h0,h1,V⟩)]
  exact this
theorem GZ (B:BearM m)(Z:SizeS s)(hw: ∀g∈s.Agents,g.S≤9223372036854775807)(view:Int):Oi m s view=some ((decide (view≥0)&&decide (view≤16777216))&& (BQ m s==0)):=by
  unfold Oi
  rw [(Yz B Z hw).1]
  cases (decide (view≥0)&&decide (view≤16777216))<;>rfl
theorem RY (B:BearM m)(V:ValR m)(O:StateOK m s)(Z:SizeS s)(hw: ∀g∈s.Agents,g.S≤9223372036854775807)(hc:BQ m s=0){view:Int}(hv:0≤view∧view≤16777216):Gx m s view=some (Sr m s view):=by
  have hm:=V.lanes
  unfold Gx
  rw [GZ B Z hw,hc,l9 (show view≥0 by omega),l9 hv.2,lA]
  show (Lh m s view).bind _=_
  rw [gN B O view,lA,kO m.Lanes (fun i (_:Lane)=>Pw m s view (i:Int)) id [] 16778 1000000 (by simp;omega) (fun i a _=>by have:=Uv (Mt m s view) (i:Int) (En m i) 16778 0 [];rw [lL,bX]at this;exact this) (fun i a o hi hl=>by
   have h1:=K6 hi
   have hlen:=MR V (l:=(i:Int)) (by omega) (by omega)
   unfold Lg Tv
   dsimp only
   rw [Q7 h1,bD,show (Nu m s view).m=m from rfl,Wk B,lA,KC V O view (l:=(i:Int)) (by omega) (by omega) hlen.2 o 16778 0 [] (by omega) (by simp) (by omega)]
   rw [lA,lA,Ff,lA,J9 h1 (by omega)]
   ·rfl
   ·have:=Uv (Mt m s view) (i:Int) (En m i) 16778 0 []
    simp at this;omega) (fun o=>by unfold Lg;dsimp only;rw [N6];rfl)]
  rfl
theorem RZ (B:BearM m)(V:ValR m)(O:StateOK m s)(Z:SizeS s)(hw: ∀g∈s.Agents,g.S≤9223372036854775807)(hc:BQ m s=0){view:Int}(hv:0≤view∧view≤16777216):Hb m s view=some (Sr m s view):=by
  have hm:=V.lanes
  unfold Hb
  obtain ⟨g0,e1,e2,e3⟩:=O.eye
  obtain ⟨a,t,hR,R⟩:=(O.agent 0 g0 e2).route
  have he:Jk m g0.Route g0.S=some (Kt m s):=by
    unfold Kt
    rw [e3,hR];exact (BS B R _).2.1
  rw [(Yz B Z hw).2,hc,lA,bA (show ¬view<0 by omega),bA (show ¬view>16777216 by omega)]
  show (C8 s.Agents 0).bind _=_
  rw [e1,lA,lA,he,lA]
  have key: ∀(r:List Lane) (i:Nat) (o:List Span),m.Lanes.drop i=r→i≤m.Lanes.length→o.length+16778*r.length≤1000000→(∀y∈o,y.Lane_< (i:Int))→
   loop (Ey m s view (Kt m s)) (o,(i:Int))=some (o++Sp (fun i (_:Lane)=>Pw m s view (i:Int)) i r):=by
    intro r
    induction r with
    |nil=>
     intro i o hi hil _ _
     have:=S6 hi
     obtain rfl:i=m.Lanes.length:=by omega
     rw [F4 (t:=o) (by unfold Ey;dsimp only;rw [N6];rfl),Sp,List.append_nil]
    |cons x r ih=>
     intro i o hi hil hl ho
     have h1:=P4 hi
     rw [lJ]at hl
     have hlen:=MR V (l:=(i:Int)) (by omega) (by omega)
     have hcl:=Uv (Mt m s view) (i:Int) (En m i) 16778 0 []
     have hc:=FY B V O hv (l:=(i:Int)) (by omega) (by omega) hlen.2 o o (by omega) (fun y hy=>by have:=ho y hy;omega) 16778 0 [] (by omega) (by simp) (by omega) (by simp)
     rw [List.append_nil]at hc
     rw [M6 (s':=(o++Pw m s view (i:Int),((i+1:Nat):Int))),ih (i+1) _ (L5 hi) h1 ?_ ?_,Sp,lM]
     ·unfold Pw
      rw [lK]
      simp at hcl;omega
     ·intro y hy
      rcases lQ.1 hy with q|q
      ·have:=ho y q;omega
      ·have:=BU (Mt m s view) (i:Int) (En m i) 16778 0 [] (by simp) y q;omega
     ·unfold Ey
      dsimp only
      rw [Q7 h1,bD,Wl B,lA,hc,lA,J9 h1 (by omega)];rfl
  have h:=key m.Lanes 0 [] rfl (by omega) (by simp;omega) (by simp)
  rw [lN]at h
  have h:loop (Ey m s view (Kt m s)) ([],0)=_:=h
  rw [h];rfl
end
theorem MS {eye p:Spot}{v v':Int}(h:Wh eye p v=true)(hv:v≤v')(hb:v'≤33554432):Wh eye p v'=true:=by
  unfold Wh at h ⊢
  simp only [bJ,bB]at h ⊢
  obtain ⟨h1,⟨h2,h3⟩,h4⟩:=h
  refine ⟨h1,⟨by omega,hb⟩,?_⟩
  have:=Int.mul_le_mul hv hv (by omega) (by omega)
  omega
theorem YG {m:Map}{s:State}{v v':Int}(hv:v≤v')(hb:v'≤33554432){x:Span}(h:Mt m s v x=true):Mt m s v' x=true:=by
  unfold Mt RW at h ⊢
  simp only [bJ]at h ⊢
  exact ⟨⟨MS h.1.1 hv hb,h.1.2⟩,⟨MS h.2.1 hv hb,h.2.2⟩⟩
/-- A span lies in another one. -/
def kV (x y:Span):Prop:=x.Lane_=y.Lane_∧y.From≤x.From∧x.To≤y.To
structure Cov (l:Int)(out out':List Span)(frm:Int):Prop where
  cov: ∀x∈out,∃y∈out',kV x y
  ok: ∀x∈out,x.Lane_=l∧x.From≤x.To∧x.To≤frm
  ok': ∀x∈out',x.Lane_=l∧x.From≤x.To∧x.To≤frm
  last: ∀i x,out=i++ [x]→x.To=frm→∃i' y,out'=i'++ [y]∧y.To=frm∧y.From≤x.From
theorem dV {l:Int}{out:List Span}{frm to:Int}(ht:frm≤to){x:Span}(hx:x∈out): ∃y∈BT l out frm to,kV x y:=by
  rcases Kl out with rfl|⟨i,z,rfl⟩
  ·simp at hx
  ·rw [Nw]
   split
   ·rename_i e
    rcases lQ.1 hx with q|q
    ·exact ⟨x,by simp [q],rfl,Int.le_refl _,Int.le_refl _⟩
    ·simp at q;subst q
     exact ⟨⟨x.Lane_,x.From,to⟩,by simp,rfl,Int.le_refl _,by dsimp only;omega⟩
   ·exact ⟨x,by simp only [lQ]at hx ⊢;exact .inl hx,rfl,Int.le_refl _,Int.le_refl _⟩
theorem gP {l:Int}{out:List Span}{frm to:Int}(h: ∀x∈out,x.Lane_=l∧x.From≤x.To∧x.To≤frm): ∃i y,BT l out frm to=i++ [y]∧y.Lane_=l∧y.From≤frm∧y.To=to:=by
  rcases Kl out with rfl|⟨i,z,rfl⟩
  ·exact ⟨[],_,rfl,rfl,Int.le_refl _,rfl⟩
  ·have hz:=h z (by simp)
   rw [Nw]
   split
   ·exact ⟨i,_,rfl,hz.1,by dsimp only;omega,rfl⟩
   ·exact ⟨i++ [z],_,rfl,rfl,Int.le_refl _,rfl⟩
theorem UW {l:Int}{out:List Span}{frm to:Int}(ht:frm≤to)(h: ∀x∈out,x.Lane_=l∧x.From≤x.To∧x.To≤frm): ∀x∈BT l out frm to,x.Lane_=l∧x.From≤x.To∧x.To≤to:=by
  intro x hx
  rcases Kl out with rfl|⟨i,z,rfl⟩
  ·rw [Zb]at hx;simp at hx;subst hx;exact ⟨rfl,ht,Int.le_refl _⟩
  ·rw [Nw]at hx
   have hz:=h z (by simp)
   split at hx
   ·rcases lQ.1 hx with q|q
    ·have:=h x (by simp [q]);omega
    ·simp at q;subst q;dsimp only;omega
   ·rcases lQ.1 hx with q|q
    ·have:=h x q;omega
    ·simp at q;subst q;dsimp only;omega
theorem dW {l:Int}{out out':List Span}{frm to:Int}(C:Cov l out out' frm)(ht:frm<to)(b b':Bool)(hb:b=true→b'=true):Cov l (if b=true then BT l out frm to else out) (if b'=true then BT l out' frm to else out') to:=by
  cases b'
  ·cases b
   ·refine ⟨C.cov,fun x hx=>by have:=C.ok x hx;omega,fun x hx=>by have:=C.ok' x hx;omega,fun i x e q=> ?_⟩
    have:=C.ok x (by simp at e;rw [e];simp);omega
   ·cases hb rfl
  ·cases b
   ·refine ⟨fun x hx=> ?_,fun x hx=>by have:=C.ok x hx;omega,UW (by omega) C.ok',fun i x e q=> ?_⟩
    ·obtain ⟨y,hy,h1⟩:=C.cov x hx
     obtain ⟨z,hz,h2⟩:=dV (l:=l) (frm:=frm) (to:=to) (by omega) hy
     exact ⟨z,hz,h1.1.trans h2.1,Int.le_trans h2.2.1 h1.2.1,Int.le_trans h1.2.2 h2.2.2⟩
    ·have:=C.ok x (by simp at e;rw [e];simp);omega
   ·simp only [if_true]
    obtain ⟨i',y,e',h1,h2,h3⟩:=gP (to:=to) C.ok'
    have hold: ∀x∈out,∃z∈BT l out' frm to,kV x z:=fun x hx=>by
      obtain ⟨y,hy,h1⟩:=C.cov x hx
      obtain ⟨z,hz,h2⟩:=dV (l:=l) (frm:=frm) (to:=to) (by omega) hy
      exact ⟨z,hz,h1.1.trans h2.1,Int.le_trans h2.2.1 h1.2.1,Int.le_trans h1.2.2 h2.2.2⟩
    have hnew: ∃i x,BT l out frm to=i++ [x]∧(∀z∈i,z∈out)∧x.Lane_=l∧y.From≤x.From∧x.To=to:=by
      rcases Kl out with rfl|⟨i,z,rfl⟩
      ·exact ⟨[],_,rfl,by simp,rfl,h2,rfl⟩
      ·have hz:=C.ok z (by simp)
       rw [Nw]
       split
       ·rename_i q
        obtain ⟨j,w,g1,g2,g3⟩:=C.last i z rfl q
        subst g1
        rw [Nw,bF g2]at e'
        have:=(List.append_inj' e' rfl).2
        simp at this
        refine ⟨i,_,rfl,fun z hz=>by simp [hz],hz.1,?_,rfl⟩
        rw [← this];exact g3
       ·exact ⟨i++ [z],_,rfl,fun z hz=>hz,rfl,h2,rfl⟩
    obtain ⟨i,x,e,g1,g2,g3,g4⟩:=hnew
    refine ⟨fun w hw=> ?_,UW (by omega) C.ok,UW (by omega) C.ok',fun j w ej q=> ?_⟩
    ·rw [e]at hw
     rcases lQ.1 hw with q|q
     ·exact hold w (g1 w q)
     ·simp at q;subst q
      exact ⟨y,by rw [e'];simp,by rw [g2,h1],g3,by omega⟩
    ·rw [e]at ej
     have:=(List.append_inj' ej rfl).2
     simp at this;subst this
     exact ⟨i',y,e',h3,g3⟩
theorem gQ {l:Int}{out out':List Span}{frm to:Int}(C:Cov l out out' frm)(ht:frm<to):Cov l out out' to:=
  ⟨C.cov,fun x hx=>by have:=C.ok x hx;omega,fun x hx=>by have:=C.ok' x hx;omega,fun i x e q=>by have:=C.ok x (by rw [e];simp);omega⟩
theorem MT (P P':Span→Bool)(hP: ∀x,P x=true→P' x=true)(l n:Int): ∀(k:Nat) (frm:Int) (out out':List Span),Cov l out out' frm→∃f,Cov l (Nv P l n k frm out) (Nv P' l n k frm out') f
  |0,frm,out,out',C=>⟨frm,C⟩
  |k+1,frm,out,out',C=>by
   rw [Nv,Nv]
   split
   ·rename_i q
    refine MT P P' hP l n k _ _ _ ?_
    have h:=dW C (to:=min (frm+1000) n) (by omega) _ _ (hP ⟨l,frm,min (frm+1000) n⟩)
    by_cases e:frm+1000≤n
    ·rw [show min (frm+1000) n=frm+1000 by omega]at h ⊢;exact h
    ·exact gQ h (by omega)
   ·exact ⟨frm,C⟩
theorem MU {m:Map}{s:State}{v v':Int}(hv:v≤v')(hb:v'≤33554432):(∀x∈Sr m s v,∃y∈Sr m s v',kV x y)∧∀x∈Sr m s v,x.From≤x.To:=by
  have key: ∀i:Nat,∃f,Cov (i:Int) (Pw m s v i) (Pw m s v' i) f:=fun i=>
    MT _ _ (fun x h=>YG hv hb h) _ _ _ 0 [] [] ⟨by simp,by simp,by simp,fun i x h=>by simp at h⟩
  constructor
  ·intro x hx
   obtain ⟨i,a,h1,h2⟩:=(Ut _ _).1 hx
   obtain ⟨f,C⟩:=key (0+i)
   obtain ⟨y,h3,h4⟩:=C.cov x h2
   exact ⟨y,(Ut _ _).2 ⟨i,a,h1,h3⟩,h4⟩
  ·intro x hx
   obtain ⟨i,a,h1,h2⟩:=(Ut _ _).1 hx
   obtain ⟨f,C⟩:=key (0+i)
   exact (C.ok x h2).2.1
theorem DV (m:Map)(s:State)(v:Int)(hm:m.Lanes.length≤12):(Sr m s v).length≤1000000:=by
  have:=ML (fun i (_:Lane)=>Pw m s v (i:Int)) 16778 m.Lanes 0 (fun j a _=>bY (Uv (Mt m s v) ((0+j:Nat):Int) (En m ((0+j:Nat):Int)) 16778 0 []) (by simp))
  have:(Sr m s v).length≤m.Lanes.length*16778:=this
  omega
/-- The next error, and the numbers behind it. -/
def Qp (k:Int):List Int→Int×List Int
  | []=>(0,[])
  |a::r=>(a % (2*k+1) - k,r)
theorem Uw (k:Int)(ns:List Int):(Qp k ns).2.length≤ns.length:=by
  cases ns<;>simp [Qp]
theorem UX {k:Int}(hk:0<k)(hk2:k≤1000)(noise:List Int)(hn:noise.length≤1000)(i:Nat)(hi:i≤noise.length): ∃j:Nat,j≤noise.length∧noise.drop j=(Qp k (noise.drop i)).2∧Z2 k (i:Int) noise=some ((Qp k (noise.drop i)).1,(j:Int)):=by
  unfold Z2
  cases h:noise.drop i with
  |nil=>
   have:=S6 h
   refine ⟨i,hi,by rw [h];rfl,?_⟩
   rw [l9 (show (i:Int)≥(noise.length:Int) by omega)];rfl
  |cons a r=>
   have hlt:=P4 h
   have ha:=Em h
   have h1:=Int.emod_nonneg a (show 2*k+1≠0 by omega)
   have h2:=Int.emod_lt_of_pos a (show 0<2*k+1 by omega)
   refine ⟨i+1,hlt,L5 h,?_⟩
   rw [bA (by omega),bE,E9 (n:=(i:Int)+1) (by omega),E9 (n:=(i:Int)+1 - 1) (by omega),show (i:Int)+1 - 1=(i:Int) by omega,E7 ha,lA,E9 (n:=2*k) (by omega),E9 (n:=2*k+1) (by omega),jL (by omega) (by omega),lA,E9 (by omega)]
   rfl
theorem OT {k:Int}(hk:0<k)(hk2:k≤1000)(ns:List Int)(hn:ns.length≤1000):Mb ns k=some (Qp k ns):=by
  unfold Mb
  cases ns with
  |nil=>rfl
  |cons a r=>
   have h1:=Int.emod_nonneg a (show 2*k+1≠0 by omega)
   have h2:=Int.emod_lt_of_pos a (show 0<2*k+1 by omega)
   rw [show (((a::r).length:Int)==0)=false by simp;omega,bE,show C8 (a::r) 0=some a from rfl,lA,E9 (n:=2*k) (by omega),E9 (n:=2*k+1) (by omega),gG (by omega) (by omega),lA]
   unfold QD
   rw [bF (by simp;omega),lA,E9 (by omega)]
   simp [Qp]
def UY (p:Spot)(v:Int)(ns:List Int):Point×List Int:=
  (⟨C9 (p.X+ (Qp 50 ns).1),C9 (p.Y+ (Qp 50 (Qp 50 ns).2).1),C9 (v+ (Qp 5 (Qp 50 (Qp 50 ns).2).2).1)⟩,(Qp 5 (Qp 50 (Qp 50 ns).2).2).2)
theorem WE (p:Spot)(v:Int)(ns:List Int):(UY p v ns).2.length≤ns.length:=
  bY (Uw _ _) (bY (Uw _ _) (Uw _ _))
/-- The points of a part of a body. -/
def FC (q:Int→Spot)(v to:Int):Nat→Int→List Int→List Point×List Int
  |0,_,ns=>([],ns)
  |n+1,f,ns=>if f=to then ([(UY (q f) v ns).1],(UY (q f) v ns).2)else ((UY (q f) v ns).1::(FC q v to n (min (f+500) to) (UY (q f) v ns).2).1,(FC q v to n (min (f+500) to) (UY (q f) v ns).2).2)
theorem SA (q:Int→Spot)(v to:Int): ∀(n:Nat) (f:Int) (ns:List Int),(FC q v to n f ns).1.length≤n∧(FC q v to n f ns).2.length≤ns.length
  |0,_,_=>⟨by simp [FC],bU _⟩
  |n+1,f,ns=>by
   have h:=WE (q f) v ns
   rw [FC]
   split
   ·exact ⟨by simp,h⟩
   ·obtain ⟨h1,h2⟩:=SA q v to n (min (f+500) to) (UY (q f) v ns).2
    exact ⟨by simpa using h1,bY h2 h⟩
section
variable {m:Map}{s:State}
theorem SB (V:ValR m){l:Int}(h0:0≤l)(h1:l<m.Lanes.length){ln:Lane}(hln:C8 m.Lanes l=some ln)(noise:List Int)(hn:noise.length≤1000)(g:Agent)(y:WorldSpan)(st:Int)(sn:List Span):
    ∀(n:Nat) (f:Int) (i:Nat) (out:List Point),i≤noise.length→f≤y.to→y.to - f+500≤500*n→P3 f→y.to≤1000000000→out.length+n≤900000000→
     ∃j:Nat,j≤noise.length∧noise.drop j=(FC (Ae m l) g.V y.to n f (noise.drop i)).2∧loop (Df noise ln g (y,true)) (f,(i:Int),⟨st,sn,out⟩)=some ((j:Int),⟨st,sn,out++ (FC (Ae m l) g.V y.to n f (noise.drop i)).1⟩)
  |0,f,i,out,_,hf,hk,_,_,_=>by omega
  |n+1,f,i,out,hi,hf,hk,hw,hy,hl=>by
   obtain ⟨ln',k1,k2,_,_⟩:=Tj V h0 h1 hw
   rw [hln]at k1
   obtain rfl:=lC k1
   obtain ⟨i1,a1,a2,a3⟩:=UX (k:=50) (by omega) (by omega) noise hn i hi
   obtain ⟨i2,b1,b2,b3⟩:=UX (k:=50) (by omega) (by omega) noise hn i1 a1
   obtain ⟨i3,c1,c2,c3⟩:=UX (k:=5) (by omega) (by omega) noise hn i2 b1
   rw [a2]at b2 b3
   rw [b2]at c2 c3
   have hs:Df noise ln g (y,true) (f,(i:Int),⟨st,sn,out⟩)=some (if f=y.to then .out ((i3:Int),⟨st,sn,out++ [(UY (Ae m l f) g.V (noise.drop i)).1]⟩)else .go (min (f+500) y.to,(i3:Int),⟨st,sn,out++ [(UY (Ae m l f) g.V (noise.drop i)).1]⟩)):=by
     unfold Df
     dsimp only
     rw [bD,k2,lA,a3,lA,b3,lA,c3,lA,Ff (by simp;omega),lA]
     unfold P3 at hw
     rw [Gp,E9 (n:=f+500) (by omega)]
     by_cases q:f=y.to
     ·rw [bF q,show (f==y.to)=true by simpa using q];rfl
     ·rw [bG q,show (f==y.to)=false by simpa using q];rfl
   rw [FC]
   by_cases q:f=y.to
   ·rw [bF q]at hs
    rw [bF q]
    exact ⟨i3,c1,c2,F4 hs⟩
   ·rw [bG q]at hs
    rw [bG q]
    have e:(UY (Ae m l f) g.V (noise.drop i)).2=noise.drop i3:=c2.symm
    obtain ⟨j,d1,d2,d3⟩:=SB V h0 h1 hln noise hn g y st sn n (min (f+500) y.to) i3 (out++ [(UY (Ae m l f) g.V (noise.drop i)).1]) c1 (by omega) (by omega) (by unfold P3 at*;omega) hy (by simp;omega)
    refine ⟨j,d1,?_,?_⟩
    ·rw [d2,e]
    ·rw [M6 hs,d3,e];simp
theorem MV (V:ValR m){x:Span}(h0:0≤x.Lane_)(h1:x.Lane_<m.Lanes.length){i:Nat}{g:Agent}(hg:s.Agents[i]? =some g)(st:Int)(sn:List Span)(z:List Int×Scan):
    ∀(n:Nat) (f:Int) (ns:List Int) (out:List Point),ns.length≤1000→f≤x.To→x.To - f+500≤500*n→P3 f→x.To≤1000000000→out.length+n≤900000000→
     loop (Gb m s (z.1,(i:Int),z.2) (x,true)) (ns,f,⟨st,sn,out⟩)=some ((FC (Ae m x.Lane_) g.V x.To n f ns).2,⟨st,sn,out++ (FC (Ae m x.Lane_) g.V x.To n f ns).1⟩)
  |0,f,ns,out,_,hf,hk,_,_,_=>by omega
  |n+1,f,ns,out,hn,hf,hk,hw,hy,hl=>by
   obtain ⟨ln,k1,_,k2,_⟩:=Tj V h0 h1 hw
   have t1:=Uw 50 ns
   have t2:=Uw 50 (Qp 50 ns).2
   have hs:Gb m s (z.1,(i:Int),z.2) (x,true) (ns,f,⟨st,sn,out⟩)=some (if f=x.To then .out ((UY (Ae m x.Lane_ f) g.V ns).2,⟨st,sn,out++ [(UY (Ae m x.Lane_ f) g.V ns).1]⟩)else .go ((UY (Ae m x.Lane_ f) g.V ns).2,min (f+500) x.To,⟨st,sn,out++ [(UY (Ae m x.Lane_ f) g.V ns).1]⟩)):=by
     unfold Gb
     dsimp only
     rw [k1,lA,k2,lA,OT (by omega) (by omega) _ hn,lA,OT (by omega) (by omega) _ (by omega),lA,OT (by omega) (by omega) _ (by omega),lA,E7 hg,lA,Ff (by simp;omega),lA]
     unfold P3 at hw
     rw [Gp,E9 (n:=f+500) (by omega)]
     by_cases q:f=x.To
     ·rw [bF q,show (f==x.To)=true by simpa using q];rfl
     ·rw [bG q,show (f==x.To)=false by simpa using q];rfl
   rw [FC]
   by_cases q:f=x.To
   ·rw [bF q]at hs
    rw [bF q]
    exact F4 hs
   ·rw [bG q]at hs
    rw [bG q,M6 hs,MV V h0 h1 hg st sn z n (min (f+500) x.To) _ _ (bY (WE _ _ _) hn) (by omega) (by omega) (by unfold P3 at*;omega) hy (by simp;omega)]
    simp
/-- The points of an agent on a span. -/
noncomputable def Nx (m:Map)(s:State)(x:Span)(i:Nat)(g:Agent)(ns:List Int):List Point×List Int:=
  if Fa s (i:Int)=true then match SF m g x with
   |some y=>FC (Ae m x.Lane_) g.V y.To 42 y.From ns
   |none=>([],ns)
  else ([],ns)
noncomputable def Z4 (m:Map)(s:State)(x:Span):Nat→List Agent→List Int→List Point×List Int
  |_,[],ns=>([],ns)
  |i,g::r,ns=>((Nx m s x i g ns).1++ (Z4 m s x (i+1) r (Nx m s x i g ns).2).1,(Z4 m s x (i+1) r (Nx m s x i g ns).2).2)
noncomputable def Lw (m:Map)(s:State):List Span→List Int→List Point×List Int
  | [],ns=>([],ns)
  |x::r,ns=>((Z4 m s x 1 (s.Agents.drop 1) ns).1++ (Lw m s r (Z4 m s x 1 (s.Agents.drop 1) ns).2).1,(Lw m s r (Z4 m s x 1 (s.Agents.drop 1) ns).2).2)
theorem OU (m:Map)(s:State)(x:Span)(i:Nat)(g:Agent)(ns:List Int):(Nx m s x i g ns).1.length≤42∧(Nx m s x i g ns).2.length≤ns.length:=by
  unfold Nx
  split
  ·split
   ·exact SA _ _ _ _ _ _
   ·exact ⟨by simp,bU _⟩
  ·exact ⟨by simp,bU _⟩
theorem Zm (m:Map)(s:State)(x:Span): ∀(l:List Agent) (i:Nat) (ns:List Int),(Z4 m s x i l ns).1.length≤42*l.length∧(Z4 m s x i l ns).2.length≤ns.length
  | [],_,_=>⟨by simp [Z4],bU _⟩
  |g::r,i,ns=>by
   obtain ⟨h1,h2⟩:=OU m s x i g ns
   obtain ⟨h3,h4⟩:=Zm m s x r (i+1) (Nx m s x i g ns).2
   rw [Z4]
   exact ⟨by simp;omega,bY h4 h2⟩
/-- No part of a body is longer than it. -/
theorem UZ (O:StateOK m s){i:Nat}{g:Agent}(hg:s.Agents[i]? =some g){p:Span}(hp:p∈Cl m g):p.To - p.From≤20000∧p.To≤1000000000∧0≤p.From:=by
  have A:=O.agent i g hg
  obtain ⟨a,t,hR,R⟩:=A.route
  have hL:=Yy R
  have hS:=A.S
  have hlen:=A.len
  rw [hR]at hS
  unfold Cl at hp
  split at hp
  ·obtain ⟨j,q,h1,h⟩:=(Rk _ _).1 hp
   rw [hR,R.StartsM]at h1
   have hj:=K6 h1
   rw [Ms]at hj
   have hq:=Jq m (a::t) 0 j hj
   rw [h1,Int.zero_add]at hq
   have hb:=R.bd (i:=j) (Nat.le_of_lt hj)
   have:q=Sx m (a::t) j:=lC hq
   unfold Ql at h
   split at h
   ·cases h
    dsimp only
    rw [E9 (n:=g.S - g.Len) (by omega),E9 (n:=g.S - g.Len - q) (by omega),E9 (n:=g.S - q) (by omega)]
    omega
   ·cases h
  ·cases hp
theorem SC (O:StateOK m s){i:Nat}{g:Agent}(hg:s.Agents[i]? =some g){x y:Span}(h:SF m g x=some y):y.To - y.From≤20000∧y.To≤1000000000∧0≤y.From:=by
  unfold SF at h
  cases hf:(Cl m g).find? fun p=>p.Lane_==x.Lane_ with
  |none=>rw [hf]at h;cases h
  |some p=>
   have:=UZ O hg (List.mem_of_find?_eq_some hf)
   rw [hf,lA]at h
   unfold UQ at h
   split at h
   ·cases h;dsimp only;omega
   ·cases h
theorem YH (B:BearM m)(V:ValR m)(O:StateOK m s){x:Span}(h0:0≤x.Lane_)(h1:x.Lane_<m.Lanes.length){ln:Lane}(hln:C8 m.Lanes x.Lane_=some ln)(noise:List Int)(hn:noise.length≤1000)(st:Int)(sn:List Span):
    ∀(r:List Agent) (i k:Nat) (out:List Point),0<i→s.Agents.drop i=r→i≤s.Agents.length→k≤noise.length→out.length+42*r.length≤800000000→
     ∃j:Nat,j≤noise.length∧noise.drop j=(Z4 m s x i r (noise.drop k)).2∧loop (Z3 m s noise x ln) ((i:Int),(k:Int),⟨st,sn,out⟩)=some ((j:Int),⟨st,sn,out++ (Z4 m s x i r (noise.drop k)).1⟩):=by
  have hnum:=O.num
  intro r
  induction r with
  |nil=>
   intro i k out hi hd hil hk hl
   have:=S6 hd
   obtain rfl:i=s.Agents.length:=by omega
   refine ⟨k,hk,rfl,F4 ?_⟩
   unfold Z3
   dsimp only
   rw [N6];simp [Z4]
  |cons g r ih=>
   intro i k out hi hd hil hk hl
   have hlt:=P4 hd
   have hg:=Em hd
   rw [lJ]at hl
   obtain ⟨a,t,hR,R⟩:=(O.agent i g hg).route
   have hr:g.Route.length≤1000:=by have:=R.most;rw [hR];simp;omega
   have hbl:=JZ m g
   have key: ∃j:Nat,j≤noise.length∧noise.drop j=(Nx m s x i g (noise.drop k)).2∧Z3 m s noise x ln ((i:Int),(k:Int),⟨st,sn,out⟩)=some (.go (((i+1:Nat):Int),(j:Int),⟨st,sn,out++ (Nx m s x i g (noise.drop k)).1⟩)):=by
     unfold Z3 Nx
     dsimp only
     rw [Q7 hlt,bD,E7 hg,lA,(DU s i).1,show ((i:Int)==0)=false by simp;omega,bM,bD,lA,bN,J9 hlt (by omega)]
     cases th:Fa s (i:Int)
     ·exact ⟨k,hk,rfl,by simp⟩
     ·simp only [bL,bE,if_true]
      obtain ⟨y,y1,y2⟩:=dQ m g (by omega) x
      rw [(OS B hr).1,lA,y1,lA]
      cases ho:SF m g x with
      |none=>
       refine ⟨k,hk,rfl,?_⟩
       rw [F4 (t:=((k:Int),(⟨st,sn,out⟩:Scan))) rfl]
       simp
      |some z=>
       obtain rfl:=y2 z ho
       have hz:=WD ho
       have hz2:=SC O hg ho
       obtain ⟨j,d1,d2,d3⟩:=SB V h0 h1 hln noise hn g ⟨z.From,z.To⟩ st sn 42 z.From k out hk (by dsimp only;omega) (by dsimp only;omega) (by unfold P3;omega) (by dsimp only;omega) (by omega)
       refine ⟨j,d1,d2,?_⟩
       show (loop (Df noise ln g (⟨z.From,z.To⟩,true)) (z.From,(k:Int),⟨st,sn,out⟩)).bind _=_
       rw [d3];rfl
   obtain ⟨j,j1,j2,j3⟩:=key
   obtain ⟨o1,_⟩:=OU m s x i g (noise.drop k)
   obtain ⟨j',e1,e2,e3⟩:=ih (i+1) j (out++ (Nx m s x i g (noise.drop k)).1) (by omega) (L5 hd) hlt j1 (by rw [lK];omega)
   rw [j2]at e2 e3
   refine ⟨j',e1,e2,?_⟩
   rw [M6 j3,e3,Z4,lM]
theorem VA (B:BearM m)(V:ValR m)(O:StateOK m s){x:Span}(h0:0≤x.Lane_)(h1:x.Lane_<m.Lanes.length)(hx:x.From≤x.To)(st:Int)(sn:List Span){c:Nat}(hc:sn[c]? =some x)(z:List Int×Scan):
    ∀(r:List Agent) (i:Nat) (ns:List Int) (out:List Point),0<i→s.Agents.drop i=r→i≤s.Agents.length→ns.length≤1000→out.length+42*r.length≤800000000→
     loop (Bd m s (z.1,(c:Int),z.2)) (ns,(i:Int),⟨st,sn,out⟩)=some ((Z4 m s x i r ns).2,⟨st,sn,out++ (Z4 m s x i r ns).1⟩):=by
  have hnum:=O.num
  intro r
  induction r with
  |nil=>
   intro i ns out hi hd hil hk hl
   have:=S6 hd
   obtain rfl:i=s.Agents.length:=by omega
   refine F4 ?_
   unfold Bd
   dsimp only
   rw [N6];simp [Z4]
  |cons g r ih=>
   intro i ns out hi hd hil hk hl
   have hlt:=P4 hd
   have hg:=Em hd
   rw [lJ]at hl
   obtain ⟨a,t,hR,R⟩:=(O.agent i g hg).route
   have key:Bd m s (z.1,(c:Int),z.2) (ns,(i:Int),⟨st,sn,out⟩)=some (.go ((Nx m s x i g ns).2,((i+1:Nat):Int),⟨st,sn,out++ (Nx m s x i g ns).1⟩)):=by
     unfold Bd Nx
     dsimp only
     rw [Q7 hlt,bD,E7 hg,lA,E7 hc,lA,dR B R hR hx,lA,(DU s i).2,J9 hlt (by omega)]
     dsimp only
     cases ho:SF m g x with
     |none=>
      simp only [Option.isSome_none,bM,bL,bE,lA,Bool.true_or,bD]
      split<;>simp
     |some y=>
      have hz:=WD ho
      have hz2:=SC O hg ho
      simp only [Option.isSome_some,bM,bL,bD,lA,bN,Option.getD_some]
      cases th:Fa s (i:Int)
      ·simp
      ·simp only [bL,bE,if_true]
       have:=MV (s:=s) V (x:=y) (by rw [hz.1];exact h0) (by rw [hz.1];exact h1) hg st sn (ns,⟨st,sn,out⟩) 42 y.From ns out hk hz.2.1 (by omega) (by unfold P3;omega) (by omega) (by omega)
       rw [this,hz.1];rfl
   obtain ⟨o1,o2⟩:=OU m s x i g ns
   rw [M6 key,ih (i+1) _ _ (by omega) (L5 hd) hlt (by omega) (by rw [lK];omega),Z4,lM]
theorem VB (B:BearM m)(V:ValR m)(O:StateOK m s){x:Span}(h0:0≤x.Lane_)(h1:x.Lane_<m.Lanes.length){ln:Lane}(hln:C8 m.Lanes x.Lane_=some ln)(noise:List Int)(hn:noise.length≤1000)(st:Int)(sn:List Span)(k:Nat)(out:List Point)(hk:k≤noise.length)(hl:out.length+336≤800000000):
    ∃j:Nat,j≤noise.length∧noise.drop j=(Z4 m s x 1 (s.Agents.drop 1) (noise.drop k)).2∧loop (Z3 m s noise x ln) (0,(k:Int),⟨st,sn,out⟩)=some ((j:Int),⟨st,sn,out++ (Z4 m s x 1 (s.Agents.drop 1) (noise.drop k)).1⟩):=by
  have hnum:=O.num
  obtain ⟨g0,e1,e2,_⟩:=O.eye
  obtain ⟨j,h2,h3,h4⟩:=YH B V O h0 h1 hln noise hn st sn (s.Agents.drop 1) 1 k out (by omega) rfl (by omega) hk (by rw [lU];omega)
  refine ⟨j,h2,h3,?_⟩
  rw [M6 (s':=((1:Int),(k:Int),(⟨st,sn,out⟩:Scan))) ?_]
  ·exact h4
  ·unfold Z3
   dsimp only
   rw [l9 (by omega),bD,e1];rfl
theorem MW {v:Int}{x:Span}(h:x∈Sr m s v):0≤x.Lane_∧x.Lane_<m.Lanes.length:=by
  obtain ⟨i,a,h1,h2⟩:=(Ut _ _).1 h
  have:=BU (Mt m s v) ((0+i:Nat):Int) _ _ 0 [] (by simp) x h2
  have:=K6 h1
  omega
noncomputable def KD (m:Map)(s:State)(view:Int)(noise:List Int):Scan:=⟨s.Tick,Sr m s view,(Lw m s (Sr m s view) noise).1⟩
theorem jO {a b:Nat}(h:a+336* (b+1)≤700000000):a+336≤800000000:=
  bY (Nat.add_le_add_left (Nat.mul_succ 336 b▸Nat.le_add_left _ _) _) (bY h (by decide))
theorem YI (B:BearM m)(V:ValR m)(O:StateOK m s)(Z:SizeS s)(hw: ∀g∈s.Agents,g.S≤9223372036854775807)(hc:BQ m s=0){view:Int}(hv:0≤view∧view≤16777216)(noise:List Int)(hn:noise.length≤60):Jn m s view noise=some (KD m s view noise):=by
  have z1:=RY B V O Z hw hc hv
  have hlen:=DV m s view V.lanes
  have hord:=(MU (m:=m) (s:=s) (v:=view) (Int.le_refl _) (by omega)).2
  have hlane: ∀x∈Sr m s view,0≤x.Lane_∧x.Lane_<m.Lanes.length:=fun x hx=>MW hx
  have hnum:=O.num
  generalize hS:Sr m s view=L at*
  unfold Jn KD
  rw [GZ B Z hw,hc,l9 (show view≥0 by omega),l9 hv.2,lA]
  show (Gx m s view).bind _=_
  rw [z1,lA,hS]
  have key: ∀(r:List Span) (i k:Nat) (out:List Point),L.drop i=r→i≤L.length→k≤noise.length→out.length+336*r.length≤700000000→
   loop (Dg m s noise L) ((i:Int),(k:Int),⟨s.Tick,L,out⟩)=some ⟨s.Tick,L,out++ (Lw m s r (noise.drop k)).1⟩:=by
    intro r
    induction r with
    |nil=>
     intro i k out hi hil _ _
     have:=S6 hi
     obtain rfl:i=L.length:=by omega
     refine F4 ?_
     unfold Dg
     dsimp only
     rw [N6];simp [Lw]
    |cons x r ih=>
     intro i k out hi hil hk hl
     rw [lJ]at hl
     have hlt:=P4 hi
     have hx:=Em hi
     have hxl:=hlane x (lF hx)
     obtain ⟨ln,k1, -⟩:=Tj V hxl.1 hxl.2 (s:=0) (by unfold P3;omega)
     have hl2:=jO hl
     have hn2:noise.length≤1000:=by omega
     obtain ⟨j,h1,h2,h3⟩:=VB B V O hxl.1 hxl.2 k1 noise hn2 s.Tick L k out hk hl2
     have hp:=(Zm m s x (s.Agents.drop 1) 1 (noise.drop k)).1
     rw [lU]at hp
     rw [M6 (s':=(((i+1:Nat):Int),(j:Int),(⟨s.Tick,L,out++ (Z4 m s x 1 (s.Agents.drop 1) (noise.drop k)).1⟩:Scan))),ih (i+1) j _ (L5 hi) hlt h1 (by rw [lK];omega),h2,Lw,lM]
     unfold Dg
     dsimp only
     rw [Q7 hlt,bD,E7 hx,lA,k1,lA,h3,lA,J9 hlt (by omega)]
  have h:=key L 0 0 [] rfl (by omega) (by omega) (by simp;omega)
  rw [lN,List.drop_zero]at h
  have h:loop (Dg m s noise L) (0,0,⟨s.Tick,L,[]⟩)=_:=h
  rw [h];rfl
theorem YJ (B:BearM m)(V:ValR m)(O:StateOK m s)(Z:SizeS s)(hw: ∀g∈s.Agents,g.S≤9223372036854775807)(hc:BQ m s=0){view:Int}(hv:0≤view∧view≤16777216)(noise:List Int)(hn:noise.length≤60):Jo m s view noise=some (KD m s view noise):=by
  have z2:=RZ B V O Z hw hc hv
  have hlen:=DV m s view V.lanes
  have hord:=(MU (m:=m) (s:=s) (v:=view) (Int.le_refl _) (by omega)).2
  have hlane: ∀x∈Sr m s view,0≤x.Lane_∧x.Lane_<m.Lanes.length:=fun x hx=>MW hx
  have hnum:=O.num
  generalize hS:Sr m s view=L at*
  unfold Jo KD
  rw [(Yz B Z hw).2,hc,lA,bA (show ¬view<0 by omega),bA (show ¬view>16777216 by omega)]
  show (Hb m s view).bind _=_
  rw [z2,lA,hS]
  have key: ∀(r:List Span) (i:Nat) (ns:List Int) (out:List Point),L.drop i=r→i≤L.length→ns.length≤1000→out.length+336*r.length≤700000000→
   loop (Dh m s) (ns,(i:Int),⟨s.Tick,L,out⟩)=some ⟨s.Tick,L,out++ (Lw m s r ns).1⟩:=by
    intro r
    induction r with
    |nil=>
     intro i ns out hi hil _ _
     have:=S6 hi
     obtain rfl:i=L.length:=by omega
     refine F4 ?_
     unfold Dh
     dsimp only
     rw [N6];simp [Lw]
    |cons x r ih=>
     intro i ns out hi hil hk hl
     rw [lJ]at hl
     have hlt:=P4 hi
     have hx:=Em hi
     have hxm:=lF hx
     have hxl:=hlane x hxm
     have h3:=VA B V O hxl.1 hxl.2 (hord x hxm) s.Tick L hx (ns,⟨s.Tick,L,out⟩) (s.Agents.drop 1) 1 ns out (by omega) rfl (by omega) hk (by rw [lU];omega)
     have hp:=Zm m s x (s.Agents.drop 1) 1 ns
     rw [lU]at hp
     rw [M6 (s':=((Z4 m s x 1 (s.Agents.drop 1) ns).2,((i+1:Nat):Int),(⟨s.Tick,L,out++ (Z4 m s x 1 (s.Agents.drop 1) ns).1⟩:Scan))),ih (i+1) _ _ (L5 hi) hlt (by omega) (by rw [lK];omega),Lw,lM]
     unfold Dh
     dsimp only
     rw [Q7 hlt,bD]
     have h3:loop (Bd m s (ns,(i:Int),⟨s.Tick,L,out⟩)) (ns,1,⟨s.Tick,L,out⟩)=_:=h3
     rw [h3,lA,J9 hlt (by omega)]
  have h:=key L 0 noise [] rfl (by omega) (by omega) (by simp;omega)
  rw [lN]at h
  have h:loop (Dh m s) (noise,0,⟨s.Tick,L,[]⟩)=_:=h
  rw [h];rfl
end
theorem Ss (l:List Span)(h:l.length≤1000000):Io l l=some true:=by
  unfold Io
  rw [U1 l (Cp l l) (fun _ _=>(none:Option Bool)) (fun i x hx=>by
   unfold Cp
   rw [Q7 (K6 hx),bO,bD,E7 hx,lA,lA,show (x.Lane_==x.Lane_&& (x.From==x.From&& (x.To==x.To&&true)))=true by simp,J9 (K6 hx) (by omega)];rfl) (by unfold Cp;rw [N6];rfl),firstE_none.2 fun _ _ _=>rfl]
  show some _=_
  rw [beq_self_eq_true]
theorem AO (x:Scan)(h:x.Seen.length≤1000000)(hp:x.Points.length≤1000000000):Hc x x=some true:=by
  unfold Hc
  rw [Ss _ h,show (x.Stamp !=x.Stamp)=false by simp,bM,bD,lA,show ((x.Points.length:Int) !=(x.Points.length:Int))=false by simp]
  rw [U1 x.Points (Dx x x) (fun _ _=>(none:Option Bool)) (fun i p hx=>by
   unfold Dx
   rw [Q7 (K6 hx),bD,E7 hx,lA,lA,show (p.X==p.X&& (p.Y==p.Y&& (p.V==p.V&&true)))=true by simp,J9 (K6 hx) (by omega)];rfl) (by unfold Dx;rw [N6];rfl),firstE_none.2 fun _ _ _=>rfl]
  rfl
theorem MX (m:Map)(s:State): ∀(l:List Span) (ns:List Int),(Lw m s l ns).1.length≤42* (s.Agents.drop 1).length*l.length
  | [],_=>by simp [Lw]
  |x::r,ns=>by
   have h1:=(Zm m s x (s.Agents.drop 1) 1 ns).1
   have h2:=MX m s r (Z4 m s x 1 (s.Agents.drop 1) ns).2
   rw [Lw,lK,lJ,Nat.mul_succ,Nat.add_comm]
   exact Nat.add_le_add h2 h1
theorem YK {m:Map}{s:State}(V:ValR m)(O:StateOK m s)(view:Int)(ns:List Int):(KD m s view ns).Points.length≤1000000000:=by
  have h1:=MX m s (Sr m s view) ns
  have h2:=O.num
  have h3:=DV m s view V.lanes
  rw [lU]at h1
  refine bY h1 (bY (Nat.mul_le_mul (show 42* (s.Agents.length - 1)≤294 by omega) h3) (by decide))
/-- A scan that cannot be made. -/
theorem jP {m:Map}(B:BearM m){s:State}(Z:SizeS s)(hw: ∀g∈s.Agents,g.S≤9223372036854775807){view:Int}(h: ¬(0≤view∧view≤16777216∧BQ m s=0))(noise:List Int):
    Gx m s view=some []∧Hb m s view=some []∧Jn m s view noise=some ⟨0,[],[]⟩∧Jo m s view noise=some ⟨0,[],[]⟩:=by
  have e1:((decide (view≥0)&&decide (view≤16777216))&& (BQ m s==0))=false:=by
    rw [bP]
    intro q
    simp only [bJ,bB,bQ]at q
    exact h ⟨q.1.1,q.1.2,q.2⟩
  have e2:(((BQ m s !=0)||decide (view<0))||decide (view>16777216))=true:=by
    cases hb:(((BQ m s !=0)||decide (view<0))||decide (view>16777216))
    ·simp only [Bool.or_eq_false_iff,bR,bne_eq_false_iff_eq]at hb
     exact absurd ⟨by omega,by omega,hb.1.1⟩ h
    ·rfl
  refine ⟨?_,?_,?_,?_⟩
  ·unfold Gx;rw [GZ B Z hw,lA,e1];rfl
  ·unfold Hb;rw [(Yz B Z hw).2,lA,e2];rfl
  ·unfold Jn;rw [GZ B Z hw,lA,e1];rfl
  ·unfold Jo;rw [(Yz B Z hw).2,lA,e2];rfl
theorem Vs (n:Int)(s:State)(v:Int)(ns:List Int)(_w0:P3 n)(w1:WB s)(_w2:P3 v)(_w3: ∀x∈ns,P3 x):Ki n s v ns=some true:=by
  obtain ⟨b,h1,h2⟩:=dK s
  obtain ⟨m,hm,K,_⟩:=gK n
  unfold Ki
  rw [h1,lA,dD]
  cases b
  ·rfl
  rw [bL,bN]
  by_cases q:ns.length>60
  ·rw [l9 (show (ns.length:Int)>60 by omega)];rfl
  rw [bA (show ¬(ns.length:Int)>60 by omega),bE,hm,lA]
  have Z:=(h2 rfl).size
  have hw:=mE w1
  by_cases c:0≤v∧v≤16777216∧BQ m s=0
  ·have O:=(YC K).1 c.2.2
   have a1:=RY K.toBearM K.val O Z hw c.2.2 (view:=v) ⟨c.1,c.2.1⟩
   have a2:=RZ K.toBearM K.val O Z hw c.2.2 (view:=v) ⟨c.1,c.2.1⟩
   have b1:=YI K.toBearM K.val O Z hw c.2.2 (view:=v) ⟨c.1,c.2.1⟩ ns (by omega)
   have b2:=YJ K.toBearM K.val O Z hw c.2.2 (view:=v) ⟨c.1,c.2.1⟩ ns (by omega)
   have hl:=DV m s v K.val.lanes
   rw [a1,a2,b1,b2,lA,lA,Ss _ hl,lA]
   show (Hc _ _).bind _=_
   rw [AO _ hl (YK K.val O v ns)]
   rfl
  ·obtain ⟨a1,a2,a3,a4⟩:=jP K.toBearM Z hw c ns
   rw [a1,a2,a3,a4,lA,lA,Ss _ (by simp),lA]
   show (Hc _ _).bind _=_
   rw [AO _ (by simp) (by simp)]
   rfl
end Go.Abs.World
