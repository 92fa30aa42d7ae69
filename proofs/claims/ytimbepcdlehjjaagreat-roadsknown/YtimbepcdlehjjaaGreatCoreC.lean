/-
  An abstract layer over the machine, third part: plain functions, typed steps, loops, how arguments are read.
-/
import Derived.Test.YtimbepcdlehjjaaGreatCoreB
import Derived.ProofKit
import Derived.OpenShut
import Derived.ChangeOld
import Derived.Carry
import Derived.Below
import Derived.IntWalk
namespace Go.Abs
open Go
def G:List (D7×Option Blk)→C7
  | [],_=>none
  |(i,v)::l,j=>if j=i then v else G l j
theorem Tn (i:D7)(v:Option Blk)(l:List (D7×Option Blk)):G ((i,v)::l)=W8 (G l) i v:=rfl
theorem A2 {k:D7}{b:Option Blk}{l:List (D7×Option Blk)}:G ((k,b)::l) k=b:=l4 rfl
theorem A9 {k i:D7}{b r:Option Blk}{l:List (D7×Option Blk)}(h:(k.1==i.1)=false)(hl:G l k=r):G ((i,b)::l) k=r:=by
  have:k≠i:=by rintro rfl;simp at h
  rw [G,l5 this];exact hl
theorem Pr {k i:D7}{b r:Option Blk}{l:List (D7×Option Blk)}(h:k.2≠i.2)(hl:G l k=r):G ((i,b)::l) k=r:=by
  have:k≠i:=by rintro rfl;exact h rfl
  rw [G,l5 this];exact hl
theorem Mw {h:C7}{u:Nat}(hu: ∀k,h k≠none→k.2≠u){k:D7}{b:Blk}(hk:h k=some b):k.2≠u:=hu k (by rw [hk];simp)
section
variable {P:Program}{N:Nat}{rk:Option D7}{s:St}{Q:Ex→St→Prop}
theorem PZ {c:Code}{s0:St}(S:Sb s0 s)(h:AWc P N rk c s0 Q):AWc P N rk c s Q:=by
  intro w I ρ a hs ro hro;refine (h w I ρ a (S.sim hs) ro hro).mono ?_;rintro e a' w' ⟨s',I',ρ',hq,hs',htr,hnd⟩;exact ⟨s',I',ρ',hq,hs',⟨htr.os,htr.tape,htr.output,htr.size,fun b hb hn=>htr.frame b hb (fun ho=>hn (S.own ho)),htr.imm,fun b hb hl=>(htr.immBack b hb hl).imp id S.own,fun b hb hl=>S.own (htr.ownBack b hb hl),htr.rho⟩,hnd⟩
theorem KJ {ac:AC}{s0:St}(S:Sb s0 s)(h:AW P N rk ac s0 Q):AW P N rk ac s Q:=fun M c hc=>PZ S (h M c hc)
def RA (t:Nat→AV):List (Nat×AV)→Prop
  | []=>True
  |(i,v)::r=>AVle (t i) v∧RA t r
def Wy (h:C7):List (D7×Option Blk)→Prop
  | []=>True
  |(k,b)::r=>(match b with|some b0=> ∃b1,h k=some b1∧BlkLe b1 b0|none=>True)∧Wy h r
theorem C1 {l:List (Nat×AV)}{g:List (D7×Option Blk)}{t:Nat→AV}{h:C7}(h1:RA t l)(h2:Wy h g):Sb ⟨T l,G g⟩ ⟨t,h⟩:=by
  constructor
  ·intro i;show AVle (t i) (T l i)
   induction l with
   |nil=>exact .any _
   |cons p r ih=>
    obtain ⟨j,v⟩:=p;rw [PU];by_cases e:i=j
    ·subst e;rw [l4 rfl];exact h1.1
    ·rw [l5 e];exact ih h1.2
  ·intro k b;show G g k=some b→∃b',h k=some b'∧BlkLe b' b
   induction g with
   |nil=>intro h;cases h
   |cons p r ih=>
    obtain ⟨j,v⟩:=p;rw [G];by_cases e:k=j
    ·subst e;rw [l4 rfl];intro hv;subst hv;exact h2.1
    ·rw [l5 e];exact ih h2.2
end
inductive It where
  |c (a:AC)
  |b (id:Nat)
  |j (M:St→Prop)
def Dq (P:Program)(N:Nat)(rk:Option D7):List It→(Ex→St→Prop)→Ex→St→Prop
  | [],Q,e,s=>Q e s
  | .c a::r,Q, .nrm,s=>AW P N rk a s (Dq P N rk r Q)
  | .c _::r,Q,e,s=>Dq P N rk r Q e s
  | .b id::r,Q, .ext i,s=>if i=id then Dq P N rk r Q .nrm s else Dq P N rk r Q (.ext i) s
  | .b _::r,Q,e,s=>Dq P N rk r Q e s
  | .j M::_,_, .nrm,s=>M s
  | .j _::r,Q,e,s=>Dq P N rk r Q e s
def Uk (id:Nat):List It→Option (List It)
  | []=>none
  | .b i::r=>if id=i then some r else Uk id r
  |_::r=>Uk id r
section
variable {P:Program}{N:Nat}{rk:Option D7}{s:St}{Q:Ex→St→Prop}{r:List It}
theorem I0: ∀{r:List It},Q .ret s→Dq P N rk r Q .ret s
  | [],h=>h
  | .c _::r,h=>I0 (r:=r) h
  | .b _::r,h=>I0 (r:=r) h
  | .j _::r,h=>I0 (r:=r) h
theorem C4 {id:Nat}{r':List It}: ∀{r:List It},Uk id r=some r'→Dq P N rk r' Q .nrm s→Dq P N rk r Q (.ext id) s
  | [],h,_=>by simp [Uk]at h
  | .c _::r,h,q=>C4 (r:=r) h q
  | .j _::r,h,q=>C4 (r:=r) h q
  | .b i::r,h,q=>by
    simp only [Uk]at h;simp only [Dq];by_cases e:id=i
    ·rw [l4 e]at h ⊢;cases h;exact q
    ·rw [l5 e]at h ⊢;exact C4 h q
theorem Ul {id:Nat}: ∀{r:List It},Uk id r=none→Q (.ext id) s→Dq P N rk r Q (.ext id) s
  | [],_,q=>q
  | .c _::r,h,q=>Ul (r:=r) h q
  | .j _::r,h,q=>Ul (r:=r) h q
  | .b i::r,h,q=>by
    simp only [Uk]at h;simp only [Dq];by_cases e:id=i
    ·rw [l4 e]at h;cases h
    ·rw [l5 e]at h ⊢;exact Ul h q
theorem B2 (h:Dq P N rk r Q .nrm s):Dq P N rk (.c .skip::r) Q .nrm s:=BP h
theorem D2 {id:Nat}(h:Dq P N rk r Q .nrm s):Dq P N rk (.b id::r) Q .nrm s:=h
theorem A4 {a b:AC}(h:Dq P N rk (.c a:: .c b::r) Q .nrm s):Dq P N rk (.c (.seq a b)::r) Q .nrm s:=by
  refine Kg (AW.mono h ?_);intro e s' hs;cases e<;>exact hs
theorem A8 {a:AC}{id:Nat}(h:Dq P N rk (.c a:: .b id::r) Q .nrm s):Dq P N rk (.c (.block id a)::r) Q .nrm s:=by
  refine Ym (AW.mono h ?_);intro e s' hs;cases e<;>exact hs
theorem NM {a:AC}(h:Dq P N rk (.c a::r) Q .nrm s):Dq P N rk (.c (.scope a)::r) Q .nrm s:=JT h
theorem B6 (h:Q .ret s):Dq P N rk (.c .ret::r) Q .nrm s:=FD (I0 h)
theorem Vv {id:Nat}{r':List It}(hp:Uk id r=some r')(h:Dq P N rk r' Q .nrm s):Dq P N rk (.c (.exit id)::r) Q .nrm s:=BQ (C4 hp h)
theorem C5 {id:Nat}(hp:Uk id r=none)(h:Q (.ext id) s):Dq P N rk (.c (.exit id)::r) Q .nrm s:=BQ (Ul hp h)
theorem QA {o:Opd}{a b:AC}(c:Bool)(hc:ev s.t o= .d (.v (.bool c)))(h1:c=true→Dq P N rk (.c a::r) Q .nrm s)(h2:c=false→Dq P N rk (.c b::r) Q .nrm s):Dq P N rk (.c (.cond o a b)::r) Q .nrm s:=
  Uj hc h1 h2
theorem Oc {o:Opd}{a b:AC}(hc:ev s.t o= .d (.v (.bool true)))(h1:Dq P N rk (.c a::r) Q .nrm s):Dq P N rk (.c (.cond o a b)::r) Q .nrm s:=
  BR hc h1
theorem Od {o:Opd}{a b:AC}(hc:ev s.t o= .d (.v (.bool false)))(h1:Dq P N rk (.c b::r) Q .nrm s):Dq P N rk (.c (.cond o a b)::r) Q .nrm s:=
  BR hc h1
theorem A7 {a:AC}{s0:St}(S:Sb s0 s)(h:Dq P N rk (.c a::r) Q .nrm s0):Dq P N rk (.c a::r) Q .nrm s:=KJ S h
theorem O1 {aops:List AOp}{l:List (Nat×AV)}{g:List (D7×Option Blk)}(h: ∀u,(∀k,G g k≠none→k.2≠u)→M9 P u aops (T l) (G g) fun t h=>Dq P N rk r Q .nrm ⟨t,h⟩):Dq P N rk (.c (.reg aops)::r) Q .nrm ⟨T l,G g⟩:=
  Oi h
theorem Mx {aops:List AOp}{l:List (Nat×AV)}{g:List (D7×Option Blk)}(hn:QW aops=true)(h: ∀u,(∀k,G g k≠none→k.2≠u)→M9 P u aops (T l) (G g) fun t h=>Dq P N rk r Q .nrm ⟨t,h⟩):Dq P N rk (.c (.draw aops [])::r) Q .nrm ⟨T l,G g⟩:=
  FZ hn h
theorem Pa {a:AC}(h:Dq P N rk (.c a:: .c (.loop a)::r) Q .nrm s):Dq P N rk (.c (.loop a)::r) Q .nrm s:=fun M c hc=>by
  obtain ⟨x,rfl,h1⟩:=Bs hc;intro w I ρ act hs ro hro b k cs hb;obtain ⟨e,a',w',⟨s',I',ρ',hq,hs',htr,hnd⟩,harr⟩:=h M x h1 w I ρ act hs ro hro b (.inLoop x::k) cs hb;cases e with
  |nrm=>
   obtain ⟨e2,a2,w2,⟨s2,I2,ρ2,q2,hs2,tr2,OU⟩,harr2⟩:=hq M (.loop x) (by simp only [Z1,h1,lE]) w' I' ρ' a' hs' ro (hro.mono htr.rho) b k cs hb;refine ⟨e2,a2,w2,⟨s2,I2,ρ2,q2,hs2,htr.trans tr2,hnd.trans htr.size OU⟩,?_⟩;have e1:step P (lone (Cd b a' (.inLoop x::k)) cs w')= .next (lone (Cd b a' (.code x:: .inLoop x::k)) cs w'):=Zv;have e2':step P (lone (Cd b a' (.code (.loop x)::k)) cs w')= .next (lone (Cd b a' (.code x:: .inLoop x::k)) cs w'):=Ty;have hst:Steps P (lone (Cd b act (.code (.loop x)::k)) cs w) (lone (Cd b a' (.code x:: .inLoop x::k)) cs w'):= .head Ty (Steps.trans harr (.one e1))
   have key: ∀{m m1 m2:Machine},step P m= .next m1→m≠m2→Steps P m m2→Steps P m1 m2:=by
     rintro m m1 m2 hm hne ⟨n,hn⟩;cases n with
     |zero=>simp [runN]at hn;exact absurd hn hne
     |succ n=>rw [runN,hm]at hn;exact ⟨n,hn⟩
   have hne: ∀{a2:Act} {w2:World} {k':List Item},k'≠ .code (.loop x)::k→lone (Cd b a' (.code (.loop x)::k)) cs w'≠lone (Cd b a2 k') cs w2:=by
     intro a2 w2 k' hk e
     have:(Cd b a' (.code (.loop x)::k)).todo=(Cd b a2 k').todo:=by
       simp only [lone,Machine.mk.injEq]at e;simp at e;rw [e.2]
     exact hk this.symm
   cases e2 with
   |nrm=>exact Steps.trans hst (key e2' (hne (fun e=>by have:=congrArg List.length e;simp at this)) harr2)
   |ext id=>
    obtain ⟨k',h1,h2⟩:=harr2;exact ⟨k',Steps.trans hst (key e2' (hne (fun e=>by simp at e)) h1),h2⟩
   |ret=>
    obtain ⟨k',h1⟩:=harr2;exact ⟨k',Steps.trans hst (key e2' (hne (fun e=>by simp at e)) h1)⟩
  |ext id=>
   obtain ⟨k',hs1,he⟩:=harr;exact ⟨.ext id,a',w',⟨s',I',ρ',hq,hs',htr,hnd⟩,k', .head Ty hs1,by rw [he];rfl⟩
  |ret=>
   obtain ⟨k',hs1⟩:=harr;exact ⟨.ret,a',w',⟨s',I',ρ',hq,hs',htr,hnd⟩,k', .head Ty hs1⟩
theorem D0 {x:AC}(M:St→Prop)(h1:Dq P N rk (.c x:: .j M::r) Q .nrm s)(h2: ∀s',M s'→Dq P N rk r Q .nrm s'):Dq P N rk (.c x::r) Q .nrm s:=by
  refine AW.mono h1 ?_;intro e s' hs;cases e with
  |nrm=>exact h2 s' hs
  |ext id=>exact hs
  |ret=>exact hs
end
end Go.Abs
namespace Go.Abs
open Go
section plain
variable {α σ τ:Type}
def G8 (xs:List α)(n:Int):Option α:=if 0≤n then xs[n.toNat]? else none
def Ae (xs ys:List α):Option (List α):=if xs.length+ys.length≤1000000000 then some (xs++ys)else none
def BV (xs:List α)(i j:Int):Option (List α):=if 0≤i∧i≤j∧j≤xs.length then some ((xs.take j.toNat).drop i.toNat)else none
def Ps (xs:List α)(n:Int)(v:α):List α:=xs.set n.toNat v
def NN (k:IntKind)(a b:Int):Option Int:=if b=0 then none else some (k.wrap (a.tdiv b))
def FK (a b:Int):Option Int:=if b=0 then none else some (a.tmod b)
inductive Stp (σ τ:Type) where
  |go (s:σ)
  |out (t:τ)
def loopN (f:σ→Option (Stp σ τ)):Nat→σ→Option τ
  |0,_=>none
  |n+1,s=>match f s with
   |none=>none
   |some (.go s')=>loopN f n s'
   |some (.out t)=>some t
theorem FL (f:σ→Option (Stp σ τ)): ∀(n:Nat) (s:σ) (t:τ),loopN f n s=some t→loopN f (n+1) s=some t:=by
  intro n
  induction n with
  |zero=>intro s t h;cases h
  |succ n ih=>
   intro s t h;rw [loopN]at h ⊢;cases hf:f s with
   |none=>rw [hf]at h;cases h
   |some x=>
    rw [hf]at h;cases x with
    |go s'=>exact ih s' t h
    |out t'=>exact h
theorem DO (f:σ→Option (Stp σ τ)){n m:Nat}(hn:n≤m){s:σ}{t:τ}(h:loopN f n s=some t):loopN f m s=some t:=by
  induction hn with
  |refl=>exact h
  |step _ ih=>exact FL f _ _ _ ih
class Lp where
  run: ∀{σ τ:Type},(σ→Option (Stp σ τ))→σ→Option τ
open Classical in
noncomputable def KL (f:σ→Option (Stp σ τ))(s:σ):Option τ:=if h: ∃n t,loopN f n s=some t then some h.choose_spec.choose else none
noncomputable instance lpS:Lp:=⟨KL⟩
def loop [Lp](f:σ→Option (Stp σ τ))(s:σ):Option τ:=Lp.run f s
theorem loop_some {f:σ→Option (Stp σ τ)}{s:σ}{t:τ}:loop f s=some t↔∃n,loopN f n s=some t:=by
  show KL f s=_↔_;unfold KL;constructor
  ·intro h;split at h
   ·rename_i hx;cases h;exact ⟨hx.choose,hx.choose_spec.choose_spec⟩
   ·cases h
  ·rintro ⟨n,hn⟩;have hx: ∃n t,loopN f n s=some t:=⟨n,t,hn⟩;rw [dif_pos hx];have h1:=hx.choose_spec.choose_spec;have h2:=DO f (Nat.le_max_left n hx.choose) hn;have h3:=DO f (Nat.le_max_right n hx.choose) h1;rw [h2]at h3;exact h3.symm
def loopL (f:σ→α→Option (Stp σ τ))(e:σ→τ):List α→σ→Option τ
  | [],s=>some (e s)
  |a::l,s=>match f s a with
   |none=>none
   |some (.go s')=>loopL f e l s'
   |some (.out t)=>some t
def thenS {β γ:Type}(x:Option (Sum σ β))(f:σ→Option γ)(g:β→Option γ):Option γ:=match x with
  |some (.inl s)=>f s
  |some (.inr b)=>g b
  |none=>none
theorem FM {β γ:Type}{x:Option (Sum σ β)}{f:σ→Option γ}{g:β→Option γ}{r:γ}(h:thenS x f g=some r): ∃y,x=some y∧Sum.elim f g y=some r:=by
  cases x with
  |none=>cases h
  |some y=>cases y<;>exact ⟨_,rfl,h⟩
theorem E2 {b:Bool}{x y z:α}(hb:b=true)(h:cond b x y=z):x=z:=by subst hb;exact h
theorem QB {b:Bool}{x y z:α}(hb:b=false)(h:cond b x y=z):y=z:=by subst hb;exact h
theorem My {β:Type}{f:α→β}{xs:List α}{n:Int}{v:α}(h:G8 xs n=some v):0≤n∧n.toNat<xs.length∧(xs.map f)[n.toNat]? =some (f v):=by
  unfold G8 at h;split at h
  ·rename_i hn;refine ⟨hn,(lH.1 h).1,by rw [lI,h];rfl⟩
  ·cases h
theorem Fr {xs ys zs:List α}(h:Ae xs ys=some zs):xs.length+ys.length≤1000000000∧zs=xs++ys:=by
  unfold Ae at h;split at h
  ·cases h;exact ⟨‹_›,rfl⟩
  ·cases h
theorem AL {xs zs:List α}{i j:Int}(h:BV xs i j=some zs):0≤i∧i≤j∧j≤xs.length∧zs=(xs.take j.toNat).drop i.toNat:=by
  unfold BV at h;split at h
  ·cases h;rename_i hc;exact ⟨hc.1,hc.2.1,hc.2.2,rfl⟩
  ·cases h
theorem HN {k:IntKind}{a b c:Int}(h:NN k a b=some c):b≠0∧c=k.wrap (a.tdiv b):=by
  unfold NN at h;split at h
  ·cases h
  ·cases h;exact ⟨‹_›,rfl⟩
theorem HO {a b c:Int}(h:FK a b=some c):b≠0∧c=a.tmod b:=by
  unfold FK at h;split at h
  ·cases h
  ·cases h;exact ⟨‹_›,rfl⟩
end plain
def oS {α:Type}(xs:List α)(k:D7):AV:=match xs with
  | []=> .d .nilS
  |_=> .sl k
def oB {α:Type}(ty:TypeId)(sz:Nat)(f:α→List D)(xs:List α):Option Blk:=match xs with
  | []=>none
  |_=>some (.arr ty sz (xs.map f))
def gd (c b:Bool)(v:AV):AV:=if c=b then v else .d (.tup [])
theorem KM {c b:Bool}{v:AV}(h: ¬c=b):gd c b v= .d (.tup []):=l5 h
theorem A5 {c b:Bool}{v:AV}(h:c=b):gd c b v=v:=l4 h
section
variable {P:Program}{u:Nat}{r:List AOp}{l:List (Nat×AV)}{g:List (D7×Option Blk)}{K:(Nat→AV)→C7→Prop}
theorem A1 (hk:K (T l) (G g)):M9 P u [] (T l) (G g) K:=Jj hk
theorem B3 {d:Nat}{k:AK}(v:AV)(h0:W5 k=0)(hv:J1 (T l) (G g) k=some v)(hk:M9 P u r (T ((d,v)::l)) (G g) K):M9 P u (⟨some d,k,none⟩::r) (T l) (G g) K:=R1 v h0 hv hk
theorem Um {d:Nat}{k:AK}(v:AV)(b:Blk)(h0:Ms k=true)(hv:Mb u d (T l) k=some (v,b))(hk:M9 P u r (T ((d,v)::l)) (G (((d,u),some b)::g)) K):M9 P u (⟨some d,k,none⟩::r) (T l) (G g) K:=FH v b h0 hv hk
theorem Hh {n:Nat}{p x:Opd}(k:D7)(off:Nat)(ty:TypeId)(bs cs:List AV)(hx:Gn (ev (T l) x)=some cs)(hn:cs.length=n)(hp:ev (T l) p= .ptr k off)(hb:G g k=some (.box ty bs))(hl:off+n≤bs.length)(bs':List AV)(he:Gp bs off cs=bs')
    (hk:M9 P u r (T l) (G ((k,some (.box ty bs'))::g)) K):M9 P u (⟨none, .store n p x,none⟩::r) (T l) (G g) K:=
  DN k off ty bs cs hx hn hp hb hl (by rw [he];exact hk)
theorem Un: ∀xs:List D,He (xs.map .d)=some xs
  | []=>rfl
  |x::r=>by simp [He,Un r]
theorem Ij {α:Type}{n off sz:Nat}{p x:Opd}(f:α→List D)(q:D7)(ty:TypeId)(xs:List α)(i:Int)(a b:α)(ds:List D)(hx:Gn (ev (T l) x)=some (ds.map .d))(hn:ds.length=n)(hp:ev (T l) p= .aptr q sz i.toNat off)(hb:G g q=some (.arr ty sz (xs.map f)))(ha:G8 xs i=some a)
    (hl:off+n≤(f a).length) (he:Gp (f a) off ds=f b) (hk:M9 P u r (T l) (G ((q,some (.arr ty sz ((Ps xs i b).map f)))::g)) K):M9 P u (⟨none, .store n p x,none⟩::r) (T l) (G g) K:=by
  refine HL q sz i.toNat off ty (xs.map f) (f a) (ds.map .d) ds hx (by simpa using hn) hp hb (My ha).2.2 (Un ds) hl ?_;rw [he];have:(xs.map f).set i.toNat (f b)=(Ps xs i b).map f:=by rw [Ps,List.map_set]
  rw [this];exact hk
theorem Fm {α:Type}{d e sz:Nat}{ty:TypeId}{x y:Opd}(f:α→List D)(k:D7)(xs ys zs:List α)(hy:Ad (G g) sz (ev (T l) y)=some (ys.map f))(hx:ev (T l) x= .sl k)(hb:G g k=some (.arr e sz (xs.map f)))(hl:Ae xs ys=some zs)
    (hk:M9 P u r (T ((d, .sl (d,u))::l)) (G (((d,u),some (.arr e sz (zs.map f)))::(k,none)::g)) K):M9 P u (⟨some d, .append ty e sz x y,none⟩::r) (T l) (G g) K:=by
  obtain ⟨h1,rfl⟩:=Fr hl;refine HM k (xs.map f) (ys.map f) hy hx hb (by simpa using h1) ?_;rw [← List.map_append];exact hk
theorem KN {α:Type}{ty:TypeId}{sz:Nat}{f:α→List D}{xs:List α}(h:xs≠ []):oB ty sz f xs=some (.arr ty sz (xs.map f)):=by cases xs<;>first|exact absurd rfl h|rfl
theorem X0 {α:Type}{k:D7}{xs:List α}(h:xs≠ []):oS xs k= .sl k:=by cases xs<;>first|exact absurd rfl h|rfl
theorem N7 {α:Type}{xs zs:List α}{y:α}{ys:List α}(h:Ae xs (y::ys)=some zs):zs≠ []:=by
  obtain ⟨_,rfl⟩:=Fr h;simp
theorem J9 {α:Type}{d e sz:Nat}{ty:TypeId}{x y:Opd}(f:α→List D)(k:D7)(xs:List α)(v:α)(ys zs:List α)(hy:Ad (G g) sz (ev (T l) y)=some ((v::ys).map f))(hx:ev (T l) x=oS xs k)(hb:G g k=oB e sz f xs)(hl:Ae xs (v::ys)=some zs)
    (hk:M9 P u r (T ((d, .sl (d,u))::l)) (G (((d,u),some (.arr e sz (zs.map f)))::(k,none)::g)) K):M9 P u (⟨some d, .append ty e sz x y,none⟩::r) (T l) (G g) K:=by
  cases xs with
  |nil=>
   obtain ⟨h1,rfl⟩:=Fr hl;refine FJ (f v) (ys.map f) hy hx (by simpa using h1) ?_
   have:W8 (G g) (d,u) (some (.arr e sz (f v::ys.map f)))=G (((d,u),some (.arr e sz (([]++v::ys).map f)))::(k,none)::g):=by
     rw [Tn,Tn,List.nil_append,lN]
     have:W8 (G g) k none=G g:=by
       funext q;simp only [W8];split
       ·rename_i e;subst e;rw [hb];rfl
       ·rfl
     rw [this]
   rw [this];exact hk
  |cons x0 xs=>exact Fm f k (x0::xs) (v::ys) zs hy hx hb hl hk
end
end Go.Abs
namespace Go.Abs
open Go
section
variable {P:Program}{N:Nat}{rk:Option D7}{s:St}{Q:Ex→St→Prop}{r:List It}
theorem D4 {σ τ γ:Type}{a:AC}(f:σ→Option (Stp σ τ))(st:σ→γ→St)(x0:σ)(g0:γ)(y:τ)(hx:loop f x0=some y)(hs0:Sb (st x0 g0) s)
    (h: ∀x g z,f x=some z→(∀t,z= .out t→t=y)→Dq P N rk [.c a] (fun e s'=>match z with| .go x'=>e= .nrm∧∃g',Sb (st x' g') s'| .out _=>e≠ .nrm∧Dq P N rk r Q e s') .nrm (st x g)):
    Dq P N rk (.c (.loop a)::r) Q .nrm s:=by
  obtain ⟨n,hn⟩:=loop_some.1 hx;refine FY (fun n s=> ∃x g,loopN f n x=some y∧Sb (st x g) s) n ⟨x0,g0,hn,hs0⟩ ?_;rintro n s1 ⟨x,g,hl,hsb⟩;refine KJ hsb ?_;cases n with
  |zero=>cases hl
  |succ n=>
   rw [loopN]at hl;cases hf:f x with
   |none=>rw [hf]at hl;cases hl
   |some z=>
    rw [hf]at hl;refine AW.mono (h x g z hf (fun t ht=>by subst ht;cases hl;rfl)) ?_;intro e s2 hq;cases z with
    |go x'=>
     obtain ⟨rfl,g',hs'⟩:=hq;exact ⟨n,by omega,x',g',hl,hs'⟩
    |out t=>
     obtain ⟨hne,hq⟩:=hq;cases e with
     |nrm=>exact absurd rfl hne
     |ext id=>exact hq
     |ret=>exact hq
def KO (P:Program)(c:D)(L:List (List D)):Prop:= ∃gf fs cs,c= .fn (.func gf) fs cs∧∀(k:D7) (h0:C7) (Inv:Nat→C7→Prop) (Stop:C7→Prop),Inv 0 h0→
  (∀i h es,L[i]? =some es→Inv i h→YCall P k (es.map .d) h fun v h'=>(v= .d (.v (.bool true))∧Inv (i+1) h')∨(v= .d (.v (.bool false))∧Stop h'))→
   ICall P gf (fs.map .d++ [.yld k]++cs.map .d) h0 fun _ h'=>Inv L.length h'∨Stop h'
theorem FN {σ τ α:Type}{f:σ→α→Option (Stp σ τ)}{e:σ→τ}{L:List α}{i:Nat}{x:σ}{y:τ}{a:α}(hi:L[i]? =some a)(h:loopL f e (L.drop i) x=some y):
    ∃z,f x a=some z∧match z with| .go x'=>loopL f e (L.drop (i+1)) x'=some y| .out t=>t=y:=by
  have hlt:=(lH.1 hi).1;rw [List.drop_eq_getElem_cons hlt,loopL]at h;have ha:L[i]=a:=by rw [lG hlt]at hi;exact lC hi
  rw [ha]at h;cases hf:f x a with
  |none=>rw [hf]at h;cases h
  |some z=>
   rw [hf]at h;refine ⟨z,rfl,?_⟩;cases z with
   |go x'=>exact h
   |out t=>exact lC h
def QC (P:Program)(N:Nat)(rk:Option D7)(r:List It)(Q:Ex→St→Prop)(tl:Nat→AV)(k:D7)(r0:Loop){σ τ γ:Type}(st:σ→γ→List (D7×Option Blk))(z:Stp σ τ)(e:Ex)(s:St):Prop:=
  s.h k=some (.obj tl {r0 with state:= .busy})∧match z with
    | .go x'=>e= .nrm∧∃g',Sb ⟨T [],G (st x' g')⟩ ⟨T [],s.h⟩
    | .out _=>e≠ .nrm∧Dq P N rk r Q e ⟨tl,W8 s.h k none⟩
theorem Yr {σ τ α γ:Type}{f:Opd}{ps:List Nat}{as bd:AC}{tl:List (Nat×AV)}{g0:List (D7×Option Blk)}(c:D)(enc:α→List D)(L:List α)(F:σ→α→Option (Stp σ τ))(E:σ→τ)(st:σ→γ→List (D7×Option Blk))(x0:σ)(gg0:γ)(y:τ)
    (hf:ev (T tl) f= .d c) (hI:KO P c (L.map enc)) (hps: ∀a,(enc a).length=ps.length) (hx:loopL F E L x0=some y) (hs0:Sb ⟨T [],G (st x0 gg0)⟩ ⟨T [],G g0⟩) (hrk: ∀kk,rk=some kk→∃t r,G g0 kk=some (.obj t r))
    (hround: ∀u,(∀q,G g0 q≠none→q.2≠u)→rk≠some (1000000,u)→(∀x gg,G (st x gg) (1000000,u)=none)∧
      ∀r0 x gg a z,r0.state= .ready→F x a=some z→(∀t,z= .out t→t=y)→
       Dq P N (some (1000000,u)) [.c as, .j (fun s1=>s1.h (1000000,u)=some (.obj (T tl) r0)∧
        Dq P N (some (1000000,u)) [.c bd] (QC P N rk r Q (T tl) (1000000,u) r0 st z) .nrm ⟨s1.t,W8 s1.h (1000000,u) (some (.obj (T tl) {r0 with state:= .busy}))⟩)] (fun _ _=>False) .nrm
        ⟨Tm (T tl) ps ((enc a).map .d),G ((((1000000,u),some (.obj (T tl) r0)):D7×Option Blk)::st x gg)⟩)
    (hend: ∀x gg s',y=E x→Sb ⟨T tl,G (st x gg)⟩ s'→Dq P N rk r Q .nrm s'):Dq P N rk (.c (.rangeF f ps as bd)::r) Q .nrm ⟨T tl,G g0⟩:=by
  obtain ⟨gf,fs,cs,rfl,hI⟩:=hI;refine HK (gf:=gf) (fs:=fs.map .d) (cs:=cs.map .d) (by show KD (ev (T tl) f)=_;rw [hf];rfl) hrk ?_;intro u r0 M hu hkn hrkne hst hpd hpar hsize hpsN has hbd;obtain ⟨hkst,hr⟩:=hround u hu hrkne;have hkn:G g0 (1000000,u)=none:=hkn
  refine ICall.mono ?_ (hI (1000000,u) (W8 (G g0) (1000000,u) (some (.obj (T tl) r0)))
    (fun i h=> ∃x gg,loopL F E (L.drop i) x=some y∧h (1000000,u)=some (.obj (T tl) r0)∧Sb ⟨T [],G (st x gg)⟩ ⟨T [],h⟩)
    (OR (1000000,u) (T tl) (Dq P N rk r Q)) ?_ ?_)
  ·rintro v h' (⟨x,gg,h1,h2,h3⟩|h)
   ·rw [show (L.map enc).length=L.length from lO ..,List.drop_length,loopL]at h1;refine ⟨T tl,r0,h2,by rw [hst];simp,?_⟩;rw [hpd];refine hend x gg _ (lC h1).symm ⟨fun i=> .refl _,fun q b0 hb=> ?_⟩;obtain ⟨b,e1,e2⟩:=h3.h q b0 hb;refine ⟨b,?_,e2⟩;have:q≠(1000000,u):=by rintro rfl;exact absurd ((hkst _ _).symm.trans hb) (by simp)
    show W8 h' _ none q=some b;rw [K5 _ _ _ _ this];exact e1
   ·exact h
  ·refine ⟨x0,gg0,by rw [List.drop_zero];exact hx,C8 _ _ _,fun i=> .refl _,fun q b0 hb=> ?_⟩;obtain ⟨b,e1,e2⟩:=hs0.h q b0 hb;refine ⟨b,?_,e2⟩;have:q≠(1000000,u):=by rintro rfl;exact absurd ((hkst _ _).symm.trans hb) (by simp)
   show W8 (G g0) _ _ q=some b;rw [K5 _ _ _ _ this];exact e1
  ·rintro i h es hes ⟨x,gg,h1,h2,h3⟩;obtain ⟨a,ha,rfl⟩:=Xg hes;obtain ⟨z,hz,hz2⟩:=FN ha h1;have hround:=hr r0 x gg a z hst hz (fun t ht=>by subst ht;exact hz2)
   have hsb:Sb ⟨Tm (T tl) ps ((enc a).map .d),G ((((1000000,u),some (.obj (T tl) r0)):D7×Option Blk)::st x gg)⟩ ⟨Tm (T tl) ps ((enc a).map .d),h⟩:=by
     refine ⟨fun i=> .refl _,fun q b0 hb=> ?_⟩;by_cases e:q=(1000000,u)
     ·subst e;have hb:=Eq.trans (Eq.symm A2) hb;cases hb;exact ⟨_,h2, .refl _⟩
     ·have hb:G (((1000000,u),some (.obj (T tl) r0))::st x gg) q=some b0:=hb;rw [G,l5 e]at hb;exact h3.h q b0 hb
   refine KC (M:=M) (as:=as) (bd:=bd) h2 (by rw [lO,hps a,← hpar];simp) hsize (by rw [hpar];exact hpsN) has hbd ?_;rw [hpar];have hround:=KJ hsb hround;refine AW.mono hround ?_;intro e s1 hs1;cases e with
   |ext id=>exact absurd hs1 (by simp [Dq])
   |ret=>exact absurd hs1 (by simp [Dq])
   |nrm=>
    obtain ⟨q1,q2⟩:=hs1;refine ⟨rfl,T tl,r0,q1,hst,?_⟩;refine AW.mono q2 ?_;rintro e s2 ⟨w1,w2⟩;refine ⟨T tl,_,w1,?_⟩;cases z with
    |go x'=>
     obtain ⟨rfl,g',hg'⟩:=w2;refine .inl ⟨rfl,x',g',hz2,?_,fun i=> .refl _,fun q b0 hb=> ?_⟩
     ·show W8 s2.h _ _ _=_;rw [C8]
      have:({state:= .ready,pending:=none,fn:=r0.fn,tmps:=r0.tmps,params:=r0.params,assign:=r0.assign,body:=r0.body,defers:=r0.defers}:Loop)=r0:=by
        cases r0;simp only at hst hpd;subst hst hpd;rfl
      exact congrArg (fun r=>some (Blk.obj (T tl) r)) this
     ·obtain ⟨b,e1,e2⟩:=hg'.h q b0 hb;refine ⟨b,?_,e2⟩;have:q≠(1000000,u):=by rintro rfl;exact absurd ((hkst _ _).symm.trans hb) (by simp)
      show W8 s2.h _ _ q=some b;rw [K5 _ _ _ _ this];exact e1
    |out t=>
     obtain ⟨hne,hq⟩:=w2;cases e with
     |nrm=>exact absurd rfl hne
     |ext id=>
      refine .inr ⟨rfl,T tl,_,C8 _ _ _,by simp,?_⟩;dsimp only;rw [GA];exact hq
     |ret=>
      refine .inr ⟨rfl,T tl,_,C8 _ _ _,by simp,?_⟩;dsimp only;rw [GA];exact hq
end
end Go.Abs
namespace Go.Abs
open Go
abbrev i64 (n:Int):D:= .v (.int .i64 n)
abbrev H9 (n:Int):Int:=IntKind.i64.wrap n
abbrev bo (b:Bool):D:= .v (.bool b)
abbrev st8 (s:ByteArray):D:= .v (.string s)
def SJ {α β:Type}(a:α)(f:α→β):β:=f a
theorem PCall.le {P:Program}{f:FuncId}{ds ds':List D}{r:D}(h:PCall P f ds' r)(hd:All2 DLe ds ds'):PCall P f ds r:=
  ⟨h.1,fun w I vs hI hl hr=>h.2 w I vs hI (by rw [← hd.length];exact hl) fun i d hi=>by obtain ⟨a,e1,e2⟩:=hd.get hi;exact e2 _ _ _ (hr i a e1)⟩
theorem PCall.nil {P:Program}{f:FuncId}{r:D}(h: ∀A cap,PCall P f [.v (.slice A 0 cap)] r):PCall P f [.list []] r:=
  ⟨(h none 0).1,fun w I vs hI hl hr=>by
    match vs,hl with
    | [v],_=>
      have h0:RepD w I (.list []) v:=hr 0 _ rfl;cases h0 with
      |lnil A cap=>exact (h A cap).2 w I [_] hI rfl (fun i d hi=>by
         cases i with
         |zero=>cases hi;exact .v _
         |succ i=>simp at hi)
      |list _ _ _ _ _ hne=>exact absurd rfl hne⟩
section
variable {P:Program}{N:Nat}{rk:Option D7}{s:St}{Q:Ex→St→Prop}{r:List It}
theorem X4 {M:St→Prop}(h:M s):Dq P N rk (.j M::r) Q .nrm s:=h
theorem D5 (h:Q .nrm s):Dq P N rk [] Q .nrm s:=h
theorem C2 {f:FuncId}{rs:List RV}{ac:AC}(F:FnOK P f N rs ac){args:List D}{d:D}(hl:args.length≤N)
    (h:Dq P N none [.c ac] (fun e s=>(e= .nrm∨e= .ret)∧∃d',Ui s.t s.h rs=some d'∧DLe d' d) .nrm ⟨T (FG 0 args),G []⟩):PCall P f args d:=by
  refine ⟨F.enters,?_⟩;obtain ⟨fn,c,hf,hb,hN,hrs,⟨M,hc⟩,hn⟩:=F.ex;intro w I vs hI hlen hrep;have H0:HeapOK w I (fun _=>none) (fun _=>none):=⟨fun k b hb=>(by cases hb),fun k k' b b' g h1=>(by cases h1),fun k b g h1=>(by cases h1),fun k b g h1=>(by cases h1),hI,⟨0,fun _ _ _=>rfl⟩,fun k y hy=>(by cases hy)⟩
  have hsim:=Rj (n:=N) (args:=args.map .d) (h:=fun _=>none) H0 (by simpa using hlen) (by omega) (fun i c hc=>by
    rw [lI]at hc;cases hq:args[i]? with
    |none=>rw [hq]at hc;cases hc
    |some q=>rw [hq]at hc;cases hc;exact .d _ _ (hrep i q hq))
  have e:BT (args.map .d)=HH args:=by
    funext i;simp only [BT,HH,List.getD,lI];cases args[i]? <;>rfl
  rw [e,NL,← hN]at hsim;have e0:(fun _=>none:C7)=G []:=by funext q;rfl
  rw [e0]at hsim;refine Lb (Q:=fun e s=>(e= .nrm∨e= .ret)∧∃d',Ui s.t s.h rs=some d'∧DLe d' d) hf hb rfl hsim (by rw [hN];exact h M c hc) ?_;rintro e s' a' w' I' ρ' ⟨he,d',hres,hle⟩ hs' tr
  have hownI: ∀b,own ρ' s'.h b→¬b<w.heap.size:=fun b hb hlt=>by
    obtain ⟨k,x,h1,_⟩:=tr.ownBack b hb hlt;cases h1
  have hptr:PTr w I w' (fun b=>I' b∨own ρ' s'.h b):=by
    refine ⟨tr.os,tr.tape,tr.output,tr.size,fun b hb=>tr.frame b hb (fun ⟨k,x,h1,_⟩=>by cases h1),fun b hb=> .inl (tr.imm b hb),fun b hb hlt=> ?_,fun b hb=> ?_⟩
    ·rcases hb with hb|hb
     ·rcases tr.immBack b hb hlt with h|⟨k,x,h1,_⟩
      ·exact h
      ·cases h1
     ·exact absurd hlt (hownI b hb)
    ·rcases hb with hb|hb
     ·exact hs'.heap.ilt b hb
     ·exact hs'.heap.own_lt hb
  obtain ⟨x,hx,hr⟩:=DL hs' hrs hres;exact ⟨he,x,hx,x,_,rfl,hle _ _ _ hr,hptr⟩
theorem B0 {t:Nat→AV}{h:C7}{rs:List RV}{d d':D}{e:Ex}(he:e= .nrm∨e= .ret)(h1:Ui t h rs=some d')(h2:DLe d' d):(e= .nrm∨e= .ret)∧∃d',Ui (⟨t,h⟩:St).t (⟨t,h⟩:St).h rs=some d'∧DLe d' d:=⟨he,d',h1,h2⟩
theorem FO {tl:Nat→AV}{k:D7}{r0:Loop}{bd:AC}{l:List (Nat×AV)}{g:List (D7×Option Blk)}{Q':Ex→St→Prop}(h1:G g k=some (.obj tl r0))(h2:Dq P N (some k) [.c bd] Q' .nrm ⟨T l,G ((k,some (.obj tl {r0 with state:= .busy}))::g)⟩):
    (⟨T l,G g⟩:St).h k=some (.obj tl r0)∧Dq P N (some k) [.c bd] Q' .nrm ⟨(⟨T l,G g⟩:St).t,W8 (⟨T l,G g⟩:St).h k (some (.obj tl {r0 with state:= .busy}))⟩:=⟨h1,h2⟩
theorem FP {σ τ γ:Type}{tl:Nat→AV}{k:D7}{r0:Loop}{st:σ→γ→List (D7×Option Blk)}{x:σ}{g:List (D7×Option Blk)}{t:Nat→AV}(h1:G g k=some (.obj tl {r0 with state:= .busy}))(g':γ)(h2:Wy (G g) (st x g')):QC P N rk r Q tl k r0 st (.go x:Stp σ τ) .nrm ⟨t,G g⟩:=
  ⟨h1,rfl,g',C1 trivial h2⟩
theorem NO {σ τ γ:Type}{tl:Nat→AV}{k:D7}{r0:Loop}{st:σ→γ→List (D7×Option Blk)}{x:σ}{g:List (D7×Option Blk)}{t:Nat→AV}{s':St}(hv:Sb ⟨t,G g⟩ s')(h1:G g k=some (.obj tl {r0 with state:= .busy}))(g':γ)(h2:Wy (G g) (st x g')):QC P N rk r Q tl k r0 st (.go x:Stp σ τ) .nrm s':=by
  obtain ⟨b,e1,e2⟩:=hv.h k _ h1;rw [e2.obj]at e1;refine ⟨e1,rfl,g',⟨fun _=> .refl _,fun q b0 hb=> ?_⟩⟩;obtain ⟨b1,f1,f2⟩:=(C1 (t:=T []) (l:= []) trivial h2).h q b0 hb;obtain ⟨b2,g1,g2⟩:=hv.h q b1 f1;exact ⟨b2,g1,g2.trans f2⟩
end
theorem B9 {h:C7}{k:D7}{b b1:Blk}{l:List (D7×Option Blk)}(h1:h k=some b1)(h2:BlkLe b1 b)(hl:Wy h l):Wy h ((k,some b)::l):=⟨⟨b1,h1,h2⟩,hl⟩
theorem C3 {α:Type}{h:C7}{k:D7}{ty:TypeId}{sz:Nat}{f:α→List D}{xs:List α}{l:List (D7×Option Blk)}(h1:h k=oB ty sz f xs)(hl:Wy h l):Wy h ((k,oB ty sz f xs)::l):=by
  refine ⟨?_,hl⟩;cases xs with
  |nil=>trivial
  |cons x xs=>exact ⟨_,h1, .refl _⟩
theorem O4 {α:Type}{h:C7}{k:D7}{ty:TypeId}{sz:Nat}{f:α→List D}{xs:List α}{l:List (D7×Option Blk)}(h1:h k=some (.arr ty sz (xs.map f)))(hl:Wy h l):Wy h ((k,oB ty sz f xs)::l):=by
  refine ⟨?_,hl⟩;cases xs with
  |nil=>trivial
  |cons x xs=>exact ⟨_,h1, .refl _⟩
theorem T0 {α:Type}{h:C7}{k:D7}{ty:TypeId}{sz:Nat}{f:α→List D}{l:List (D7×Option Blk)}(hl:Wy h l):Wy h ((k,oB ty sz f [])::l):=⟨trivial,hl⟩
section
variable {P:Program}{u:Nat}{r:List AOp}{l:List (Nat×AV)}{g:List (D7×Option Blk)}{K:(Nat→AV)→C7→Prop}
theorem Uo {α:Type}{q:D7}{ty:TypeId}{sz:Nat}{f:α→List D}{xs:List α}{h:C7}(hb:h q=oB ty sz f xs)(hn:xs≠ []):h q=some (.arr ty sz (xs.map f)):=by rw [hb,KN hn]
theorem Ks {α:Type}{xs:List α}{n:Int}{a:α}(h:G8 xs n=some a):xs≠ []:=by rintro rfl;simp [G8]at h
theorem NP {α:Type}{xs:List α}{n:Int}{a:α}(h:xs≠ []):Ps xs n a≠ []:=by
  intro e;have:=congrArg List.length e;rw [Ps,List.length_set]at this;exact h (lV this)
theorem D8 {α:Type}{h:C7}{sz:Nat}{f:α→List D}{xs:List α}(hz: ∀a,(f a).length=sz):Ad h sz (.d (.list (xs.map f)))=some (xs.map f):=by
  have:((xs.map f).all fun e=>e.length==sz)=true:=by simp [hz]
  simp only [Ad,this,if_true]
theorem B8 {d:Nat}{f:Opd}{args:List Opd}{fid:FuncId}{avs:List AV}{ds ds':List D}{v:D}(hc:T3 (T l) f args=some (fid,avs))(hd:N9 (L8 (G g) 6) avs=some ds)(hle:All2 DLe ds ds')
    (hp:PCall P fid ds' v) (ha:He avs=some ds∨CU v=true) (hk:M9 P u r (T ((d, .d v)::l)) (G g) K):M9 P u (⟨some d, .call f args,none⟩::r) (T l) (G g) K:=
  Xh hc hd (hp.le hle) ha hk
end
section
variable {h:C7}
def oD {α:Type}(f:α→List D)(xs:List α):D:=match xs with
  | []=> .nilS
  |_=> .list (xs.map f)
theorem Gf {α:Type}{f:α→List D}{xs:List α}:DLe (oD f xs) (.list (xs.map f)):=by
  cases xs with
  |nil=>exact .nil
  |cons x xs=>exact .refl _
theorem Gg {α:Type}{n:Nat}{k:D7}{ty:TypeId}{sz:Nat}{f:α→List D}{xs:List α}(hb:h k=oB ty sz f xs):L8 h (n+1) (oS xs k)=some (oD f xs):=by
  cases xs with
  |nil=>rfl
  |cons x xs=>exact Rl hb
theorem Pb {n:Nat}{cs:List AV}{ds:List D}(hc:N9 (L8 h n) cs=some ds):L8 h (n+1) (Ce cs)=some (.agg ds):=by
  unfold Ce;cases ha:He cs with
  |none=>exact KI hc
  |some ds'=>
   rw [CV ha]at hc;cases hc;exact C6
theorem Ev (cs:List AV):Gn (Ce cs)=some cs:=by
  unfold Ce;cases ha:He cs with
  |none=>rfl
  |some ds=>
   have: ∀{cs:List AV} {ds:List D},He cs=some ds→cs=ds.map .d:=by
     intro cs
     induction cs with
     |nil=>intro ds h;simp [He]at h;subst h;rfl
     |cons x r ih=>
      intro ds h;cases x<;>simp only [He]at h<;>try cases h
      simp only [lD]at h;obtain ⟨q,hq,rfl⟩:=h;rw [ih hq];rfl
   rw [this ha];rfl
theorem A3: ∀{ds:List D},All2 DLe ds ds
  | []=> .nil
  |_::_=> .cons (.refl _) A3
theorem Ys {u d:Nat}(hu: ∀k,h k≠none→k.2≠u):h (d,u)=none:=by
  cases hq:h (d,u)with
  |none=>rfl
  |some b=>exact absurd rfl (hu (d,u) (by rw [hq];simp))
theorem Sb.after {a b c:St}(h':Sb b c)(h:Sb a b):Sb a c:=h.trans h'
end
end Go.Abs
namespace Go.Abs
open Go
def SB:List Nat:=(List.range 400).map (· +1000)
section
variable {t:Nat→AV}{h:C7}
theorem M0 {op:BinOp}{x y:Opd}{k:IntKind}{a b:Int}{v:Value}(hx:ev t x= .d (.v (.int k a)))(hy:ev t y= .d (.v (.int k b)))(hr:Xs op k a b=some v):J1 t h (.bin op x y)=some (.d (.v v)):=by
  simp only [J1,hx,hy,hr,beq_self_eq_true,Bool.or_true,if_true,lE]
theorem V1 {n:Nat}{p:Opd}{k:D7}{off:Nat}{ty:TypeId}{bs:List AV}{v:AV}(hp:ev t p= .ptr k off)(hb:h k=some (.box ty bs))(hv:(bs.drop off).head? =some v):J1 t h (.load n false p)=some v:=by
  simp only [J1,hp,V0,hb,Bool.false_eq_true,if_false];exact hv
theorem B1 {n:Nat}{p:Opd}{k:D7}{off:Nat}{ty:TypeId}{bs:List AV}{v:AV}(hp:ev t p= .ptr k off)(hb:h k=some (.box ty bs))(hn:Nat.ble n (bs.drop off).length=true)(hv:Ce ((bs.drop off).take n)=v):J1 t h (.load n true p)=some v:=by
  have hn:=Nat.le_of_ble_eq_true hn;simp only [J1,hp,V0,hb,if_true,hn];rw [hv]
theorem E3 {α:Type}{sz:Nat}{x i:Opd}{f:α→List D}{xs:List α}{k:IntKind}{n:Int}{a:α}(hx:ev t x= .d (.list (xs.map f)))(hi:ev t i= .d (.v (.int k n)))(hv:G8 xs n=some a)(hz:(f a).length=sz):J1 t h (.idxS sz x i)=some (.d (.lp (xs.map f) n.toNat 0)):=by
  have q:=My (f:=f) hv;simp only [J1,hx,hi,q.2.2,q.1,hz,and_self,if_true]
theorem Ga {α:Type}{sz:Nat}{x i:Opd}{f:α→List D}{q:D7}{ty:TypeId}{xs:List α}{k:IntKind}{n:Int}{a:α}(hx:ev t x= .sl q)(hi:ev t i= .d (.v (.int k n)))(hb:h q=some (.arr ty sz (xs.map f)))(hv:G8 xs n=some a):J1 t h (.idxS sz x i)=some (.aptr q sz n.toNat 0):=by
  have q:=My (f:=f) hv;simp only [J1,hx,hi,hb,q.1,lO,q.2.1,and_self,if_true]
theorem M1 {α:Type}{n off:Nat}{p:Opd}{f:α→List D}{xs:List α}{i:Int}{a:α}{v:D}(hp:ev t p= .d (.lp (xs.map f) i.toNat off))(ha:G8 xs i=some a)(hv:((f a).drop off).head? =some v):J1 t h (.load n false p)=some (.d v):=by
  simp only [J1,hp,V0,(My (f:=f) ha).2.2,lE,Bool.false_eq_true,if_false];rw [List.head?_map,hv];rfl
theorem C9 {α:Type}{n off:Nat}{p:Opd}{f:α→List D}{xs:List α}{i:Int}{a:α}{ds:List D}(hp:ev t p= .d (.lp (xs.map f) i.toNat off))(ha:G8 xs i=some a)(hn:Nat.ble n ((f a).drop off).length=true)(hv:((f a).drop off).take n=ds):J1 t h (.load n true p)=some (.d (.agg ds)):=by
  have hn:=Nat.le_of_ble_eq_true hn;simp only [J1,hp,V0,(My (f:=f) ha).2.2,lE,if_true,lO,hn];rw [← List.map_take,Ce,Un,hv]
theorem Up {α:Type}{n off sz:Nat}{p:Opd}{f:α→List D}{q:D7}{ty:TypeId}{xs:List α}{i:Int}{a:α}{v:D}(hp:ev t p= .aptr q sz i.toNat off)(hb:h q=some (.arr ty sz (xs.map f)))(ha:G8 xs i=some a)(hv:((f a).drop off).head? =some v):J1 t h (.load n false p)=some (.d v):=by
  simp only [J1,hp,V0,hb,if_true,(My (f:=f) ha).2.2,lE,Bool.false_eq_true,if_false,List.head?_map,hv]
theorem Uq {α:Type}{n off sz:Nat}{p:Opd}{f:α→List D}{q:D7}{ty:TypeId}{xs:List α}{i:Int}{a:α}{ds:List D}(hp:ev t p= .aptr q sz i.toNat off)(hb:h q=some (.arr ty sz (xs.map f)))(ha:G8 xs i=some a)(hn:Nat.ble n ((f a).drop off).length=true)(hv:((f a).drop off).take n=ds):J1 t h (.load n true p)=some (.d (.agg ds)):=by
  have hn:=Nat.le_of_ble_eq_true hn;simp only [J1,hp,V0,hb,if_true,(My (f:=f) ha).2.2,lE,lO,hn];rw [← List.map_take,Ce,Un,hv]
theorem RB {x y:Opd}{k:IntKind}{a b v:Int}(hx:ev t x= .d (.v (.int k a)))(hy:ev t y= .d (.v (.int k b)))(hv:NN k a b=some v):J1 t h (.bin .quo x y)=some (.d (.v (.int k v))):=by
  obtain ⟨h1,rfl⟩:=HN hv;exact M0 hx hy (by simp only [Xs,l5 h1])
theorem GD {x y:Opd}{k:IntKind}{a b v:Int}(hx:ev t x= .d (.v (.int k a)))(hy:ev t y= .d (.v (.int k b)))(hv:FK a b=some v):J1 t h (.bin .rem x y)=some (.d (.v (.int k v))):=by
  obtain ⟨h1,rfl⟩:=HO hv;exact M0 hx hy (by simp only [Xs,l5 h1])
theorem D3 {α:Type}{x:Opd}{f:α→List D}{xs:List α}(hx:ev t x= .d (.list (xs.map f))):J1 t h (.len x)=some (.d (i64 xs.length)):=by simp only [J1,hx,lO]
theorem Ew {α:Type}{x:Opd}{f:α→List D}{q:D7}{ty:TypeId}{sz:Nat}{xs:List α}(hx:ev t x= .sl q)(hb:h q=some (.arr ty sz (xs.map f))):J1 t h (.len x)=some (.d (i64 xs.length)):=by simp only [J1,hx,hb,lO]
theorem GF {α:Type}{sz:Nat}{x:Opd}{lo hi:Option Opd}{f:α→List D}{xs zs:List α}{i j:Int}(hx:ev t x= .d (.list (xs.map f)))(hz: ∀a,(f a).length=sz)
    (hlo:Bl t 0 lo=if 0≤i then some i.toNat else none) (hhi:Bl t xs.length hi=if 0≤j then some j.toNat else none) (hv:BV xs i j=some zs):J1 t h (.slice sz x lo hi none)=some (.d (.list (zs.map f))):=by
  obtain ⟨h1,h2,h3,rfl⟩:=AL hv;rw [l4 h1]at hlo;rw [l4 (by omega)]at hhi;have hall:((xs.map f).all fun e=>e.length==sz)=true:=by simp [hz]
  simp only [J1,hx,lO,hlo,hhi,hall,and_true];rw [l4 (by omega),List.map_drop,List.map_take]
theorem BW {n:Nat}:Bl t n none=if 0≤(n:Int)then some (n:Int).toNat else none:=by rw [l4 (by omega)];rfl
theorem NQ {x:Opd}{n:Nat}{k:IntKind}{i:Int}(hx:ev t x= .d (.v (.int k i))):Bl t n (some x)=if 0≤i then some i.toNat else none:=by simp only [Bl,hx]
theorem RC {j x y:Opd}{c q:Bool}(hj:ev t j= .d (bo c))(hx:c=true→ev t x= .d (bo q))(hy:ev t y= .d (bo false)):J1 t h (.pick j x y)=some (.d (bo (c&&q))):=by
  simp only [J1,hj];cases c
  ·rw [hy];rfl
  ·rw [hx rfl];rfl
theorem Bo {j x y:Opd}{c q:Bool}(hj:ev t j= .d (bo c))(hx:ev t x= .d (bo true))(hy:c=false→ev t y= .d (bo q)):J1 t h (.pick j x y)=some (.d (bo (c||q))):=by
  simp only [J1,hj];cases c
  ·rw [hy rfl];rfl
  ·rw [hx];rfl
def QR (x:AV)(b w:Bool):Prop:=(w=true→x= .d (bo b))∧(w=false→x= .d (bo !b)∨x= .d (.tup []))
theorem K0 {x:AV}{c:Bool}(hx:x= .d (bo c)):QR x true c:=by subst hx;cases c<;>exact ⟨fun h=>(by first|rfl|cases h),fun h=>(by first|exact .inl rfl|cases h)⟩
theorem R9 {x:AV}{c:Bool}(hx:x= .d (bo c)):QR x false (!c):=by subst hx;cases c<;>exact ⟨fun h=>(by first|rfl|cases h),fun h=>(by first|exact .inl rfl|cases h)⟩
theorem U1 {a:Bool}(h:a=false):(!a)=true:=by subst h;rfl
theorem OS {j:Nat}{b w:Bool}{K:AV→List (D7×Option Blk)→Prop}{body:Prop}(hg:QR (t j) b w)(h1:w=true→body)(h2:w=false→K (.d (.tup [])) []):gW (some (j,b)) t K body:=by
  cases w with
  |true=>
   have:=hg.1 rfl;simp only [gW,this,if_true];exact h1 rfl
  |false=>
   rcases hg.2 rfl with e|e
   ·simp only [gW,e];rw [l5 (by cases b<;>simp)];exact h2 rfl
   ·simp only [gW,e];exact h2 rfl
end
section
variable {P:Program}{u:Nat}{r:List AOp}{l:List (Nat×AV)}{g:List (D7×Option Blk)}{K:(Nat→AV)→C7→Prop}
theorem GG {dst:Option Nat}{t:Nat→AV}{h:C7}{k:AK}{v:AV}{K':AV→List (D7×Option Blk)→Prop}(h0:W5 k=0)(hv:J1 t h k=some v)(hk:K' v []):Wx P u dst t h k K':=by
  unfold Wx;split<;>first|(simp [W5]at h0;done)|(rw [hv];exact hk)
theorem Sk {dst:Option Nat}{k:AK}{gg:Option (Nat×Bool)}{t:Nat→AV}{h:C7}(h0:W5 k≠7)(hk:gW gg t (fun v ups=>M9 P u r (Sq t dst v) (Q0 h ups) K) (Wx P u dst t h k fun v ups=>M9 P u r (Sq t dst v) (Q0 h ups) K)):M9 P u (⟨dst,k,gg⟩::r) t h K:=by
  unfold M9;split
  ·exact absurd rfl h0
  ·exact hk
theorem N2 {d j:Nat}{b:Bool}{k:AK}(w:Bool)(v:AV)(h0:W5 k=0)(hg:QR (T l j) b w)(hv:w=true→J1 (T l) (G g) k=some v)(hk:M9 P u r (T ((d,gd w true v)::l)) (G g) K):M9 P u (⟨some d,k,some (j,b)⟩::r) (T l) (G g) K:=by
  refine Sk (by rw [h0];simp) (OS hg (fun hw=>GG h0 (hv hw) ?_) fun hw=> ?_)
  ·rw [A5 hw]at hk;exact hk
  ·rw [KM (by simp [hw])]at hk;exact hk
theorem N0 {d j:Nat}{b:Bool}{f:Opd}{args:List Opd}(w:Bool)(v:D)(hg:QR (T l j) b w)
    (hv:w=true→∃fid avs ds ds',T3 (T l) f args=some (fid,avs)∧N9 (L8 (G g) 6) avs=some ds∧All2 DLe ds ds'∧PCall P fid ds' v∧(He avs=some ds∨CU v=true)) (hk:M9 P u r (T ((d,gd w true (.d v))::l)) (G g) K):M9 P u (⟨some d, .call f args,some (j,b)⟩::r) (T l) (G g) K:=by
  refine Sk (by simp [W5]) (OS hg (fun hw=> ?_) fun hw=> ?_)
  ·rw [A5 hw]at hk;obtain ⟨fid,avs,ds,ds',h1,h2,h3,h4,h5⟩:=hv hw;simp only [Wx,DF,h1,h2];exact ⟨v,h4.le h3,h5,hk⟩
  ·rw [KM (by simp [hw])]at hk;exact hk
end
section
variable {P:Program}{N:Nat}{rk:Option D7}{Q:Ex→St→Prop}{rr:List It}{u:Nat}{r:List AOp}{l:List (Nat×AV)}{g:List (D7×Option Blk)}{K:(Nat→AV)→C7→List (List D7×List D7)→Prop}
theorem BX {aops:List AOp}{pairs:List (Nat×Nat)}(h: ∀u,(∀k,G g k≠none→k.2≠u)→Kf P u aops (T l) (G g) fun t h tr=>BM tr pairs=true∧Dq P N rk rr Q .nrm ⟨t,h⟩):Dq P N rk (.c (.draw aops pairs)::rr) Q .nrm ⟨T l,G g⟩:=
  DK h
theorem KP (hk:K (T l) (G g) []):Kf P u [] (T l) (G g) K:=by simpa only [Kf] using hk
theorem Fo {d:Nat}{k:AK}(v:AV)(h0:W5 k=0)(hv:J1 (T l) (G g) k=some v)(hk:Kf P u r (T ((d,v)::l)) (G g) fun t' h' tr=>K t' h' ((Aw (T l) (G g) k,[])::tr)):Kf P u (⟨some d,k,none⟩::r) (T l) (G g) K:=by
  unfold Kf;simp only [gW];refine GG (v:=v) h0 hv ?_;exact hk
theorem GH {d:Nat}{k:AK}(v:AV)(b:Blk)(h0:Ms k=true)(hv:Mb u d (T l) k=some (v,b))(hk:Kf P u r (T ((d,v)::l)) (G (((d,u),some b)::g)) fun t' h' tr=>K t' h' ((Aw (T l) (G g) k,[(d,u)])::tr)):Kf P u (⟨some d,k,none⟩::r) (T l) (G g) K:=by
  unfold Kf;simp only [gW];unfold Wx;split<;>first|(simp [Ms,W5]at h0;done)|(dsimp only;rw [hv];exact hk)
theorem Ur {n:Nat}{p x:Opd}(k:D7)(off:Nat)(ty:TypeId)(bs cs:List AV)(hx:Gn (ev (T l) x)=some cs)(hn:cs.length=n)(hp:ev (T l) p= .ptr k off)(hb:G g k=some (.box ty bs))(hl:off+n≤bs.length)(bs':List AV)(he:Gp bs off cs=bs')
    (hk:Kf P u r (T l) (G ((k,some (.box ty bs'))::g)) fun t' h' tr=>K t' h' ((Aw (T l) (G g) (.store n p x),[k])::tr)):Kf P u (⟨none, .store n p x,none⟩::r) (T l) (G g) K:=by
  unfold Kf;subst he;simp only [gW,Wx,Gm,hx,hn,if_true,hp,hb,hl];exact hk
end
end Go.Abs
namespace Go.Abs
open Go
section
variable (P:Program)
def Rd (t:TypeId){α:Type}(e:α→List D)(wf:α→Prop):Prop:=
  ∀(H:Type) (enc:TypeId×Value→H) (w:World) (fuel:Nat) (cs:List Value) (d:DataW H) (ps:List MemPlace),DataW.trod enc P w 0 (fun _=>true) true fuel t cs=some (d,ps)→
   ∃x:α,wf x∧cs.length=(e x).length∧∀(i:Nat) di,(e x)[i]? =some di→di.one=true∧RepD w (fun b=>b<w.heap.size) di (cs.getD i undef)
def RdF (fs:List Field)(off:Nat){β:Type}(e:β→List D)(wf:β→Prop):Prop:=
  ∀(H:Type) (enc:TypeId×Value→H) (w:World) (fuel:Nat) (cs:List Value) (xs:List (DataW H×List MemPlace)),(fs.mapM fun f=>DataW.trod enc P w 0 (fun _=>true) true fuel f.type ((cs.drop f.offset).take (P.cellsOf f.type)))=some xs→
   ∃y:β,wf y∧∀(i:Nat) di,(e y)[i]? =some di→di.one=true∧RepD w (fun b=>b<w.heap.size) di (cs.getD (off+i) undef)
end
section
variable {P:Program}
theorem BY {w w':World}{I I':Nat→Prop}(h:PTr w I w' I'):Go.RowKit.Below w.heap.size w w':=⟨h.os,h.tape,h.output,h.size,h.frame⟩
theorem HP {w:World}{I:Nat→Prop}{b:Bool}{v:Value}(h:RepD w I (bo b) v):v= .bool b:=by cases h;rfl
theorem KQ {f:FuncId}{args:List D}{vs:List Value}{w:World}(hp:PCall P f args (bo true))(hl:args.length=vs.length)(hr: ∀(i:Nat) d,args[i]? =some d→RepD w (fun b=>b<w.heap.size) d (vs.getD i undef)):
    Calls P f vs.toArray w fun e w'=>e= .returned (.bool true)∧Go.RowKit.Below w.heap.size w w':=
  (hp.2 w (fun b=>b<w.heap.size) vs (fun _ h=>h) hl hr).mono fun _ _ ⟨_,_,h1,h2,h3⟩=>⟨by rw [h1,HP h2],BY h3⟩
end
end Go.Abs
namespace Go.Abs
open Go
def SK (n:Int):Prop:= -9223372036854775808≤n∧n≤9223372036854775807
end Go.Abs
