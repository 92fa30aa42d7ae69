/-
  An abstract layer over the machine, third part: plain functions, typed steps, loops, how arguments are read.
-/
import Derived.Test.YtgjdiioennhoeaaGreatCoreB
import Derived.ProofKit
import Derived.OpenShut
import Derived.ChangeOld
import Derived.Carry
import Derived.Below
import Derived.IntWalk
namespace Go.Abs
open Go
def G:List (F7×Option Blk)→E7
  | [],_=>none
  |(i,v)::l,j=>if j=i then v else G l j
theorem aC (i:F7)(v:Option Blk)(l:List (F7×Option Blk)):G ((i,v)::l)=Ag (G l) i v:=rfl
theorem A2 {k:F7}{b:Option Blk}{l:List (F7×Option Blk)}:G ((k,b)::l) k=b:=bO rfl
theorem C3 {k i:F7}{b r:Option Blk}{l:List (F7×Option Blk)}(h:(k.1==i.1)=false)(hl:G l k=r):G ((i,b)::l) k=r:=by
  have:k≠i:=by rintro rfl;simp at h
  rw [G,bP this];exact hl
theorem As {k i:F7}{b r:Option Blk}{l:List (F7×Option Blk)}(h:k.2≠i.2)(hl:G l k=r):G ((i,b)::l) k=r:=by
  have:k≠i:=by rintro rfl;exact h rfl
  rw [G,bP this];exact hl
theorem WL {h:E7}{u:Nat}(hu: ∀k,h k≠none→k.2≠u){k:F7}{b:Blk}(hk:h k=some b):k.2≠u:=hu k (by rw [hk];simp)
section
variable {P:Program}{N:Nat}{rk:Option F7}{s:St}{Q:Ex→St→Prop}
theorem vC {c:Code}{s0:St}(S:Sb s0 s)(h:AWc P N rk c s0 Q):AWc P N rk c s Q:=by
  intro w I ρ a hs ro hro;refine (h w I ρ a (S.sim hs) ro hro).mono ?_;rintro e a' w' ⟨s',I',ρ',hq,hs',htr,hnd⟩;exact ⟨s',I',ρ',hq,hs',⟨htr.os,htr.tape,htr.output,htr.size,fun b hb hn=>htr.frame b hb (fun ho=>hn (S.own ho)),htr.imm,fun b hb hl=>(htr.immBack b hb hl).imp id S.own,fun b hb hl=>S.own (htr.ownBack b hb hl),htr.rho⟩,hnd⟩
theorem dK {ac:AC}{s0:St}(S:Sb s0 s)(h:AW P N rk ac s0 Q):AW P N rk ac s Q:=fun M c hc=>vC S (h M c hc)
def vD (t:Nat→AV):List (Nat×AV)→Prop
  | []=>True
  |(i,v)::r=>AVle (t i) v∧vD t r
def LB (h:E7):List (F7×Option Blk)→Prop
  | []=>True
  |(k,b)::r=>(match b with|some b0=> ∃b1,h k=some b1∧BlkLe b1 b0|none=>True)∧LB h r
theorem D0 {l:List (Nat×AV)}{g:List (F7×Option Blk)}{t:Nat→AV}{h:E7}(h1:vD t l)(h2:LB h g):Sb ⟨T l,G g⟩ ⟨t,h⟩:=by
  constructor
  ·intro i;show AVle (t i) (T l i)
   induction l with
   |nil=>exact .any _
   |cons p r ih=>
    obtain ⟨j,v⟩:=p;rw [uW];by_cases e:i=j
    ·subst e;rw [bO rfl];exact h1.1
    ·rw [bP e];exact ih h1.2
  ·intro k b;show G g k=some b→∃b',h k=some b'∧BlkLe b' b
   induction g with
   |nil=>intro h;cases h
   |cons p r ih=>
    obtain ⟨j,v⟩:=p;rw [G];by_cases e:k=j
    ·subst e;rw [bO rfl];intro hv;subst hv;exact h2.1
    ·rw [bP e];exact ih h2.2
end
inductive It where
  |c (a:AC)
  |b (id:Nat)
  |j (M:St→Prop)
def Dj (P:Program)(N:Nat)(rk:Option F7):List It→(Ex→St→Prop)→Ex→St→Prop
  | [],Q,e,s=>Q e s
  | .c a::r,Q, .nrm,s=>AW P N rk a s (Dj P N rk r Q)
  | .c _::r,Q,e,s=>Dj P N rk r Q e s
  | .b id::r,Q, .ext i,s=>if i=id then Dj P N rk r Q .nrm s else Dj P N rk r Q (.ext i) s
  | .b _::r,Q,e,s=>Dj P N rk r Q e s
  | .j M::_,_, .nrm,s=>M s
  | .j _::r,Q,e,s=>Dj P N rk r Q e s
def GX (id:Nat):List It→Option (List It)
  | []=>none
  | .b i::r=>if id=i then some r else GX id r
  |_::r=>GX id r
section
variable {P:Program}{N:Nat}{rk:Option F7}{s:St}{Q:Ex→St→Prop}{r:List It}
theorem F4: ∀{r:List It},Q .ret s→Dj P N rk r Q .ret s
  | [],h=>h
  | .c _::r,h=>F4 (r:=r) h
  | .b _::r,h=>F4 (r:=r) h
  | .j _::r,h=>F4 (r:=r) h
theorem C5 {id:Nat}{r':List It}: ∀{r:List It},GX id r=some r'→Dj P N rk r' Q .nrm s→Dj P N rk r Q (.ext id) s
  | [],h,_=>by simp [GX]at h
  | .c _::r,h,q=>C5 (r:=r) h q
  | .j _::r,h,q=>C5 (r:=r) h q
  | .b i::r,h,q=>by
    simp only [GX]at h;simp only [Dj];by_cases e:id=i
    ·rw [bO e]at h ⊢;cases h;exact q
    ·rw [bP e]at h ⊢;exact C5 h q
theorem GY {id:Nat}: ∀{r:List It},GX id r=none→Q (.ext id) s→Dj P N rk r Q (.ext id) s
  | [],_,q=>q
  | .c _::r,h,q=>GY (r:=r) h q
  | .j _::r,h,q=>GY (r:=r) h q
  | .b i::r,h,q=>by
    simp only [GX]at h;simp only [Dj];by_cases e:id=i
    ·rw [bO e]at h;cases h
    ·rw [bP e]at h ⊢;exact GY h q
theorem qZ {a:AC}(h:Dj P N rk [.c a] Q .nrm s):AW P N rk a s Q:=h
theorem A9 (h:Dj P N rk r Q .nrm s):Dj P N rk (.c .skip::r) Q .nrm s:=TQ h
theorem E1 {id:Nat}(h:Dj P N rk r Q .nrm s):Dj P N rk (.b id::r) Q .nrm s:=h
theorem A6 {a b:AC}(h:Dj P N rk (.c a:: .c b::r) Q .nrm s):Dj P N rk (.c (.seq a b)::r) Q .nrm s:=by
  refine Qa (AW.mono h ?_);intro e s' hs;cases e<;>exact hs
theorem A7 {a:AC}{id:Nat}(h:Dj P N rk (.c a:: .b id::r) Q .nrm s):Dj P N rk (.c (.block id a)::r) Q .nrm s:=by
  refine NG (AW.mono h ?_);intro e s' hs;cases e<;>exact hs
theorem rA {a:AC}(h:Dj P N rk (.c a::r) Q .nrm s):Dj P N rk (.c (.scope a)::r) Q .nrm s:=kP h
theorem B2 (h:Q .ret s):Dj P N rk (.c .ret::r) Q .nrm s:=ZV (F4 h)
theorem Yn {id:Nat}{r':List It}(hp:GX id r=some r')(h:Dj P N rk r' Q .nrm s):Dj P N rk (.c (.exit id)::r) Q .nrm s:=TR (C5 hp h)
theorem C7 {id:Nat}(hp:GX id r=none)(h:Q (.ext id) s):Dj P N rk (.c (.exit id)::r) Q .nrm s:=TR (GY hp h)
theorem aD {o:Opd}{a b:AC}(c:Bool)(hc:ev s.t o= .d (.v (.bool c)))(h1:c=true→Dj P N rk (.c a::r) Q .nrm s)(h2:c=false→Dj P N rk (.c b::r) Q .nrm s):Dj P N rk (.c (.cond o a b)::r) Q .nrm s:=
  GU hc h1 h2
theorem DC {o:Opd}{a b:AC}(hc:ev s.t o= .d (.v (.bool true)))(h1:Dj P N rk (.c a::r) Q .nrm s):Dj P N rk (.c (.cond o a b)::r) Q .nrm s:=
  TS hc h1
theorem Vz {o:Opd}{a b:AC}(hc:ev s.t o= .d (.v (.bool false)))(h1:Dj P N rk (.c b::r) Q .nrm s):Dj P N rk (.c (.cond o a b)::r) Q .nrm s:=
  TS hc h1
theorem B6 {a:AC}{s0:St}(S:Sb s0 s)(h:Dj P N rk (.c a::r) Q .nrm s0):Dj P N rk (.c a::r) Q .nrm s:=dK S h
theorem Ae {aops:List AOp}{l:List (Nat×AV)}{g:List (F7×Option Blk)}(h: ∀u,(∀k,G g k≠none→k.2≠u)→M1 P u aops (T l) (G g) fun t h=>Dj P N rk r Q .nrm ⟨t,h⟩):Dj P N rk (.c (.reg aops)::r) Q .nrm ⟨T l,G g⟩:=
  Ue h
theorem Oj {aops:List AOp}{l:List (Nat×AV)}{g:List (F7×Option Blk)}(hn:xD aops=true)(h: ∀u,(∀k,G g k≠none→k.2≠u)→M1 P u aops (T l) (G g) fun t h=>Dj P N rk r Q .nrm ⟨t,h⟩):Dj P N rk (.c (.draw aops [])::r) Q .nrm ⟨T l,G g⟩:=
  dI hn h
theorem GZ {a:AC}(h:Dj P N rk (.c a:: .c (.loop a)::r) Q .nrm s):Dj P N rk (.c (.loop a)::r) Q .nrm s:=fun M c hc=>by
  obtain ⟨x,rfl,h1⟩:=Eg hc;intro w I ρ act hs ro hro b k cs hb;obtain ⟨e,a',w',⟨s',I',ρ',hq,hs',htr,hnd⟩,harr⟩:=h M x h1 w I ρ act hs ro hro b (.inLoop x::k) cs hb;cases e with
  |nrm=>
   obtain ⟨e2,a2,w2,⟨s2,I2,ρ2,q2,hs2,tr2,xF⟩,harr2⟩:=hq M (.loop x) (by simp only [Ao,h1,lF]) w' I' ρ' a' hs' ro (hro.mono htr.rho) b k cs hb;refine ⟨e2,a2,w2,⟨s2,I2,ρ2,q2,hs2,htr.trans tr2,hnd.trans htr.size xF⟩,?_⟩;have e1:step P (lone (Em b a' (.inLoop x::k)) cs w')= .next (lone (Em b a' (.code x:: .inLoop x::k)) cs w'):=QT;have e2':step P (lone (Em b a' (.code (.loop x)::k)) cs w')= .next (lone (Em b a' (.code x:: .inLoop x::k)) cs w'):=GI;have hst:Steps P (lone (Em b act (.code (.loop x)::k)) cs w) (lone (Em b a' (.code x:: .inLoop x::k)) cs w'):= .head GI (Steps.trans harr (.one e1))
   have key: ∀{m m1 m2:Machine},step P m= .next m1→m≠m2→Steps P m m2→Steps P m1 m2:=by
     rintro m m1 m2 hm hne ⟨n,hn⟩;cases n with
     |zero=>simp [runN]at hn;exact absurd hn hne
     |succ n=>rw [runN,hm]at hn;exact ⟨n,hn⟩
   have hne: ∀{a2:Act} {w2:World} {k':List Item},k'≠ .code (.loop x)::k→lone (Em b a' (.code (.loop x)::k)) cs w'≠lone (Em b a2 k') cs w2:=by
     intro a2 w2 k' hk e
     have:(Em b a' (.code (.loop x)::k)).todo=(Em b a2 k').todo:=by
       simp only [lone,Machine.mk.injEq]at e;simp at e;rw [e.2]
     exact hk this.symm
   cases e2 with
   |nrm=>exact Steps.trans hst (key e2' (hne (fun e=>by have:=congrArg List.length e;simp at this)) harr2)
   |ext id=>
    obtain ⟨k',h1,h2⟩:=harr2;exact ⟨k',Steps.trans hst (key e2' (hne (fun e=>by simp at e)) h1),h2⟩
   |ret=>
    obtain ⟨k',h1⟩:=harr2;exact ⟨k',Steps.trans hst (key e2' (hne (fun e=>by simp at e)) h1)⟩
  |ext id=>
   obtain ⟨k',hs1,he⟩:=harr;exact ⟨.ext id,a',w',⟨s',I',ρ',hq,hs',htr,hnd⟩,k', .head GI hs1,by rw [he];rfl⟩
  |ret=>
   obtain ⟨k',hs1⟩:=harr;exact ⟨.ret,a',w',⟨s',I',ρ',hq,hs',htr,hnd⟩,k', .head GI hs1⟩
theorem D4 {x:AC}(M:St→Prop)(h1:Dj P N rk (.c x:: .j M::r) Q .nrm s)(h2: ∀s',M s'→Dj P N rk r Q .nrm s'):Dj P N rk (.c x::r) Q .nrm s:=by
  refine AW.mono h1 ?_;intro e s' hs;cases e with
  |nrm=>exact h2 s' hs
  |ext id=>exact hs
  |ret=>exact hs
end
end Go.Abs
namespace Go.Abs
open Go
section plain
variable {α σ τ:Type}
def C4 (xs:List α)(n:Int):Option α:=if 0≤n then xs[n.toNat]? else none
def X3 (xs ys:List α):Option (List α):=if xs.length+ys.length≤1000000000 then some (xs++ys)else none
def aE (xs:List α)(i j:Int):Option (List α):=if 0≤i∧i≤j∧j≤xs.length then some ((xs.take j.toNat).drop i.toNat)else none
def Mm (xs:List α)(n:Int)(v:α):List α:=xs.set n.toNat v
def TW (k:IntKind)(a b:Int):Option Int:=if b=0 then none else some (k.wrap (a.tdiv b))
def Yo (a b:Int):Option Int:=if b=0 then none else some (a.tmod b)
inductive Stp (σ τ:Type) where
  |go (s:σ)
  |out (t:τ)
def loopN (f:σ→Option (Stp σ τ)):Nat→σ→Option τ
  |0,_=>none
  |n+1,s=>match f s with
   |none=>none
   |some (.go s')=>loopN f n s'
   |some (.out t)=>some t
theorem aF (f:σ→Option (Stp σ τ)): ∀(n:Nat) (s:σ) (t:τ),loopN f n s=some t→loopN f (n+1) s=some t:=by
  intro n
  induction n with
  |zero=>intro s t h;cases h
  |succ n ih=>
   intro s t h;rw [loopN]at h ⊢;cases hf:f s with
   |none=>rw [hf]at h;cases h
   |some x=>
    rw [hf]at h;cases x with
    |go s'=>exact ih s' t h
    |out t'=>exact h
theorem WM (f:σ→Option (Stp σ τ)){n m:Nat}(hn:n≤m){s:σ}{t:τ}(h:loopN f n s=some t):loopN f m s=some t:=by
  induction hn with
  |refl=>exact h
  |step _ ih=>exact aF f _ _ _ ih
class Lp where
  run: ∀{σ τ:Type},(σ→Option (Stp σ τ))→σ→Option τ
open Classical in
noncomputable def kZ (f:σ→Option (Stp σ τ))(s:σ):Option τ:=if h: ∃n t,loopN f n s=some t then some h.choose_spec.choose else none
noncomputable instance lpS:Lp:=⟨kZ⟩
def loop [Lp](f:σ→Option (Stp σ τ))(s:σ):Option τ:=Lp.run f s
theorem loop_some {f:σ→Option (Stp σ τ)}{s:σ}{t:τ}:loop f s=some t↔∃n,loopN f n s=some t:=by
  show kZ f s=_↔_;unfold kZ;constructor
  ·intro h;split at h
   ·rename_i hx;cases h;exact ⟨hx.choose,hx.choose_spec.choose_spec⟩
   ·cases h
  ·rintro ⟨n,hn⟩;have hx: ∃n t,loopN f n s=some t:=⟨n,t,hn⟩;rw [dif_pos hx];have h1:=hx.choose_spec.choose_spec;have h2:=WM f (Nat.le_max_left n hx.choose) hn;have h3:=WM f (Nat.le_max_right n hx.choose) h1;rw [h2]at h3;exact h3.symm
theorem DD (f:σ→Option (Stp σ τ))(s:σ):loop f s=match f s with
    |none=>none
    |some (.go s')=>loop f s'
    |some (.out t)=>some t:=by
  apply Option.ext;intro t;rw [loop_some];constructor
  ·rintro ⟨n,hn⟩;cases n with
   |zero=>cases hn
   |succ n=>
    rw [loopN]at hn;cases hf:f s with
    |none=>rw [hf]at hn;cases hn
    |some x=>
     rw [hf]at hn;cases x with
     |go s'=>exact loop_some.2 ⟨n,hn⟩
     |out t'=>exact hn
  ·intro h;cases hf:f s with
   |none=>rw [hf]at h;cases h
   |some x=>
    rw [hf]at h;cases x with
    |go s'=>
     obtain ⟨n,hn⟩:=loop_some.1 h;exact ⟨n+1,by rw [loopN,hf];exact hn⟩
    |out t'=>exact ⟨1,by rw [loopN,hf];exact h⟩
theorem WN {f:σ→Option (Stp σ τ)}(I:σ→Prop)(μ:σ→Nat)(Q:τ→Prop)
    (h: ∀s,I s→∃x,f s=some x∧match x with| .go s'=>I s'∧μ s'<μ s| .out t=>Q t): ∀(s:σ),I s→∃t,loop f s=some t∧Q t:=by
  have key: ∀n s,μ s≤n→I s→∃t,loop f s=some t∧Q t:=by
    intro n
    induction n with
    |zero=>
     intro s hn hi;obtain ⟨x,hx,hq⟩:=h s hi;cases x with
     |go s'=>exact absurd hq.2 (by omega)
     |out t=>exact ⟨t,by rw [DD,hx],hq⟩
    |succ n ih=>
     intro s hn hi;obtain ⟨x,hx,hq⟩:=h s hi;cases x with
     |go s'=>
      obtain ⟨t,h1,h2⟩:=ih s' (by have:=hq.2;omega) hq.1;exact ⟨t,by rw [DD,hx];exact h1,h2⟩
     |out t=>exact ⟨t,by rw [DD,hx],hq⟩
  exact fun s hi=>key (μ s) s (wH _) hi
def loopL (f:σ→α→Option (Stp σ τ))(e:σ→τ):List α→σ→Option τ
  | [],s=>some (e s)
  |a::l,s=>match f s a with
   |none=>none
   |some (.go s')=>loopL f e l s'
   |some (.out t)=>some t
def thenS {β γ:Type}(x:Option (Sum σ β))(f:σ→Option γ)(g:β→Option γ):Option γ:=match x with
  |some (.inl s)=>f s
  |some (.inr b)=>g b
  |none=>none
theorem aG {β γ:Type}{x:Option (Sum σ β)}{f:σ→Option γ}{g:β→Option γ}{r:γ}(h:thenS x f g=some r): ∃y,x=some y∧Sum.elim f g y=some r:=by
  cases x with
  |none=>cases h
  |some y=>cases y<;>exact ⟨_,rfl,h⟩
theorem C1 {b:Bool}{x y z:α}(hb:b=true)(h:cond b x y=z):x=z:=by subst hb;exact h
theorem vE {b:Bool}{x y z:α}(hb:b=false)(h:cond b x y=z):y=z:=by subst hb;exact h
theorem Ro {β:Type}{f:α→β}{xs:List α}{n:Int}{v:α}(h:C4 xs n=some v):0≤n∧n.toNat<xs.length∧(xs.map f)[n.toNat]? =some (f v):=by
  unfold C4 at h;split at h
  ·rename_i hn;refine ⟨hn,(lI.1 h).1,by rw [lK,h];rfl⟩
  ·cases h
theorem If {xs ys zs:List α}(h:X3 xs ys=some zs):xs.length+ys.length≤1000000000∧zs=xs++ys:=by
  unfold X3 at h;split at h
  ·cases h;exact ⟨‹_›,rfl⟩
  ·cases h
theorem fU {xs zs:List α}{i j:Int}(h:aE xs i j=some zs):0≤i∧i≤j∧j≤xs.length∧zs=(xs.take j.toNat).drop i.toNat:=by
  unfold aE at h;split at h
  ·cases h;rename_i hc;exact ⟨hc.1,hc.2.1,hc.2.2,rfl⟩
  ·cases h
theorem fV {k:IntKind}{a b c:Int}(h:TW k a b=some c):b≠0∧c=k.wrap (a.tdiv b):=by
  unfold TW at h;split at h
  ·cases h
  ·cases h;exact ⟨‹_›,rfl⟩
theorem fW {a b c:Int}(h:Yo a b=some c):b≠0∧c=a.tmod b:=by
  unfold Yo at h;split at h
  ·cases h
  ·cases h;exact ⟨‹_›,rfl⟩
end plain
def oS {α:Type}(xs:List α)(k:F7):AV:=match xs with
  | []=> .d .nilS
  |_=> .sl k
def oB {α:Type}(ty:TypeId)(sz:Nat)(f:α→List D)(xs:List α):Option Blk:=match xs with
  | []=>none
  |_=>some (.arr ty sz (xs.map f))
def gd (c b:Bool)(v:AV):AV:=if c=b then v else .d (.tup [])
theorem mA {c b:Bool}{v:AV}(h: ¬c=b):gd c b v= .d (.tup []):=bP h
theorem A3 {c b:Bool}{v:AV}(h:c=b):gd c b v=v:=bO h
section
variable {P:Program}{u:Nat}{r:List AOp}{l:List (Nat×AV)}{g:List (F7×Option Blk)}{K:(Nat→AV)→E7→Prop}
theorem A1 (hk:K (T l) (G g)):M1 P u [] (T l) (G g) K:=Bz hk
theorem B9 {d:Nat}{k:AK}(v:AV)(h0:Z5 k=0)(hv:K3 (T l) (G g) k=some v)(hk:M1 P u r (T ((d,v)::l)) (G g) K):M1 P u (⟨some d,k,none⟩::r) (T l) (G g) K:=G9 v h0 hv hk
theorem Ok {d:Nat}{k:AK}(v:AV)(b:Blk)(h0:Uc k=true)(hv:Pm u d (T l) k=some (v,b))(hk:M1 P u r (T ((d,v)::l)) (G (((d,u),some b)::g)) K):M1 P u (⟨some d,k,none⟩::r) (T l) (G g) K:=ZZ v b h0 hv hk
theorem Hz {n:Nat}{p x:Opd}(k:F7)(off:Nat)(ty:TypeId)(bs cs:List AV)(hx:Kx (ev (T l) x)=some cs)(hn:cs.length=n)(hp:ev (T l) p= .ptr k off)(hb:G g k=some (.box ty bs))(hl:off+n≤bs.length)(bs':List AV)(he:Lw bs off cs=bs')
    (hk:M1 P u r (T l) (G ((k,some (.box ty bs'))::g)) K):M1 P u (⟨none, .store n p x,none⟩::r) (T l) (G g) K:=
  WK k off ty bs cs hx hn hp hb hl (by rw [he];exact hk)
theorem BK: ∀xs:List D,Kw (xs.map .d)=some xs
  | []=>rfl
  |x::r=>by simp [Kw,BK r]
theorem Rp {α:Type}{n off sz:Nat}{p x:Opd}(f:α→List D)(q:F7)(ty:TypeId)(xs:List α)(i:Int)(a b:α)(ds:List D)(hx:Kx (ev (T l) x)=some (ds.map .d))(hn:ds.length=n)(hp:ev (T l) p= .aptr q sz i.toNat off)(hb:G g q=some (.arr ty sz (xs.map f)))(ha:C4 xs i=some a)
    (hl:off+n≤(f a).length) (he:Lw (f a) off ds=f b) (hk:M1 P u r (T l) (G ((q,some (.arr ty sz ((Mm xs i b).map f)))::g)) K):M1 P u (⟨none, .store n p x,none⟩::r) (T l) (G g) K:=by
  refine fS q sz i.toNat off ty (xs.map f) (f a) (ds.map .d) ds hx (by simpa using hn) hp hb (Ro ha).2.2 (BK ds) hl ?_;rw [he];have:(xs.map f).set i.toNat (f b)=(Mm xs i b).map f:=by rw [Mm,List.map_set]
  rw [this];exact hk
theorem BL {α:Type}{d e sz:Nat}{ty:TypeId}{x y:Opd}(f:α→List D)(k:F7)(xs ys zs:List α)(hy:Aq (G g) sz (ev (T l) y)=some (ys.map f))(hx:ev (T l) x= .sl k)(hb:G g k=some (.arr e sz (xs.map f)))(hl:X3 xs ys=some zs)
    (hk:M1 P u r (T ((d, .sl (d,u))::l)) (G (((d,u),some (.arr e sz (zs.map f)))::(k,none)::g)) K):M1 P u (⟨some d, .append ty e sz x y,none⟩::r) (T l) (G g) K:=by
  obtain ⟨h1,rfl⟩:=If hl;refine fT k (xs.map f) (ys.map f) hy hx hb (by simpa using h1) ?_;rw [← List.map_append];exact hk
theorem dL {α:Type}{ty:TypeId}{sz:Nat}{f:α→List D}{xs:List α}(h:xs≠ []):oB ty sz f xs=some (.arr ty sz (xs.map f)):=by cases xs<;>first|exact absurd rfl h|rfl
theorem T3 {α:Type}{k:F7}{xs:List α}(h:xs≠ []):oS xs k= .sl k:=by cases xs<;>first|exact absurd rfl h|rfl
theorem S5 {α:Type}{xs zs:List α}{y:α}{ys:List α}(h:X3 xs (y::ys)=some zs):zs≠ []:=by
  obtain ⟨_,rfl⟩:=If h;simp
theorem O6 {α:Type}{d e sz:Nat}{ty:TypeId}{x y:Opd}(f:α→List D)(k:F7)(xs:List α)(v:α)(ys zs:List α)(hy:Aq (G g) sz (ev (T l) y)=some ((v::ys).map f))(hx:ev (T l) x=oS xs k)(hb:G g k=oB e sz f xs)(hl:X3 xs (v::ys)=some zs)
    (hk:M1 P u r (T ((d, .sl (d,u))::l)) (G (((d,u),some (.arr e sz (zs.map f)))::(k,none)::g)) K):M1 P u (⟨some d, .append ty e sz x y,none⟩::r) (T l) (G g) K:=by
  cases xs with
  |nil=>
   obtain ⟨h1,rfl⟩:=If hl;refine aB (f v) (ys.map f) hy hx (by simpa using h1) ?_
   have:Ag (G g) (d,u) (some (.arr e sz (f v::ys.map f)))=G (((d,u),some (.arr e sz (([]++v::ys).map f)))::(k,none)::g):=by
     rw [aC,aC,lQ,lR]
     have:Ag (G g) k none=G g:=by
       funext q;simp only [Ag];split
       ·rename_i e;subst e;rw [hb];rfl
       ·rfl
     rw [this]
   rw [this];exact hk
  |cons x0 xs=>exact BL f k (x0::xs) (v::ys) zs hy hx hb hl hk
end
end Go.Abs
namespace Go.Abs
open Go
section
variable {P:Program}{N:Nat}{rk:Option F7}{s:St}{Q:Ex→St→Prop}{r:List It}
theorem D8 {σ τ γ:Type}{a:AC}(f:σ→Option (Stp σ τ))(st:σ→γ→St)(x0:σ)(g0:γ)(y:τ)(hx:loop f x0=some y)(hs0:Sb (st x0 g0) s)
    (h: ∀x g z,f x=some z→(∀t,z= .out t→t=y)→Dj P N rk [.c a] (fun e s'=>match z with| .go x'=>e= .nrm∧∃g',Sb (st x' g') s'| .out _=>e≠ .nrm∧Dj P N rk r Q e s') .nrm (st x g)):
    Dj P N rk (.c (.loop a)::r) Q .nrm s:=by
  obtain ⟨n,hn⟩:=loop_some.1 hx;refine dH (fun n s=> ∃x g,loopN f n x=some y∧Sb (st x g) s) n ⟨x0,g0,hn,hs0⟩ ?_;rintro n s1 ⟨x,g,hl,hsb⟩;refine dK hsb ?_;cases n with
  |zero=>cases hl
  |succ n=>
   rw [loopN]at hl;cases hf:f x with
   |none=>rw [hf]at hl;cases hl
   |some z=>
    rw [hf]at hl;refine AW.mono (h x g z hf (fun t ht=>by subst ht;cases hl;rfl)) ?_;intro e s2 hq;cases z with
    |go x'=>
     obtain ⟨rfl,g',hs'⟩:=hq;exact ⟨n,by omega,x',g',hl,hs'⟩
    |out t=>
     obtain ⟨hne,hq⟩:=hq;cases e with
     |nrm=>exact absurd rfl hne
     |ext id=>exact hq
     |ret=>exact hq
def mB (P:Program)(c:D)(L:List (List D)):Prop:= ∃gf fs cs,c= .fn (.func gf) fs cs∧∀(k:F7) (h0:E7) (Inv:Nat→E7→Prop) (Stop:E7→Prop),Inv 0 h0→
  (∀i h es,L[i]? =some es→Inv i h→YCall P k (es.map .d) h fun v h'=>(v= .d (.v (.bool true))∧Inv (i+1) h')∨(v= .d (.v (.bool false))∧Stop h'))→
   ICall P gf (fs.map .d++ [.yld k]++cs.map .d) h0 fun _ h'=>Inv L.length h'∨Stop h'
theorem NM {σ τ α:Type}{f:σ→α→Option (Stp σ τ)}{e:σ→τ}{L:List α}{i:Nat}{x:σ}{y:τ}{a:α}(hi:L[i]? =some a)(h:loopL f e (L.drop i) x=some y):
    ∃z,f x a=some z∧match z with| .go x'=>loopL f e (L.drop (i+1)) x'=some y| .out t=>t=y:=by
  have hlt:=(lI.1 hi).1;rw [List.drop_eq_getElem_cons hlt,loopL]at h;have ha:L[i]=a:=by rw [lH hlt]at hi;exact lD hi
  rw [ha]at h;cases hf:f x a with
  |none=>rw [hf]at h;cases h
  |some z=>
   rw [hf]at h;refine ⟨z,rfl,?_⟩;cases z with
   |go x'=>exact h
   |out t=>exact lD h
def mC (P:Program)(N:Nat)(rk:Option F7)(r:List It)(Q:Ex→St→Prop)(tl:Nat→AV)(k:F7)(r0:Loop){σ τ γ:Type}(st:σ→γ→List (F7×Option Blk))(z:Stp σ τ)(e:Ex)(s:St):Prop:=
  s.h k=some (.obj tl {r0 with state:= .busy})∧match z with
    | .go x'=>e= .nrm∧∃g',Sb ⟨T [],G (st x' g')⟩ ⟨T [],s.h⟩
    | .out _=>e≠ .nrm∧Dj P N rk r Q e ⟨tl,Ag s.h k none⟩
theorem mD {σ τ α γ:Type}{f:Opd}{ps:List Nat}{as bd:AC}{tl:List (Nat×AV)}{g0:List (F7×Option Blk)}(c:D)(enc:α→List D)(L:List α)(F:σ→α→Option (Stp σ τ))(E:σ→τ)(st:σ→γ→List (F7×Option Blk))(x0:σ)(gg0:γ)(y:τ)
    (hf:ev (T tl) f= .d c) (hI:mB P c (L.map enc)) (hps: ∀a,(enc a).length=ps.length) (hx:loopL F E L x0=some y) (hs0:Sb ⟨T [],G (st x0 gg0)⟩ ⟨T [],G g0⟩) (hrk: ∀kk,rk=some kk→∃t r,G g0 kk=some (.obj t r))
    (hround: ∀u,(∀q,G g0 q≠none→q.2≠u)→rk≠some (1000000,u)→(∀x gg,G (st x gg) (1000000,u)=none)∧
      ∀r0 x gg a z,r0.state= .ready→F x a=some z→(∀t,z= .out t→t=y)→
       Dj P N (some (1000000,u)) [.c as, .j (fun s1=>s1.h (1000000,u)=some (.obj (T tl) r0)∧
        Dj P N (some (1000000,u)) [.c bd] (mC P N rk r Q (T tl) (1000000,u) r0 st z) .nrm ⟨s1.t,Ag s1.h (1000000,u) (some (.obj (T tl) {r0 with state:= .busy}))⟩)] (fun _ _=>False) .nrm
        ⟨Wm (T tl) ps ((enc a).map .d),G ((((1000000,u),some (.obj (T tl) r0)):F7×Option Blk)::st x gg)⟩)
    (hend: ∀x gg s',y=E x→Sb ⟨T tl,G (st x gg)⟩ s'→Dj P N rk r Q .nrm s'):Dj P N rk (.c (.rangeF f ps as bd)::r) Q .nrm ⟨T tl,G g0⟩:=by
  obtain ⟨gf,fs,cs,rfl,hI⟩:=hI;refine RH (gf:=gf) (fs:=fs.map .d) (cs:=cs.map .d) (by show fR (ev (T tl) f)=_;rw [hf];rfl) hrk ?_;intro u r0 M hu hkn hrkne hst hpd hpar hsize hpsN has hbd;obtain ⟨hkst,hr⟩:=hround u hu hrkne;have hkn:G g0 (1000000,u)=none:=hkn
  refine ICall.mono ?_ (hI (1000000,u) (Ag (G g0) (1000000,u) (some (.obj (T tl) r0)))
    (fun i h=> ∃x gg,loopL F E (L.drop i) x=some y∧h (1000000,u)=some (.obj (T tl) r0)∧Sb ⟨T [],G (st x gg)⟩ ⟨T [],h⟩)
    (kW (1000000,u) (T tl) (Dj P N rk r Q)) ?_ ?_)
  ·rintro v h' (⟨x,gg,h1,h2,h3⟩|h)
   ·rw [show (L.map enc).length=L.length from lS ..,List.drop_length,loopL]at h1;refine ⟨T tl,r0,h2,by rw [hst];simp,?_⟩;rw [hpd];refine hend x gg _ (lD h1).symm ⟨fun i=> .refl _,fun q b0 hb=> ?_⟩;obtain ⟨b,e1,e2⟩:=h3.h q b0 hb;refine ⟨b,?_,e2⟩;have:q≠(1000000,u):=by rintro rfl;exact absurd ((hkst _ _).symm.trans hb) (by simp)
    show Ag h' _ none q=some b;rw [L8 _ _ _ _ this];exact e1
   ·exact h
  ·refine ⟨x0,gg0,by rw [List.drop_zero];exact hx,G5 _ _ _,fun i=> .refl _,fun q b0 hb=> ?_⟩;obtain ⟨b,e1,e2⟩:=hs0.h q b0 hb;refine ⟨b,?_,e2⟩;have:q≠(1000000,u):=by rintro rfl;exact absurd ((hkst _ _).symm.trans hb) (by simp)
   show Ag (G g0) _ _ q=some b;rw [L8 _ _ _ _ this];exact e1
  ·rintro i h es hes ⟨x,gg,h1,h2,h3⟩;obtain ⟨a,ha,rfl⟩:=GV hes;obtain ⟨z,hz,hz2⟩:=NM ha h1;have hround:=hr r0 x gg a z hst hz (fun t ht=>by subst ht;exact hz2)
   have hsb:Sb ⟨Wm (T tl) ps ((enc a).map .d),G ((((1000000,u),some (.obj (T tl) r0)):F7×Option Blk)::st x gg)⟩ ⟨Wm (T tl) ps ((enc a).map .d),h⟩:=by
     refine ⟨fun i=> .refl _,fun q b0 hb=> ?_⟩;by_cases e:q=(1000000,u)
     ·subst e;have hb:=Eq.trans (Eq.symm A2) hb;cases hb;exact ⟨_,h2, .refl _⟩
     ·have hb:G (((1000000,u),some (.obj (T tl) r0))::st x gg) q=some b0:=hb;rw [G,bP e]at hb;exact h3.h q b0 hb
   refine WI (M:=M) (as:=as) (bd:=bd) h2 (by rw [lS,hps a,← hpar];simp) hsize (by rw [hpar];exact hpsN) has hbd ?_;rw [hpar];have hround:=dK hsb hround;refine AW.mono hround ?_;intro e s1 hs1;cases e with
   |ext id=>exact absurd hs1 (by simp [Dj])
   |ret=>exact absurd hs1 (by simp [Dj])
   |nrm=>
    obtain ⟨q1,q2⟩:=hs1;refine ⟨rfl,T tl,r0,q1,hst,?_⟩;refine AW.mono q2 ?_;rintro e s2 ⟨w1,w2⟩;refine ⟨T tl,_,w1,?_⟩;cases z with
    |go x'=>
     obtain ⟨rfl,g',hg'⟩:=w2;refine .inl ⟨rfl,x',g',hz2,?_,fun i=> .refl _,fun q b0 hb=> ?_⟩
     ·show Ag s2.h _ _ _=_;rw [G5]
      have:({state:= .ready,pending:=none,fn:=r0.fn,tmps:=r0.tmps,params:=r0.params,assign:=r0.assign,body:=r0.body,defers:=r0.defers}:Loop)=r0:=by
        cases r0;simp only at hst hpd;subst hst hpd;rfl
      exact congrArg (fun r=>some (Blk.obj (T tl) r)) this
     ·obtain ⟨b,e1,e2⟩:=hg'.h q b0 hb;refine ⟨b,?_,e2⟩;have:q≠(1000000,u):=by rintro rfl;exact absurd ((hkst _ _).symm.trans hb) (by simp)
      show Ag s2.h _ _ q=some b;rw [L8 _ _ _ _ this];exact e1
    |out t=>
     obtain ⟨hne,hq⟩:=w2;cases e with
     |nrm=>exact absurd rfl hne
     |ext id=>
      refine .inr ⟨rfl,T tl,_,G5 _ _ _,by simp,?_⟩;dsimp only;rw [LX];exact hq
     |ret=>
      refine .inr ⟨rfl,T tl,_,G5 _ _ _,by simp,?_⟩;dsimp only;rw [LX];exact hq
end
end Go.Abs
namespace Go.Abs
open Go
abbrev i64 (n:Int):D:= .v (.int .i64 n)
abbrev E5 (n:Int):Int:=IntKind.i64.wrap n
abbrev bo (b:Bool):D:= .v (.bool b)
abbrev Tj (s:ByteArray):D:= .v (.string s)
def zX {α β:Type}(a:α)(f:α→β):β:=f a
theorem PCall.le {P:Program}{f:FuncId}{ds ds':List D}{r:D}(h:PCall P f ds' r)(hd:All2 DLe ds ds'):PCall P f ds r:=
  ⟨h.1,fun w I vs hI hl hr=>h.2 w I vs hI (by rw [← hd.length];exact hl) fun i d hi=>by obtain ⟨a,e1,e2⟩:=hd.get hi;exact e2 _ _ _ (hr i a e1)⟩
theorem PCall.nil {P:Program}{f:FuncId}{r:D}(h: ∀A cap,PCall P f [.v (.slice A 0 cap)] r):PCall P f [.list []] r:=
  ⟨(h none 0).1,fun w I vs hI hl hr=>by
    match vs,hl with
    | [v],_=>
      have h0:RepD w I (.list []) v:=hr 0 _ rfl;cases h0 with
      |lnil A cap=>exact (h A cap).2 w I [_] hI rfl (fun i d hi=>by
         cases i with
         |zero=>cases hi;exact .v _
         |succ i=>simp at hi)
      |list _ _ _ _ _ hne=>exact absurd rfl hne⟩
section
variable {P:Program}{N:Nat}{rk:Option F7}{s:St}{Q:Ex→St→Prop}{r:List It}
theorem T4 {M:St→Prop}(h:M s):Dj P N rk (.j M::r) Q .nrm s:=h
theorem E3 (h:Q .nrm s):Dj P N rk [] Q .nrm s:=h
theorem C6 {f:FuncId}{rs:List RV}{ac:AC}(F:FnOK P f N rs ac){args:List D}{d:D}(hl:args.length≤N)
    (h:Dj P N none [.c ac] (fun e s=>(e= .nrm∨e= .ret)∧∃d',GS s.t s.h rs=some d'∧DLe d' d) .nrm ⟨T (ZY 0 args),G []⟩):PCall P f args d:=by
  refine ⟨F.enters,?_⟩;obtain ⟨fn,c,hf,hb,hN,hrs,⟨M,hc⟩,hn⟩:=F.ex;intro w I vs hI hlen hrep;have H0:HeapOK w I (fun _=>none) (fun _=>none):=⟨fun k b hb=>(by cases hb),fun k k' b b' g h1=>(by cases h1),fun k b g h1=>(by cases h1),fun k b g h1=>(by cases h1),hI,⟨0,fun _ _ _=>rfl⟩,fun k y hy=>(by cases hy)⟩
  have hsim:=BG (n:=N) (args:=args.map .d) (h:=fun _=>none) H0 (by simpa using hlen) (by omega) (fun i c hc=>by
    rw [lK]at hc;cases hq:args[i]? with
    |none=>rw [hq]at hc;cases hc
    |some q=>rw [hq]at hc;cases hc;exact .d _ _ (hrep i q hq))
  have e:TU (args.map .d)=fO args:=by
    funext i;simp only [TU,fO,List.getD,lK];cases args[i]? <;>rfl
  rw [e,qX,← hN]at hsim;have e0:(fun _=>none:E7)=G []:=by funext q;rfl
  rw [e0]at hsim;refine Rn (Q:=fun e s=>(e= .nrm∨e= .ret)∧∃d',GS s.t s.h rs=some d'∧DLe d' d) hf hb rfl hsim (by rw [hN];exact h M c hc) ?_;rintro e s' a' w' I' ρ' ⟨he,d',hres,hle⟩ hs' tr
  have hownI: ∀b,own ρ' s'.h b→¬b<w.heap.size:=fun b hb hlt=>by
    obtain ⟨k,x,h1,_⟩:=tr.ownBack b hb hlt;cases h1
  have hptr:PTr w I w' (fun b=>I' b∨own ρ' s'.h b):=by
    refine ⟨tr.os,tr.tape,tr.output,tr.size,fun b hb=>tr.frame b hb (fun ⟨k,x,h1,_⟩=>by cases h1),fun b hb=> .inl (tr.imm b hb),fun b hb hlt=> ?_,fun b hb=> ?_⟩
    ·rcases hb with hb|hb
     ·rcases tr.immBack b hb hlt with h|⟨k,x,h1,_⟩
      ·exact h
      ·cases h1
     ·exact absurd hlt (hownI b hb)
    ·rcases hb with hb|hb
     ·exact hs'.heap.ilt b hb
     ·exact hs'.heap.own_lt hb
  obtain ⟨x,hx,hr⟩:=WG hs' hrs hres;exact ⟨he,x,hx,x,_,rfl,hle _ _ _ hr,hptr⟩
theorem A8 {t:Nat→AV}{h:E7}{rs:List RV}{d d':D}{e:Ex}(he:e= .nrm∨e= .ret)(h1:GS t h rs=some d')(h2:DLe d' d):(e= .nrm∨e= .ret)∧∃d',GS (⟨t,h⟩:St).t (⟨t,h⟩:St).h rs=some d'∧DLe d' d:=⟨he,d',h1,h2⟩
theorem aH {tl:Nat→AV}{k:F7}{r0:Loop}{bd:AC}{l:List (Nat×AV)}{g:List (F7×Option Blk)}{Q':Ex→St→Prop}(h1:G g k=some (.obj tl r0))(h2:Dj P N (some k) [.c bd] Q' .nrm ⟨T l,G ((k,some (.obj tl {r0 with state:= .busy}))::g)⟩):
    (⟨T l,G g⟩:St).h k=some (.obj tl r0)∧Dj P N (some k) [.c bd] Q' .nrm ⟨(⟨T l,G g⟩:St).t,Ag (⟨T l,G g⟩:St).h k (some (.obj tl {r0 with state:= .busy}))⟩:=⟨h1,h2⟩
theorem mE {σ τ γ:Type}{tl:Nat→AV}{k:F7}{r0:Loop}{st:σ→γ→List (F7×Option Blk)}{x:σ}{g:List (F7×Option Blk)}{t:Nat→AV}(h1:G g k=some (.obj tl {r0 with state:= .busy}))(g':γ)(h2:LB (G g) (st x g')):mC P N rk r Q tl k r0 st (.go x:Stp σ τ) .nrm ⟨t,G g⟩:=
  ⟨h1,rfl,g',D0 trivial h2⟩
theorem rB {σ τ γ:Type}{tl:Nat→AV}{k:F7}{r0:Loop}{st:σ→γ→List (F7×Option Blk)}{x:σ}{g:List (F7×Option Blk)}{t:Nat→AV}{s':St}(hv:Sb ⟨t,G g⟩ s')(h1:G g k=some (.obj tl {r0 with state:= .busy}))(g':γ)(h2:LB (G g) (st x g')):mC P N rk r Q tl k r0 st (.go x:Stp σ τ) .nrm s':=by
  obtain ⟨b,e1,e2⟩:=hv.h k _ h1;rw [e2.obj]at e1;refine ⟨e1,rfl,g',⟨fun _=> .refl _,fun q b0 hb=> ?_⟩⟩;obtain ⟨b1,f1,f2⟩:=(D0 (t:=T []) (l:= []) trivial h2).h q b0 hb;obtain ⟨b2,g1,g2⟩:=hv.h q b1 f1;exact ⟨b2,g1,g2.trans f2⟩
theorem dM {σ τ γ:Type}{tl:Nat→AV}{k:F7}{r0:Loop}{st:σ→γ→List (F7×Option Blk)}{y:τ}{g:List (F7×Option Blk)}{t:Nat→AV}{e:Ex}(h1:G g k=some (.obj tl {r0 with state:= .busy}))(he:e≠ .nrm)(h2:Dj P N rk r Q e ⟨tl,G ((k,none)::g)⟩):mC P N rk r Q tl k r0 st (.out y:Stp σ τ) e ⟨t,G g⟩:=
  ⟨h1,he,h2⟩
end
theorem B0 {h:E7}{k:F7}{b b1:Blk}{l:List (F7×Option Blk)}(h1:h k=some b1)(h2:BlkLe b1 b)(hl:LB h l):LB h ((k,some b)::l):=⟨⟨b1,h1,h2⟩,hl⟩
theorem B7 {α:Type}{h:E7}{k:F7}{ty:TypeId}{sz:Nat}{f:α→List D}{xs:List α}{l:List (F7×Option Blk)}(h1:h k=oB ty sz f xs)(hl:LB h l):LB h ((k,oB ty sz f xs)::l):=by
  refine ⟨?_,hl⟩;cases xs with
  |nil=>trivial
  |cons x xs=>exact ⟨_,h1, .refl _⟩
theorem M6 {α:Type}{h:E7}{k:F7}{ty:TypeId}{sz:Nat}{f:α→List D}{xs:List α}{l:List (F7×Option Blk)}(h1:h k=some (.arr ty sz (xs.map f)))(hl:LB h l):LB h ((k,oB ty sz f xs)::l):=by
  refine ⟨?_,hl⟩;cases xs with
  |nil=>trivial
  |cons x xs=>exact ⟨_,h1, .refl _⟩
theorem R7 {α:Type}{h:E7}{k:F7}{ty:TypeId}{sz:Nat}{f:α→List D}{l:List (F7×Option Blk)}(hl:LB h l):LB h ((k,oB ty sz f [])::l):=⟨trivial,hl⟩
section
variable {P:Program}{u:Nat}{r:List AOp}{l:List (Nat×AV)}{g:List (F7×Option Blk)}{K:(Nat→AV)→E7→Prop}
theorem Jh {α:Type}{q:F7}{ty:TypeId}{sz:Nat}{f:α→List D}{xs:List α}{h:E7}(hb:h q=oB ty sz f xs)(hn:xs≠ []):h q=some (.arr ty sz (xs.map f)):=by rw [hb,dL hn]
theorem Ff {α:Type}{xs:List α}{n:Int}{a:α}(h:C4 xs n=some a):xs≠ []:=by rintro rfl;simp [C4]at h
theorem DE {α:Type}{xs:List α}{n:Int}{a:α}(h:xs≠ []):Mm xs n a≠ []:=by
  intro e;have:=congrArg List.length e;rw [Mm,List.length_set]at this;exact h (l8 this)
theorem J5 {α:Type}{h:E7}{sz:Nat}{f:α→List D}{xs:List α}(hz: ∀a,(f a).length=sz):Aq h sz (.d (.list (xs.map f)))=some (xs.map f):=by
  have:((xs.map f).all fun e=>e.length==sz)=true:=by simp [hz]
  simp only [Aq,this,if_true]
theorem B4 {d:Nat}{f:Opd}{args:List Opd}{fid:FuncId}{avs:List AV}{ds ds':List D}{v:D}(hc:U6 (T l) f args=some (fid,avs))(hd:P2 (O2 (G g) 6) avs=some ds)(hle:All2 DLe ds ds')
    (hp:PCall P fid ds' v) (ha:Kw avs=some ds∨TD v=true) (hk:M1 P u r (T ((d, .d v)::l)) (G g) K):M1 P u (⟨some d, .call f args,none⟩::r) (T l) (G g) K:=
  DB hc hd (hp.le hle) ha hk
end
section
variable {h:E7}
def oD {α:Type}(f:α→List D)(xs:List α):D:=match xs with
  | []=> .nilS
  |_=> .list (xs.map f)
theorem T8 {α:Type}{f:α→List D}{xs:List α}:DLe (oD f xs) (.list (xs.map f)):=by
  cases xs with
  |nil=>exact .nil
  |cons x xs=>exact .refl _
theorem T9 {α:Type}{n:Nat}{k:F7}{ty:TypeId}{sz:Nat}{f:α→List D}{xs:List α}(hb:h k=oB ty sz f xs):O2 h (n+1) (oS xs k)=some (oD f xs):=by
  cases xs with
  |nil=>rfl
  |cons x xs=>exact RI hb
theorem La {n:Nat}{cs:List AV}{ds:List D}(hc:P2 (O2 h n) cs=some ds):O2 h (n+1) (X6 cs)=some (.agg ds):=by
  unfold X6;cases ha:Kw cs with
  |none=>exact vB hc
  |some ds'=>
   rw [VR ha]at hc;cases hc;exact C2
theorem V3 (cs:List AV):Kx (X6 cs)=some cs:=by
  unfold X6;cases ha:Kw cs with
  |none=>rfl
  |some ds=>
   have: ∀{cs:List AV} {ds:List D},Kw cs=some ds→cs=ds.map .d:=by
     intro cs
     induction cs with
     |nil=>intro ds h;simp [Kw]at h;subst h;rfl
     |cons x r ih=>
      intro ds h;cases x<;>simp only [Kw]at h<;>try cases h
      simp only [lE]at h;obtain ⟨q,hq,rfl⟩:=h;rw [ih hq];rfl
   rw [this ha];rfl
theorem A4: ∀{ds:List D},All2 DLe ds ds
  | []=> .nil
  |_::_=> .cons (.refl _) A4
theorem Qb {u d:Nat}(hu: ∀k,h k≠none→k.2≠u):h (d,u)=none:=by
  cases hq:h (d,u)with
  |none=>rfl
  |some b=>exact absurd rfl (hu (d,u) (by rw [hq];simp))
theorem Sb.after {a b c:St}(h':Sb b c)(h:Sb a b):Sb a c:=h.trans h'
end
end Go.Abs
namespace Go.Abs
open Go
def zP:List Nat:=(List.range 400).map (· +1000)
section
variable {t:Nat→AV}{h:E7}
theorem TX {x:Opd}{v:AV}(hx:ev t x=v):K3 t h (.mv x)=some v:=by rw [← hx];rfl
theorem N2 {op:BinOp}{x y:Opd}{k:IntKind}{a b:Int}{v:Value}(hx:ev t x= .d (.v (.int k a)))(hy:ev t y= .d (.v (.int k b)))(hr:QA op k a b=some v):K3 t h (.bin op x y)=some (.d (.v v)):=by
  simp only [K3,hx,hy,hr,beq_self_eq_true,Bool.or_true,if_true,lF]
theorem R3 {n:Nat}{p:Opd}{k:F7}{off:Nat}{ty:TypeId}{bs:List AV}{v:AV}(hp:ev t p= .ptr k off)(hb:h k=some (.box ty bs))(hv:(bs.drop off).head? =some v):K3 t h (.load n false p)=some v:=by
  simp only [K3,hp,X5,hb,Bool.false_eq_true,if_false];exact hv
theorem B5 {n:Nat}{p:Opd}{k:F7}{off:Nat}{ty:TypeId}{bs:List AV}{v:AV}(hp:ev t p= .ptr k off)(hb:h k=some (.box ty bs))(hn:Nat.ble n (bs.drop off).length=true)(hv:X6 ((bs.drop off).take n)=v):K3 t h (.load n true p)=some v:=by
  have hn:=Nat.le_of_ble_eq_true hn;simp only [K3,hp,X5,hb,if_true,hn];rw [hv]
theorem C9 {α:Type}{sz:Nat}{x i:Opd}{f:α→List D}{xs:List α}{k:IntKind}{n:Int}{a:α}(hx:ev t x= .d (.list (xs.map f)))(hi:ev t i= .d (.v (.int k n)))(hv:C4 xs n=some a)(hz:(f a).length=sz):K3 t h (.idxS sz x i)=some (.d (.lp (xs.map f) n.toNat 0)):=by
  have q:=Ro (f:=f) hv;simp only [K3,hx,hi,q.2.2,q.1,hz,and_self,if_true]
theorem Lb {α:Type}{sz:Nat}{x i:Opd}{f:α→List D}{q:F7}{ty:TypeId}{xs:List α}{k:IntKind}{n:Int}{a:α}(hx:ev t x= .sl q)(hi:ev t i= .d (.v (.int k n)))(hb:h q=some (.arr ty sz (xs.map f)))(hv:C4 xs n=some a):K3 t h (.idxS sz x i)=some (.aptr q sz n.toNat 0):=by
  have q:=Ro (f:=f) hv;simp only [K3,hx,hi,hb,q.1,lS,q.2.1,and_self,if_true]
theorem Sf {α:Type}{sz:Nat}{x i:Opd}{f:α→List D}{q:F7}{ty:TypeId}{xs:List α}{k:IntKind}{n:Int}{a:α}(hx:ev t x=oS xs q)(hi:ev t i= .d (.v (.int k n)))(hb:h q=oB ty sz f xs)(hv:C4 xs n=some a):K3 t h (.idxS sz x i)=some (.aptr q sz n.toNat 0):=
  Lb (hx.trans (T3 (Ff hv))) hi (Jh hb (Ff hv)) hv
theorem D2 {α:Type}{n off:Nat}{p:Opd}{f:α→List D}{xs:List α}{i:Int}{a:α}{v:D}(hp:ev t p= .d (.lp (xs.map f) i.toNat off))(ha:C4 xs i=some a)(hv:((f a).drop off).head? =some v):K3 t h (.load n false p)=some (.d v):=by
  simp only [K3,hp,X5,(Ro (f:=f) ha).2.2,lF,Bool.false_eq_true,if_false];rw [List.head?_map,hv];rfl
theorem D7 {α:Type}{n off:Nat}{p:Opd}{f:α→List D}{xs:List α}{i:Int}{a:α}{ds:List D}(hp:ev t p= .d (.lp (xs.map f) i.toNat off))(ha:C4 xs i=some a)(hn:Nat.ble n ((f a).drop off).length=true)(hv:((f a).drop off).take n=ds):K3 t h (.load n true p)=some (.d (.agg ds)):=by
  have hn:=Nat.le_of_ble_eq_true hn;simp only [K3,hp,X5,(Ro (f:=f) ha).2.2,lF,if_true,lS,hn];rw [← List.map_take,X6,BK,hv]
theorem Qy {α:Type}{n off sz:Nat}{p:Opd}{f:α→List D}{q:F7}{ty:TypeId}{xs:List α}{i:Int}{a:α}{v:D}(hp:ev t p= .aptr q sz i.toNat off)(hb:h q=some (.arr ty sz (xs.map f)))(ha:C4 xs i=some a)(hv:((f a).drop off).head? =some v):K3 t h (.load n false p)=some (.d v):=by
  simp only [K3,hp,X5,hb,if_true,(Ro (f:=f) ha).2.2,lF,Bool.false_eq_true,if_false,List.head?_map,hv]
theorem Rr {α:Type}{n off sz:Nat}{p:Opd}{f:α→List D}{q:F7}{ty:TypeId}{xs:List α}{i:Int}{a:α}{ds:List D}(hp:ev t p= .aptr q sz i.toNat off)(hb:h q=some (.arr ty sz (xs.map f)))(ha:C4 xs i=some a)(hn:Nat.ble n ((f a).drop off).length=true)(hv:((f a).drop off).take n=ds):K3 t h (.load n true p)=some (.d (.agg ds)):=by
  have hn:=Nat.le_of_ble_eq_true hn;simp only [K3,hp,X5,hb,if_true,(Ro (f:=f) ha).2.2,lF,lS,hn];rw [← List.map_take,X6,BK,hv]
theorem mF {x y:Opd}{k:IntKind}{a b v:Int}(hx:ev t x= .d (.v (.int k a)))(hy:ev t y= .d (.v (.int k b)))(hv:TW k a b=some v):K3 t h (.bin .quo x y)=some (.d (.v (.int k v))):=by
  obtain ⟨h1,rfl⟩:=fV hv;exact N2 hx hy (by simp only [QA,bP h1])
theorem DX {x y:Opd}{k:IntKind}{a b v:Int}(hx:ev t x= .d (.v (.int k a)))(hy:ev t y= .d (.v (.int k b)))(hv:Yo a b=some v):K3 t h (.bin .rem x y)=some (.d (.v (.int k v))):=by
  obtain ⟨h1,rfl⟩:=fW hv;exact N2 hx hy (by simp only [QA,bP h1])
theorem D5 {α:Type}{x:Opd}{f:α→List D}{xs:List α}(hx:ev t x= .d (.list (xs.map f))):K3 t h (.len x)=some (.d (i64 xs.length)):=by simp only [K3,hx,lS]
theorem aI {α:Type}{x:Opd}{f:α→List D}{q:F7}{ty:TypeId}{sz:Nat}{xs:List α}(hx:ev t x= .sl q)(hb:h q=some (.arr ty sz (xs.map f))):K3 t h (.len x)=some (.d (i64 xs.length)):=by simp only [K3,hx,hb,lS]
theorem mG {α:Type}{x:Opd}{f:α→List D}{q:F7}{ty:TypeId}{sz:Nat}{xs:List α}(hx:ev t x=oS xs q)(hb:h q=oB ty sz f xs):K3 t h (.len x)=some (.d (i64 xs.length)):=by
  cases xs with
  |nil=>simp only [K3,hx,oS,lN];rfl
  |cons a xs=>exact aI (f:=f) hx hb
theorem xP {α:Type}{sz:Nat}{x:Opd}{lo hi:Option Opd}{f:α→List D}{xs zs:List α}{i j:Int}(hx:ev t x= .d (.list (xs.map f)))(hz: ∀a,(f a).length=sz)
    (hlo:En t 0 lo=if 0≤i then some i.toNat else none) (hhi:En t xs.length hi=if 0≤j then some j.toNat else none) (hv:aE xs i j=some zs):K3 t h (.slice sz x lo hi none)=some (.d (.list (zs.map f))):=by
  obtain ⟨h1,h2,h3,rfl⟩:=fU hv;rw [bO h1]at hlo;rw [bO (by omega)]at hhi;have hall:((xs.map f).all fun e=>e.length==sz)=true:=by simp [hz]
  simp only [K3,hx,lS,hlo,hhi,hall,and_true];rw [bO (by omega),List.map_drop,List.map_take]
theorem vF {n:Nat}:En t n none=if 0≤(n:Int)then some (n:Int).toNat else none:=by rw [bO (by omega)];rfl
theorem yZ {x:Opd}{n:Nat}{k:IntKind}{i:Int}(hx:ev t x= .d (.v (.int k i))):En t n (some x)=if 0≤i then some i.toNat else none:=by simp only [En,hx]
theorem KH {j x y:Opd}{c q:Bool}(hj:ev t j= .d (bo c))(hx:c=true→ev t x= .d (bo q))(hy:ev t y= .d (bo false)):K3 t h (.pick j x y)=some (.d (bo (c&&q))):=by
  simp only [K3,hj];cases c
  ·rw [hy];rfl
  ·rw [hx rfl];rfl
theorem P1 {j x y:Opd}{c q:Bool}(hj:ev t j= .d (bo c))(hx:ev t x= .d (bo true))(hy:c=false→ev t y= .d (bo q)):K3 t h (.pick j x y)=some (.d (bo (c||q))):=by
  simp only [K3,hj];cases c
  ·rw [hy rfl];rfl
  ·rw [hx];rfl
def rC (x:AV)(b w:Bool):Prop:=(w=true→x= .d (bo b))∧(w=false→x= .d (bo !b)∨x= .d (.tup []))
theorem L9 {x:AV}{c:Bool}(hx:x= .d (bo c)):rC x true c:=by subst hx;cases c<;>exact ⟨fun h=>(by first|rfl|cases h),fun h=>(by first|exact .inl rfl|cases h)⟩
theorem L3 {x:AV}{c:Bool}(hx:x= .d (bo c)):rC x false (!c):=by subst hx;cases c<;>exact ⟨fun h=>(by first|rfl|cases h),fun h=>(by first|exact .inl rfl|cases h)⟩
theorem W1 {x:AV}{w q:Bool}(hx:x=gd w true (.d (bo q))):rC x true (w&&q):=by
  subst hx;cases w
  ·exact ⟨fun h=>(by cases h),fun _=> .inr rfl⟩
  ·exact L9 rfl
theorem Ja {x:AV}{w q:Bool}(hx:x=gd w true (.d (bo q))):rC x false (w&& !q):=by
  subst hx;cases w
  ·exact ⟨fun h=>(by cases h),fun _=> .inr rfl⟩
  ·exact L3 rfl
theorem J9 {a:Bool}(h:a=false):(!a)=true:=by subst h;rfl
theorem HA {a b:Bool}(h:a=true)(h':b=true):(a&&b)=true:=by subst h h';rfl
theorem tO {j:Nat}{b w:Bool}{K:AV→List (F7×Option Blk)→Prop}{body:Prop}(hg:rC (t j) b w)(h1:w=true→body)(h2:w=false→K (.d (.tup [])) []):gW (some (j,b)) t K body:=by
  cases w with
  |true=>
   have:=hg.1 rfl;simp only [gW,this,if_true];exact h1 rfl
  |false=>
   rcases hg.2 rfl with e|e
   ·simp only [gW,e];rw [bP (by cases b<;>simp)];exact h2 rfl
   ·simp only [gW,e];exact h2 rfl
end
section
variable {P:Program}{u:Nat}{r:List AOp}{l:List (Nat×AV)}{g:List (F7×Option Blk)}{K:(Nat→AV)→E7→Prop}
theorem dN {dst:Option Nat}{t:Nat→AV}{h:E7}{k:AK}{v:AV}{K':AV→List (F7×Option Blk)→Prop}(h0:Z5 k=0)(hv:K3 t h k=some v)(hk:K' v []):DV P u dst t h k K':=by
  unfold DV;split<;>first|(simp [Z5]at h0;done)|(rw [hv];exact hk)
theorem IR {dst:Option Nat}{k:AK}{gg:Option (Nat×Bool)}{t:Nat→AV}{h:E7}(h0:Z5 k≠7)(hk:gW gg t (fun v ups=>M1 P u r (Tg t dst v) (Q4 h ups) K) (DV P u dst t h k fun v ups=>M1 P u r (Tg t dst v) (Q4 h ups) K)):M1 P u (⟨dst,k,gg⟩::r) t h K:=by
  unfold M1;split
  ·exact absurd rfl h0
  ·exact hk
theorem M9 {d j:Nat}{b:Bool}{k:AK}(w:Bool)(v:AV)(h0:Z5 k=0)(hg:rC (T l j) b w)(hv:w=true→K3 (T l) (G g) k=some v)(hk:M1 P u r (T ((d,gd w true v)::l)) (G g) K):M1 P u (⟨some d,k,some (j,b)⟩::r) (T l) (G g) K:=by
  refine IR (by rw [h0];simp) (tO hg (fun hw=>dN h0 (hv hw) ?_) fun hw=> ?_)
  ·rw [A3 hw]at hk;exact hk
  ·rw [mA (by simp [hw])]at hk;exact hk
theorem N7 {d j:Nat}{b:Bool}{f:Opd}{args:List Opd}(w:Bool)(v:D)(hg:rC (T l j) b w)
    (hv:w=true→∃fid avs ds ds',U6 (T l) f args=some (fid,avs)∧P2 (O2 (G g) 6) avs=some ds∧All2 DLe ds ds'∧PCall P fid ds' v∧(Kw avs=some ds∨TD v=true)) (hk:M1 P u r (T ((d,gd w true (.d v))::l)) (G g) K):M1 P u (⟨some d, .call f args,some (j,b)⟩::r) (T l) (G g) K:=by
  refine IR (by simp [Z5]) (tO hg (fun hw=> ?_) fun hw=> ?_)
  ·rw [A3 hw]at hk;obtain ⟨fid,avs,ds,ds',h1,h2,h3,h4,h5⟩:=hv hw;simp only [DV,NC,h1,h2];exact ⟨v,h4.le h3,h5,hk⟩
  ·rw [mA (by simp [hw])]at hk;exact hk
end
section
variable {P:Program}{N:Nat}{rk:Option F7}{Q:Ex→St→Prop}{rr:List It}{u:Nat}{r:List AOp}{l:List (Nat×AV)}{g:List (F7×Option Blk)}{K:(Nat→AV)→E7→List (List F7×List F7)→Prop}
theorem My {aops:List AOp}{pairs:List (Nat×Nat)}(h: ∀u,(∀k,G g k≠none→k.2≠u)→Ep P u aops (T l) (G g) fun t h tr=>TN tr pairs=true∧Dj P N rk rr Q .nrm ⟨t,h⟩):Dj P N rk (.c (.draw aops pairs)::rr) Q .nrm ⟨T l,G g⟩:=
  WE h
theorem Zt (hk:K (T l) (G g) []):Ep P u [] (T l) (G g) K:=by simpa only [Ep] using hk
theorem N6 {d:Nat}{k:AK}(v:AV)(h0:Z5 k=0)(hv:K3 (T l) (G g) k=some v)(hk:Ep P u r (T ((d,v)::l)) (G g) fun t' h' tr=>K t' h' ((Ad (T l) (G g) k,[])::tr)):Ep P u (⟨some d,k,none⟩::r) (T l) (G g) K:=by
  unfold Ep;simp only [gW];refine dN (v:=v) h0 hv ?_;exact hk
theorem NN {d:Nat}{k:AK}(v:AV)(b:Blk)(h0:Uc k=true)(hv:Pm u d (T l) k=some (v,b))(hk:Ep P u r (T ((d,v)::l)) (G (((d,u),some b)::g)) fun t' h' tr=>K t' h' ((Ad (T l) (G g) k,[(d,u)])::tr)):Ep P u (⟨some d,k,none⟩::r) (T l) (G g) K:=by
  unfold Ep;simp only [gW];unfold DV;split<;>first|(simp [Uc,Z5]at h0;done)|(dsimp only;rw [hv];exact hk)
theorem Mz {n:Nat}{p x:Opd}(k:F7)(off:Nat)(ty:TypeId)(bs cs:List AV)(hx:Kx (ev (T l) x)=some cs)(hn:cs.length=n)(hp:ev (T l) p= .ptr k off)(hb:G g k=some (.box ty bs))(hl:off+n≤bs.length)(bs':List AV)(he:Lw bs off cs=bs')
    (hk:Ep P u r (T l) (G ((k,some (.box ty bs'))::g)) fun t' h' tr=>K t' h' ((Ad (T l) (G g) (.store n p x),[k])::tr)):Ep P u (⟨none, .store n p x,none⟩::r) (T l) (G g) K:=by
  unfold Ep;subst he;simp only [gW,DV,Jg,hx,hn,if_true,hp,hb,hl];exact hk
theorem NO {α:Type}{d e sz:Nat}{ty:TypeId}{x y:Opd}(f:α→List D)(k:F7)(xs ys zs:List α)(hy:Aq (G g) sz (ev (T l) y)=some (ys.map f))(hx:ev (T l) x= .sl k)(hb:G g k=some (.arr e sz (xs.map f)))(hl:X3 xs ys=some zs)
    (hk:Ep P u r (T ((d, .sl (d,u))::l)) (G (((d,u),some (.arr e sz (zs.map f)))::(k,none)::g)) fun t' h' tr=>K t' h' ((Ad (T l) (G g) (.append ty e sz x y),[k,(d,u)])::tr)):Ep P u (⟨some d, .append ty e sz x y,none⟩::r) (T l) (G g) K:=by
  obtain ⟨h1,rfl⟩:=If hl;unfold Ep;simp only [gW,DV,Jg,hy,hx,hb,lS,h1,and_self,if_true,Option.getD_some];rw [← List.map_append];exact hk
theorem vG {d:Nat}{f:Opd}{args:List Opd}{fid:FuncId}{avs:List AV}{ds ds':List D}{v:D}(hc:U6 (T l) f args=some (fid,avs))(hd:P2 (O2 (G g) 6) avs=some ds)(hle:All2 DLe ds ds')
    (hp:PCall P fid ds' v) (ha:Kw avs=some ds∨TD v=true) (hk:Ep P u r (T ((d, .d v)::l)) (G g) fun t' h' tr=>K t' h' ((Ad (T l) (G g) (.call f args),[])::tr)):Ep P u (⟨some d, .call f args,none⟩::r) (T l) (G g) K:=by
  unfold Ep;simp only [gW,DV,NC,hc,hd];exact ⟨v,hp.le hle,ha,hk⟩
end
end Go.Abs
namespace Go.Abs
open Go
theorem NP {a b:List D}{i:Nat}{d:D}(h:(a++b)[i]? =some d):(i<a.length∧a[i]? =some d)∨(a.length≤i∧b[i - a.length]? =some d):=by
  rw [List.getElem?_append]at h;split at h
  ·exact .inl ⟨‹_›,h⟩
  ·exact .inr ⟨by omega,h⟩
section
variable (P:Program)
def Rd (t:TypeId){α:Type}(e:α→List D)(wf:α→Prop):Prop:=
  ∀(H:Type) (enc:TypeId×Value→H) (w:World) (fuel:Nat) (cs:List Value) (d:DataW H) (ps:List MemPlace),DataW.trod enc P w 0 (fun _=>true) true fuel t cs=some (d,ps)→
   ∃x:α,wf x∧cs.length=(e x).length∧∀(i:Nat) di,(e x)[i]? =some di→di.one=true∧RepD w (fun b=>b<w.heap.size) di (cs.getD i undef)
def yP (fs:List Field)(off:Nat){β:Type}(e:β→List D)(wf:β→Prop):Prop:=
  ∀(H:Type) (enc:TypeId×Value→H) (w:World) (fuel:Nat) (cs:List Value) (xs:List (DataW H×List MemPlace)),(fs.mapM fun f=>DataW.trod enc P w 0 (fun _=>true) true fuel f.type ((cs.drop f.offset).take (P.cellsOf f.type)))=some xs→
   ∃y:β,wf y∧∀(i:Nat) di,(e y)[i]? =some di→di.one=true∧RepD w (fun b=>b<w.heap.size) di (cs.getD (off+i) undef)
end
section
variable {P:Program}
theorem vH {t:TypeId}{k:IntKind}(ht:P.underlying t=some (.int k)):Rd P t (fun n:Int=> [.v (.int k n)]) (fun n=>(Lit.int k n).wf=true):=by
  intro H enc w fuel cs d ps h;obtain ⟨n,rfl,_,hw⟩:=DataW.trod_int ht h
  exact ⟨n,hw,rfl,fun i di hi=>by
    cases i with
    |zero=>cases hi;exact ⟨rfl, .v _⟩
    |succ i=>simp at hi⟩
theorem rE {t:TypeId}(ht:P.underlying t=some .bool):Rd P t (fun n:Bool=> [bo n]) (fun _=>True):=by
  intro H enc w fuel cs d ps h;obtain ⟨b,rfl,_⟩:=DataW.trod_bool ht h
  exact ⟨b,trivial,rfl,fun i di hi=>by
    cases i with
    |zero=>cases hi;exact ⟨rfl, .v _⟩
    |succ i=>simp at hi⟩
theorem mH {t:TypeId}{α β:Type}{e:β→List D}{wf:β→Prop}(h:Rd P t e wf)(e':α→List D)(wf':α→Prop)(g:β→α)(he: ∀y,e' (g y)=e y)(hw: ∀y,wf y→wf' (g y)):Rd P t e' wf':=by
  intro H enc w fuel cs d ps hh;obtain ⟨y,h1,h2,h3⟩:=h H enc w fuel cs d ps hh;exact ⟨g y,hw y h1,by rw [he];exact h2,by rw [he];exact h3⟩
theorem rF {off:Nat}:yP P [] off (fun _:Unit=> []) (fun _=>True):=by
  intro H enc w fuel cs xs _;exact ⟨(),trivial,fun i di hi=>by simp at hi⟩
theorem Xj {f:Field}{fs:List Field}{off n:Nat}{α β:Type}{e1:α→List D}{e2:β→List D}{wf1:α→Prop}{wf2:β→Prop}(h1:Rd P f.type e1 wf1)(ho:f.offset=off)(hn: ∀a,(e1 a).length=n)(h2:yP P fs (off+n) e2 wf2):
    yP P (f::fs) off (fun p:α×β=>e1 p.1++e2 p.2) (fun p=>wf1 p.1∧wf2 p.2):=by
  intro H enc w fuel cs xs h;simp only [List.mapM_cons,Option.pure_def,lC,Option.bind_eq_some_iff,Option.some.injEq]at h;obtain ⟨x,hx,l,hl,rfl⟩:=h;obtain ⟨a,a1,a2,a3⟩:=h1 H enc w fuel _ _ _ hx;obtain ⟨b,b1,b3⟩:=h2 H enc w fuel cs l hl;refine ⟨(a,b),⟨a1,b1⟩,fun i di hi=> ?_⟩;rcases NP hi with ⟨q1,q2⟩|⟨q1,q2⟩
  ·obtain ⟨r1,r2⟩:=a3 i di q2;refine ⟨r1,?_⟩
   have hlt:i<P.cellsOf f.type:=by
     have:i< ((cs.drop f.offset).take (P.cellsOf f.type)).length:=by rw [a2];exact q1
     rw [lV]at this;omega
   simp only [List.getD,bA,bO hlt,l9,ho]at r2;exact r2
  ·obtain ⟨r1,r2⟩:=b3 _ di q2;refine ⟨r1,?_⟩;have:off+n+ (i - (e1 a).length)=off+i:=by rw [hn a]at q1 ⊢;omega
   rw [this]at r2;exact r2
theorem fX {t:TypeId}{fs:Array Field}{β:Type}{e:β→List D}{wf:β→Prop}(ht:P.underlying t=some (.struct fs))(hf:yP P fs.toList 0 e wf)(hl: ∀y,(e y).length=P.cellsOf t):Rd P t e wf:=by
  intro H enc w fuel cs d ps h;cases fuel with
  |zero=>cases h
  |succ f=>
   simp only [DataW.trod,ht]at h;split at h
   ·rename_i hlen;simp only [lE]at h;obtain ⟨xs,hxs,_⟩:=h;obtain ⟨y,h1,h2⟩:=hf H enc w f cs xs hxs;exact ⟨y,h1,by rw [hlen,hl],fun i di hi=>by have:=h2 i di hi;rwa [wK]at this⟩
   ·cases h
theorem NQ {t el:TypeId}{α:Type}{e:α→List D}{wf:α→Prop}{sz:Nat}(ht:P.underlying t=some (.slice el))(he:Rd P el e wf)(hz: ∀a,(e a).length=sz)(hs:0<sz)(hc:P.cellsOf el=sz):
    Rd P t (fun xs:List α=> [.list (xs.map e)]) (fun xs=> ∀a∈xs,wf a):=by
  intro H enc w fuel cs d ps h;rcases DataW.trod_slice ht h with ⟨rfl,_⟩|⟨A,len,cap,elems,rest,f,_,rfl,_,_,hlc,hcm,hlen,hel,_⟩
  ·exact ⟨[],by simp,rfl,fun i di hi=>by
     cases i with
     |zero=>cases hi;exact ⟨rfl, .lnil none 0⟩
     |succ i=>simp at hi⟩
  ·have hget: ∀i,i<len→∃x:α,wf x∧∀j dj,(e x)[j]? =some dj→dj.one=true∧∃y,w.cell? (A.add (i*sz+j))=some y∧RepD w (fun b=>b<w.heap.size) dj y:=by
     intro i hi;have hy:=hel i hi;rw [lH (by omega),Option.bind_eq_some_iff]at hy;obtain ⟨row,hrow,hy⟩:=hy;rw [hc]at hrow;obtain ⟨_,hlen,hcell⟩:=World.cells?_some hrow;obtain ⟨x,x1,x2,x3⟩:=he H enc w f row _ _ hy;refine ⟨x,x1,fun j dj hj=> ?_⟩;obtain ⟨r1,r2⟩:=x3 j dj hj;have hjl:j<sz:=by have:=(lI.1 hj).1;rw [hz]at this;exact this
     have hcj:=hcell j hjl;rw [Addr.add_add]at hcj;rw [lH (by omega)]at hcj;refine ⟨r1,_,hcj,?_⟩;rw [List.getD,lH (by omega)]at r2;exact r2
   cases len with
   |zero=>
    exact ⟨[],by simp,rfl,fun i di hi=>by
      cases i with
      |zero=>cases hi;exact ⟨rfl, .lnil _ _⟩
      |succ i=>simp at hi⟩
   |succ len=>
    have hch: ∃X:Nat→α,∀i,i<len+1→wf (X i)∧∀j dj,(e (X i))[j]? =some dj→dj.one=true∧∃y,w.cell? (A.add (i*sz+j))=some y∧RepD w (fun b=>b<w.heap.size) dj y:=by
      obtain ⟨x0,_⟩:=hget 0 (by omega);refine ⟨fun i=>if hi:i<len+1 then (hget i hi).choose else x0,fun i hi=> ?_⟩;simp only [dif_pos hi];exact (hget i hi).choose_spec
    obtain ⟨X,hX⟩:=hch
    let xs:List α:=(List.range (len+1)).map X
    have hxl:xs.length=len+1:=by simp [xs]
    have hat: ∀i j dj,Se (xs.map e) i j=some dj→i<len+1∧(e (X i))[j]? =some dj:=by
      intro i j dj hd;unfold Se at hd;by_cases hi:i<len+1
      ·refine ⟨hi,?_⟩;have:(xs.map e)[i]? =some (e (X i)):=by simp [xs,hi]
       rw [this]at hd;exact hd
      ·have:(xs.map e)[i]? =none:=by simp [xs];omega
       rw [this]at hd;cases hd
    have hblk:A.block<w.heap.size:=by
      have h0:=hX 0 (by omega);have hj:0< (e (X 0)).length:=by rw [hz];exact hs
      obtain ⟨_,y,hy,_⟩:=h0.2 0 (e (X 0))[0] (lH hj);rw [Nat.zero_mul,wK,show A.add 0=A by simp [Addr.add]]at hy;unfold World.cell? at hy;cases hq:w.heap[A.block]? with
      |none=>rw [hq]at hy;simp at hy
      |some q=>exact (Array.getElem?_eq_some_iff.1 hq).1
    refine ⟨xs,fun a ha=> ?_,rfl,fun i di hi=> ?_⟩
    ·simp only [xs,List.mem_map,List.mem_range]at ha;obtain ⟨i,hi,rfl⟩:=ha;exact (hX i hi).1
    ·cases i with
     |succ i=>simp at hi
     |zero=>
      cases hi;refine ⟨rfl,?_⟩
      have hr:RepD w (fun b=>b<w.heap.size) (.list (xs.map e)) (.slice (some A) (xs.map e).length cap):=by
        have hY: ∀i j,∃y,∀dj,Se (xs.map e) i j=some dj→w.cell? (A.add (i*sz+j))=some y∧RepD w (fun b=>b<w.heap.size) dj y:=by
          intro i j;cases hq:Se (xs.map e) i j with
          |none=>exact ⟨undef,fun dj h=>by cases h⟩
          |some dj=>
           obtain ⟨hi,hj⟩:=hat i j dj hq;obtain ⟨_,y,h1,h2⟩:=(hX i hi).2 j dj hj;exact ⟨y,fun dj' h=>by cases h;exact ⟨h1,h2⟩⟩
        exact .list _ A cap sz (fun i j=>(hY i j).choose) (by simp [xs]) (by simp only [lS,hxl];exact hlc) (fun l hl=>by
          simp only [List.mem_map]at hl;obtain ⟨a,_,rfl⟩:=hl
          exact hz a) hblk (fun i j dj hd=>by obtain ⟨hi,hj⟩:=hat i j dj hd;exact ((hX i hi).2 j dj hj).1)
          (fun i j dj hd=>((hY i j).choose_spec dj hd).1) (fun i j dj hd=>((hY i j).choose_spec dj hd).2)
      rw [lS,hxl]at hr;exact hr
theorem TY {H:Type}{enc:TypeId×Value→H}{w:World}{t:TypeId}{α:Type}{e:α→D}{wf:α→Prop}{v:Value}{d:DataW H}{ps:List MemPlace}(R:Rd P t (fun x=> [e x]) wf)(hv:v.cells.toList= [v])
    (hd:DataW.Trod enc P w 0 (fun _=>true) true t v d ps): ∃x:α,wf x∧RepD w (fun b=>b<w.heap.size) (e x) v:=by
  obtain ⟨fuel,hf⟩:=hd;rw [hv]at hf;obtain ⟨x,h1,h2,h3⟩:=R H enc w fuel _ d ps hf;exact ⟨x,h1,(h3 0 (e x) rfl).2⟩
theorem TZ {w w':World}{I I':Nat→Prop}(h:PTr w I w' I'):Go.RowKit.Below w.heap.size w w':=⟨h.os,h.tape,h.output,h.size,h.frame⟩
theorem fY {w:World}{I:Nat→Prop}{b:Bool}{v:Value}(h:RepD w I (bo b) v):v= .bool b:=by cases h;rfl
theorem mI {f:FuncId}{args:List D}{vs:List Value}{w:World}(hp:PCall P f args (bo true))(hl:args.length=vs.length)(hr: ∀(i:Nat) d,args[i]? =some d→RepD w (fun b=>b<w.heap.size) d (vs.getD i undef)):
    Calls P f vs.toArray w fun e w'=>e= .returned (.bool true)∧Go.RowKit.Below w.heap.size w w':=
  (hp.2 w (fun b=>b<w.heap.size) vs (fun _ h=>h) hl hr).mono fun _ _ ⟨_,_,h1,h2,h3⟩=>⟨by rw [h1,fY h2],TZ h3⟩
end
end Go.Abs
namespace Go.Abs
open Go
theorem H4 {n:Int}(h: -9223372036854775808≤n∧n≤9223372036854775807):E5 n=n:=Go.IntWalk.i64_in n h
theorem mJ {n:Int}(h:(Lit.int .i64 n).wf=true): -9223372036854775808≤n∧n≤9223372036854775807:=Go.bounds_i64 h
theorem fZ (n:Int): -9223372036854775808≤E5 n∧E5 n≤9223372036854775807:=mJ (Go.wf_wrap .i64 n)
def Fr (n:Int):Prop:= -9223372036854775808≤n∧n≤9223372036854775807
theorem mK {P:Program}{t:TypeId}(ht:P.underlying t=some (.int .i64)):Rd P t (fun n:Int=> [.v (.int .i64 n)]) Fr:=mH (vH ht) _ _ id (fun _=>rfl) fun _ h=>mJ h
theorem mL {α:Type}{xs:List α}{i:Nat}(h:i<xs.length):C4 xs (i:Int)=some xs[i]:=by
  unfold C4;rw [bO (by omega),wF,lH h]
theorem Db {α:Type}{xs:List α}{i:Nat}{a:α}{r:List α}(h:xs.drop i=a::r):C4 xs (i:Int)=some a:=by
  unfold C4;rw [bO (by omega),wF];have:=congrArg (fun z=>z[0]?) h;simpa using this
theorem O3 {α:Type}{xs:List α}{i:Nat}{a:α}{r:List α}(h:xs.drop i=a::r):i<xs.length:=by
  have:=congrArg List.length h;simp at this;omega
theorem P3 {α:Type}{xs:List α}{i:Nat}(h:xs.drop i= []):xs.length≤i:=List.drop_eq_nil_iff.1 h
theorem L4 {α:Type}{xs:List α}{i:Nat}{a:α}{r:List α}(h:xs.drop i=a::r):xs.drop (i+1)=r:=by
  have:=congrArg (fun z=>z.drop 1) h;simpa using this
theorem dO {x B:Int}(h1: -B≤x)(h2:x≤B):x*x≤B*B:=by
  have:=wO (show 0≤B - x by omega) (show 0≤B+x by omega)
  grind
theorem Ts (x:Int):0≤x*x:=by
  rcases Int.le_total 0 x with h|h
  ·exact wO h h
  ·have:=wO (show 0≤ -x by omega) (show 0≤ -x by omega);grind
theorem mM {x y A B:Int}(h1: -A≤x∧x≤A)(h2: -B≤y∧y≤B): -(A*B)≤x*y∧x*y≤A*B:=by
  have a:=wO (show 0≤A - x by omega) (show 0≤B+y by omega);have b:=wO (show 0≤A+x by omega) (show 0≤B - y by omega);have c:=wO (show 0≤A - x by omega) (show 0≤B - y by omega);have d:=wO (show 0≤A+x by omega) (show 0≤B+y by omega);constructor<;>grind
theorem Ia {α:Type}{xs ys:List α}(h:xs.length+ys.length≤1000000000):X3 xs ys=some (xs++ys):=bO h
theorem dP {α:Type}(p:Prop)[Decidable p](a b:α):cond (decide p) a b=if p then a else b:=by by_cases h:p<;>simp [h]
theorem K1 {σ τ:Type}{f:σ→Option (Stp σ τ)}{s s':σ}(h:f s=some (.go s')):loop f s=loop f s':=by rw [DD,h]
theorem D3 {σ τ:Type}{f:σ→Option (Stp σ τ)}{s:σ}{t:τ}(h:f s=some (.out t)):loop f s=some t:=by rw [DD,h]
theorem Wa (a b:Int):Xb true a b=max a b:=by simp only [Xb,if_true];omega
theorem Qz (a b:Int):Xb false a b=min a b:=by simp only [Xb,Bool.false_eq_true,if_false];omega
end Go.Abs
