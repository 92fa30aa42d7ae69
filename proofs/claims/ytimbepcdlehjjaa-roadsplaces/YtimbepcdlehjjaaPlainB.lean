/-
  Plain facts, second part: the law itself.
-/
import Derived.Test.YtimbepcdlehjjaaPlain
namespace Go.Abs.Roads
open Go Go.Abs
theorem B9e {m:Map}(V:ValR m){b:Int}: ∀(n a:Nat),m.Lanes.length≤a+n→A9t m a b=true→(a:Int)<b∧b<m.Lanes.length
  |0,a,hn,h=>by
   rw [B2c V]at h
   have:nextOf m a= []:=by
     unfold nextOf
     rw [List.getElem?_eq_none (by omega)];rfl
   rw [this]at h
   cases h
  |n+1,a,hn,h=>by
   rw [B2c V,List.any_eq_true]at h
   obtain ⟨k,hk,h⟩:=h
   have:=V.nextOf hk
   rcases Bool.or_eq_true _ _▸h with h|h
   ·have:=eq_of_beq h;omega
   ·have:=B9e V n k.toNat (by omega) h;omega
theorem C7o {m:Map}(V:ValR m){a:Nat}{b:Int}(h:A9t m a b=true):(a:Int)<b∧b<m.Lanes.length:=B9e V m.Lanes.length a (by omega) h
theorem B5o {m:Map}(V:ValR m){b:Nat}{c:Int}(h2:A9t m b c=true): ∀(n a:Nat),m.Lanes.length≤a+n→A9t m a (b:Int)=true→A9t m a c=true
  |0,a,hn,h=>by have:=C7o V h;omega
  |n+1,a,hn,h=>by
   rw [B2c V,List.any_eq_true]at h ⊢
   obtain ⟨k,hk,h⟩:=h
   have:=V.nextOf hk
   refine ⟨k,hk,?_⟩
   rcases Bool.or_eq_true _ _▸h with h|h
   ·have e:=eq_of_beq h
    subst e
    rw [Int.toNat_natCast,h2,Bool.or_true]
   ·rw [B5o V h2 n k.toNat (by omega) h,Bool.or_true]
noncomputable def isM (m:Map)(k:Int):Bool:=(decide (k≥0)&&decide (k<m.Lanes.length))&& (C5z m==0)
theorem isM_true {m:Map}{k:Int}:isM m k=true↔0≤k∧k<m.Lanes.length∧ValR m:=by
  unfold isM
  rw [Bool.and_eq_true,Bool.and_eq_true,beq_iff_eq,chkR_zero]
  simp only [decide_eq_true_eq,and_assoc,ge_iff_le]
theorem C0r {m:Map}(B:BearM m)(k:Int):A71 m k=some (isM m k):=by
  unfold A71 isM
  rw [A7j B]
  cases (decide (k≥0)&&decide (k< (m.Lanes.length:Int)))<;>rfl
noncomputable def C0s (m:Map)(k:Int):Int:=if isM m k then P9 m k else 0
theorem B5p {m:Map}(B:BearM m)(k:Int):V9 m k=some (C0s m k):=by
  unfold V9 C0s
  rw [C0r B,Option.bind_some]
  cases h:isM m k
  ·rfl
  ·have:=isM_true.1 h
   rw [if_pos rfl,Bool.not_true,cond_false,B7u B.toBear this.1 this.2.1];rfl
theorem B5q (l:List Int)(hl:l.length≤1000000)(k:Int):H7 l k=some (l.contains k):=by
  unfold H7 U3
  rw [B7t l (fun x=>k==x) (by omega) (fun i a h=>by
   have hi:=A4g h
   unfold N4
   rw [A5t hi,N7 h,cond_true,Option.bind_some]
   cases k==a<;>rfl) (by unfold N4;rw [A39];rfl)]
  rw [Option.bind_some,B7s,List.contains_eq_any_beq]
theorem D1r (l:List Int)(hl:l.length≤1000000)(k:Int):A96 l k=some (l.contains k):=by
  unfold A96
  rw [C9x l (fun x=>x==k) true (fun i a h=>by
   have hi:=A4g h
   unfold A53
   rw [A5t hi,N7 h,cond_true,Option.bind_some,A1p hi (by omega)]
   cases a==k<;>rfl) (by unfold A53;rw [A39];rfl)]
  rw [List.contains_eq_any_beq,show (fun x=>x==k)=(fun x=>k==x) from funext fun x=>by rw [Bool.beq_comm]]
  cases l.any fun x=>k==x<;>rfl
/-- What comes before a lane. -/
def A20 (m:Map)(k:Int):List Int:=B0f (fun i (l:Lane)=>if l.Next.contains k then some (i:Int)else none) 0 m.Lanes
theorem C5j {m:Map}(B:BearM m)(k:Int):A0n m k=some (A20 m k):=by
  unfold A0n A20
  have hb:=B.lanes
  rw [C5h m.Lanes (fun i (l:Lane)=>if l.Next.contains k then some (i:Int)else none) id (fun i l s h hs=>by
   have hi:=A4g h
   unfold A03
   dsimp only
   rw [A5t hi,N7 h,cond_true,Option.bind_some,B5q _ (B.toBear.pts l (List.mem_of_getElem? h)).2,Option.bind_some,A95 (by simp;omega),A1p hi (by omega)]
   cases l.Next.contains k<;>rfl) (fun s=>by unfold A03;rw [A39];rfl)]
  rfl
theorem C3a {m:Map}(B:BearM m)(k:Int):A54 m k=some (A20 m k):=by
  unfold A54 A20
  have hb:=B.lanes
  rw [C5h m.Lanes (fun i (l:Lane)=>if l.Next.contains k then some (i:Int)else none) id (fun i l s h hs=>by
   have hi:=A4g h
   unfold A2a
   dsimp only
   rw [A5t hi,N7 h,cond_true,Option.bind_some,D1r _ (B.toBear.pts l (List.mem_of_getElem? h)).2,Option.bind_some,A95 (by simp;omega),A1p hi (by omega)]
   cases l.Next.contains k<;>rfl) (fun s=>by unfold A2a;rw [A39];rfl)]
  rfl
def Q6 (m:Map):List Int:=B0f (fun i (_:Lane)=>if (A20 m (i:Int)).length=0 then some (i:Int)else none) 0 m.Lanes
theorem C0t {m:Map}(B:BearM m):A42 m=some (Q6 m):=by
  unfold A42 Q6
  have hb:=B.lanes
  rw [C5h m.Lanes (fun i (_:Lane)=>if (A20 m (i:Int)).length=0 then some (i:Int)else none) id (fun i l s h hs=>by
   have hi:=A4g h
   unfold A1r
   dsimp only
   rw [A5t hi,cond_true,C3a B,Option.bind_some,A95 (by simp;omega),A1p hi (by omega)]
   by_cases q:(A20 m (i:Int)).length=0
   ·rw [if_pos q,q];rfl
   ·rw [if_neg q,show (((A20 m (i:Int)).length:Int)==0)=false by simp only [beq_eq_false_iff_ne];omega];rfl) (fun s=>by unfold A1r;rw [A39];rfl)]
  rfl
end Go.Abs.Roads
namespace Go.Abs.Roads
open Go Go.Abs
structure ZoneOK (m:Map)(z:Zone):Prop where
  two:2≤z.Parts.length
  six:z.Parts.length≤6
  sig:0≤z.Signal_∧z.Signal_≤m.Signals.length
  rise:A7i m.Lanes.length 0 (z.Parts.map (·.Lane_))=true
  part: ∀p∈z.Parts,0≤p.From∧p.From<p.To∧p.To≤P9 m p.Lane_∧0≤p.Rank∧p.Rank≤100
theorem C3b {m:Map}{i:Nat}{z:Zone}(h:zoneE m i z=none):ZoneOK m z:=by
  unfold zoneE at h
  split at h
  ·cases h
  ·rename_i h1
   split at h
   ·cases h
   ·rename_i h2
    split at h
    ·cases h
    ·rename_i h3
     split at h
     ·cases h
     ·rename_i h4
      split at h
      ·cases h
      ·rename_i h5
       refine ⟨by omega,by omega,by omega,by simpa using h4,fun p hp=> ?_⟩
       have:=List.any_eq_false.1 (Bool.eq_false_iff.2 h5) p hp
       simp only [B5m,Bool.or_eq_true,decide_eq_true_eq,not_or,Int.not_lt,Int.not_le,ge_iff_le,gt_iff_lt]at this
       omega
theorem ValR.zoneOK {m:Map}(V:ValR m){z:Zone}(hz:z∈m.Zones):ZoneOK m z:=by
  obtain ⟨i,hi,rfl⟩:=List.mem_iff_getElem.1 hz
  have:=firstE_none.1 V.zoneE i _ (List.getElem?_eq_getElem hi)
  exact C3b this
theorem ZoneOK.lane {m:Map}{z:Zone}(O:ZoneOK m z){p:Part}(hp:p∈z.Parts):0≤p.Lane_∧p.Lane_<m.Lanes.length:=A6q O.rise p.Lane_ (List.mem_map.2 ⟨p,hp,rfl⟩)
end Go.Abs.Roads
namespace Go.Abs.Roads
open Go Go.Abs
end Go.Abs.Roads
namespace Go.Abs.Roads
open Go Go.Abs
theorem C7p:A3o=some true:=B6b _ (by decide+kernel)
end Go.Abs.Roads
namespace Go.Abs.Roads
open Go Go.Abs
end Go.Abs.Roads
namespace Go.Abs.Roads
open Go Go.Abs
theorem A3a (n:Int){m:Int}(hm:0<m):0≤n % m∧n % m<m:=⟨Int.emod_nonneg n (by omega),Int.emod_lt_of_pos n hm⟩
theorem B9f {n m:Int}(hm:0<m):n % m=if n.tmod m<0 then n.tmod m+m else n.tmod m:=by
  have a:=Int.emod_nonneg n (show m≠0 by omega)
  have b:=Int.emod_lt_of_pos n hm
  rw [Int.tmod_eq_emod]
  by_cases q:0≤n∨m ∣ n
  ·rw [if_pos q,if_neg (by omega)];omega
  ·rw [if_neg q]
   have:n % m≠0:=fun e=>q (.inr (Int.dvd_of_emod_eq_zero e))
   rw [if_pos (by omega)];omega
theorem B6x {n m:Int}(hm:0<m)(hm2:m≤9223372036854775807):B2s n m=some (n % m):=by
  have h1:=B9f (n:=n) hm
  have a:=A3a n hm
  unfold B2s C4q
  rw [if_neg (by omega),Option.bind_some]
  by_cases q:n.tmod m<0
  ·rw [if_pos q]at h1
   rw [decide_eq_true q,cond_true,G3 (by omega),← h1]
  ·rw [if_neg q]at h1
   rw [decide_eq_false q,cond_false,← h1]
theorem B9g {n m:Int}(hm:0<m)(hm2:m≤9223372036854775807):A9b n m=some (n % m):=by
  have h1:=B9f (n:=n) hm
  have a:=A3a n hm
  unfold A9b C4q
  rw [if_neg (by omega),Option.bind_some]
  by_cases q:n.tmod m<0
  ·rw [if_pos q]at h1
   rw [decide_eq_true q,cond_true,G3 (by omega),← h1]
  ·rw [if_neg q]at h1
   rw [decide_eq_false q,cond_false,← h1]
def lnK (kind lim:Int)(next:List Int)(a b c d:Int):Lane:=⟨kind,⟨[⟨a,b⟩,⟨c,d⟩]⟩,if kind=3 then 500 else 1500,lim,next⟩
theorem C9y (kind lim:Int)(next:List Int)(a b c d:Int):T4 kind lim next [a,b,c,d]=some (lnK kind lim next a b c d):=by
  unfold T4 lnK
  rw [Q4 (s':=(2,⟨kind,⟨[⟨a,b⟩]⟩,1500,lim,next⟩)) rfl,Q4 (s':=(4,⟨kind,⟨[⟨a,b⟩,⟨c,d⟩]⟩,1500,lim,next⟩)) rfl,G1 (t:=⟨kind,⟨[⟨a,b⟩,⟨c,d⟩]⟩,1500,lim,next⟩) rfl,Option.bind_some]
  by_cases h:kind=3
  ·rw [if_pos h,h];rfl
  ·rw [if_neg h,show (kind==3)=false by simpa using h];rfl
def sgK (off a b:Int):Signal:=⟨off,[⟨12,[a]⟩,⟨5,[]⟩,⟨9,[b]⟩,⟨4,[]⟩]⟩
/-- The numbers of which a map of the kit is made. -/
structure Par where
  lim:Int
  r:Int
  o:Int
  o':Int
  ver:Int
  wk:List Work
structure ParOK (p:Par):Prop where
  lim:p.lim=1500∨p.lim=600∨p.lim=1000∨p.lim=300
  r:p.r=0∨p.r=1
  o:0≤p.o∧p.o<31
  o':0≤p.o'∧p.o'<31
  ver:0≤p.ver∧p.ver<5
  wk:p.wk= []∨∃b l,0≤b∧b<40∧0≤l∧l≤400∧p.wk= [⟨0,10000,15000,b,b+20,l⟩]
def A6r (k:Nat)(lim:Int):List Lane:=match k with
  |0=> [lnK 1 lim [] 0 0 60000 0]
  |1|2=> [lnK 1 lim [] 0 0 50000 0,lnK 1 1500 [] 30000 (-20000) 30000 20000]
  |3=> [lnK 1 lim [1,2] 0 0 30000 0,lnK 1 1500 [] 30000 0 60000 0,lnK 1 800 [] 30000 0 54000 10000]
  |4=> [lnK 1 lim [2] 0 0 30000 0,lnK 1 1500 [2] 6000 (-10000) 30000 0,lnK 1 1500 [] 30000 0 60000 0]
  |5=> [lnK 1 lim [1] 0 0 20000 0,lnK 1 lim [] 20000 0 50000 0,lnK 3 200 [] 35000 (-8000) 35000 8000]
  |_=> [lnK 1 lim [1,2] 0 0 20000 0,lnK 1 1500 [] 20000 0 50000 0,lnK 1 1000 [] 20000 0 44000 10000,lnK 2 700 [] 36000 (-12000) 36000 18000]
def A5f (k:Nat)(r:Int):List Zone:=match k with
  |1=> [⟨[⟨0,28000,32000,r⟩,⟨1,18000,22000,2 - 2*r⟩],0⟩]
  |2=> [⟨[⟨0,28000,32000,r⟩,⟨1,18000,22000,2 - 2*r⟩],1⟩]
  |4=> [⟨[⟨0,25000,30000,1⟩,⟨1,20000,26000,0⟩,⟨2,0,5000,0⟩],0⟩]
  |5=> [⟨[⟨1,14000,16000,0⟩,⟨2,6000,10000,3⟩],0⟩]
  |6=> [⟨[⟨1,14000,18000,1⟩,⟨3,10000,14000,0⟩],0⟩,⟨[⟨2,14000,21000,1⟩,⟨3,14500,23000,0⟩],0⟩]
  |7=> [⟨[⟨1,14000,18000,1⟩,⟨3,10000,14000,0⟩],1⟩,⟨[⟨2,14000,21000,1⟩,⟨3,14500,23000,0⟩],2⟩]
  |_=> []
def B35 (k:Nat)(o o':Int):List Signal:=match k with
  |2=> [sgK o 0 1]
  |7=> [sgK o 1 3,sgK o' 2 3]
  |_=> []
def C0u (k:Nat)(p:Par):Map:=⟨p.ver,A6r k p.lim,A5f k p.r,B35 k p.o p.o',p.wk⟩
theorem C3c (n:Int): ∃k p,k<8∧ParOK p∧B4x n=some (C0u k p):=by
  obtain ⟨h0,h1⟩:=A3a n (show (0:Int)<16777216 by decide)
  unfold B4x
  rw [B6x (by decide) (by decide),Option.bind_some]
  generalize n % 16777216=v at h0 h1
  have t: ∀m:Int,0<m→v.tdiv m=v / m:=fun m hm=>by rw [Int.tdiv_eq_ediv_of_nonneg h0]
  have u: ∀x m:Int,0≤x→x.tmod m=x % m:=fun x m hx=>by rw [Int.tmod_eq_emod_of_nonneg hx]
  have d: ∀m:Int,0<m→0≤v / m∧v / m<16777216:=fun m hm=>⟨Int.ediv_nonneg h0 (by omega),Int.lt_of_le_of_lt (Int.ediv_le_self m h0) h1⟩
  have W: ∀m:Int,0<m→w64 (v / m)=v / m:=fun m hm=>G3 (by have:=d m hm;omega)
  rw [t 7 (by decide),t 28 (by decide),t 56 (by decide),t 1736 (by decide),t 5208 (by decide),t 208320 (by decide)]
  rw [W 7 (by decide),W 28 (by decide),W 56 (by decide),W 1736 (by decide),W 5208 (by decide),W 208320 (by decide)]
  rw [u (v / 7) _ (d 7 (by decide)).1,u (v / 28) 2 (d 28 (by decide)).1,u (v / 28) 31 (d 28 (by decide)).1,u (v / 56) 31 (d 56 (by decide)).1,u (v / 56) 17 (d 56 (by decide)).1,u (v / 1736) _ (d 1736 (by decide)).1,u (v / 5208) _ (d 5208 (by decide)).1,u (v / 208320) _ (d 208320 (by decide)).1,u v _ h0,u (v / 28) 5 (d 28 (by decide)).1]
  have b1:=A3a (v / 7) (show (0:Int)<4 by decide)
  have b2:=A3a (v / 28) (show (0:Int)<2 by decide)
  have b3:=A3a (v / 28) (show (0:Int)<31 by decide)
  have b4:=A3a (v / 56) (show (0:Int)<31 by decide)
  have b5:=A3a (v / 56) (show (0:Int)<17 by decide)
  have b6:=A3a (v / 5208) (show (0:Int)<40 by decide)
  have b7:=A3a (v / 208320) (show (0:Int)<3 by decide)
  have b8:=A3a v (show (0:Int)<7 by decide)
  have b9:=A3a (v / 28) (show (0:Int)<5 by decide)
  generalize v / 7 % 4=q1 at b1
  generalize v / 28 % 2=q2 at b2
  generalize v / 28 % 31=q3 at b3
  generalize v / 56 % 31=q4 at b4
  generalize v / 56 % 17=q5 at b5
  generalize v / 5208 % 40=q6 at b6
  generalize v / 208320 % 3=q7 at b7
  generalize v % 7=q8 at b8
  generalize v / 28 % 5=q9 at b9
  have e1: ∃lim:Int,F3 ([1500,600,1000,300]:List Int) q1=some lim∧(lim=1500∨lim=600∨lim=1000∨lim=300):=by
    rcases (show q1=0∨q1=1∨q1=2∨q1=3 by omega)with rfl|rfl|rfl|rfl
    ·exact ⟨1500,rfl,by decide⟩
    ·exact ⟨600,rfl,by decide⟩
    ·exact ⟨1000,rfl,by decide⟩
    ·exact ⟨300,rfl,by decide⟩
  obtain ⟨lim,e1,hlim⟩:=e1
  rw [e1,Option.bind_some]
  have ew: ∀(L:List Lane) (Z:List Zone) (S:List Signal),∃wk,(wk= []∨∃b l,0≤b∧b<40∧0≤l∧l≤400∧wk= [⟨0,10000,15000,b,b+20,l⟩])∧
   (cond (v / 1736 % 3==1) (some (Map.mk q9 L Z S [(Work.mk 0 10000 15000 q6 (w64 (q6+20)) (w64 (q7*200)))])) (some (Map.mk q9 L Z S [])))=some ⟨q9,L,Z,S,wk⟩:=by
    intro L Z S
    cases v / 1736 % 3==1
    ·exact ⟨[], .inl rfl,rfl⟩
    ·exact ⟨[⟨0,10000,15000,q6,q6+20,q7*200⟩], .inr ⟨q6,q7*200,by omega,by omega,by omega,by omega,rfl⟩,by rw [G3 (by omega),G3 (by omega)];rfl⟩
  have er:w64 (2 - w64 (2*q2))=2 - 2*q2:=by rw [G3 (n:=2*q2) (by omega),G3 (by omega)]
  rw [er]
  simp only [C9y,Option.bind_some]
  have fin: ∀(k:Nat) (o o':Int) (L:List Lane) (Z:List Zone) (S:List Signal),k<8→0≤o∧o<31→0≤o'∧o'<31→L=A6r k lim→Z=A5f k q2→S=B35 k o o'→∃k p,k<8∧ParOK p∧(cond (v / 1736 % 3==1) (some (Map.mk q9 L Z S [(Work.mk 0 10000 15000 q6 (w64 (q6+20)) (w64 (q7*200)))])) (some (Map.mk q9 L Z S [])))=some (C0u k p):=by
    intro k o o' L Z S hk h1 h2 e1 e2 e3
    obtain ⟨wk,w1,w2⟩:=ew L Z S
    subst e1 e2 e3
    exact ⟨k,⟨lim,q2,o,o',q9,wk⟩,hk,⟨hlim,by dsimp only;omega,h1,h2,b9,w1⟩,w2⟩
  rcases (show q8=0∨q8=1∨q8=2∨q8=3∨q8=4∨q8=5∨q8=6 by omega)with rfl|rfl|rfl|rfl|rfl|rfl|rfl
  ·exact fin 0 0 0 _ _ _ (by decide) (by decide) (by decide) rfl rfl rfl
  ·exact fin 1 0 0 _ _ _ (by decide) (by decide) (by decide) rfl rfl rfl
  ·exact fin 2 q3 0 _ _ _ (by decide) b3 (by decide) rfl rfl rfl
  ·exact fin 3 0 0 _ _ _ (by decide) (by decide) (by decide) rfl rfl rfl
  ·exact fin 4 0 0 _ _ _ (by decide) (by decide) (by decide) rfl rfl rfl
  ·exact fin 5 0 0 _ _ _ (by decide) (by decide) (by decide) rfl rfl rfl
  ·rcases (show q2=0∨q2=1 by omega)with rfl|rfl
   ·exact fin 6 0 0 _ _ _ (by decide) (by decide) (by decide) rfl rfl rfl
   ·exact fin 7 q4 q5 _ _ _ (by decide) b4 (by omega) rfl rfl rfl
end Go.Abs.Roads
namespace Go.Abs.Roads
open Go Go.Abs
theorem C5k:((List.range 8).all fun k=>([1500,600,1000,300]:List Int).all fun lim=>([0,1]:List Int).all fun r=>A2q (C0u k ⟨lim,r,0,0,0,[]⟩)==some 0)=true:=by decide+kernel
theorem C0v (k:Nat)(lim:Int):(A6r k lim).length≤4∧∀l∈A6r k lim,l.Curve_.Pts.length=2∧l.Next.length≤2:=by
  unfold A6r
  split<;>simp [lnK]
theorem C0w (k:Nat)(r:Int):(A5f k r).length≤2∧∀z∈A5f k r,z.Parts.length≤3:=by
  unfold A5f
  split<;>simp
theorem C3d (k:Nat)(o o':Int):(B35 k o o').length≤2∧∀s∈B35 k o o',s.Phases.length=4∧∀p∈s.Phases,p.Green.length≤1:=by
  unfold B35
  split<;>simp [sgK]
theorem C5l {m:Map}{k:Nat}{lim r o o':Int}(h1:m.Lanes=A6r k lim)(h2:m.Zones=A5f k r)(h3:m.Signals=B35 k o o')(h4:m.Works.length≤1):BearM m:=by
  obtain ⟨a1,a2⟩:=C0v k lim
  obtain ⟨b1,b2⟩:=C0w k r
  obtain ⟨c1,c2⟩:=C3d k o o'
  refine ⟨⟨by rw [h1];omega,fun l hl=> ?_⟩,⟨by rw [h3];omega,fun s hs=>⟨?_,fun p hp=> ?_⟩⟩,⟨by rw [h2];omega,fun z hz=> ?_⟩,⟨by omega⟩⟩
  ·rw [h1]at hl;have:=a2 l hl;omega
  ·rw [h3]at hs;have:=(c2 s hs).1;omega
  ·rw [h3]at hs;have:=(c2 s hs).2 p hp;omega
  ·rw [h2]at hz;have:=b2 z hz;omega
theorem ParOK.wk1 {p:Par}(h:ParOK p):p.wk.length≤1:=by
  rcases h.wk with e|⟨b,l,_,_,_,_,e⟩<;>rw [e]<;>simp
theorem C7q {k:Nat}{p:Par}(h:ParOK p):BearM (C0u k p):=C5l rfl rfl rfl h.wk1
theorem D2n {k:Nat}{p:Par}(hk:k<8)(h:ParOK p):ValR (C0u k ⟨p.lim,p.r,0,0,0,[]⟩):=by
  have h1:=List.all_eq_true.1 C5k k (List.mem_range.2 hk)
  have h2:=List.all_eq_true.1 h1 p.lim (by have:=h.lim;simp;omega)
  have h3:=List.all_eq_true.1 h2 p.r (by have:=h.r;simp;omega)
  have h4:=A3g _ _ (eq_of_beq h3)
  have h5:=A7j (m:=C0u k ⟨p.lim,p.r,0,0,0,[]⟩) (C5l rfl rfl rfl (Nat.zero_le 1))
  rw [h4]at h5
  exact chkR_zero.1 (Option.some.inj h5).symm
/-- Another version, other offsets, other works. -/
theorem ValR.change {L:List Lane}{Z:List Zone}{S S':List Signal}{W W':List Work}{v v':Int}(V:ValR ⟨v,L,Z,S,W⟩)(hv:0≤v'∧v'≤1099511627776)(hl:S'.length=S.length)(hs: ∀s∈S',Roads.signalE ⟨v,L,Z,S,W⟩ 0 s=none)(hw:W'.length≤8)(hw': ∀w∈W',Roads.workE ⟨v,L,Z,S,W⟩ 0 w=none):ValR ⟨v',L,Z,S',W'⟩:=by
  refine ⟨hv,V.pos,V.lanes,V.zones,by show S'.length≤4;rw [hl];exact V.signals,hw,V.laneE,V.nextE,?_,?_,?_⟩
  ·rw [firstE_none]
   intro j a ha
   exact hs a (List.mem_of_getElem? ha)
  ·have:=V.zoneE
   rw [firstE_none]at this ⊢
   intro j a ha
   have:=this j a ha
   unfold Roads.zoneE at this ⊢
   dsimp only at this ⊢
   rw [hl]
   exact this
  ·rw [firstE_none]
   intro j a ha
   exact hw' a (List.mem_of_getElem? ha)
theorem C5m (k:Nat)(o o' a a':Int):(B35 k o o').length=(B35 k a a').length:=by unfold B35;split<;>rfl
theorem C7r {k:Nat}{o o':Int}(h:0≤o∧o<31)(h':0≤o'∧o'<31){m:Map}(hm:m.Lanes.length=(A6r k 0).length): ∀s∈B35 k o o',signalE m 0 s=none:=by
  have key: ∀(off a b:Int),0≤off∧off<31→0≤a∧a<m.Lanes.length→0≤b∧b<m.Lanes.length→signalE m 0 (sgK off a b)=none:=by
    intro off a b h1 h2 h3
    unfold signalE sgK
    simp only [List.length_cons,List.length_nil]
    rw [if_neg (by decide),if_neg (by decide),if_neg (by simp [inR];omega),if_neg (by simp [inR]),if_neg]
    simp only [List.any_cons,List.any_nil,A7i,Bool.and_true,Bool.or_false,Bool.not_true,Bool.false_or,Bool.or_eq_true,Bool.not_eq_true',not_or,Bool.not_eq_false,Bool.and_eq_true,decide_eq_true_eq]
    omega
  intro s hs
  unfold B35 at hs
  split at hs
  ·rw [show (A6r 2 0).length=2 from rfl]at hm
   simp only [List.mem_singleton]at hs
   subst hs
   exact key _ _ _ h (by omega) (by omega)
  ·rw [show (A6r 7 0).length=4 from rfl]at hm
   simp only [List.mem_cons,List.not_mem_nil,or_false]at hs
   rcases hs with rfl|rfl
   ·exact key _ _ _ h (by omega) (by omega)
   ·exact key _ _ _ h' (by omega) (by omega)
  ·cases hs
theorem C3e (k:Nat)(lim:Int):(A6r k lim).length=(A6r k 0).length:=by unfold A6r;split<;>rfl
end Go.Abs.Roads
namespace Go.Abs.Roads
open Go Go.Abs
theorem B2d (c:Int)(h:A5z ⟨[⟨0,0⟩,⟨c,0⟩]⟩=some c):B45 ⟨[⟨0,0⟩,⟨c,0⟩]⟩=c:=by
  have h1:=A9j _ _ h
  rw [A9r _ (by simp)]at h1
  exact Option.some.inj h1
/-- The first lane of a map of the kit: a road, long enough. -/
theorem B5r (k:Nat)(lim:Int): ∃l,(A6r k lim)[0]? =some l∧l.Kind=1∧l.Limit=lim∧20000≤B45 l.Curve_∧B45 l.Curve_≤60000:=by
  have e6:=B2d 60000 (by decide+kernel)
  have e5:=B2d 50000 (by decide+kernel)
  have e3:=B2d 30000 (by decide+kernel)
  have e2:=B2d 20000 (by decide+kernel)
  unfold A6r
  split
  ·exact ⟨_,rfl,rfl,rfl,by show 20000≤B45 ⟨[⟨0,0⟩,⟨60000,0⟩]⟩∧B45 ⟨[⟨0,0⟩,⟨60000,0⟩]⟩≤60000;rw [e6];decide⟩
  ·exact ⟨_,rfl,rfl,rfl,by show 20000≤B45 ⟨[⟨0,0⟩,⟨50000,0⟩]⟩∧B45 ⟨[⟨0,0⟩,⟨50000,0⟩]⟩≤60000;rw [e5];decide⟩
  ·exact ⟨_,rfl,rfl,rfl,by show 20000≤B45 ⟨[⟨0,0⟩,⟨50000,0⟩]⟩∧B45 ⟨[⟨0,0⟩,⟨50000,0⟩]⟩≤60000;rw [e5];decide⟩
  ·exact ⟨_,rfl,rfl,rfl,by show 20000≤B45 ⟨[⟨0,0⟩,⟨30000,0⟩]⟩∧B45 ⟨[⟨0,0⟩,⟨30000,0⟩]⟩≤60000;rw [e3];decide⟩
  ·exact ⟨_,rfl,rfl,rfl,by show 20000≤B45 ⟨[⟨0,0⟩,⟨30000,0⟩]⟩∧B45 ⟨[⟨0,0⟩,⟨30000,0⟩]⟩≤60000;rw [e3];decide⟩
  ·exact ⟨_,rfl,rfl,rfl,by show 20000≤B45 ⟨[⟨0,0⟩,⟨20000,0⟩]⟩∧B45 ⟨[⟨0,0⟩,⟨20000,0⟩]⟩≤60000;rw [e2];decide⟩
  ·exact ⟨_,rfl,rfl,rfl,by show 20000≤B45 ⟨[⟨0,0⟩,⟨20000,0⟩]⟩∧B45 ⟨[⟨0,0⟩,⟨20000,0⟩]⟩≤60000;rw [e2];decide⟩
theorem D2o {m:Map}{l:Lane}(hl:m.Lanes[0]? =some l)(hk:l.Kind=1){w:Work}(h:w.Lane_=0∧0≤w.From∧w.From≤w.To∧w.To≤B45 l.Curve_∧0≤w.Begin∧w.Begin<w.End∧w.End≤1099511627776∧0≤w.Limit∧w.Limit≤2000):workE m 0 w=none:=by
  obtain ⟨h1,h2,h3,h4,h5,h6,h7,h8,h9⟩:=h
  have hlen:=A4g hl
  unfold workE P9
  rw [h1,show ((0:Int).toNat)=0 from rfl,hl,if_neg (by omega),if_neg]
  simp only [Option.map_some,Option.getD_some,Option.get!_some,hk,inR,C34,if_true,Bool.or_eq_true,decide_eq_true_eq,Bool.not_eq_true',not_or,Bool.not_eq_false,Bool.and_eq_true]
  omega
/-- A map of the kit is valid, with such works. -/
theorem C7s {k:Nat}{p:Par}(hk:k<8)(h:ParOK p){W:List Work}(hw:W.length≤8)(hW: ∀w∈W,w.Lane_=0∧0≤w.From∧w.From≤w.To∧w.To≤P9 (C0u k p) 0∧0≤w.Begin∧w.Begin<w.End∧w.End≤1099511627776∧0≤w.Limit∧w.Limit≤2000):ValR ⟨p.ver,A6r k p.lim,A5f k p.r,B35 k p.o p.o',W⟩:=by
  have V:=D2n hk h
  obtain ⟨l,l1,l2,l3,l4,l5⟩:=B5r k p.lim
  have hv:=h.ver
  refine ValR.change (v:=0) (S:=B35 k 0 0) (W:= []) V (by omega) (C5m k _ _ _ _) (fun s hs=>C7r h.o h.o' (by exact C3e k p.lim) s hs) hw (fun w hwm=> ?_)
  obtain ⟨a1,a2,a3,a4,a5,a6,a7,a8,a9⟩:=hW w hwm
  refine D2o (l:=l) l1 l2 ⟨a1,a2,a3,?_,a5,a6,a7,a8,a9⟩
  have:P9 (C0u k p) 0=B45 l.Curve_:=by
    unfold P9 C0u
    dsimp only
    rw [show ((0:Int).toNat)=0 from rfl,l1];rfl
  omega
theorem C5n (k:Nat)(p:Par):20000≤P9 (C0u k p) 0∧P9 (C0u k p) 0≤60000:=by
  obtain ⟨l,l1,l2,l3,l4,l5⟩:=B5r k p.lim
  unfold P9 C0u
  dsimp only
  rw [show ((0:Int).toNat)=0 from rfl,l1]
  exact ⟨l4,l5⟩
theorem C9z {k:Nat}{p:Par}(hk:k<8)(h:ParOK p):ValR (C0u k p):=by
  have hl:=C5n k p
  refine C7s hk h (Nat.le_trans h.wk1 (by decide)) (fun w hw=> ?_)
  rcases h.wk with e|⟨b,l,h1,h2,h3,h4,e⟩
  ·rw [e]at hw;cases hw
  ·rw [e]at hw
   simp only [List.mem_singleton]at hw
   subst hw
   dsimp only
   omega
/-! ### Limits -/
end Go.Abs.Roads
namespace Go.Abs
theorem B5s {α β:Type}{g:Nat→α→Option β}{x:β}: ∀{l:List α} {i:Nat},x∈B0f g i l↔∃j a,l[j]? =some a∧g (i+j) a=some x
  | [],i=>by simp [B0f]
  |a::r,i=>by
   unfold B0f
   have ih:=B5s (g:=g) (x:=x) (l:=r) (i:=i+1)
   have sh:(∃j b,(a::r)[j]? =some b∧g (i+j) b=some x)↔g i a=some x∨∃j b,r[j]? =some b∧g (i+1+j) b=some x:=by
     constructor
     ·rintro ⟨j,b,h1,h2⟩
      cases j with
      |zero=>simp at h1;subst h1;exact .inl h2
      |succ j=>exact .inr ⟨j,b,by simpa using h1,by rwa [show i+1+j=i+ (j+1) by omega]⟩
     ·rintro (h|⟨j,b,h1,h2⟩)
      ·exact ⟨0,a,rfl,h⟩
      ·exact ⟨j+1,b,by simpa using h1,by rwa [show i+ (j+1)=i+1+j by omega]⟩
   rw [sh,← ih]
   cases h:g i a with
   |none=>simp
   |some b=>simp [eq_comm]
end Go.Abs
namespace Go.Abs.Roads
open Go Go.Abs
theorem mem_before {m:Map}{k x:Int}:x∈A20 m k↔∃(i:Nat) (l:Lane),m.Lanes[i]? =some l∧k∈l.Next∧x=(i:Int):=by
  unfold A20
  rw [B5s]
  refine exists_congr fun i=>exists_congr fun l=>and_congr_right fun _=> ?_
  rw [Nat.zero_add]
  by_cases h:l.Next.contains k=true
  ·rw [if_pos h]
   simp only [Option.some.injEq]
   exact ⟨fun e=>⟨by simpa using h,e.symm⟩,fun e=>e.2.symm⟩
  ·rw [if_neg h]
   simp only [reduceCtorEq,false_iff,not_and]
   intro hk
   exact absurd (by simpa using hk) h
theorem mem_origins {m:Map}{x:Int}:x∈Q6 m↔0≤x∧x<m.Lanes.length∧A20 m x= []:=by
  unfold Q6
  rw [B5s]
  constructor
  ·rintro ⟨i,l,h1,h2⟩
   have:=A4g h1
   split at h2
   ·rename_i h
    cases h2
    rw [Nat.zero_add]at h ⊢
    exact ⟨by omega,by omega,List.eq_nil_of_length_eq_zero h⟩
   ·cases h2
  ·rintro ⟨h0,h1,h2⟩
   have hlt:x.toNat<m.Lanes.length:=by omega
   refine ⟨x.toNat,m.Lanes[x.toNat],List.getElem?_eq_getElem hlt,?_⟩
   rw [Nat.zero_add,show ((x.toNat:Nat):Int)=x by omega,h2];rfl
theorem B9h {m:Map}(V:ValR m){p k:Int}(h:p∈A20 m k):0≤p∧p<k∧k<m.Lanes.length∧A9t m p.toNat k=true:=by
  obtain ⟨i,l,h1,h2,rfl⟩:=mem_before.1 h
  have hk:=V.next h1 h2
  refine ⟨by omega,hk.1,hk.2,?_⟩
  rw [B2c V,List.any_eq_true,Int.toNat_natCast]
  refine ⟨k,by unfold nextOf;rw [h1];exact h2,by simp⟩
/-- Each lane is a source, or a source leads to it. -/
theorem B9i {m:Map}(V:ValR m): ∀(n:Nat) (a:Int),0≤a→a<m.Lanes.length→a<n→∃s∈Q6 m,s=a∨A9t m s.toNat a=true
  |0,a,h0,h1,h2=>by omega
  |n+1,a,h0,h1,h2=>by
   cases hb:A20 m a with
   |nil=>exact ⟨a,mem_origins.2 ⟨h0,h1,hb⟩, .inl rfl⟩
   |cons p r=>
    obtain ⟨p0,p1,p2,p3⟩:=B9h V (show p∈A20 m a by rw [hb];simp)
    obtain ⟨s,s1,s2⟩:=B9i V n p p0 (by omega) (by omega)
    refine ⟨s,s1, .inr ?_⟩
    rcases s2 with rfl|s2
    ·exact p3
    ·have e:((p.toNat:Nat):Int)=p:=by omega
     exact B5o V (b:=p.toNat) p3 m.Lanes.length s.toNat (by omega) (by rw [e];exact s2)
end Go.Abs.Roads
namespace Go.Abs.Roads
open Go Go.Abs
/-! ### How long lanes are -/
theorem C8g: ∀(l:List Int) (s:Int),(∀x∈l,0≤x∧x≤1048576)→0≤s→s+1048576*l.length≤9000000000000000000→s≤C5c s l∧C5c s l≤s+1048576*l.length
  | [],s,_,_,_=>by simp [C5c]
  |a::r,s,h,h0,h1=>by
   have ha:=h a (by simp)
   simp only [List.length_cons]at h1 ⊢
   rw [C5c,G3 (by omega)]
   have:=C8g r (s+a) (fun x hx=>h x (by simp [hx])) (by omega) (by omega)
   omega
theorem C7t: ∀{l:List Spot} {last:Option CurveVector},Good last l→∀x∈C32 l,1000≤x∧x≤1048576:=by
  intro l last h
  induction h with
  |one last p=>intro x hx;simp [C32]at hx
  |cons last p q r h1 h2 h3 h4 h ih=>
   intro x hx
   rw [B2a,List.mem_cons]at hx
   rcases hx with rfl|hx
   ·exact ⟨h2,h3⟩
   ·exact ih x hx
theorem D00 {c:Curve}(h:A5d c.Pts=0):1000≤B45 c∧B45 c≤16777216:=by
  have V:=checkM_zero.1 h
  unfold B45 A9q
  rw [if_pos h]
  have h16:=V.most
  have h2:=V.two
  have hm:=C7t V.good
  cases hp:c.Pts with
  |nil=>rw [hp]at h2;simp at h2
  |cons p r=>
   rw [hp]at hm h16 h2
   cases r with
   |nil=>simp at h2
   |cons q r=>
    simp only [List.length_cons]at h16
    rw [B2a]at hm ⊢
    have ha:=hm _ (List.mem_cons_self)
    have hl:=A8s r q
    rw [C5c,G3 (by omega),Int.zero_add]
    have:=C8g (C32 (q::r)) (rt (A3h (vec p q) (vec p q))) (fun x hx=>by have:=hm x (List.mem_cons_of_mem _ hx);omega) (by omega) (by rw [hl];omega)
    rw [hl]at this
    omega
theorem ValR.long {m:Map}(V:ValR m){k:Int}(h0:0≤k)(h1:k<m.Lanes.length):1000≤P9 m k∧P9 m k≤16777216:=by
  obtain ⟨l,e1,e2⟩:=B5n h0 h1
  unfold P9
  rw [e1]
  exact D00 (V.laneOK e1).curve
/-! ### Routes -/
def A9u (m:Map):Int→List Int→Bool
  |_,[]=>true
  |a,b::r=>(nextOf m a.toNat).contains b&&A9u m b r
noncomputable def A6s (m:Map)(r:List Int):Int:=
  if C5z m≠0 then C5z m
  else match r with
    | []=>13
    |a::t=>if 7<t.length∨a<0∨(m.Lanes.length:Int)≤a∨A20 m a≠ []∨A9u m a t=false then 13 else 0
/-- What a route is. -/
structure RouteOK (m:Map)(a:Int)(t:List Int):Prop where
  val:ValR m
  most:t.length≤7
  first:0≤a∧a<m.Lanes.length
  source:A20 m a= []
  chain:A9u m a t=true
theorem chkRoute_zero {m:Map}{r:List Int}:A6s m r=0↔∃a t,r=a::t∧RouteOK m a t:=by
  unfold A6s
  constructor
  ·intro h
   split at h
   ·exact absurd h (by assumption)
   ·rename_i h1
    have V:=chkR_zero.1 (Decidable.not_not.1 h1)
    split at h
    ·cases h
    ·rename_i a t
     split at h
     ·cases h
     ·rename_i h2
      exact ⟨a,t,rfl,V,by omega,by omega,Decidable.not_not.1 fun q=>h2 (.inr (.inr (.inr (.inl q)))),by
        cases q:A9u m a t with
        |true=>rfl
        |false=>exact absurd (.inr (.inr (.inr (.inr q)))) h2⟩
  ·rintro ⟨a,t,rfl,V,h1,h2,h3,h4⟩
   rw [if_neg (by rw [chkR_zero.2 V];simp)]
   dsimp only
   rw [if_neg]
   rintro (q|q|q|q|q)
   ·omega
   ·omega
   ·omega
   ·exact q h3
   ·rw [h4]at q;cases q
theorem B9j {m:Map}(V:ValR m): ∀{t:List Int} {a:Int},A9u m a t=true→0≤a→∀x∈t,a<x∧x<m.Lanes.length
  | [],_,_,_,x,hx=>by cases hx
  |b::r,a,h,h0,x,hx=>by
   rw [A9u,Bool.and_eq_true,List.contains_iff_mem]at h
   have hb:=V.nextOf h.1
   rcases List.mem_cons.1 hx with rfl|hx
   ·omega
   ·have:=B9j V h.2 (by omega) x hx;omega
theorem RouteOK.mem {m:Map}{a:Int}{t:List Int}(R:RouteOK m a t){x:Int}(hx:x∈a::t):0≤x∧x<m.Lanes.length:=by
  have:=R.first
  rcases List.mem_cons.1 hx with rfl|hx
  ·exact this
  ·have:=B9j R.val R.chain (by omega) x hx;omega
theorem C3f {m:Map}(B:BearM m)(V:ValR m)(l:List Int)(hl:l.length≤1000000): ∀(r:List Int) (i:Nat) (a:Int),l.drop i=r→i≤l.length→0≤a→a<m.Lanes.length→loop (N5 m l) (a,(i:Int))=some (if A9u m a r=true then .inl ()else .inr 13):=by
  intro r
  induction r with
  |nil=>
   intro i a hi hil h0 h1
   have:=A3j hi
   obtain rfl:i=l.length:=by omega
   refine G1 ?_
   unfold N5
   rw [A39];rfl
  |cons b r ih=>
   intro i a hi hil h0 h1
   have hlt:=A29 hi
   have hb:=A8t hi
   obtain ⟨ln,e1,e2⟩:=B5n h0 h1
   have hs:N5 m l (a,(i:Int))=some (if ln.Next.contains b=true then .go (b,((i+1:Nat):Int))else .out (.inr 13)):=by
     unfold N5
     dsimp only
     rw [A5t hlt,N7 hb,cond_true,Option.bind_some,e2,Option.bind_some,B5q _ (B.toBear.pts _ (List.mem_of_getElem? e1)).2,Option.bind_some,A1p hlt (by omega)]
     cases ln.Next.contains b<;>rfl
   have hn:nextOf m a.toNat=ln.Next:=by unfold nextOf;rw [e1];rfl
   rw [A9u,hn]
   cases q:ln.Next.contains b
   ·rw [q]at hs;rw [G1 hs];rfl
   ·rw [q]at hs
    have hbm:=V.next e1 (List.contains_iff_mem.1 q)
    rw [Q4 hs,ih (i+1) b (A0k hi) (by omega) (by omega) (by omega),Bool.true_and]
theorem B7v {m:Map}(B:BearM m)(r:List Int)(hr:r.length≤1000000):X7 m r=some (A6s m r):=by
  unfold X7 A6s
  rw [A7j B,Option.bind_some]
  by_cases q:C5z m=0
  ·have V:=chkR_zero.1 q
   rw [if_neg (by simpa using q),show (C5z m !=0)=false by simpa using q,cond_false]
   cases r with
   |nil=>rfl
   |cons a t=>
    dsimp only
    simp only [List.length_cons]at hr ⊢
    by_cases h8:7<t.length
    ·rw [if_pos (.inl h8),show ((((t.length+1:Nat):Int)==0)||(decide (((t.length+1:Nat):Int)>8)))=true by simp;omega];rfl
    ·rw [show ((((t.length+1:Nat):Int)==0)||(decide (((t.length+1:Nat):Int)>8)))=false by simp;omega]
     rw [show F3 (a::t) 0=some a from rfl]
     simp only [Bool.not_false,cond_true,Option.bind_some,Bool.false_or]
     by_cases h0:a<0
     ·rw [if_pos (.inr (.inl h0)),decide_eq_true h0];rfl
     ·rw [decide_eq_false h0]
      simp only [Bool.not_false,cond_true,Option.bind_some,Bool.false_or]
      by_cases h1:(m.Lanes.length:Int)≤a
      ·rw [if_pos (.inr (.inr (.inl h1))),show decide (a≥(m.Lanes.length:Int))=true from decide_eq_true h1];rfl
      ·rw [show decide (a≥(m.Lanes.length:Int))=false from decide_eq_false (by omega)]
       simp only [Bool.not_false,cond_true,Bool.false_or]
       rw [Option.bind_some,C5j B,Option.bind_some]
       by_cases hb:A20 m a= []
       ·rw [hb]
        have e1:C3n (a::t) 1 ((t.length+1:Nat):Int)=some t:=by
          unfold C3n
          rw [if_pos (by simp;omega)]
          simp
        rw [e1,show decide ((([]:List Int).length:Int)>0)=false from rfl,cond_false,Option.bind_some]
        have:=C3f B V t (by omega) t 0 a rfl (by omega) (by omega) (by omega)
        rw [show ((0:Nat):Int)=0 from rfl]at this
        rw [this]
        by_cases hc:A9u m a t=true
        ·rw [if_pos hc,if_neg (by rw [hc];simp;omega)];rfl
        ·rw [if_neg hc,if_pos (.inr (.inr (.inr (.inr (by simpa using hc)))))];rfl
       ·rw [if_pos (.inr (.inr (.inr (.inl hb)))),show decide (((A20 m a).length:Int)>0)=true from decide_eq_true (by have:=List.length_pos_iff.2 hb;omega)];rfl
  ·rw [if_pos q,show (C5z m !=0)=true by simpa using q];rfl
/-- Where the lanes of a route begin. -/
noncomputable def A07 (m:Map):Int→List Int→List Int
  |_,[]=> []
  |s,a::r=>s::A07 m (s+P9 m a) r
noncomputable def A2w (m:Map):Int→List Int→Int
  |s,[]=>s
  |s,a::r=>A2w m (s+P9 m a) r
theorem B5t (m:Map): ∀(r:List Int) (s:Int),(A07 m s r).length=r.length
  | [],_=>rfl
  |_::r,_=>by rw [A07,List.length_cons,B5t m r,List.length_cons]
noncomputable def A21 (m:Map)(r:List Int):RoadsWay:=if A6s m r=0 then ⟨m,r,A07 m 0 r,A2w m 0 r⟩else ⟨⟨0,[],[],[],[]⟩,[],[],0⟩
theorem B2e {m:Map}(B:BearM m)(r:List Int)(hr:r.length≤1000000):Z7 m r=some (A21 m r):=by
  unfold Z7 A21
  rw [B7v B r hr,Option.bind_some]
  by_cases q:A6s m r=0
  ·rw [if_pos q,q]
   obtain ⟨a,t,rfl,R⟩:=chkRoute_zero.1 q
   have key: ∀(l:List Int) (i:Nat) (s:Int) (st:List Int),(a::t).drop i=l→i≤(a::t).length→0≤s→s≤16777216*i→st.length=i→loop (U1 m (a::t)) ((i:Int),⟨m,a::t,st,s⟩)=some ⟨m,a::t,st++A07 m s l,A2w m s l⟩:=by
     intro l
     induction l with
     |nil=>
      intro i s st hi hil _ _ _
      have:=A3j hi
      obtain rfl:i=(a::t).length:=by omega
      refine G1 ?_
      unfold U1
      rw [A39,A07,A2w,List.append_nil];rfl
     |cons x l ih=>
      intro i s st hi hil h0 h1 h2
      have hlt:=A29 hi
      have hx:=A8t hi
      have hm:=R.mem (List.mem_of_getElem? hx)
      have hl:=R.val.long hm.1 hm.2
      have hm7:=R.most
      simp only [List.length_cons]at hlt
      rw [Q4 (s':=(((i+1:Nat):Int),⟨m,a::t,st++ [s],s+P9 m x⟩))]
      ·rw [ih (i+1) _ _ (A0k hi) (by simp;omega) (by omega) (by omega) (by simp [h2]),A07,A2w,List.append_assoc];rfl
      ·unfold U1
       dsimp only
       rw [A5t (by simpa using hlt),N7 hx,cond_true,Option.bind_some,A95 (by simp;omega),Option.bind_some,B7u B.toBear hm.1 hm.2,Option.bind_some,A1p hlt (by omega),wid (by omega)]
   have:=key (a::t) 0 0 [] rfl (by omega) (by decide) (by decide) rfl
   rw [show ((0:Nat):Int)=0 from rfl]at this
   show (loop (U1 m (a::t)) (0,⟨m,a::t,[],0⟩)).bind (fun y1=>some y1)=_
   rw [this];rfl
  ·rw [if_neg q,show (A6s m r !=0)=true by simpa using q];rfl
end Go.Abs.Roads
namespace Go.Abs.Roads
open Go Go.Abs
/-- A walk that goes on until it can't. -/
def B9k (m:Map):Nat→Int→List Int→Bool
  |c,a,[]=>(nextOf m a.toNat).isEmpty||c==0
  |c,a,b::r=>(nextOf m a.toNat).contains b&&decide (0<c)&&B9k m (c - 1) b r
theorem B6y {m:Map}: ∀{r:List Int} {c:Nat} {a:Int},B9k m c a r=true→A9u m a r=true∧r.length≤c
  | [],c,a,_=>⟨rfl,Nat.zero_le _⟩
  |b::r,c,a,h=>by
   rw [B9k,Bool.and_eq_true,Bool.and_eq_true,decide_eq_true_eq]at h
   have:=B6y h.2
   rw [A9u,h.1.1,this.1]
   refine ⟨rfl,?_⟩
   simp only [List.length_cons];omega
theorem C20 {m:Map}(V:ValR m): ∀(f:Nat) (x a:Int) (c:Nat) (out:List Int),0≤x→x<16777216→0≤a→a<m.Lanes.length→m.Lanes.length≤a.toNat+f→out.length+c=8→
    ∃r,loop (A3t m) (x,a,out)=some (out++r)∧B9k m c a r=true
  |0,x,a,c,out,h0,h1,a0,a1,hf,hc=>by omega
  |f+1,x,a,c,out,h0,h1,a0,a1,hf,hc=>by
   obtain ⟨ln,e1,e2⟩:=B5n a0 a1
   have hn:nextOf m a.toNat=ln.Next:=by unfold nextOf;rw [e1];rfl
   have hfew:=(V.laneOK e1).few
   by_cases q:ln.Next.length=0∨c=0
   ·refine ⟨[],?_,?_⟩
    ·rw [List.append_nil]
     refine G1 ?_
     unfold A3t
     dsimp only
     rw [e2,Option.bind_some]
     rw [show ((decide ((ln.Next.length:Int)>0))&& (decide ((out.length:Int)<8)))=false by simp;omega];rfl
    ·rw [B9k,hn]
     rcases q with q|q
     ·rw [List.eq_nil_of_length_eq_zero q];rfl
     ·rw [q,beq_self_eq_true,Bool.or_true]
   ·have hm:=A3a x (show (0:Int)< (ln.Next.length:Int) by omega)
    have hlt:(x % (ln.Next.length:Int)).toNat<ln.Next.length:=by omega
    have hbm:=V.next e1 (List.getElem_mem hlt)
    have hx:0≤x / (ln.Next.length:Int)∧x / (ln.Next.length:Int)<16777216:=⟨Int.ediv_nonneg h0 (by omega),Int.lt_of_le_of_lt (Int.ediv_le_self _ h0) h1⟩
    obtain ⟨r,r1,r2⟩:=C20 V f (x / (ln.Next.length:Int)) ln.Next[(x % (ln.Next.length:Int)).toNat] (c - 1) (out++ [ln.Next[(x % (ln.Next.length:Int)).toNat]]) hx.1 hx.2 (by omega) (by omega) (by omega) (by simp;omega)
    refine ⟨ln.Next[(x % (ln.Next.length:Int)).toNat]::r,?_,?_⟩
    ·rw [List.append_assoc]at r1
     rw [Q4 (s':=(x / (ln.Next.length:Int),ln.Next[(x % (ln.Next.length:Int)).toNat],out++ [ln.Next[(x % (ln.Next.length:Int)).toNat]]))]
     ·exact r1
     ·unfold A3t
      dsimp only
      rw [e2,Option.bind_some]
      rw [show ((decide ((ln.Next.length:Int)>0))&& (decide ((out.length:Int)<8)))=true by simp;omega,cond_true,Option.bind_some,Option.bind_some]
      unfold C4q C9h
      rw [if_neg (by omega),Option.bind_some,Int.tmod_eq_emod_of_nonneg h0,Int.tdiv_eq_ediv_of_nonneg h0]
      have e3:F3 ln.Next (x % (ln.Next.length:Int))=some ln.Next[(x % (ln.Next.length:Int)).toNat]:=by
        unfold F3
        rw [if_pos hm.1,List.getElem?_eq_getElem hlt]
      rw [e3,Option.bind_some,if_neg (by omega),Option.bind_some,A95 (by simp;omega),Option.bind_some]
      have:IntKind.wrap .i64 (x / (ln.Next.length:Int))=x / (ln.Next.length:Int):=wid (by omega)
      rw [this]
    ·rw [B9k,hn,r2,Bool.and_true,Bool.and_eq_true]
     exact ⟨List.contains_iff_mem.2 (List.getElem_mem hlt),by simp;omega⟩
/-- A route of the kit: it begins at a source, and goes on until it can't. -/
theorem B9l {m:Map}(B:BearM m)(V:ValR m)(n:Int): ∃a t,A97 m n=some (a::t)∧a∈Q6 m∧B9k m 7 a t=true:=by
  unfold A97
  obtain ⟨s,s1,_⟩:=B9i V 1 0 (by decide) (by have:=V.pos;omega) (by decide)
  have h12:=V.lanes
  have ol:(Q6 m).length≤12:=Nat.le_trans (B9d _ _ _) h12
  have op:0< (Q6 m).length:=List.length_pos_iff.2 (fun e=>by rw [e]at s1;cases s1)
  rw [C0t B,Option.bind_some,show (((Q6 m).length:Int)==0)=false by simp only [beq_eq_false_iff_ne];omega,cond_false,B6x (by decide) (by decide),Option.bind_some]
  have c:=A3a n (show (0:Int)<1048576 by decide)
  generalize n % 1048576=x at c
  unfold C4q C9h
  rw [if_neg (by omega),Option.bind_some,Int.tmod_eq_emod_of_nonneg c.1,Int.tdiv_eq_ediv_of_nonneg c.1]
  have hm:=A3a x (show (0:Int)< ((Q6 m).length:Int) by omega)
  have hlt:(x % ((Q6 m).length:Int)).toNat< (Q6 m).length:=by omega
  have e3:F3 (Q6 m) (x % ((Q6 m).length:Int))=some (Q6 m)[(x % ((Q6 m).length:Int)).toNat]:=by
    unfold F3
    rw [if_pos hm.1,List.getElem?_eq_getElem hlt]
  have hx:0≤x / ((Q6 m).length:Int)∧x / ((Q6 m).length:Int)<16777216:=⟨Int.ediv_nonneg c.1 (by omega),by have:=Int.ediv_le_self ((Q6 m).length:Int) c.1;omega⟩
  rw [e3,Option.bind_some,if_neg (by omega),Option.bind_some]
  have:IntKind.wrap .i64 (x / ((Q6 m).length:Int))=x / ((Q6 m).length:Int):=wid (by omega)
  rw [this]
  have hmem:=List.getElem_mem hlt
  have ho:=mem_origins.1 hmem
  obtain ⟨r,r1,r2⟩:=C20 V m.Lanes.length (x / ((Q6 m).length:Int)) (Q6 m)[(x % ((Q6 m).length:Int)).toNat] 7 [(Q6 m)[(x % ((Q6 m).length:Int)).toNat]] hx.1 hx.2 ho.1 ho.2.1 (by omega) rfl
  exact ⟨_,r,by rw [r1];rfl,hmem,r2⟩
theorem C7u {m:Map}(V:ValR m){a:Int}{t:List Int}(ha:a∈Q6 m)(h:B9k m 7 a t=true):RouteOK m a t:=by
  have ho:=mem_origins.1 ha
  have hf:=B6y h
  exact ⟨V,hf.2,⟨ho.1,ho.2.1⟩,ho.2.2,hf.1⟩
end Go.Abs.Roads
/-! Lists that are sorted, and how an insertion sort makes them. -/
namespace Go.Abs
open Go
/-- What a comparison must satisfy. -/
structure LtOK {α:Type}(lt:α→α→Bool):Prop where
  asym: ∀a b,lt a b=true→lt b a=false
  trans: ∀a b c,lt b a=false→lt c b=false→lt c a=false
def Srt {α:Type}(lt:α→α→Bool)(l:List α):Prop:=l.Pairwise fun a b=>lt b a=false
section
variable {α:Type}
theorem A74 (U V:List α)(x y:α)(n:Int)(h:n=(U.length:Int)):B01 (U++x::V) n y=U++y::V:=by
  subst h
  simp [B01]
theorem A26 (U V:List α)(x:α)(n:Int)(h:n=(U.length:Int)):F3 (U++x::V) n=some x:=by
  subst h
  simp [F3]
theorem B6z {Q:List α}(h:Q≠ []): ∃Q' q,Q=Q'++ [q]:=⟨Q.dropLast,Q.getLast h,(List.dropLast_concat_getLast h).symm⟩
variable {lt:α→α→Bool}
theorem Srt.ins (L:LtOK lt){Q1 Q2:List α}{x:α}(h:Srt lt (Q1++Q2))(h1: ∀q∈Q1,lt x q=false)(h2: ∀q∈Q2,lt x q=true):Srt lt (Q1++x::Q2):=by
  unfold Srt at h ⊢
  rw [List.pairwise_append]at h ⊢
  refine ⟨h.1,List.pairwise_cons.2 ⟨fun b hb=>L.asym _ _ (h2 b hb),h.2.1⟩,fun a ha b hb=> ?_⟩
  rcases List.mem_cons.1 hb with rfl|hb
  ·exact h1 a ha
  ·exact h.2.2 a ha b hb
theorem LtOK.irr (L:LtOK lt)(a:α):lt a a=false:=by
  cases h:lt a a with
  |false=>rfl
  |true=>rw [L.asym a a h]at h;cases h
theorem Srt.get (L:LtOK lt){l:List α}(h:Srt lt l){i j:Nat}(hij:i≤j)(hj:j<l.length):lt l[j] l[i]=false:=by
  rcases Nat.lt_or_eq_of_le hij with h1|h1
  ·exact List.pairwise_iff_getElem.1 h i j (by omega) hj h1
  ·subst h1;exact L.irr _
theorem Srt.app {l m:List α}(h1:Srt lt l)(h2:Srt lt m)(h: ∀a∈l,∀b∈m,lt b a=false):Srt lt (l++m):=List.pairwise_append.2 ⟨h1,h2,h⟩
theorem Srt.left {l m:List α}(h:Srt lt (l++m)):Srt lt l:=(List.pairwise_append.1 h).1
theorem Srt.right {l m:List α}(h:Srt lt (l++m)):Srt lt m:=(List.pairwise_append.1 h).2.1
theorem Srt.cross {l m:List α}(h:Srt lt (l++m)): ∀a∈l,∀b∈m,lt b a=false:=(List.pairwise_append.1 h).2.2
/-- The first place from which a test fails. -/
theorem C0x {F:Int×Int→Option (Stp (Int×Int) Int)}(Q:Nat→Bool)(lo hi:Nat)(hle:lo≤hi)
    (hF: ∀x y:Nat,lo≤x→x<y→y≤hi→F ((x:Int),(y:Int))=some (if Q ((x+y) / 2)then .go ((((x+y) / 2+1:Nat):Int),(y:Int))else .go ((x:Int),(((x+y) / 2:Nat):Int))))
    (hstop: ∀x y:Nat,¬x<y→F ((x:Int),(y:Int))=some (.out (x:Int)))
    (mono: ∀c c',lo≤c→c≤c'→c'<hi→Q c'=true→Q c=true):
    ∃s:Nat,loop F ((lo:Int),(hi:Int))=some (s:Int)∧lo≤s∧s≤hi∧(∀c,lo≤c→c<s→Q c=true)∧∀c,s≤c→c<hi→Q c=false:=by
  have key: ∀(k x y:Nat),y - x≤k→lo≤x→x≤y→y≤hi→(∀c,lo≤c→c<x→Q c=true)→(∀c,y≤c→c<hi→Q c=false)→
   ∃s:Nat,loop F ((x:Int),(y:Int))=some (s:Int)∧lo≤s∧s≤hi∧(∀c,lo≤c→c<s→Q c=true)∧∀c,s≤c→c<hi→Q c=false:=by
    intro k
    induction k with
    |zero=>
     intro x y hk h1 h2 h3 h4 h5
     obtain rfl:x=y:=by omega
     exact ⟨x,G1 (hstop x x (by omega)),h1,h3,h4,h5⟩
    |succ k ih=>
     intro x y hk h1 h2 h3 h4 h5
     by_cases hxy:x<y
     ·have hf:=hF x y h1 hxy h3
      cases hq:Q ((x+y) / 2)with
      |true=>
       rw [hq,if_pos rfl]at hf
       obtain ⟨s,g1,g2⟩:=ih ((x+y) / 2+1) y (by omega) (by omega) (by omega) h3 (fun c hc1 hc2=>mono c ((x+y) / 2) hc1 (by omega) (by omega) hq) h5
       exact ⟨s,by rw [Q4 hf];exact g1,g2⟩
      |false=>
       rw [hq,if_neg (by simp)]at hf
       obtain ⟨s,g1,g2⟩:=ih x ((x+y) / 2) (by omega) h1 (by omega) (by omega) h4 (fun c hc1 hc2=>by
         cases hc:Q c with
         |false=>rfl
         |true=>rw [mono ((x+y) / 2) c (by omega) hc1 hc2 hc]at hq;cases hq)
       exact ⟨s,by rw [Q4 hf];exact g1,g2⟩
     ·obtain rfl:x=y:=by omega
      exact ⟨x,G1 (hstop x x (by omega)),h1,h3,h4,h5⟩
  exact key (hi - lo) lo hi (Nat.le_refl _) (Nat.le_refl _) hle (Nat.le_refl _) (fun c h1 h2=>absurd h2 (by omega)) (fun c h1 h2=>absurd h2 (by omega))
/-- The inner loop: an element goes down to its place. -/
theorem C5o (L:LtOK lt){F:Int×List α→Option (Stp (Int×List α) (List α))}{P T:List α}(N:Nat)
    (hstop: ∀xs,F ((P.length:Int),xs)=some (.out xs))
    (hF: ∀(U V:List α) (q x:α),P.length≤U.length→(U++q::x::V).length=N→F (((U.length:Int)+1),U++q::x::V)=some (if lt x q then .go ((U.length:Int),U++x::q::V)else .out (U++q::x::V))) (x:α):
    ∀(n:Nat) (Q1 Q2:List α),Q1.length=n→Srt lt (Q1++Q2)→(∀q∈Q2,lt x q=true)→(P++Q1++x::Q2++T).length=N→
     ∃Q,loop F (((P.length+Q1.length:Nat):Int),P++Q1++x::Q2++T)=some (P++Q++T)∧Q.Perm (x::(Q1++Q2))∧Srt lt Q:=by
  intro n
  induction n with
  |zero=>
   intro Q1 Q2 hn hs hg hN
   obtain rfl:=List.length_eq_zero_iff.1 hn
   refine ⟨x::Q2,?_,by simp,?_⟩
   ·rw [G1 (by rw [List.length_nil,Nat.add_zero];exact hstop _)]
    simp
   ·exact hs.ins L (by simp) hg
  |succ n ih=>
   intro Q1 Q2 hn hs hg hN
   obtain ⟨Q',q,rfl⟩:=B6z (Q:=Q1) (by rintro rfl;simp at hn)
   rw [List.length_append,List.length_singleton]at hn
   have e1:P++ (Q'++ [q])++x::Q2++T=(P++Q')++q::x::(Q2++T):=by simp
   have e2:((P.length+ (Q'++ [q]).length:Nat):Int)=((P++Q').length:Int)+1:=by simp;omega
   have hF1:=hF (P++Q') (Q2++T) q x (by simp) (by rw [← e1];exact hN)
   by_cases hl:lt x q=true
   ·rw [if_pos hl]at hF1
    obtain ⟨Q,g1,g2,g3⟩:=ih Q' (q::Q2) (by omega) (by simpa using hs) (fun y hy=>by
      rcases List.mem_cons.1 hy with rfl|hy
      ·exact hl
      ·exact hg y hy) (by rw [← hN];simp)
    refine ⟨Q,?_,g2.trans (by simp),g3⟩
    rw [e1,e2,Q4 hF1,← g1]
    congr 1
    simp
   ·rw [if_neg hl]at hF1
    have hl':lt x q=false:=by simpa using hl
    refine ⟨Q'++ [q]++x::Q2,?_,?_,hs.ins L (fun y hy=> ?_) hg⟩
    ·rw [e1,e2,G1 hF1];simp
    ·have:=List.perm_middle (a:=x) (l₁:=Q'++ [q]) (l₂:=Q2);exact this
    ·rcases List.mem_append.1 hy with h|h
     ·have hq:lt q y=false:=by
        unfold Srt at hs
        rw [List.append_assoc,List.pairwise_append]at hs
        exact hs.2.2 y h q (by simp)
      exact L.trans y q x hq hl'
     ·rw [List.mem_singleton.1 h];exact hl'
/-- The outer loop. -/
theorem C5p {F:Int×List α→Option (Stp (Int×List α) (List α))}{P S:List α}(N:Nat)(b:Nat)
    (hend: ∀xs (i:Nat),b≤i→F ((i:Int),xs)=some (.out xs))
    (hF: ∀(Q R:List α) (x:α),(P++Q++x::R++S).length=N→P.length+Q.length<b→Srt lt Q→∃Q',F (((P.length+Q.length:Nat):Int),P++Q++x::R++S)=some (.go (((P.length+Q.length+1:Nat):Int),P++Q'++R++S))∧Q'.Perm (x::Q)∧Srt lt Q'):
    ∀(R Q:List α),(P++Q++R++S).length=N→P.length+Q.length+R.length=b→Srt lt Q→∃Q',loop F (((P.length+Q.length:Nat):Int),P++Q++R++S)=some (P++Q'++S)∧Q'.Perm (Q++R)∧Srt lt Q':=by
  intro R
  induction R with
  |nil=>
   intro Q hN hb hs
   refine ⟨Q,?_,by simp,hs⟩
   rw [G1 (hend _ _ (by simpa using Nat.le_of_eq hb.symm))]
   simp
  |cons x R ih=>
   intro Q hN hb hs
   rw [List.length_cons]at hb
   obtain ⟨Q',g1,g2,g3⟩:=hF Q R x hN (by omega) hs
   have hl:Q'.length=Q.length+1:=by rw [g2.length_eq];simp
   obtain ⟨Q2,k1,k2,k3⟩:=ih Q' (by rw [← hN];simp [hl];omega) (by omega) g3
   refine ⟨Q2,?_,k2.trans ((g2.append_right R).trans ?_),k3⟩
   ·rw [Q4 g1,← k1,hl]
    congr 1
   ·exact (List.perm_middle (a:=x) (l₁:=Q) (l₂:=R)).symm
end
end Go.Abs
/-! How the lists are sorted. -/
namespace Go.Abs.Roads
open Go Go.Abs
theorem D01 {α:Type}(U V:List α)(q x:α):U++q::x::V=(U++ [q])++x::V:=by simp
end Go.Abs.Roads
/-! Signals, and the red lines. -/
namespace Go.Abs.Roads
open Go Go.Abs
structure SigOK (s:Signal):Prop where
  pos:0<s.Phases.length
  many:s.Phases.length≤6
  off:0≤s.Offset∧s.Offset≤1099511627776
  ticks: ∀p∈s.Phases,1≤p.Ticks∧p.Ticks≤10000
  green: ∀p∈s.Phases,p.Green.length≤1000000
theorem ValR.sig {m:Map}(B:BearM m)(V:ValR m){i:Nat}{s:Signal}(h:m.Signals[i]? =some s):SigOK s:=by
  have:=firstE_none.1 V.signalE i s h
  unfold Roads.signalE at this
  split at this
  ·cases this
  split at this
  ·cases this
  split at this
  ·cases this
  split at this
  ·cases this
  rename_i h1 h2 h3 h4
  refine ⟨by omega,by omega,?_,fun p hp=> ?_,(B.toBearS.phases s (List.mem_of_getElem? h)).2⟩
  ·have:inR s.Offset 0 1099511627776=true:=by simpa using h3
   simpa [inR] using this
  ·have:inR p.Ticks 1 10000=true:=by
     cases q:inR p.Ticks 1 10000 with
     |true=>rfl
     |false=>exact absurd (List.any_eq_true.2 ⟨p,hp,by rw [q];rfl⟩) h4
   simpa [inR] using this
def D02:List Phase→Int
  | []=>0
  |p::r=>p.Ticks+D02 r
theorem C5q: ∀{l:List Phase},(∀p∈l,1≤p.Ticks∧p.Ticks≤10000)→(l.length:Int)≤D02 l∧D02 l≤10000*l.length
  | [],_=>by simp [D02]
  |p::r,h=>by
   have:=C5q (l:=r) fun q hq=>h q (List.mem_cons_of_mem _ hq)
   have:=h p (by simp)
   simp only [D02,List.length_cons]
   omega
theorem SigOK.sum {s:Signal}(S:SigOK s):1≤D02 s.Phases∧D02 s.Phases≤60000:=by
  have:=C5q S.ticks
  have:=S.pos
  have:=S.many
  omega
end Go.Abs.Roads
/-! The red lines. -/
namespace Go.Abs.Roads
open Go Go.Abs
theorem B36 {high:Int}: ∀{l:List Int} {low:Int},A7i high low l=true→l.Pairwise (· < ·)
  | [],_,_=>List.Pairwise.nil
  |n::r,low,h=>by
   simp only [A7i,Bool.and_eq_true]at h
   refine List.pairwise_cons.2 ⟨fun x hx=> ?_,B36 h.2⟩
   have:=(A6q h.2 x hx).1
   omega
end Go.Abs.Roads
/-! How the passes are sorted. -/
namespace Go.Abs.Roads
open Go Go.Abs
def C8h (x y:Int):Int:=if x<y then -1 else if x>y then 1 else 0
def D24 (a b:Pass):Int:=if C8h a.From b.From≠0 then C8h a.From b.From else C8h a.Zone_ b.Zone_
def ltP (a b:Pass):Bool:=decide (a.From<b.From∨a.From=b.From∧a.Zone_<b.Zone_)
theorem ltP_ok:LtOK ltP:=⟨fun a b h=>by simp only [ltP,decide_eq_true_eq,decide_eq_false_iff_not]at h ⊢;omega,fun a b c h1 h2=>by simp only [ltP,decide_eq_false_iff_not]at h1 h2 ⊢;omega⟩
theorem B7w (a b:Pass):decide (D24 a b<0)=ltP a b:=by
  unfold D24 ltP C8h
  rw [decide_eq_decide]
  split<;>(repeat' split)<;>omega
theorem D2p (x y:Int):A7u [x,y]=some (if x≠0 then x else y):=by
  have f0:A0o [x,y] 0=some (if x≠0 then .out (.inr x)else .go 1):=by
    by_cases h:x=0
    ·subst h;rfl
    ·have hb:(x !=0)=true:=by simp [h]
     unfold A0o
     simp [F3,h,hb]
  have f1:A0o [x,y] 1=some (if y≠0 then .out (.inr y)else .go 2):=by
    by_cases h:y=0
    ·subst h;rfl
    ·have hb:(y !=0)=true:=by simp [h]
     unfold A0o
     simp [F3,h,hb]
  have f2:A0o [x,y] 2=some (.out (.inl ())):=rfl
  unfold A7u
  by_cases hx:x=0
  ·by_cases hy:y=0
   ·rw [Q4 (by rw [f0,if_neg (by simp [hx])]),Q4 (by rw [f1,if_neg (by simp [hy])]),G1 f2]
    subst hx hy;rfl
   ·rw [Q4 (by rw [f0,if_neg (by simp [hx])]),G1 (by rw [f1,if_pos hy]),if_neg (by simp [hx])];rfl
  ·rw [G1 (by rw [f0,if_pos hx]),if_pos hx];rfl
theorem B9m (a b:Int):A16 a b=some (C8h a b):=by
  have h: ∀x:Int,A15 x=some false:=fun x=>by unfold A15;simp
  unfold A16 C8h
  rw [h,h]
  simp only [Option.bind_some,cond_false,C4x]
  split<;>(repeat' split)<;>rfl
theorem C3g (a b:Int):A2e a b=some (C8h a b):=by
  have h: ∀x:Int,A2z x=some false:=fun x=>by unfold A2z;simp
  unfold A2e C8h
  rw [h,h]
  simp only [Option.bind_some,cond_false,C4x]
  split<;>(repeat' split)<;>rfl
theorem B7x (a b:Pass):Z8 a b=some (D24 a b):=by
  unfold Z8 D24
  rw [B9m,Option.bind_some,C3g,Option.bind_some,D2p];rfl
theorem C3h (P T:List Pass)(x:Pass)(Q:List Pass)(hs:Srt ltP Q)(hN:(P++Q++x::T).length≤1000000):
    ∃Q',loop (B4 (P.length:Int)) (((P.length+Q.length:Nat):Int),P++Q++x::T)=some (P++Q'++T)∧Q'.Perm (x::Q)∧Srt ltP Q':=by
  have hstop: ∀xs,B4 (P.length:Int) ((P.length:Int),xs)=some (.out xs):=fun xs=>by
    unfold B4
    simp only [show decide ((P.length:Int)>(P.length:Int))=false from decide_eq_false (by omega),cond_false,Bool.false_and,Option.bind_some]
  have hF: ∀(U V:List Pass) (q y:Pass),P.length≤U.length→(U++q::y::V).length=(P++Q++x::T).length→B4 (P.length:Int) (((U.length:Int)+1),U++q::y::V)=some (if ltP y q then .go ((U.length:Int),U++y::q::V)else .out (U++q::y::V)):=fun U V q y hP hl=>by
    unfold B4
    have hb:U.length+2≤1000000:=by rw [← hl]at hN;simp at hN;omega
    have e1:w64 ((U.length:Int)+1 - 1)=(U.length:Int):=by rw [G3 (by omega)];omega
    have g1:F3 (U++q::y::V) ((U.length:Int)+1)=some y:=by rw [D01];exact A26 _ _ _ _ (by simp)
    have g2:F3 (U++q::y::V) (U.length:Int)=some q:=A26 _ _ _ _ rfl
    have s1:B01 (U++q::y::V) ((U.length:Int)+1) q=U++q::q::V:=by rw [D01,A74 _ _ _ _ _ (by simp)];simp
    have g3:F3 (U++q::q::V) (U.length:Int)=some q:=A26 _ _ _ _ rfl
    have s2:B01 (U++q::q::V) (U.length:Int) y=U++y::q::V:=A74 _ _ _ _ _ rfl
    simp only [show decide (((U.length:Int)+1)>(P.length:Int))=true from decide_eq_true (by omega),cond_true,Bool.true_and,e1,g1,g2,s1,g3,s2,Option.bind_some,B7x,B7w]
    cases ltP y q<;>rfl
  obtain ⟨Q',h1,h2,h3⟩:=C5o ltP_ok (P:=P) (T:=T) (P++Q++x::T).length hstop hF x Q.length Q [] rfl (by simpa using hs) (by simp) (by simp)
  refine ⟨Q',?_,by simpa using h2,h3⟩
  rw [← h1];congr 1;simp
theorem C0y (P A S:List Pass)(hN:(P++A++S).length≤1000000):
    ∃A',B8 (P++A++S) (P.length:Int) ((P.length+A.length:Nat):Int)=some (P++A'++S)∧A'.Perm A∧Srt ltP A':=by
  unfold B8
  have hend: ∀(xs:List Pass) (i:Nat),P.length+A.length≤i→C3 (P.length:Int) ((P.length+A.length:Nat):Int) ((i:Int),xs)=some (.out xs):=fun xs i hi=>by
    unfold C3
    rw [show decide ((i:Int)< ((P.length+A.length:Nat):Int))=false from decide_eq_false (by omega)];rfl
  simp only [List.length_append]at hN
  have hw:w64 ((P.length:Int)+1)=((P.length+1:Nat):Int):=by rw [G3 (by omega)];omega
  cases A with
  |nil=>
   refine ⟨[],?_,by simp,List.Pairwise.nil⟩
   rw [hw,G1 (hend _ _ (by simp))]
  |cons a A=>
   have hF: ∀(Q R:List Pass) (x:Pass),(P++Q++x::R++S).length=(P++a::A++S).length→P.length+Q.length<P.length+ (a::A).length→Srt ltP Q→∃Q',C3 (P.length:Int) ((P.length+ (a::A).length:Nat):Int) (((P.length+Q.length:Nat):Int),P++Q++x::R++S)=some (.go (((P.length+Q.length+1:Nat):Int),P++Q'++R++S))∧Q'.Perm (x::Q)∧Srt ltP Q':=fun Q R x hl hb hs=>by
     obtain ⟨Q',k1,k2,k3⟩:=C3h P (R++S) x Q hs (by simp only [List.length_append,List.length_cons]at hl hN ⊢;omega)
     refine ⟨Q',?_,k2,k3⟩
     unfold C3
     have e1:P++Q++x::R++S=P++Q++x::(R++S):=by simp
     rw [show decide (((P.length+Q.length:Nat):Int)< ((P.length+ (a::A).length:Nat):Int))=true from decide_eq_true (by omega),cond_true]
     simp only [e1,k1,Option.bind_some]
     rw [G3 (by simp only [List.length_cons]at hN hb;omega)]
     simp
   obtain ⟨A',h1,h2,h3⟩:=C5p (lt:=ltP) (P:=P) (S:=S) (P++a::A++S).length (P.length+ (a::A).length) hend hF A [a] (by simp) (by simp;omega) (List.pairwise_singleton _ _)
   refine ⟨A',?_,h2,h3⟩
   rw [hw,← h1];congr 1;simp
theorem C3i (U M V:List Pass)(n:Nat)(hN:(U.length+M.length+V.length+n+n)≤1000000):
    ∀(X2 Y2 X1 Y1:List Pass),X2.length=Y2.length→X1.length=Y1.length→X1.length+X2.length=n→
     loop (D0 (U.length:Int) ((U.length+n+M.length:Nat):Int) (n:Int)) ((X1.length:Int),U++Y1++X2++M++X1++Y2++V)=some (U++ (Y1++Y2)++M++ (X1++X2)++V):=by
  intro X2
  induction X2 with
  |nil=>
   intro Y2 X1 Y1 h2 h1 hn
   obtain rfl:=List.length_eq_zero_iff.1 (show Y2.length=0 by rw [← h2];rfl)
   simp only [List.length_nil,Nat.add_zero]at hn
   refine G1 ?_
   unfold D0
   rw [show decide ((X1.length:Int)< (n:Int))=false from decide_eq_false (by omega),cond_false]
   simp
  |cons x X2 ih=>
   intro Y2 X1 Y1 h2 h1 hn
   cases Y2 with
   |nil=>simp at h2
   |cons y Y2=>
    simp only [List.length_cons]at h2 hn
    have hstep:D0 (U.length:Int) ((U.length+n+M.length:Nat):Int) (n:Int) ((X1.length:Int),U++Y1++x::X2++M++X1++y::Y2++V)=some (.go (((X1++ [x]).length:Int),U++ (Y1++ [y])++X2++M++ (X1++ [x])++Y2++V)):=by
      unfold D0
      have ea:w64 ((U.length:Int)+ (X1.length:Int))=((U++Y1).length:Int):=by rw [G3 (by omega),List.length_append];omega
      have eb:w64 (((U.length+n+M.length:Nat):Int)+ (X1.length:Int))=((U++Y1++x::X2++M++X1).length:Int):=by rw [G3 (by omega)];simp only [List.length_append,List.length_cons];omega
      have g1:F3 (U++Y1++x::X2++M++X1++y::Y2++V) ((U++Y1++x::X2++M++X1).length:Int)=some y:=by
        have:=A26 (U++Y1++x::X2++M++X1) (Y2++V) y _ rfl
        rw [← this];congr 1;simp
      have g2:F3 (U++Y1++x::X2++M++X1++y::Y2++V) ((U++Y1).length:Int)=some x:=by
        have:=A26 (U++Y1) (X2++M++X1++y::Y2++V) x _ rfl
        rw [← this];congr 1;simp
      have s1:B01 (U++Y1++x::X2++M++X1++y::Y2++V) ((U++Y1).length:Int) y=U++Y1++y::X2++M++X1++y::Y2++V:=by
        have:=A74 (U++Y1) (X2++M++X1++y::Y2++V) x y _ rfl
        rw [show U++Y1++x::X2++M++X1++y::Y2++V=U++Y1++x::(X2++M++X1++y::Y2++V) by simp,this];simp
      have el:((U++Y1++x::X2++M++X1).length:Int)=((U++Y1++y::X2++M++X1).length:Int):=by simp
      have g3:F3 (U++Y1++y::X2++M++X1++y::Y2++V) ((U++Y1++x::X2++M++X1).length:Int)=some y:=by
        rw [el]
        have:=A26 (U++Y1++y::X2++M++X1) (Y2++V) y _ rfl
        rw [← this];congr 1;simp
      have s2:B01 (U++Y1++y::X2++M++X1++y::Y2++V) ((U++Y1++x::X2++M++X1).length:Int) x=U++Y1++y::X2++M++X1++x::Y2++V:=by
        rw [el]
        have:=A74 (U++Y1++y::X2++M++X1) (Y2++V) y x _ rfl
        rw [show U++Y1++y::X2++M++X1++y::Y2++V=U++Y1++y::X2++M++X1++y::(Y2++V) by simp,this];simp
      simp only [show decide ((X1.length:Int)< (n:Int))=true from decide_eq_true (by omega),cond_true,ea,eb,g1,g2,Option.bind_some,s1,g3,s2]
      rw [G3 (by omega)]
      simp
    have:=ih Y2 (X1++ [x]) (Y1++ [y]) (by omega) (by simp [h1]) (by simp;omega)
    rw [Q4 hstep,this]
    simp
theorem B7y (U X M Y V:List Pass)(hl:X.length=Y.length)(hN:(U.length+M.length+V.length+X.length+X.length)≤1000000):
    C4 (U++X++M++Y++V) (U.length:Int) ((U.length+X.length+M.length:Nat):Int) (X.length:Int)=some (U++Y++M++X++V):=by
  unfold C4
  have:=C3i U M V X.length hN X Y [] [] hl rfl (by simp)
  simpa using this
theorem C7v (U0 X0 Y0 V0:List Pass)(m:Nat)(hN:(U0++Y0++X0++V0).length≤1000000):
    ∀(k:Nat) (U X Y V:List Pass),X.length+Y.length≤k→0<X.length→0<Y.length→U.length+X.length=m→U++Y++X++V=U0++Y0++X0++V0→
     ∃i W,loop (D3 (m:Int)) ((X.length:Int),(Y.length:Int),U++X++Y++V)=some (i,W)∧C4 W (w64 ((m:Int) - i)) (m:Int) i=some (U0++Y0++X0++V0):=by
  intro k
  induction k with
  |zero=>intro U X Y V h1 h2;omega
  |succ k ih=>
   intro U X Y V hk hx hy hm he
   have hlen:U.length+Y.length+X.length+V.length≤1000000:=by
     rw [← he]at hN;simpa [Nat.add_assoc] using hN
   rcases Nat.lt_trichotomy X.length Y.length with hlt|heq|hgt
   ·-- the second part is longer
    obtain ⟨Ya,Yb,rfl,hYb⟩: ∃Ya Yb,Y=Ya++Yb∧Yb.length=X.length:=⟨Y.take (Y.length - X.length),Y.drop (Y.length - X.length),(List.take_append_drop _ _).symm,by rw [List.length_drop];omega⟩
    rw [List.length_append]at hlt hk hlen
    obtain ⟨i,W,h1,h2⟩:=ih U Yb Ya (X++V) (by omega) (by omega) (by omega) (by omega) (by rw [← he];simp)
    refine ⟨i,W,?_,h2⟩
    rw [← h1,hYb]
    refine Q4 ?_
    unfold D3
    have hne:((X.length:Int) !=((Ya++Yb).length:Int))=true:=by rw [List.length_append];simp;omega
    have e1:w64 ((m:Int) - (X.length:Int))=(U.length:Int):=by rw [G3 (by omega)];omega
    have e2:w64 (w64 ((m:Int)+ ((Ya++Yb).length:Int)) - (X.length:Int))=((U.length+X.length+Ya.length:Nat):Int):=by rw [List.length_append,G3 (n:=(m:Int)+_) (by omega),G3 (by omega)];omega
    have e3:w64 (((Ya++Yb).length:Int) - (X.length:Int))=(Ya.length:Int):=by rw [List.length_append,G3 (by omega)];omega
    have hs:=B7y U X Ya Yb V hYb.symm (by omega)
    rw [show U++X++Ya++Yb++V=U++X++ (Ya++Yb)++V by simp]at hs
    simp only [hne,cond_true,show decide ((X.length:Int)>((Ya++Yb).length:Int))=false from decide_eq_false (by rw [List.length_append];omega),cond_false,e1,e2,e3,hs,Option.bind_some]
    simp
   ·refine ⟨_,_,G1 (t:=((X.length:Int),U++X++Y++V)) ?_,?_⟩
    ·unfold D3
     rw [show ((X.length:Int) !=(Y.length:Int))=false by rw [heq];simp];rfl
    ·have e1:w64 ((m:Int) - (X.length:Int))=(U.length:Int):=by rw [G3 (by omega)];omega
     have hs:=B7y U X [] Y V heq (by simp;omega)
     simp only [List.append_nil,List.length_nil,Nat.add_zero]at hs
     rw [e1,← hm,hs,← he]
   ·obtain ⟨Xa,Xb,rfl,hXa⟩: ∃Xa Xb,X=Xa++Xb∧Xa.length=Y.length:=⟨X.take Y.length,X.drop Y.length,(List.take_append_drop _ _).symm,by rw [List.length_take];omega⟩
    rw [List.length_append]at hgt hk hlen hm
    obtain ⟨i,W,h1,h2⟩:=ih (U++Y) Xb Xa V (by omega) (by omega) (by omega) (by rw [List.length_append];omega) (by rw [← he];simp)
    refine ⟨i,W,?_,h2⟩
    rw [← h1,hXa]
    refine Q4 ?_
    unfold D3
    have hne:(((Xa++Xb).length:Int) !=(Y.length:Int))=true:=by rw [List.length_append];simp;omega
    have e1:w64 ((m:Int) - ((Xa++Xb).length:Int))=(U.length:Int):=by rw [List.length_append,G3 (by omega)];omega
    have e3:w64 (((Xa++Xb).length:Int) - (Y.length:Int))=(Xb.length:Int):=by rw [List.length_append,G3 (by omega)];omega
    have hs:=B7y U Xa Xb Y V hXa (by omega)
    rw [show U++Xa++Xb++Y++V=U++ (Xa++Xb)++Y++V by simp,hXa,show U.length+Y.length+Xb.length=m by omega]at hs
    simp only [hne,cond_true,show decide (((Xa++Xb).length:Int)>(Y.length:Int))=true from decide_eq_true (by rw [List.length_append];omega),e1,e3,hs,Option.bind_some]
theorem D1s (U X Y V:List Pass)(hx:0<X.length)(hy:0<Y.length)(hN:(U++X++Y++V).length≤1000000):
    E9 (U++X++Y++V) (U.length:Int) ((U.length+X.length:Nat):Int) ((U.length+X.length+Y.length:Nat):Int)=some (U++Y++X++V):=by
  have hlen:U.length+X.length+Y.length+V.length≤1000000:=by simp only [List.length_append]at hN;omega
  obtain ⟨i,W,h1,h2⟩:=C7v U X Y V (U.length+X.length) (by simp;omega) (X.length+Y.length) U X Y V (Nat.le_refl _) hx hy rfl rfl
  unfold E9
  rw [G3 (n:=((U.length+X.length:Nat):Int) - _) (by omega),G3 (n:=((U.length+X.length+Y.length:Nat):Int) - _) (by omega),show ((U.length+X.length:Nat):Int) - (U.length:Int)=(X.length:Int) by omega,show ((U.length+X.length+Y.length:Nat):Int) - ((U.length+X.length:Nat):Int)=(Y.length:Int) by omega,h1,Option.bind_some]
  simp only [h2,Option.bind_some]
end Go.Abs.Roads
/-! The merge in place. -/
namespace Go.Abs.Roads
open Go Go.Abs
theorem B5u (x y:Nat)(h:x+y≤4000000):w64 ((IntKind.wrap .u64 (w64 ((x:Int)+ (y:Int)))).fdiv (2^ (min (1:Int).toNat (IntKind.bits .u64))))=(((x+y) / 2:Nat):Int):=by
  rw [G3 (n:=(x:Int)+ (y:Int)) (by omega)]
  have e:IntKind.wrap .u64 ((x:Int)+ (y:Int))=(x:Int)+ (y:Int):=by
    unfold IntKind.wrap
    simp only [IntKind.signed,IntKind.bits,Bool.false_and,Bool.false_eq_true,if_false]
    omega
  rw [e,show (2:Int)^ (min (1:Int).toNat (IntKind.bits .u64))=2 from rfl,Int.fdiv_eq_ediv_of_nonneg _ (by omega),G3 (by omega)]
  omega
theorem C5r {Q1 Q2:List Pass}{x:Pass}(h:Srt ltP (Q1++Q2))(h1: ∀q∈Q1,ltP x q=false)(h2: ∀q∈Q2,ltP q x=false):Srt ltP (Q1++x::Q2):=by
  refine h.left.app (List.pairwise_cons.2 ⟨h2,h.right⟩) fun a ha b hb=> ?_
  rcases List.mem_cons.1 hb with rfl|hb
  ·exact h1 a ha
  ·exact h.cross a ha b hb
/-- An element goes up. -/
theorem D2q (P T:List Pass)(x:Pass)(s:Nat): ∀(R Q:List Pass),(P++Q++x::R++T).length≤1000000→P.length+Q.length+R.length+1=s→
    loop (C8 (s:Int)) (((P.length+Q.length:Nat):Int),P++Q++x::R++T)=some (P++Q++R++x::T):=by
  intro R
  induction R with
  |nil=>
   intro Q hN hs
   simp only [List.length_append]at hN
   refine G1 ?_
   unfold C8
   simp only [List.length_nil,List.length_cons]at hs hN
   rw [G3 (n:=(s:Int) - 1) (by omega),show decide (((P.length+Q.length:Nat):Int)< (s:Int) - 1)=false from decide_eq_false (by omega),cond_false]
   simp
  |cons y R ih=>
   intro Q hN hs
   have hN':=hN
   simp only [List.length_append,List.length_cons]at hN' hs
   have:=ih (Q++ [y]) (by simp;omega) (by simp;omega)
   rw [show P++Q++ (y::R)++x::T=P++ (Q++ [y])++R++x::T by simp,← this]
   refine Q4 ?_
   unfold C8
   have e1:w64 (((P.length+Q.length:Nat):Int)+1)=((P.length+Q.length+1:Nat):Int):=by rw [G3 (by omega)];omega
   have eX:P++Q++x::(y::R)++T=(P++Q)++x::y::(R++T):=by simp
   have g1:F3 ((P++Q)++x::y::(R++T)) ((P.length+Q.length+1:Nat):Int)=some y:=by rw [D01];exact A26 _ _ _ _ (by simp;omega)
   have g2:F3 ((P++Q)++x::y::(R++T)) ((P.length+Q.length:Nat):Int)=some x:=A26 _ _ _ _ (by simp)
   have s1:B01 ((P++Q)++x::y::(R++T)) ((P.length+Q.length:Nat):Int) y=(P++Q)++y::y::(R++T):=A74 _ _ _ _ _ (by simp)
   have g3:F3 ((P++Q)++y::y::(R++T)) ((P.length+Q.length+1:Nat):Int)=some y:=by rw [D01];exact A26 _ _ _ _ (by simp;omega)
   have s2:B01 ((P++Q)++y::y::(R++T)) ((P.length+Q.length+1:Nat):Int) x=(P++Q)++y::x::(R++T):=by rw [D01,A74 _ _ _ _ _ (by simp;omega)];simp
   rw [G3 (n:=(s:Int) - 1) (by omega)]
   simp only [eX,show decide (((P.length+Q.length:Nat):Int)< (s:Int) - 1)=true from decide_eq_true (by omega),cond_true,e1,g1,g2,s1,g3,s2,Option.bind_some]
   simp [Nat.add_assoc]
/-- An element goes down. -/
theorem D03 (P T:List Pass)(y:Pass): ∀(n:Nat) (R Q:List Pass),R.length=n→(P++R++y::Q++T).length≤1000000→
    loop (D6 (P.length:Int)) (((P.length+R.length:Nat):Int),P++R++y::Q++T)=some (P++y::R++Q++T):=by
  intro n
  induction n with
  |zero=>
   intro R Q hn hN
   obtain rfl:=List.length_eq_zero_iff.1 hn
   refine G1 ?_
   unfold D6
   rw [show decide (((P.length+ ([]:List Pass).length:Nat):Int)>(P.length:Int))=false from decide_eq_false (by simp),cond_false]
   simp
  |succ n ih=>
   intro R Q hn hN
   obtain ⟨R',q,rfl⟩:=B6z (Q:=R) (by rintro rfl;simp at hn)
   have hN':=hN
   simp only [List.length_append,List.length_cons,List.length_nil]at hN' hn
   have:=ih R' (q::Q) (by omega) (by simp;omega)
   rw [show P++y::(R'++ [q])++Q++T=P++y::R'++q::Q++T by simp,← this]
   refine Q4 ?_
   unfold D6
   have eX:P++ (R'++ [q])++y::Q++T=(P++R')++q::y::(Q++T):=by simp
   have eL:((P.length+ (R'++ [q]).length:Nat):Int)=((P.length+R'.length+1:Nat):Int):=by simp;omega
   have e1:w64 (((P.length+R'.length+1:Nat):Int) - 1)=((P.length+R'.length:Nat):Int):=by rw [G3 (by omega)];omega
   have g1:F3 ((P++R')++q::y::(Q++T)) ((P.length+R'.length+1:Nat):Int)=some y:=by rw [D01];exact A26 _ _ _ _ (by simp;omega)
   have g2:F3 ((P++R')++q::y::(Q++T)) ((P.length+R'.length:Nat):Int)=some q:=A26 _ _ _ _ (by simp)
   have s1:B01 ((P++R')++q::y::(Q++T)) ((P.length+R'.length+1:Nat):Int) q=(P++R')++q::q::(Q++T):=by rw [D01,A74 _ _ _ _ _ (by simp;omega)];simp
   have g3:F3 ((P++R')++q::q::(Q++T)) ((P.length+R'.length:Nat):Int)=some q:=A26 _ _ _ _ (by simp)
   have s2:B01 ((P++R')++q::q::(Q++T)) ((P.length+R'.length:Nat):Int) y=(P++R')++y::q::(Q++T):=A74 _ _ _ _ _ (by simp)
   simp only [eX,eL,show decide (((P.length+R'.length+1:Nat):Int)>(P.length:Int))=true from decide_eq_true (by omega),cond_true,e1,g1,g2,s1,g3,s2,Option.bind_some]
   simp
def atP (l:List Pass)(i:Nat):Pass:=l.getD i default
theorem B7z {l:List Pass}{i:Nat}(h:i<l.length):F3 l (i:Int)=some (atP l i):=by
  rw [C7d h,atP,List.getD,List.getElem?_eq_getElem h];rfl
theorem B46 {P A T:List Pass}{i:Nat}(h1:P.length≤i)(h2:i<P.length+A.length): ∃h:i - P.length<A.length,atP (P++A++T) i=A[i - P.length]:=by
  refine ⟨by omega,?_⟩
  rw [atP,List.getD,List.append_assoc,List.getElem?_append_right h1,List.getElem?_append_left (by omega),List.getElem?_eq_getElem (by omega)];rfl
theorem B47 {l:List Pass}{k:Nat}{x:Pass}(h:x∈l.take k): ∃i,∃hi:i<l.length,i<k∧l[i]=x:=by
  obtain ⟨i,hi,rfl⟩:=List.mem_iff_getElem.1 h
  rw [List.length_take]at hi
  exact ⟨i,by omega,by omega,by rw [List.getElem_take]⟩
theorem B48 {l:List Pass}{k:Nat}{x:Pass}(h:x∈l.drop k): ∃i,∃hi:i<l.length,k≤i∧l[i]=x:=by
  obtain ⟨i,hi,rfl⟩:=List.mem_iff_getElem.1 h
  rw [List.length_drop]at hi
  exact ⟨k+i,by omega,by omega,by rw [List.getElem_drop]⟩
/-- One element ahead of a sorted list. -/
theorem C5s (P B S:List Pass)(x:Pass)(hs:Srt ltP B)(hN:(P++x::B++S).length≤1000000)(rc:List Pass→Int→Int→Int→Option (List Pass))(_hB:0<B.length):
    ∃M,B6 rc (P++x::B++S) (P.length:Int) ((P.length+1:Nat):Int) ((P.length+1+B.length:Nat):Int)=some (P++M++S)∧M.Perm (x::B)∧Srt ltP M:=by
  have hN':=hN
  simp only [List.length_append,List.length_cons]at hN'
  have hat: ∀c,P.length+1≤c→c<P.length+1+B.length→∃h:c - (P.length+1)<B.length,atP (P++x::B++S) c=B[c - (P.length+1)]:=fun c h1 h2=>by
    obtain ⟨h,e⟩:=B46 (P:=P++ [x]) (A:=B) (T:=S) (i:=c) (by simpa using h1) (by simpa using h2)
    refine ⟨by omega,?_⟩
    rw [show P++x::B++S=P++ [x]++B++S by simp,e]
    congr 1
    simp
  obtain ⟨s,h1,h2,h3,h4,h5⟩:=C0x (F:=D8 (P++x::B++S) (P.length:Int)) (fun c=>ltP (atP (P++x::B++S) c) x) (P.length+1) (P.length+1+B.length) (by omega) (fun u v a1 a2 a3=>by
      unfold D8
      have e:=B5u u v (by omega)
      have g1:F3 (P++x::B++S) (((u+v) / 2:Nat):Int)=some (atP (P++x::B++S) ((u+v) / 2)):=B7z (by simp only [List.length_append,List.length_cons];omega)
      have g2:F3 (P++x::B++S) (P.length:Int)=some x:=by rw [show P++x::B++S=P++x::(B++S) by simp];exact A26 _ _ _ _ rfl
      simp only [show decide ((u:Int)< (v:Int))=true from decide_eq_true (by omega),cond_true,e,g1,g2,Option.bind_some,B7x,B7w]
      rw [G3 (n:=(((u+v) / 2:Nat):Int)+1) (by omega)]
      cases ltP (atP (P++x::B++S) ((u+v) / 2)) x<;>rfl) (fun u v a1=>by
      unfold D8
      rw [show decide ((u:Int)< (v:Int))=false from decide_eq_false (by omega)];rfl) (fun c c' a1 a2 a3 a4=>by
      obtain ⟨k1,e1⟩:=hat c (by omega) (by omega)
      obtain ⟨k2,e2⟩:=hat c' (by omega) (by omega)
      rw [e1]
      rw [e2]at a4
      cases hq:ltP B[c - (P.length+1)] x with
      |true=>rfl
      |false=>rw [ltP_ok.trans _ _ _ hq (hs.get ltP_ok (i:=c - (P.length+1)) (j:=c' - (P.length+1)) (by omega) k2)]at a4;cases a4)
  have hB12:=List.take_append_drop (s - (P.length+1)) B
  have hs':Srt ltP (B.take (s - (P.length+1))++B.drop (s - (P.length+1))):=by rw [hB12];exact hs
  have hl1:(B.take (s - (P.length+1))).length=s - (P.length+1):=by rw [List.length_take];omega
  have hm:=D2q P (B.drop (s - (P.length+1))++S) x s (B.take (s - (P.length+1))) [] (by simp only [List.length_append,List.length_cons,List.length_nil,List.length_take,List.length_drop];omega) (by rw [hl1,List.length_nil];omega)
  rw [show P++ []++x::B.take (s - (P.length+1))++ (B.drop (s - (P.length+1))++S)=P++x::B++S by
   simp only [List.append_nil,List.append_assoc,List.cons_append]
   rw [← List.append_assoc (B.take _),hB12]]at hm
  refine ⟨B.take (s - (P.length+1))++x::B.drop (s - (P.length+1)),?_,?_,C5r hs' (fun q hq=> ?_) (fun q hq=> ?_)⟩
  ·unfold B6
   rw [G3 (n:=((P.length+1:Nat):Int) - (P.length:Int)) (by omega),show (((P.length+1:Nat):Int) - (P.length:Int)==1)=true by simp;omega,cond_true,h1,Option.bind_some]
   have hm':loop (C8 (s:Int)) ((P.length:Int),P++x::B++S)=_:=hm
   rw [hm',Option.bind_some]
   simp
  ·refine List.perm_middle.trans ?_
   rw [hB12]
  ·obtain ⟨i,hi,h6,rfl⟩:=B47 hq
   have h7:=h4 (P.length+1+i) (by omega) (by omega)
   obtain ⟨k1,e1⟩:=hat (P.length+1+i) (by omega) (by omega)
   rw [e1]at h7
   have e2:P.length+1+i - (P.length+1)=i:=by omega
   simp only [e2]at h7
   exact ltP_ok.asym _ _ h7
  ·obtain ⟨i,hi,h6,rfl⟩:=B48 hq
   have h7:=h5 (P.length+1+i) (by omega) (by omega)
   obtain ⟨k1,e1⟩:=hat (P.length+1+i) (by omega) (by omega)
   rw [e1]at h7
   have e2:P.length+1+i - (P.length+1)=i:=by omega
   simp only [e2]at h7
   exact h7
/-- One element behind a sorted list. -/
theorem C3j (P A S:List Pass)(y:Pass)(hs:Srt ltP A)(hN:(P++A++y::S).length≤1000000)(rc:List Pass→Int→Int→Int→Option (List Pass))(hA:1<A.length):
    ∃M,B6 rc (P++A++y::S) (P.length:Int) ((P.length+A.length:Nat):Int) ((P.length+A.length+1:Nat):Int)=some (P++M++S)∧M.Perm (A++ [y])∧Srt ltP M:=by
  have hN':=hN
  simp only [List.length_append,List.length_cons]at hN'
  have hat: ∀c,P.length≤c→c<P.length+A.length→∃h:c - P.length<A.length,atP (P++A++y::S) c=A[c - P.length]:=fun c h1 h2=>B46 h1 h2
  obtain ⟨s,h1,h2,h3,h4,h5⟩:=C0x (F:=D7 (P++A++y::S) ((P.length+A.length:Nat):Int)) (fun c=> !ltP y (atP (P++A++y::S) c)) P.length (P.length+A.length) (by omega) (fun u v a1 a2 a3=>by
      unfold D7
      have e:=B5u u v (by omega)
      have g1:F3 (P++A++y::S) (((u+v) / 2:Nat):Int)=some (atP (P++A++y::S) ((u+v) / 2)):=B7z (by simp only [List.length_append,List.length_cons];omega)
      have g2:F3 (P++A++y::S) ((P.length+A.length:Nat):Int)=some y:=A26 _ _ _ _ (by simp)
      simp only [show decide ((u:Int)< (v:Int))=true from decide_eq_true (by omega),cond_true,e,g1,g2,Option.bind_some,B7x,B7w]
      rw [G3 (n:=(((u+v) / 2:Nat):Int)+1) (by omega)]
      cases ltP y (atP (P++A++y::S) ((u+v) / 2))<;>rfl) (fun u v a1=>by
      unfold D7
      rw [show decide ((u:Int)< (v:Int))=false from decide_eq_false (by omega)];rfl) (fun c c' a1 a2 a3 a4=>by
      obtain ⟨k1,e1⟩:=hat c (by omega) (by omega)
      obtain ⟨k2,e2⟩:=hat c' (by omega) (by omega)
      rw [e1]
      rw [e2,Bool.not_eq_true']at a4
      rw [Bool.not_eq_true']
      exact ltP_ok.trans _ _ _ (hs.get ltP_ok (i:=c - P.length) (j:=c' - P.length) (by omega) k2) a4)
  have hA12:=List.take_append_drop (s - P.length) A
  have hs':Srt ltP (A.take (s - P.length)++A.drop (s - P.length)):=by rw [hA12];exact hs
  have hl1:(A.take (s - P.length)).length=s - P.length:=by rw [List.length_take];omega
  have hm:=D03 (P++A.take (s - P.length)) S y _ (A.drop (s - P.length)) [] rfl (by simp only [List.length_append,List.length_cons,List.length_nil,List.length_take,List.length_drop];omega)
  rw [show P++A.take (s - P.length)++A.drop (s - P.length)++ [y]++S=P++A++y::S by
   simp only [List.append_assoc,List.cons_append,List.nil_append]
   rw [← List.append_assoc (A.take _),hA12],show (P++A.take (s - P.length)).length=s by rw [List.length_append,hl1];omega,show s+ (A.drop (s - P.length)).length=P.length+A.length by rw [List.length_drop];omega]at hm
  refine ⟨A.take (s - P.length)++y::A.drop (s - P.length),?_,?_,C5r hs' (fun q hq=> ?_) (fun q hq=> ?_)⟩
  ·unfold B6
   rw [G3 (n:=((P.length+A.length:Nat):Int) - (P.length:Int)) (by omega),show (((P.length+A.length:Nat):Int) - (P.length:Int)==1)=false by simp;omega,cond_false,G3 (n:=((P.length+A.length+1:Nat):Int) - ((P.length+A.length:Nat):Int)) (by omega),show (((P.length+A.length+1:Nat):Int) - ((P.length+A.length:Nat):Int)==1)=true by simp;omega,cond_true,h1,Option.bind_some,hm,Option.bind_some]
   simp
  ·refine List.perm_middle.trans ?_
   rw [hA12]
   exact (List.perm_append_singleton y A).symm
  ·obtain ⟨i,hi,h6,rfl⟩:=B47 hq
   have h7:=h4 (P.length+i) (by omega) (by omega)
   obtain ⟨k1,e1⟩:=hat (P.length+i) (by omega) (by omega)
   rw [e1,Bool.not_eq_true']at h7
   have e2:P.length+i - P.length=i:=by omega
   simp only [e2]at h7
   exact h7
  ·obtain ⟨i,hi,h6,rfl⟩:=B48 hq
   have h7:=h5 (P.length+i) (by omega) (by omega)
   obtain ⟨k1,e1⟩:=hat (P.length+i) (by omega) (by omega)
   rw [e1,Bool.not_eq_false']at h7
   have e2:P.length+i - P.length=i:=by omega
   simp only [e2]at h7
   exact ltP_ok.asym _ _ h7
end Go.Abs.Roads
/-! The merge in place: the general case, and the whole sort. -/
namespace Go.Abs.Roads
open Go Go.Abs
def B80 (k:Nat)(rc:List Pass→Int→Int→Int→Option (List Pass)):Prop:=
  ∀P A B S:List Pass,0<A.length→0<B.length→A.length+B.length≤k→Srt ltP A→Srt ltP B→(P++A++B++S).length≤1000000→
   ∃M,rc (P++A++B++S) (P.length:Int) ((P.length+A.length:Nat):Int) ((P.length+A.length+B.length:Nat):Int)=some (P++M++S)∧M.Perm (A++B)∧Srt ltP M
theorem C7w (P A B S:List Pass)(_hA:1<A.length)(_hB:1<B.length)(sA:Srt ltP A)(sB:Srt ltP B)(hN:(P++A++B++S).length≤1000000)(mid:Nat)(hmid:mid=(P.length+ (P.length+A.length+B.length)) / 2)(lo hi:Nat)
    (hlo:lo=if P.length+A.length>mid then mid+ (P.length+A.length) - (P.length+A.length+B.length)else P.length) (hhi:hi=if P.length+A.length>mid then mid else P.length+A.length):
    ∃s:Nat,loop (C7 (P++A++B++S) (P.length:Int) ((P.length+A.length:Nat):Int) ((P.length+A.length+B.length:Nat):Int)) ((lo:Int),(hi:Int))=some (s:Int)∧
     P.length≤s∧s≤P.length+A.length∧s≤mid∧mid - s≤B.length∧(∀x∈A.take (s - P.length)++B.take (mid - s),∀y∈A.drop (s - P.length)++B.drop (mid - s),ltP y x=false):=by
  have hN':=hN
  simp only [List.length_append]at hN'
  have hatA: ∀c,P.length≤c→c<P.length+A.length→∃h:c - P.length<A.length,atP (P++A++B++S) c=A[c - P.length]:=fun c h1 h2=>by
    rw [List.append_assoc];exact B46 h1 h2
  have hatB: ∀c,P.length+A.length≤c→c<P.length+A.length+B.length→∃h:c - (P.length+A.length)<B.length,atP (P++A++B++S) c=B[c - (P.length+A.length)]:=fun c h1 h2=>by
    obtain ⟨h,e⟩:=B46 (P:=P++A) (A:=B) (T:=S) (i:=c) (by simpa using h1) (by simpa using h2)
    refine ⟨by omega,?_⟩
    rw [e]
    congr 1
    simp
  have hlen:P.length+A.length+B.length+S.length≤1000000:=hN'
  have hat: ∀c,lo≤c→c<hi→P.length≤c∧c<P.length+A.length∧P.length+A.length≤mid+ (P.length+A.length) - 1 - c∧mid+ (P.length+A.length) - 1 - c<P.length+A.length+B.length:=fun c h1 h2=>by
    split at hlo<;>split at hhi<;>omega
  have hlh:lo≤hi:=by split at hlo<;>split at hhi<;>omega
  obtain ⟨s,h1,h2,h3,h4,h5⟩:=C0x (F:=C7 (P++A++B++S) (P.length:Int) ((P.length+A.length:Nat):Int) ((P.length+A.length+B.length:Nat):Int)) (fun c=> !ltP (atP (P++A++B++S) (mid+ (P.length+A.length) - 1 - c)) (atP (P++A++B++S) c)) lo hi hlh (fun u v a1 a2 a3=>by
      unfold C7
      obtain ⟨b1,b2,b3,b4⟩:=hat ((u+v) / 2) (by omega) (by omega)
      have e0:=B5u P.length (P.length+A.length+B.length) (by omega)
      rw [← hmid]at e0
      have e:=B5u u v (by omega)
      have e1:w64 ((mid:Int)+ ((P.length+A.length:Nat):Int))=((mid+ (P.length+A.length):Nat):Int):=by rw [G3 (by omega)];omega
      have e2:w64 (((mid+ (P.length+A.length):Nat):Int) - 1)=((mid+ (P.length+A.length) - 1:Nat):Int):=by rw [G3 (by omega)];omega
      have e3:w64 (((mid+ (P.length+A.length) - 1:Nat):Int) - (((u+v) / 2:Nat):Int))=((mid+ (P.length+A.length) - 1 - (u+v) / 2:Nat):Int):=by rw [G3 (by omega)];omega
      have g1:F3 (P++A++B++S) ((mid+ (P.length+A.length) - 1 - (u+v) / 2:Nat):Int)=some (atP (P++A++B++S) (mid+ (P.length+A.length) - 1 - (u+v) / 2)):=B7z (by simp only [List.length_append];omega)
      have g2:F3 (P++A++B++S) (((u+v) / 2:Nat):Int)=some (atP (P++A++B++S) ((u+v) / 2)):=B7z (by simp only [List.length_append];omega)
      simp only [show decide ((u:Int)< (v:Int))=true from decide_eq_true (by omega),cond_true,e0,e,e1,e2,e3,g1,g2,Option.bind_some,B7x,B7w]
      rw [G3 (n:=(((u+v) / 2:Nat):Int)+1) (by omega)]
      cases ltP (atP (P++A++B++S) (mid+ (P.length+A.length) - 1 - (u+v) / 2)) (atP (P++A++B++S) ((u+v) / 2))<;>rfl) (fun u v a1=>by
      unfold C7
      rw [show decide ((u:Int)< (v:Int))=false from decide_eq_false (by omega)];rfl) (fun c c' a1 a2 a3 a4=>by
      obtain ⟨b1,b2,b3,b4⟩:=hat c (by omega) (by omega)
      obtain ⟨b5,b6,b7,b8⟩:=hat c' (by omega) (by omega)
      obtain ⟨k1,e1⟩:=hatA c b1 b2
      obtain ⟨k2,e2⟩:=hatA c' b5 b6
      obtain ⟨k3,e3⟩:=hatB _ b3 b4
      obtain ⟨k4,e4⟩:=hatB _ b7 b8
      rw [e1,e3]
      rw [e2,e4,Bool.not_eq_true']at a4
      rw [Bool.not_eq_true']
      refine ltP_ok.trans _ _ _ ?_ (sB.get ltP_ok (i:=mid+ (P.length+A.length) - 1 - c' - (P.length+A.length)) (by omega) k3)
      exact ltP_ok.trans _ _ _ (sA.get ltP_ok (i:=c - P.length) (by omega) k2) a4)
  have hs1:P.length≤s:=by split at hlo<;>split at hhi<;>omega
  have hs2:s≤P.length+A.length:=by split at hlo<;>split at hhi<;>omega
  have hs3:s≤mid:=by split at hlo<;>split at hhi<;>omega
  have hs4:mid - s≤B.length:=by split at hlo<;>split at hhi<;>omega
  refine ⟨s,h1,hs1,hs2,hs3,hs4,fun x hx y hy=> ?_⟩
  have sA':Srt ltP (A.take (s - P.length)++A.drop (s - P.length)):=by rw [List.take_append_drop];exact sA
  have sB':Srt ltP (B.take (mid - s)++B.drop (mid - s)):=by rw [List.take_append_drop];exact sB
  rcases List.mem_append.1 hx with hx|hx<;>rcases List.mem_append.1 hy with hy|hy
  ·exact sA'.cross x hx y hy
  ·obtain ⟨i,hi',i2,rfl⟩:=B47 hx
   obtain ⟨j,hj',j2,rfl⟩:=B48 hy
   have hlt:lo≤s - 1:=by split at hlo<;>split at hhi<;>omega
   have hq:=h4 (s - 1) hlt (by omega)
   obtain ⟨b1,b2,b3,b4⟩:=hat (s - 1) hlt (by omega)
   obtain ⟨k1,e1⟩:=hatA _ b1 b2
   obtain ⟨k3,e3⟩:=hatB _ b3 b4
   rw [e1,e3,Bool.not_eq_true']at hq
   refine ltP_ok.trans _ _ _ (sA.get ltP_ok (i:=i) (j:=s - 1 - P.length) (by omega) k1) ?_
   exact ltP_ok.trans _ _ _ hq (sB.get ltP_ok (i:=mid+ (P.length+A.length) - 1 - (s - 1) - (P.length+A.length)) (j:=j) (by omega) hj')
  ·obtain ⟨j,hj',j2,rfl⟩:=B47 hx
   obtain ⟨i,hi',i2,rfl⟩:=B48 hy
   have hlt:s<hi:=by split at hlo<;>split at hhi<;>omega
   have hq:=h5 s (Nat.le_refl _) hlt
   obtain ⟨b1,b2,b3,b4⟩:=hat s h2 hlt
   obtain ⟨k1,e1⟩:=hatA _ b1 b2
   obtain ⟨k3,e3⟩:=hatB _ b3 b4
   rw [e1,e3,Bool.not_eq_false']at hq
   have hq':=ltP_ok.asym _ _ hq
   refine ltP_ok.trans _ _ _ (sB.get ltP_ok (i:=j) (j:=mid+ (P.length+A.length) - 1 - s - (P.length+A.length)) (by omega) k3) ?_
   exact ltP_ok.trans _ _ _ hq' (sA.get ltP_ok (i:=s - P.length) (j:=i) (by omega) hi')
  ·exact sB'.cross x hx y hy
theorem D04 (k:Nat)(rc:List Pass→Int→Int→Int→Option (List Pass))(hrc:B80 k rc):B80 (k+1) (B6 rc):=by
  intro P A B S hA hB hk sA sB hN
  have hlen:P.length+A.length+B.length+S.length≤1000000:=by simpa only [List.length_append] using hN
  by_cases hA1:A.length=1
  ·obtain ⟨x,rfl⟩:=List.length_eq_one_iff.1 hA1
   obtain ⟨M,g1,g2,g3⟩:=C5s P B S x sB (by simpa [Nat.add_assoc] using hN) rc hB
   refine ⟨M,?_,g2,g3⟩
   rw [← g1]
   simp
  by_cases hB1:B.length=1
  ·obtain ⟨y,rfl⟩:=List.length_eq_one_iff.1 hB1
   obtain ⟨M,g1,g2,g3⟩:=C3j P A S y sA (by simpa [Nat.add_assoc] using hN) rc (by omega)
   refine ⟨M,?_,g2,g3⟩
   rw [← g1]
   simp
  obtain ⟨mid,hmid⟩: ∃mid,mid=(P.length+ (P.length+A.length+B.length)) / 2:=⟨_,rfl⟩
  obtain ⟨lo,hlo⟩: ∃lo,lo=if P.length+A.length>mid then mid+ (P.length+A.length) - (P.length+A.length+B.length)else P.length:=⟨_,rfl⟩
  obtain ⟨hi,hhi⟩: ∃hi,hi=if P.length+A.length>mid then mid else P.length+A.length:=⟨_,rfl⟩
  obtain ⟨s,h1,hs1,hs2,hs3,hs4,hcr⟩:=C7w P A B S (by omega) (by omega) sA sB hN mid hmid lo hi hlo hhi
  have sA':Srt ltP (A.take (s - P.length)++A.drop (s - P.length)):=by rw [List.take_append_drop];exact sA
  have sB':Srt ltP (B.take (mid - s)++B.drop (mid - s)):=by rw [List.take_append_drop];exact sB
  have eA:=List.take_append_drop (s - P.length) A
  have eB:=List.take_append_drop (mid - s) B
  have lA1:(A.take (s - P.length)).length=s - P.length:=by rw [List.length_take];omega
  have lA2:(A.drop (s - P.length)).length=P.length+A.length - s:=by rw [List.length_drop];omega
  have lB1:(B.take (mid - s)).length=mid - s:=by rw [List.length_take];omega
  have lB2:(B.drop (mid - s)).length=P.length+A.length+B.length - (mid+ (P.length+A.length) - s):=by rw [List.length_drop];omega
  generalize A.take (s - P.length)=A1 at*
  generalize A.drop (s - P.length)=A2 at*
  generalize B.take (mid - s)=B1 at*
  generalize B.drop (mid - s)=B2 at*
  -- the first part of the code
  have hy5:cond (decide (((P.length+A.length:Nat):Int)>(mid:Int))) (some (w64 (w64 ((mid:Int)+ ((P.length+A.length:Nat):Int)) - ((P.length+A.length+B.length:Nat):Int)),(mid:Int))) (some ((P.length:Int),((P.length+A.length:Nat):Int)))=some ((lo:Int),(hi:Int)):=by
    by_cases hc:P.length+A.length>mid
    ·rw [if_pos hc]at hlo hhi
     rw [show decide (((P.length+A.length:Nat):Int)>(mid:Int))=true from decide_eq_true (by omega),cond_true,G3 (n:=(mid:Int)+_) (by omega),G3 (by omega),hlo,hhi]
     congr 2
     omega
    ·rw [if_neg hc]at hlo hhi
     rw [show decide (((P.length+A.length:Nat):Int)>(mid:Int))=false from decide_eq_false (by omega),cond_false,hlo,hhi]
  have e0:=B5u P.length (P.length+A.length+B.length) (by omega)
  rw [← hmid]at e0
  have e1:w64 ((mid:Int)+ ((P.length+A.length:Nat):Int))=((mid+ (P.length+A.length):Nat):Int):=by rw [G3 (by omega)];omega
  have e2:w64 (((mid+ (P.length+A.length):Nat):Int) - (s:Int))=((mid+ (P.length+A.length) - s:Nat):Int):=by rw [G3 (by omega)];omega
  rw [e1]at hy5
  -- the exchange
  have hy7:cond (decide ((s:Int)< ((P.length+A.length:Nat):Int))&&decide (((P.length+A.length:Nat):Int)< ((mid+ (P.length+A.length) - s:Nat):Int))) ((E9 (P++A++B++S) (s:Int) ((P.length+A.length:Nat):Int) ((mid+ (P.length+A.length) - s:Nat):Int)).bind fun v18=>some v18) (some (P++A++B++S))=some (P++A1++B1++ (A2++B2++S)):=by
    have eX:P++A++B++S=(P++A1)++A2++B1++ (B2++S):=by rw [← eA,← eB];simp
    by_cases c1:s<P.length+A.length
    ·by_cases c2:s<mid
     ·rw [show decide ((s:Int)< ((P.length+A.length:Nat):Int))=true from decide_eq_true (by omega),show decide (((P.length+A.length:Nat):Int)< ((mid+ (P.length+A.length) - s:Nat):Int))=true from decide_eq_true (by omega)]
      have hr:=D1s (P++A1) A2 B1 (B2++S) (by omega) (by omega) (by rw [← eX];exact hN)
      rw [← eX,show (P++A1).length=s by rw [List.length_append];omega,show s+A2.length=P.length+A.length by omega,show P.length+A.length+B1.length=mid+ (P.length+A.length) - s by omega]at hr
      rw [Bool.and_true,cond_true,hr]
      simp
     ·obtain rfl:B1= []:=List.length_eq_zero_iff.1 (by omega)
      rw [show decide (((P.length+A.length:Nat):Int)< ((mid+ (P.length+A.length) - s:Nat):Int))=false from decide_eq_false (by omega),Bool.and_false,cond_false,eX]
      simp
    ·obtain rfl:A2= []:=List.length_eq_zero_iff.1 (by omega)
     rw [show decide ((s:Int)< ((P.length+A.length:Nat):Int))=false from decide_eq_false (by omega),Bool.false_and,cond_false,eX]
     simp
  -- the two halves
  obtain ⟨M1,p1,q1,r1⟩: ∃M1,cond (decide ((P.length:Int)< (s:Int))&&decide ((s:Int)< (mid:Int))) ((rc (P++A1++B1++ (A2++B2++S)) (P.length:Int) (s:Int) (mid:Int)).bind fun v19=>some v19) (some (P++A1++B1++ (A2++B2++S)))=some (P++M1++A2++B2++S)∧M1.Perm (A1++B1)∧Srt ltP M1:=by
    have easy:A1= []∨B1= []→Srt ltP (A1++B1):=by
      rintro (rfl|rfl)
      ·exact sB'.left
      ·rw [List.append_nil];exact sA'.left
    by_cases c1:P.length<s
    ·by_cases c2:s<mid
     ·obtain ⟨M1,g1,g2,g3⟩:=hrc P A1 B1 (A2++B2++S) (by omega) (by omega) (by omega) sA'.left sB'.left (by simp only [List.length_append];omega)
      rw [show P.length+A1.length=s by omega,show s+B1.length=mid by omega]at g1
      refine ⟨M1,?_,g2,g3⟩
      rw [show decide ((P.length:Int)< (s:Int))=true from decide_eq_true (by omega),show decide ((s:Int)< (mid:Int))=true from decide_eq_true (by omega),Bool.and_true,cond_true,g1]
      simp
     ·refine ⟨A1++B1,?_, .refl _,easy (.inr (List.length_eq_zero_iff.1 (by omega)))⟩
      rw [show decide ((s:Int)< (mid:Int))=false from decide_eq_false (by omega),Bool.and_false,cond_false]
      simp
    ·refine ⟨A1++B1,?_, .refl _,easy (.inl (List.length_eq_zero_iff.1 (by omega)))⟩
     rw [show decide ((P.length:Int)< (s:Int))=false from decide_eq_false (by omega),Bool.false_and,cond_false]
     simp
  have lM1:M1.length=mid - P.length:=by rw [q1.length_eq,List.length_append];omega
  obtain ⟨M2,p2,q2,r2⟩: ∃M2,cond (decide ((mid:Int)< ((mid+ (P.length+A.length) - s:Nat):Int))&&decide (((mid+ (P.length+A.length) - s:Nat):Int)< ((P.length+A.length+B.length:Nat):Int))) ((rc (P++M1++A2++B2++S) (mid:Int) ((mid+ (P.length+A.length) - s:Nat):Int) ((P.length+A.length+B.length:Nat):Int)).bind fun v20=>some v20) (some (P++M1++A2++B2++S))=some (P++ (M1++M2)++S)∧M2.Perm (A2++B2)∧Srt ltP M2:=by
    have easy:A2= []∨B2= []→Srt ltP (A2++B2):=by
      rintro (rfl|rfl)
      ·exact sB'.right
      ·rw [List.append_nil];exact sA'.right
    by_cases c1:s<P.length+A.length
    ·by_cases c2:mid+ (P.length+A.length) - s<P.length+A.length+B.length
     ·obtain ⟨M2,g1,g2,g3⟩:=hrc (P++M1) A2 B2 S (by omega) (by omega) (by omega) sA'.right sB'.right (by simp only [List.length_append];omega)
      rw [show (P++M1).length=mid by rw [List.length_append];omega,show mid+A2.length=mid+ (P.length+A.length) - s by omega,show mid+ (P.length+A.length) - s+B2.length=P.length+A.length+B.length by omega]at g1
      refine ⟨M2,?_,g2,g3⟩
      rw [show decide ((mid:Int)< ((mid+ (P.length+A.length) - s:Nat):Int))=true from decide_eq_true (by omega),show decide (((mid+ (P.length+A.length) - s:Nat):Int)< ((P.length+A.length+B.length:Nat):Int))=true from decide_eq_true (by omega),Bool.and_true,cond_true,g1]
      simp
     ·refine ⟨A2++B2,?_, .refl _,easy (.inr (List.length_eq_zero_iff.1 (by omega)))⟩
      rw [show decide (((mid+ (P.length+A.length) - s:Nat):Int)< ((P.length+A.length+B.length:Nat):Int))=false from decide_eq_false (by omega),Bool.and_false,cond_false]
      simp
    ·refine ⟨A2++B2,?_, .refl _,easy (.inl (List.length_eq_zero_iff.1 (by omega)))⟩
     rw [show decide ((mid:Int)< ((mid+ (P.length+A.length) - s:Nat):Int))=false from decide_eq_false (by omega),Bool.false_and,cond_false]
     simp
  refine ⟨M1++M2,?_,?_,r1.app r2 fun x hx y hy=>hcr x (q1.mem_iff.1 hx) y (q2.mem_iff.1 hy)⟩
  ·unfold B6
   rw [G3 (n:=((P.length+A.length:Nat):Int) - (P.length:Int)) (by omega),show (((P.length+A.length:Nat):Int) - (P.length:Int)==1)=false by simp;omega,cond_false,G3 (n:=((P.length+A.length+B.length:Nat):Int) - ((P.length+A.length:Nat):Int)) (by omega),show (((P.length+A.length+B.length:Nat):Int) - ((P.length+A.length:Nat):Int)==1)=false by simp;omega,cond_false]
   simp only [e0,hy5,Option.bind_some,h1,e1,e2,hy7,p1,p2]
  ·refine (q1.append q2).trans ?_
   rw [← eA,← eB]
   simp only [List.append_assoc]
   refine List.Perm.append_left A1 ?_
   rw [← List.append_assoc,← List.append_assoc]
   exact List.Perm.append_right B2 List.perm_append_comm
end Go.Abs.Roads
/-! The stable sort. -/
namespace Go.Abs.Roads
open Go Go.Abs
theorem C5t: ∀n,B80 n (F8 n)
  |0=>fun _ _ _ _ h1 _ h3=>absurd h3 (by omega)
  |n+1=>D04 n _ (C5t n)
theorem C21:B80 100 G7:=C5t 100
def BlkS (w:Nat)(l:List Pass):Prop:= ∀i,Srt ltP ((l.drop (i*w)).take w)
theorem BlkS.cons {w:Nat}{M R:List Pass}(hM:M.length=w)(h1:Srt ltP M)(h2:BlkS w R):BlkS w (M++R):=by
  intro i
  cases i with
  |zero=>rw [Nat.zero_mul,List.drop_zero,List.take_append_of_le_length (by omega),List.take_of_length_le (by omega)];exact h1
  |succ i=>
   have:=h2 i
   rw [Nat.add_mul,Nat.one_mul,List.drop_append,List.drop_eq_nil_of_le (by omega),List.nil_append,show i*w+w - M.length=i*w by omega]
   exact this
theorem BlkS.last {w:Nat}{M:List Pass}(hM:M.length≤w)(h1:Srt ltP M):BlkS w M:=by
  intro i
  exact h1.sublist ((List.take_sublist _ _).trans (List.drop_sublist _ _))
theorem BlkS.drop {w:Nat}{R:List Pass}(h:BlkS w R):BlkS w (R.drop w):=by
  intro i
  have:=h (i+1)
  rwa [Nat.add_mul,Nat.one_mul,Nat.add_comm,← List.drop_drop]at this
theorem BlkS.head {w:Nat}{R:List Pass}(h:BlkS w R):Srt ltP (R.take w):=by
  have:=h 0
  rwa [Nat.zero_mul,List.drop_zero]at this
theorem st1 (n:Nat)(hn:n≤100): ∀(k:Nat) (R D:List Pass),R.length≤k→D.length+R.length=n→
    ∃y R',loop (C6 (n:Int)) ((D.length:Int),((D.length+20:Nat):Int),D++R)=some y∧B8 y.2 y.1 (n:Int)=some (D++R')∧BlkS 20 R'∧R'.Perm R:=by
  intro k
  induction k with
  |zero=>
   intro R D hk hl
   obtain rfl:=List.length_eq_zero_iff.1 (show R.length=0 by omega)
   obtain ⟨A',g1,g2,g3⟩:=C0y D [] [] (by simp;omega)
   simp only [List.append_nil,List.length_nil,Nat.add_zero]at g1 hl ⊢
   refine ⟨_,A',G1 (t:=((D.length:Int),D)) ?_,by rw [← hl];exact g1, .last (by rw [g2.length_eq];simp) g3,g2⟩
   unfold C6
   rw [show decide (((D.length+20:Nat):Int)≤(n:Int))=false from decide_eq_false (by omega)];rfl
  |succ k ih=>
   intro R D hk hl
   by_cases h20:20≤R.length
   ·have eR:=List.take_append_drop 20 R
    have l1:(R.take 20).length=20:=by rw [List.length_take];omega
    obtain ⟨A',g1,g2,g3⟩:=C0y D (R.take 20) (R.drop 20) (by rw [List.append_assoc,eR];simp;omega)
    have lA:A'.length=20:=by rw [g2.length_eq];exact l1
    rw [l1,List.append_assoc,eR]at g1
    obtain ⟨y,R',k1,k2,k3,k4⟩:=ih (R.drop 20) (D++A') (by rw [List.length_drop];omega) (by rw [List.length_append,List.length_drop];omega)
    refine ⟨y,A'++R',?_,by rw [k2,List.append_assoc], .cons lA g3 k3,?_⟩
    ·rw [← k1,show (D++A').length=D.length+20 by rw [List.length_append,lA]]
     refine Q4 ?_
     unfold C6
     simp only [show decide (((D.length+20:Nat):Int)≤(n:Int))=true from decide_eq_true (by omega),cond_true,g1,Option.bind_some]
     rw [G3 (n:=((D.length+20:Nat):Int)+20) (by omega)]
     simp
    ·exact (g2.append k4).trans (by rw [eR])
   ·obtain ⟨A',g1,g2,g3⟩:=C0y D R [] (by simp;omega)
    simp only [List.append_nil]at g1
    rw [hl]at g1
    refine ⟨_,A',G1 (t:=((D.length:Int),D++R)) ?_,g1, .last (by rw [g2.length_eq];omega) g3,g2⟩
    unfold C6
    rw [show decide (((D.length+20:Nat):Int)≤(n:Int))=false from decide_eq_false (by omega)];rfl
theorem st3 (n w:Nat)(hn:n≤100)(hw:0<w)(hw2:w≤100)(x2:Int×List Pass)(hx:x2.1=(w:Int)): ∀(k:Nat) (R D:List Pass),R.length≤k→D.length+R.length=n→BlkS w R→
    ∃(d:Nat) (W R':List Pass),loop (B7 (n:Int) x2) ((D.length:Int),((D.length+2*w:Nat):Int),D++R)=some ((d:Int),W)∧d≤n∧
     (if d+w<n then G7 W (d:Int) ((d+w:Nat):Int) (n:Int)else some W)=some (D++R')∧BlkS (2*w) R'∧R'.Perm R:=by
  intro k
  induction k with
  |zero=>
   intro R D hk hl hb
   obtain rfl:=List.length_eq_zero_iff.1 (show R.length=0 by omega)
   refine ⟨D.length,D++ [],[],G1 ?_,by omega,?_, .last (by simp) List.Pairwise.nil, .refl _⟩
   ·unfold B7
    simp only [List.length_nil]at hl
    rw [show decide (((D.length+2*w:Nat):Int)≤(n:Int))=false from decide_eq_false (by omega)];rfl
   ·simp only [List.length_nil]at hl
    rw [if_neg (by omega)]
  |succ k ih=>
   intro R D hk hl hb
   by_cases h2:2*w≤R.length
   ·have e1:=List.take_append_drop w R
    have e2:=List.take_append_drop w (R.drop w)
    have l1:(R.take w).length=w:=by rw [List.length_take];omega
    have l2:((R.drop w).take w).length=w:=by rw [List.length_take,List.length_drop];omega
    have l3:((R.drop w).drop w).length=R.length - 2*w:=by rw [List.length_drop,List.length_drop];omega
    obtain ⟨M,g1,g2,g3⟩:=C21 D (R.take w) ((R.drop w).take w) ((R.drop w).drop w) (by omega) (by omega) (by omega) hb.head hb.drop.head (by simp only [List.length_append,l1,l2,l3];omega)
    have lM:M.length=2*w:=by rw [g2.length_eq,List.length_append,l1,l2];omega
    have eX:D++R.take w++ (R.drop w).take w++ (R.drop w).drop w=D++R:=by
      rw [List.append_assoc (D++R.take w),e2,List.append_assoc,e1]
    rw [eX,l1,l2]at g1
    obtain ⟨d,W,R',k1,k2,k3,k4,k5⟩:=ih ((R.drop w).drop w) (D++M) (by omega) (by rw [List.length_append];omega) hb.drop.drop
    refine ⟨d,W,M++R',?_,k2,by rw [k3,List.append_assoc], .cons lM g3 k4,?_⟩
    ·rw [← k1,show (D++M).length=D.length+2*w by rw [List.length_append,lM]]
     refine Q4 ?_
     unfold B7
     simp only [show decide (((D.length+2*w:Nat):Int)≤(n:Int))=true from decide_eq_true (by omega),cond_true,hx]
     rw [G3 (n:=(D.length:Int)+ (w:Int)) (by omega),show (D.length:Int)+ (w:Int)=((D.length+w:Nat):Int) by omega,show ((D.length+2*w:Nat):Int)=((D.length+w+w:Nat):Int) by omega,g1,Option.bind_some,G3 (n:=2* (w:Int)) (by omega),G3 (by omega),show ((D.length+w+w:Nat):Int)+2* (w:Int)=((D.length+2*w+2*w:Nat):Int) by omega,show D.length+w+w=D.length+2*w by omega]
    ·refine (g2.append k5).trans ?_
     rw [List.append_assoc,e2,e1]
   ·refine ⟨D.length,D++R,?_⟩
    have hout:loop (B7 (n:Int) x2) ((D.length:Int),((D.length+2*w:Nat):Int),D++R)=some ((D.length:Int),D++R):=by
      refine G1 ?_
      unfold B7
      rw [show decide (((D.length+2*w:Nat):Int)≤(n:Int))=false from decide_eq_false (by omega)];rfl
    by_cases h1:w<R.length
    ·have e1:=List.take_append_drop w R
     have l1:(R.take w).length=w:=by rw [List.length_take];omega
     have l2:(R.drop w).length=R.length - w:=List.length_drop
     have hs2:Srt ltP (R.drop w):=by
       have:=hb.drop.head
       rwa [List.take_of_length_le (by omega)]at this
     obtain ⟨M,g1,g2,g3⟩:=C21 D (R.take w) (R.drop w) [] (by omega) (by omega) (by omega) hb.head hs2 (by simp only [List.length_append,l1,l2,List.length_nil];omega)
     rw [List.append_nil,List.append_nil,List.append_assoc,e1,l1,l2,show D.length+w+ (R.length - w)=n by omega]at g1
     refine ⟨M,hout,by omega,by rw [if_pos (by omega)];exact g1, .last (by rw [g2.length_eq,List.length_append];omega) g3,by rw [e1]at g2;exact g2⟩
    ·refine ⟨R,hout,by omega,by rw [if_neg (by omega)], .last (by omega) ?_, .refl _⟩
     have:=hb.head
     rwa [List.take_of_length_le (by omega)]at this
theorem st2 (n:Nat)(hn:n≤100): ∀(k w:Nat) (R:List Pass),n - w≤k→0<w→w≤200→R.length=n→BlkS w R→
    ∃R',loop (C5 (n:Int)) ((w:Int),R)=some R'∧R'.Perm R∧Srt ltP R':=by
  intro k
  induction k with
  |zero=>
   intro w R hk hw hw2 hl hb
   refine ⟨R,G1 ?_, .refl _,?_⟩
   ·unfold C5
    rw [show decide ((w:Int)< (n:Int))=false from decide_eq_false (by omega)];rfl
   ·have:=hb.head
    rwa [List.take_of_length_le (by omega)]at this
  |succ k ih=>
   intro w R hk hw hw2 hl hb
   by_cases hlt:w<n
   ·obtain ⟨d,W,R1,k1,k2,k3,k4,k5⟩:=st3 n w hn hw (by omega) ((w:Int),R) rfl R.length R [] (Nat.le_refl _) (by simpa using hl) hb
    obtain ⟨R',g1,g2,g3⟩:=ih (2*w) R1 (by omega) (by omega) (by omega) (by rw [k5.length_eq];exact hl) k4
    refine ⟨R',?_,g2.trans k5,g3⟩
    rw [← g1]
    refine Q4 ?_
    unfold C5
    simp only [List.length_nil,Nat.zero_add,List.nil_append]at k1 k3
    have k1':loop (B7 (n:Int) ((w:Int),R)) (0,w64 (2* (w:Int)),R)=some ((d:Int),W):=by
      rw [G3 (n:=2* (w:Int)) (by omega),show 2* (w:Int)=((2*w:Nat):Int) by omega];exact k1
    have e2:w64 ((w:Int)*2)=((2*w:Nat):Int):=by rw [G3 (by omega)];omega
    have e3:w64 ((d:Int)+ (w:Int))=((d+w:Nat):Int):=by rw [G3 (by omega)];omega
    simp only [show decide ((w:Int)< (n:Int))=true from decide_eq_true (by omega),cond_true,k1',Option.bind_some,e2,e3]
    by_cases hd:d+w<n
    ·rw [if_pos hd]at k3
     rw [show decide (((d+w:Nat):Int)< (n:Int))=true from decide_eq_true (by omega),cond_true,k3];rfl
    ·rw [if_neg hd]at k3
     rw [show decide (((d+w:Nat):Int)< (n:Int))=false from decide_eq_false (by omega),cond_false,Option.some.inj k3]
   ·refine ⟨R,G1 ?_, .refl _,?_⟩
    ·unfold C5
     rw [show decide ((w:Int)< (n:Int))=false from decide_eq_false (by omega)];rfl
    ·have:=hb.head
     rwa [List.take_of_length_le (by omega)]at this
theorem C5u (xs:List Pass)(h:xs.length≤100): ∃ys,F0 xs=some ys∧ys.Perm xs∧Srt ltP ys:=by
  obtain ⟨y,R,k1,k2,k3,k4⟩:=st1 xs.length h xs.length xs [] (Nat.le_refl _) (by simp)
  obtain ⟨R',g1,g2,g3⟩:=st2 xs.length h xs.length 20 R (by omega) (by omega) (by omega) k4.length_eq k3
  refine ⟨R',?_,g2.trans k4,g3⟩
  unfold F0 J6
  have k1':loop (C6 (xs.length:Int)) (0,20,xs)=some y:=k1
  have k2':B8 y.2 y.1 (xs.length:Int)=some R:=k2
  have g1':loop (C5 (xs.length:Int)) (20,R)=some R':=g1
  simp only [k1',Option.bind_some,k2',g1']
theorem C3k:F1=some ():=by
  have i0:D9 0 0=some ():=by
    unfold D9
    exact G1 rfl
  have h1:loop (I4 0) (0,20)=some 0:=G1 rfl
  have h2:loop (I3 0) 20=some ():=G1 rfl
  unfold F1 J7
  simp only [h1,Option.bind_some,i0,h2]
end Go.Abs.Roads
/-! Places and passes. -/
namespace Go.Abs.Roads
open Go Go.Abs
theorem B02 (m:Map): ∀(r:List Int) (s:Int),A2w m s r=s+A2w m 0 r
  | [],s=>by simp [A2w]
  |a::r,s=>by rw [A2w,A2w,B02 m r (s+P9 m a),B02 m r (0+P9 m a)];omega
theorem B5v (m:Map): ∀(r:List Int) (s:Int) (i:Nat),i<r.length→(A07 m s r)[i]? =some (s+A2w m 0 (r.take i))
  | [],_,_,h=>absurd h (by simp)
  |a::r,s,0,_=>by simp [A07,A2w]
  |a::r,s,i+1,h=>by
   rw [A07,List.getElem?_cons_succ,B5v m r _ i (by simpa using h),List.take_succ_cons,A2w,B02 m _ (0+P9 m a)]
   congr 1;omega
noncomputable def atM (m:Map)(r:List Int)(i:Nat):Int:=A2w m 0 (r.take i)
theorem B2f (m:Map)(r:List Int):atM m r 0=0:=rfl
theorem B5w (m:Map)(x:Int): ∀(l:List Int) (s:Int),A2w m s (l++ [x])=A2w m s l+P9 m x
  | [],s=>rfl
  |a::l,s=>by rw [List.cons_append,A2w,A2w,B5w m x l]
theorem B2g {m:Map}{r:List Int}{i:Nat}{a:Int}(h:r[i]? =some a):atM m r (i+1)=atM m r i+P9 m a:=by
  unfold atM
  rw [List.take_add_one,h]
  exact B5w m a _ _
theorem D05 (m:Map)(r:List Int):atM m r r.length=A2w m 0 r:=by rw [atM,List.take_length]
theorem RouteOK.len {m:Map}{a:Int}{t:List Int}(R:RouteOK m a t){i:Nat}{x:Int}(h:(a::t)[i]? =some x):1000≤P9 m x∧P9 m x≤16777216:=by
  have:=R.mem (List.mem_of_getElem? h)
  exact R.val.long this.1 this.2
theorem RouteOK.mono {m:Map}{a:Int}{t:List Int}(R:RouteOK m a t): ∀(j i:Nat),i+j≤(a::t).length→atM m (a::t) i+1000*j≤atM m (a::t) (i+j)∧atM m (a::t) (i+j)≤atM m (a::t) i+16777216*j
  |0,i,_=>by simp
  |j+1,i,h=>by
   have:=R.mono j i (by omega)
   have e:(a::t)[i+j]? =some (a::t)[i+j]:=List.getElem?_eq_getElem (by omega)
   have hl:=R.len e
   rw [← Nat.add_assoc,B2g e]
   omega
theorem RouteOK.lt {m:Map}{a:Int}{t:List Int}(R:RouteOK m a t){i j:Nat}(hij:i<j)(hj:j≤(a::t).length):atM m (a::t) i+1000≤atM m (a::t) j:=by
  have:=(R.mono (j - i) i (by omega)).1
  rw [show i+ (j - i)=j by omega]at this
  omega
theorem RouteOK.bd {m:Map}{a:Int}{t:List Int}(R:RouteOK m a t){i:Nat}(hi:i≤(a::t).length):0≤atM m (a::t) i∧atM m (a::t) i≤134217728:=by
  have:=R.mono i 0 (by omega)
  have h7:=R.most
  simp only [List.length_cons]at hi
  rw [Nat.zero_add,B2f]at this
  omega
theorem RouteOK.follow {m:Map}{a:Int}{t:List Int}(R:RouteOK m a t):A21 m (a::t)=⟨m,a::t,A07 m 0 (a::t),atM m (a::t) (a::t).length⟩:=by
  unfold A21
  rw [if_pos (chkRoute_zero.2 ⟨a,t,rfl,R⟩),D05]
theorem RouteOK.starts {m:Map}{a:Int}{t:List Int}{i:Nat}(hi:i< (a::t).length):F3 (A07 m 0 (a::t)) (i:Int)=some (atM m (a::t) i):=by
  rw [N7 (B5v m _ 0 i hi),Int.zero_add];rfl
/-- The place of a coordinate. -/
theorem C22 {m:Map}(B:BearM m){a:Int}{t:List Int}(R:RouteOK m a t){s:Int}(h0:0≤s)(h1:s≤atM m (a::t) (a::t).length):
    ∃(k:Nat) (x:Int),(a::t)[k]? =some x∧A1k m (a::t) s=some (x,s - atM m (a::t) k,true)∧atM m (a::t) k≤s∧∀j,k<j→j< (a::t).length→s<atM m (a::t) j:=by
  have hm7:=R.most
  have hbd:=R.bd (Nat.le_refl _)
  have key: ∀(k:Nat),k< (a::t).length→(∀j,k<j→j< (a::t).length→s<atM m (a::t) j)→
   ∃k',k'< (a::t).length∧loop (V4 s (A21 m (a::t))) (k:Int)=some (k':Int)∧atM m (a::t) k'≤s∧∀j,k'<j→j< (a::t).length→s<atM m (a::t) j:=by
    intro k
    induction k with
    |zero=>
     intro hk hj
     refine ⟨0,hk,G1 ?_,by rw [B2f];exact h0,hj⟩
     unfold V4
     rw [R.follow]
     dsimp only
     rw [RouteOK.starts hk,Option.bind_some,B2f,show decide ((0:Int)>s)=false from decide_eq_false (by omega)];rfl
    |succ k ih=>
     intro hk hj
     by_cases hc:s<atM m (a::t) (k+1)
     ·obtain ⟨k',g1,g2,g3,g4⟩:=ih (by omega) (fun j h1 h2=>by
        rcases Nat.lt_or_ge (k+1) j with h|h
        ·exact hj j h h2
        ·obtain rfl:j=k+1:=by omega
         exact hc)
      refine ⟨k',g1,?_,g3,g4⟩
      rw [← g2]
      refine Q4 ?_
      unfold V4
      rw [R.follow]
      dsimp only
      rw [RouteOK.starts hk,Option.bind_some,show decide (atM m (a::t) (k+1)>s)=true from decide_eq_true (by omega),cond_true,G3 (by simp only [List.length_cons]at hk;omega)]
      congr 2;omega
     ·refine ⟨k+1,hk,G1 ?_,by omega,hj⟩
      unfold V4
      rw [R.follow]
      dsimp only
      rw [RouteOK.starts hk,Option.bind_some,show decide (atM m (a::t) (k+1)>s)=false from decide_eq_false (by omega)];rfl
  obtain ⟨k,g1,g2,g3,g4⟩:=key ((a::t).length - 1) (by simp) (fun j h1 h2=>by omega)
  have hx:(a::t)[k]? =some (a::t)[k]:=List.getElem?_eq_getElem g1
  refine ⟨k,(a::t)[k],hx,?_,g3,g4⟩
  unfold A1k
  rw [B2e B _ (by simp;omega),Option.bind_some]
  have hl:(A21 m (a::t)).lanes=a::t:=by rw [R.follow]
  have hst:(A21 m (a::t)).starts=A07 m 0 (a::t):=by rw [R.follow]
  have htl:(A21 m (a::t)).length=atM m (a::t) (a::t).length:=by rw [R.follow]
  rw [hl,hst,htl,show (((a::t).length:Int)==0)=false by simp;omega]
  simp only [Bool.not_false,cond_true,A6p,Option.bind_some,Bool.false_or]
  rw [show inR s 0 (atM m (a::t) (a::t).length)=true by unfold inR;rw [decide_eq_true h0,decide_eq_true h1];rfl,show w64 (((a::t).length:Int) - 1)=(((a::t).length - 1:Nat):Int) by rw [G3 (by simp only [List.length_cons];omega)];simp only [List.length_cons];omega,g2]
  simp only [Bool.not_true,cond_false,Option.bind_some]
  rw [N7 hx,RouteOK.starts g1,Option.bind_some,Option.bind_some,G3 (by have:=R.bd (Nat.le_of_lt g1);omega)]
/-! ### Passes -/
def B2h (lane s:Int)(zi:Nat):Nat→List Part→List Pass
  |_,[]=> []
  |k,p::r=>(if p.Lane_==lane then [⟨(zi:Int),(k:Int),s+p.From,s+p.To⟩]else [])++B2h lane s zi (k+1) r
def B3q (lane s:Int):Nat→List Zone→List Pass
  |_,[]=> []
  |zi,z::r=>B2h lane s zi 0 z.Parts++B3q lane s (zi+1) r
noncomputable def B2i (m:Map):Int→List Int→List Pass
  |_,[]=> []
  |s,a::r=>B3q a s 0 m.Zones++B2i m (s+P9 m a) r
theorem B5x (lane s:Int)(zi:Nat): ∀(l:List Part) (k:Nat),(l.map (·.Lane_)).Pairwise (· < ·)→(B2h lane s zi k l).length≤1
  | [],_,_=>by simp [B2h]
  |p::r,k,h=>by
   obtain ⟨h1,h2⟩:=List.pairwise_cons.1 h
   have nil: ∀(r:List Part) (k:Nat),(∀q∈r,q.Lane_≠lane)→B2h lane s zi k r= []:=by
     intro r
     induction r with
     |nil=>intro k _;rfl
     |cons q r ih=>
      intro k hq
      rw [B2h,ih (k+1) (fun y hy=>hq y (List.mem_cons_of_mem _ hy)),show (q.Lane_==lane)=false by simp [hq q (by simp)]]
      rfl
   rw [B2h]
   by_cases e:p.Lane_=lane
   ·rw [nil r (k+1) (fun q hq=>by
    have:p.Lane_<q.Lane_:=h1 q.Lane_ (List.mem_map_of_mem hq)
    omega)]
    simp [e]
   ·rw [show (p.Lane_==lane)=false by simp [e]]
    exact B5x lane s zi r (k+1) h2
theorem B5y {m:Map}(lane s:Int): ∀(l:List Zone) (zi:Nat),(∀z∈l,ZoneOK m z)→(B3q lane s zi l).length≤l.length
  | [],_,_=>by simp [B3q]
  |z::r,zi,h=>by
   have:=B5x lane s zi z.Parts 0 (B36 (h z (by simp)).rise)
   have:=B5y lane s r (zi+1) fun y hy=>h y (List.mem_cons_of_mem _ hy)
   rw [B3q,List.length_append,List.length_cons]
   omega
theorem B9n {m:Map}(V:ValR m): ∀(r:List Int) (s:Int),(B2i m s r).length≤12*r.length
  | [],_=>by simp [B2i]
  |a::r,s=>by
   have:=B5y (m:=m) a s m.Zones 0 fun z hz=>V.zoneOK hz
   have:=V.zones
   have:=B9n V r (s+P9 m a)
   rw [B2i,List.length_append,List.length_cons]
   omega
theorem B9o (lane s:Int)(zi:Nat): ∀(l:List Part) (k:Nat) (x:Pass),x∈B2h lane s zi k l→∃(j:Nat) (p:Part),l[j]? =some p∧p.Lane_=lane∧x=⟨(zi:Int),((k+j:Nat):Int),s+p.From,s+p.To⟩
  | [],_,x,h=>by simp [B2h]at h
  |p::r,k,x,h=>by
   rw [B2h,List.mem_append]at h
   rcases h with h|h
   ·by_cases e:p.Lane_=lane
    ·rw [if_pos (by simp [e]),List.mem_singleton]at h
     exact ⟨0,p,rfl,e,h⟩
    ·rw [if_neg (by simp [e])]at h;simp at h
   ·obtain ⟨j,q,h1,h2,h3⟩:=B9o lane s zi r (k+1) x h
    exact ⟨j+1,q,by simpa using h1,h2,by rw [h3];congr 1;omega⟩
theorem B9p (lane s:Int): ∀(l:List Zone) (zi:Nat) (x:Pass),x∈B3q lane s zi l→∃(j:Nat) (z:Zone) (k:Nat) (p:Part),l[j]? =some z∧z.Parts[k]? =some p∧p.Lane_=lane∧x=⟨((zi+j:Nat):Int),(k:Int),s+p.From,s+p.To⟩
  | [],_,x,h=>by simp [B3q]at h
  |z::r,zi,x,h=>by
   rw [B3q,List.mem_append]at h
   rcases h with h|h
   ·obtain ⟨k,p,h1,h2,h3⟩:=B9o lane s zi z.Parts 0 x h
    exact ⟨0,z,k,p,rfl,h1,h2,by rw [h3,Nat.zero_add];rfl⟩
   ·obtain ⟨j,y,k,p,h0,h1,h2,h3⟩:=B9p lane s r (zi+1) x h
    exact ⟨j+1,y,k,p,by simpa using h0,h1,h2,by rw [h3];congr 1;omega⟩
theorem B9q (m:Map): ∀(r:List Int) (s:Int) (x:Pass),x∈B2i m s r→∃(i:Nat) (lane:Int) (j:Nat) (z:Zone) (k:Nat) (p:Part),r[i]? =some lane∧m.Zones[j]? =some z∧z.Parts[k]? =some p∧p.Lane_=lane∧x=⟨(j:Int),(k:Int),s+A2w m 0 (r.take i)+p.From,s+A2w m 0 (r.take i)+p.To⟩
  | [],_,x,h=>by simp [B2i]at h
  |a::r,s,x,h=>by
   rw [B2i,List.mem_append]at h
   rcases h with h|h
   ·obtain ⟨j,z,k,p,h1,h2,h3,h4⟩:=B9p a s m.Zones 0 x h
    exact ⟨0,a,j,z,k,p,rfl,h1,h2,h3,by rw [h4];simp [A2w]⟩
   ·obtain ⟨i,lane,j,z,k,p,h0,h1,h2,h3,h4⟩:=B9q m r _ x h
    refine ⟨i+1,lane,j,z,k,p,by simpa using h0,h1,h2,h3,?_⟩
    rw [h4,List.take_succ_cons,A2w,B02 m _ (0+P9 m a)]
    congr 1<;>omega
section
variable {m:Map}{a:Int}{t:List Int}
theorem D06 (B:BearM m)(R:RouteOK m a t){i:Nat}{lane:Int}(hi:i< (a::t).length)(zi:Nat){z:Zone}(hz:m.Zones[zi]? =some z)(o1 o2:List Pass):
    ∀(r:List Part) (k:Nat) (out:List Pass),z.Parts.drop k=r→k≤z.Parts.length→out.length+r.length≤1000→
     loop (W0 (A21 m (a::t)) (o1,(i:Int)) lane (o2,(zi:Int)) z) (out,(k:Int))=some (out++B2h lane (atM m (a::t) i) zi k r):=by
  have Z:=R.val.zoneOK (List.mem_of_getElem? hz)
  have h6:=Z.six
  intro r
  induction r with
  |nil=>
   intro k out hk hkl hl
   have:=A3j hk
   obtain rfl:k=z.Parts.length:=by omega
   refine G1 ?_
   unfold W0
   rw [A39];simp [B2h]
  |cons p r ih=>
   intro k out hk hkl hl
   have hlt:=A29 hk
   have hp:=A8t hk
   have hpm:=List.mem_of_getElem? hp
   have hpt:=Z.part p hpm
   have hln:=A6q Z.rise p.Lane_ (List.mem_map_of_mem hpm)
   have hll:=R.val.long hln.1 hln.2
   have hb:=R.bd (Nat.le_of_lt hi)
   simp only [List.length_cons]at hl
   have hs:W0 (A21 m (a::t)) (o1,(i:Int)) lane (o2,(zi:Int)) z (out,(k:Int))=some (.go (out++ (if p.Lane_==lane then [⟨(zi:Int),(k:Int),atM m (a::t) i+p.From,atM m (a::t) i+p.To⟩]else []),((k+1:Nat):Int))):=by
     unfold W0
     dsimp only
     rw [A5t hlt,N7 hp,cond_true,Option.bind_some,A1p hlt (by omega)]
     cases p.Lane_==lane
     ·simp
     ·rw [R.follow]
      dsimp only
      rw [cond_true,RouteOK.starts hi,Option.bind_some,Option.bind_some,G3 (by omega),G3 (by omega),A95 (by simp;omega)]
      rfl
   rw [Q4 hs,ih (k+1) _ (A0k hk) (by omega) (by rw [List.length_append];split<;>simp<;>omega),B2h,List.append_assoc]
theorem D07 (B:BearM m)(R:RouteOK m a t){i:Nat}{lane:Int}(hi:i< (a::t).length)(o1:List Pass):
    ∀(r:List Zone) (zi:Nat) (out:List Pass),m.Zones.drop zi=r→zi≤m.Zones.length→out.length+r.length≤500→
     loop (W1 m (A21 m (a::t)) (o1,(i:Int)) lane) (out,(zi:Int))=some (out++B3q lane (atM m (a::t) i) zi r):=by
  intro r
  induction r with
  |nil=>
   intro zi out hk hkl hl
   have:=A3j hk
   obtain rfl:zi=m.Zones.length:=by omega
   refine G1 ?_
   unfold W1
   rw [A39];simp [B3q]
  |cons z r ih=>
   intro zi out hk hkl hl
   have hlt:=A29 hk
   have hz:=A8t hk
   have Z:=R.val.zoneOK (List.mem_of_getElem? hz)
   have h6:=Z.six
   have hnz:=R.val.zones
   simp only [List.length_cons]at hl
   have h1:=B5x lane (atM m (a::t) i) zi z.Parts 0 (B36 Z.rise)
   have h3:loop (W0 (A21 m (a::t)) (o1,(i:Int)) lane (out,(zi:Int)) z) (out,0)=_:=D06 B R hi zi hz o1 out z.Parts 0 out rfl (by omega) (by omega)
   have hs:W1 m (A21 m (a::t)) (o1,(i:Int)) lane (out,(zi:Int))=some (.go (out++B2h lane (atM m (a::t) i) zi 0 z.Parts,((zi+1:Nat):Int))):=by
     unfold W1
     dsimp only
     rw [A5t hlt,N7 hz,cond_true,Option.bind_some,h3,Option.bind_some,A1p hlt (by omega)]
   rw [Q4 hs,ih (zi+1) _ (A0k hk) (by omega) (by rw [List.length_append];omega),B3q,List.append_assoc]
theorem D08 (B:BearM m)(R:RouteOK m a t):
    ∀(r:List Int) (i:Nat) (out:List Pass),(a::t).drop i=r→i≤(a::t).length→out.length+12*r.length≤200→
     loop (W2 m (A21 m (a::t))) (out,(i:Int))=some (out++B2i m (atM m (a::t) i) r):=by
  have hl:(A21 m (a::t)).lanes=a::t:=by rw [R.follow]
  intro r
  induction r with
  |nil=>
   intro i out hk hkl hle
   have:=A3j hk
   obtain rfl:i=(a::t).length:=by omega
   refine G1 ?_
   unfold W2
   dsimp only
   rw [hl,A39];simp [B2i]
  |cons x r ih=>
   intro i out hk hkl hle
   have hlt:=A29 hk
   have hx:=A8t hk
   have hm7:=R.most
   have hnz:=R.val.zones
   simp only [List.length_cons]at hle hlt
   have h2:loop (W1 m (A21 m (a::t)) (out,(i:Int)) x) (out,0)=_:=D07 B R (lane:=x) (A29 hk) out m.Zones 0 out rfl (by omega) (by omega)
   have hs:W2 m (A21 m (a::t)) (out,(i:Int))=some (.go (out++B3q x (atM m (a::t) i) 0 m.Zones,((i+1:Nat):Int))):=by
     unfold W2
     dsimp only
     rw [hl,A5t (A29 hk),N7 hx,cond_true,Option.bind_some,h2,Option.bind_some,A1p (A29 hk) (by simp only [List.length_cons];omega)]
   have:=B5y (m:=m) x (atM m (a::t) i) m.Zones 0 fun z hz=>R.val.zoneOK hz
   rw [Q4 hs,ih (i+1) _ (A0k hk) (by simp only [List.length_cons];omega) (by rw [List.length_append];omega),B2g hx,B2i,List.append_assoc]
/-- The passes: sorted, and those that there are. -/
theorem C5v (B:BearM m)(R:RouteOK m a t): ∃ps,A56 m (a::t)=some ps∧ps.Perm (B2i m 0 (a::t))∧Srt ltP ps∧ps.length≤96:=by
  have hm7:=R.most
  have hlen:(B2i m 0 (a::t)).length≤96:=by
    have:=B9n R.val (a::t) 0
    simp only [List.length_cons]at this;omega
  have h1:loop (W2 m (A21 m (a::t))) ([],0)=some (B2i m 0 (a::t)):=by
    have:=D08 B R (a::t) 0 [] rfl (by omega) (by simp;omega)
    rw [List.nil_append,B2f]at this
    exact this
  unfold A56
  rw [B2e B _ (by simp;omega),Option.bind_some,h1,Option.bind_some]
  cases q:B2i m 0 (a::t)with
  |nil=>exact ⟨[],by rw [C3k];rfl, .refl _,List.Pairwise.nil,by simp⟩
  |cons x l=>
   rw [q]at hlen
   obtain ⟨ys,g1,g2,g3⟩:=C5u (x::l) (by omega)
   exact ⟨ys,by rw [show List.isEmpty (x::l)=false from rfl,cond_false,g1];rfl,g2,g3,by rw [g2.length_eq];exact hlen⟩
end
end Go.Abs.Roads
/-! RoadsPlaces. -/
namespace Go.Abs.Roads
open Go Go.Abs
theorem C7x {k:Nat}(hk:k<8)(r:Int): ∀z∈A5f k r,∀p∈z.Parts,p.From+1<p.To:=by
  match k,hk with
  |0,_=>simp [A5f]
  |1,_=>simp [A5f]
  |2,_=>simp [A5f]
  |3,_=>simp [A5f]
  |4,_=>simp [A5f]
  |5,_=>simp [A5f]
  |6,_=>simp [A5f]
  |7,_=>simp [A5f]
theorem A8u (n route s:Int):A31 n route s=some true:=by
  obtain ⟨k,q,hk,hq,hm⟩:=C3c n
  have B:=C7q (k:=k) hq
  have V:=C9z hk hq
  obtain ⟨a,t,hr,ha,hf⟩:=B9l B V route
  have R:=C7u V ha hf
  unfold A31
  rw [hm,Option.bind_some,hr,Option.bind_some]
  have hU:=C7x hk q.r
  rw [show A5f k q.r=(C0u k q).Zones from rfl]at hU
  clear ha hf hr
  generalize C0u k q=m at*
  have h7:=R.most
  have hrl:(a::t).length≤1000000:=by simp;omega
  have hLen: ∀x∈a::t,V9 m x=some (P9 m x):=fun x hx=>by
    have:=R.mem hx
    rw [B5p B]
    unfold C0s
    rw [isM_true.2 ⟨this.1,this.2,R.val⟩];rfl
  have e1:A14 m (a::t)=some (atM m (a::t) (a::t).length):=by
    unfold A14
    rw [B2e B _ hrl,Option.bind_some,R.follow]
  have e2:A55 m (a::t)=some (A07 m 0 (a::t)):=by
    unfold A55
    rw [B2e B _ hrl,Option.bind_some,R.follow]
  have hlen:(A07 m 0 (a::t)).length=(a::t).length:=B5t _ _ _
  have hb:=R.bd (Nat.le_refl _)
  have hl1:=R.lt (i:=0) (j:=(a::t).length) (by simp) (Nat.le_refl _)
  rw [B2f]at hl1
  have hs0:F3 (A07 m 0 (a::t)) 0=some 0:=RouteOK.starts (m:=m) (a:=a) (t:=t) (i:=0) (by simp)
  rw [e1,Option.bind_some,e2,Option.bind_some,hlen,show (((a::t).length:Int) !=((a::t).length:Int))=false by simp,show decide (atM m (a::t) (a::t).length<1000)=false from decide_eq_false (by omega)]
  simp only [Bool.or_false,Bool.not_false,cond_true,hs0,Option.bind_some,Bool.false_or]
  rw [show ((0:Int) !=0)=false from rfl,cond_false,G3 (by omega),B9g (by omega) (by omega),Option.bind_some]
  obtain ⟨s0,s1⟩:=A3a s (show 0<atM m (a::t) (a::t).length+1 by omega)
  generalize s % (atM m (a::t) (a::t).length+1)=s' at s0 s1
  obtain ⟨kp,x,hx,hpl,hp1,hp2⟩:=C22 B R s0 (show s'≤_ by omega)
  have hkp:kp< (a::t).length:=(List.getElem?_eq_some_iff.1 hx).1
  have hxm:=List.mem_of_getElem? hx
  have hup:s'≤atM m (a::t) kp+P9 m x:=by
    rw [← B2g hx]
    rcases Nat.lt_or_ge (kp+1) (a::t).length with h|h
    ·have:=hp2 (kp+1) (by omega) h;omega
    ·rw [show kp+1=(a::t).length by omega];omega
  have hbk:=R.bd (Nat.le_of_lt hkp)
  rw [hpl,Option.bind_some]
  have key: ∀(r:List Int) (i:Nat) (b:Bool),(a::t).drop i=r→i≤(a::t).length→(kp<i→b=true)→loop (O5 m (a::t) (A07 m 0 (a::t)) s' (x,s' - atM m (a::t) kp,true)) (b,(i:Int))=some (.inl true):=by
    intro r
    induction r with
    |nil=>
     intro i b hi hil hb'
     have:=A3j hi
     obtain rfl:i=(a::t).length:=by omega
     obtain rfl:b=true:=hb' hkp
     refine G1 ?_
     unfold O5
     rw [A39];rfl
    |cons y r ih=>
     intro i b hi hil hb'
     have hlt:=A29 hi
     have hy:=A8t hi
     have hst:F3 (A07 m 0 (a::t)) (i:Int)=some (atM m (a::t) i):=RouteOK.starts hlt
     have hbi:=R.bd (Nat.le_of_lt hlt)
     have hw:w64 (atM m (a::t) i+ (s' - atM m (a::t) kp))=atM m (a::t) i+ (s' - atM m (a::t) kp):=G3 (by omega)
     have hbx:P9 m x≤16777216:=(R.len hx).2
     suffices h: ∃b',O5 m (a::t) (A07 m 0 (a::t)) s' (x,s' - atM m (a::t) kp,true) (b,(i:Int))=some (.go (b',((i+1:Nat):Int)))∧(b=true→b'=true)∧(i=kp→b'=true) by
       obtain ⟨b',g1,g2,g3⟩:=h
       rw [Q4 g1]
       refine ih (i+1) b' (A0k hi) (by omega) fun h=> ?_
       rcases Nat.lt_or_ge kp i with h'|h'
       ·exact g2 (hb' h')
       ·exact g3 (by omega)
     -- what the checks of the starts say
     have hchk: ∀(w:Bool),((cond (decide ((i:Int)>0)) (F3 (A07 m 0 (a::t)) (i:Int)) (some default)).bind fun v11=>(cond (decide ((i:Int)>0)) (F3 (A07 m 0 (a::t)) (w64 ((i:Int) - 1))) (some default)).bind fun v12=>(cond (decide ((i:Int)>0)) (F3 (a::t) (w64 ((i:Int) - 1))) (some default)).bind fun v13=>(cond (decide ((i:Int)>0)) (V9 m v13) (some default)).bind fun v14=>cond ((decide ((i:Int)>0))&& (v11 !=(w64 (v12+v14)))) (some (.out (.inr false):Stp (Bool×Int) (Sum Bool Bool))) (some (.go (w,(w64 ((i:Int)+1))))))=some (.go (w,((i+1:Nat):Int))):=fun w=>by
       rw [A1p hlt (by simp only [List.length_cons];omega)]
       cases i with
       |zero=>rfl
       |succ j=>
        have hj:(a::t)[j]? =some (a::t)[j]:=List.getElem?_eq_getElem (by omega)
        have hw1:w64 (((j+1:Nat):Int) - 1)=(j:Int):=by rw [G3 (by simp only [List.length_cons]at hlt;omega)];omega
        have hsj:F3 (A07 m 0 (a::t)) (j:Int)=some (atM m (a::t) j):=RouteOK.starts (by omega)
        have hbj:=R.bd (i:=j) (by omega)
        have hlj:=R.len hj
        rw [show decide (((j+1:Nat):Int)>0)=true from decide_eq_true (by omega)]
        simp only [cond_true,hst,Option.bind_some,hw1,hsj,N7 hj,hLen _ (List.mem_of_getElem? hj),Bool.true_and]
        rw [G3 (by omega),B2g hj]
        simp
     unfold O5
     dsimp only
     rw [A5t hlt,cond_true]
     cases b with
     |true=>
      refine ⟨true,?_,fun _=>rfl,fun _=>rfl⟩
      have:=hchk true
      simp only [Bool.not_true,cond_false,Option.bind_some,Bool.false_and,Bool.true_or]
      exact this
     |false=>
      simp only [Bool.not_false,cond_true,N7 hy,Option.bind_some,Bool.true_and,Bool.false_or]
      cases hyx:y==x with
      |false=>
       refine ⟨false,?_,nofun,fun h=> ?_⟩
       ·have:=hchk false
        simp only [cond_false,Option.bind_some,Bool.false_and]
        exact this
       ·subst h
        rw [hx]at hy
        rw [Option.some.inj hy]at hyx
        simp at hyx
      |true=>
       simp only [cond_true,hst,Option.bind_some,Bool.true_and,hw]
       cases hc:(atM m (a::t) i+ (s' - atM m (a::t) kp)==s')with
       |false=>
        refine ⟨false,?_,nofun,fun h=> ?_⟩
        ·have:=hchk false
         simp only [hst]at this
         simp only [cond_false,Option.bind_some,Bool.false_and]
         exact this
        ·subst h
         exfalso
         rw [beq_eq_false_iff_ne]at hc
         omega
       |true=>
        refine ⟨true,?_,nofun,fun _=>rfl⟩
        have:=hchk true
        simp only [hst]at this
        rw [show decide (s' - atM m (a::t) kp≥0)=true from decide_eq_true (by omega)]
        simp only [Bool.and_true,cond_true,hLen x hxm,Option.bind_some]
        rw [show decide (s' - atM m (a::t) kp≤P9 m x)=true from decide_eq_true (by omega)]
        exact this
  have hk1:=key (a::t) 0 false rfl (by omega) (by omega)
  have hk1':loop (O5 m (a::t) (A07 m 0 (a::t)) s' (x,s' - atM m (a::t) kp,true)) (false,0)=_:=hk1
  rw [hk1']
  simp only [thenS,Bool.not_true,Bool.or_false,cond_false]
  obtain ⟨ps,hps,hperm,hsrt,hpl2⟩:=C5v B R
  rw [hps,Option.bind_some]
  have hl:=C9x ps (fun _=>false) false (F:=U4 m (a::t) (atM m (a::t) (a::t).length) ps) (fun i y hy=> ?_) ?_
  ·rw [hl,show (ps.any fun _=>false)=false by simp,if_neg (by simp)]
   show (A3o).bind _=_
   rw [C7p];rfl
  ·have hlt:i<ps.length:=(List.getElem?_eq_some_iff.1 hy).1
   obtain ⟨il,lane,zj,z,pj,p,h1,h2,h3,h4,h5⟩:=B9q m (a::t) 0 y (hperm.mem_iff.1 (List.mem_of_getElem? hy))
   have hzm:=List.mem_of_getElem? h2
   have hpm:=List.mem_of_getElem? h3
   have Z:=R.val.zoneOK hzm
   have hpt:=Z.part p hpm
   have hw:=hU z hzm p hpm
   have hzl:zj<m.Zones.length:=(List.getElem?_eq_some_iff.1 h2).1
   have hpl3:pj<z.Parts.length:=(List.getElem?_eq_some_iff.1 h3).1
   have hill:il< (a::t).length:=(List.getElem?_eq_some_iff.1 h1).1
   have hbi:=R.bd (Nat.le_of_lt hill)
   have hn:=B2g (m:=m) h1
   have hll:=R.len h1
   subst h4
   have hy1:y.From=atM m (a::t) il+p.From:=by rw [h5];show 0+atM m (a::t) il+p.From=_;omega
   have hy2:y.To=atM m (a::t) il+p.To:=by rw [h5];show 0+atM m (a::t) il+p.To=_;omega
   have hy3:y.Zone_=(zj:Int):=by rw [h5]
   have hy4:y.Part_=(pj:Int):=by rw [h5]
   have hup2:atM m (a::t) (il+1)≤atM m (a::t) (a::t).length:=by
     rcases Nat.lt_or_ge (il+1) (a::t).length with h|h
     ·have:=R.lt h (Nat.le_refl _);omega
     ·rw [show il+1=(a::t).length by omega];omega
   obtain ⟨k',x',g1,g2,g3,g4⟩:=C22 B R (s:=y.From+1) (by omega) (by omega)
   have hk'l:k'< (a::t).length:=(List.getElem?_eq_some_iff.1 g1).1
   have hkk:k'=il:=by
     rcases Nat.lt_trichotomy k' il with h|h|h
     ·have:=g4 il h hill;omega
     ·exact h
     ·rcases Nat.lt_or_ge (il+1) k' with h'|h'
      ·have:=R.lt h' (Nat.le_of_lt hk'l);omega
      ·rw [show k'=il+1 by omega]at g3;omega
   subst hkk
   rw [h1]at g1
   obtain rfl:=Option.some.inj g1
   have hgy:F3 ps (i:Int)=some y:=N7 hy
   have hgz:F3 m.Zones y.Zone_=some z:=by rw [hy3];exact N7 h2
   have hgp:F3 z.Parts y.Part_=some p:=by rw [hy4];exact N7 h3
   have c1:decide (y.Zone_<0)=false:=decide_eq_false (by omega)
   have c2:decide (y.Zone_≥(m.Zones.length:Int))=false:=decide_eq_false (by omega)
   have c3:decide (y.Part_<0)=false:=decide_eq_false (by omega)
   have c4:decide (y.Part_≥(z.Parts.length:Int))=false:=decide_eq_false (by omega)
   have w1:w64 (y.From+1)=y.From+1:=G3 (by omega)
   have w2:w64 (y.To - y.From)=y.To - y.From:=G3 (by omega)
   have w3:w64 (p.To - p.From)=p.To - p.From:=G3 (by omega)
   have w4:w64 (p.From+1)=p.From+1:=G3 (by omega)
   have c5:decide (y.To>atM m (a::t) (a::t).length)=false:=decide_eq_false (by omega)
   have c6:(y.To - y.From !=p.To - p.From)=false:=by simp;omega
   have c7:(y.From+1 - atM m (a::t) k' !=p.From+1)=false:=by simp;omega
   have c8:(p.Lane_ !=p.Lane_)=false:=by simp
   rw [if_neg (by simp)]
   unfold U4
   rw [A5t hlt,A1p hlt (by omega)]
   simp only [cond_true,hgy,Option.bind_some,c1,Bool.not_false,c2,Bool.or_false,c3,hgz,c4,Bool.true_and,Bool.false_or]
   have hord: ∀(K:Option (Stp Int (Sum Unit Bool))),((cond (decide ((i:Int)>0)) (some y) (some default)).bind fun v22=>(cond (decide ((i:Int)>0)) (F3 ps (w64 ((i:Int) - 1))) (some default)).bind fun v23=>cond ((decide ((i:Int)>0))&& (decide (v22.From<v23.From))) (some (.out (.inr false))) K)=K:=fun K=>by
     cases i with
     |zero=>rfl
     |succ j=>
      have hw1:w64 (((j+1:Nat):Int) - 1)=(j:Int):=by rw [G3 (by omega)];omega
      have hj:ps[j]? =some ps[j]:=List.getElem?_eq_getElem (by omega)
      rw [show decide (((j+1:Nat):Int)>0)=true from decide_eq_true (by omega)]
      simp only [cond_true,Option.bind_some,hw1,N7 hj,Bool.true_and]
      have:=hsrt.get ltP_ok (i:=j) (j:=j+1) (by omega) hlt
      have hyy:ps[j+1]=y:=by rw [List.getElem?_eq_getElem hlt]at hy;exact Option.some.inj hy
      rw [hyy]at this
      simp only [ltP,decide_eq_false_iff_not]at this
      rw [show decide (y.From<ps[j].From)=false from decide_eq_false (by omega)];rfl
   rw [hord]
   simp only [hgp,Option.bind_some,w1,g2,Bool.not_true,Bool.not_false,cond_true,Bool.false_or,c5,w2,w3,c6,c8,w4,c7,cond_false]
  ·unfold U4
   rw [A39];rfl
end Go.Abs.Roads
