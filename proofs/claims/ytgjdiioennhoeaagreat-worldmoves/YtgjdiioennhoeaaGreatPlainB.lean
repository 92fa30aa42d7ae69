/-
  Plain facts, second part: the law itself.
-/
import Derived.Test.YtgjdiioennhoeaaGreatPlain
namespace Go.Abs.World
open Go Go.Abs
/-- All lists of a map are of bearable lengths. -/
structure BearM (m:Map):Prop where
  toBear:Bear m
  toBearS:BearS m
  toBearZ:BearZ m
  toBearW:BearW m
theorem BearM.lanes {m:Map}(B:BearM m):m.Lanes.length≤1000000:=B.toBear.lanes
noncomputable def C3v (m:Map):Int:=
  if inR m.Version 0 1099511627776=false then 2
  else if m.Lanes.length=0 then 6
  else if 12<m.Lanes.length∨12<m.Zones.length∨4<m.Signals.length∨8<m.Works.length then 8
  else ((J7 (laneE m.Lanes.length) 0 m.Lanes).or ((J7 (nextE m) 0 m.Lanes).or ((J7 (signalE m) 0 m.Signals).or ((J7 (zoneE m) 0 m.Zones).or (J7 (workE m) 0 m.Works))))).getD 0
theorem A1y {α:Type}{g:Nat→α→Option Int}(h: ∀i a e,g i a=some e→e≠0): ∀{l:List α} {i:Nat} {e:Int},J7 g i l=some e→e≠0
  | [],_,_,q=>by cases q
  |a::r,i,e,q=>by
   unfold J7 at q
   cases hg:g i a with
   |some e'=>rw [hg]at q;cases q;exact h i a e hg
   |none=>rw [hg]at q;exact A1y h q
theorem C0s {m:Map}{i:Nat}{z:Zone}{e:Int}(h:zoneE m i z=some e):e≠0:=by
  unfold zoneE at h
  repeat' split at h
  all_goals first|(cases h;decide)|cases h
theorem B5t {m:Map}{i:Nat}{z:Signal}{e:Int}(h:signalE m i z=some e):e≠0:=by
  unfold signalE at h
  repeat' split at h
  all_goals first|(cases h;decide)|cases h
theorem C5g {m:Map}{i:Nat}{z:Work}{e:Int}(h:workE m i z=some e):e≠0:=by
  unfold workE at h
  repeat' split at h
  all_goals first|(cases h;decide)|cases h
theorem C5h {m:Map}{i:Nat}{z:Lane}{e:Int}(h:nextE m i z=some e):e≠0:=A1y (fun _ _ _=>D3s) h
/-- A loop that goes on as long as there is no error. -/
theorem D9b {α:Type}{F:Int×Int→Option (Stp (Int×Int) Int)}(l:List α)(g:Nat→α→Option Int)(hg: ∀i a e,g i a=some e→e≠0)(hl:l.length≤1000000)
    (hF: ∀(i:Nat) a,l[i]? =some a→F (0,(i:Int))=some (.go ((g i a).getD 0,((i+1:Nat):Int)))) (h0: ∀(i:Nat) (e:Int),e≠0→F (e,(i:Int))=some (.out e)) (h1:F (0,(l.length:Int))=some (.out 0)) (e0:Option Int) (he: ∀e,e0=some e→e≠0):
    loop F (e0.getD 0,0)=some ((e0.or (J7 g 0 l)).getD 0):=by
  have key: ∀(r:List α) (i:Nat),l.drop i=r→i≤l.length→loop F (0,(i:Int))=some ((J7 g i r).getD 0):=by
    intro r
    induction r with
    |nil=>
     intro i hi hil
     have:=U4 hi
     obtain rfl:i=l.length:=by omega
     exact D5 h1
    |cons a r ih=>
     intro i hi hil
     have hlt:=V5 hi
     have hs:=hF i a (A2o hi)
     rw [P2 hs]
     unfold J7
     cases h:g i a with
     |some e=>exact D5 (h0 (i+1) e (hg i a e h))
     |none=>exact ih (i+1) (L0 hi) (by omega)
  cases e0 with
  |some e=>exact D5 (h0 0 e (he e rfl))
  |none=>exact key l 0 rfl (by omega)
theorem B33 {m:Map}(B:BearM m):A73 m=some (C3v m):=by
  have hb:=B.lanes
  unfold A73 C3v
  rw [B3n,Option.bind_some]
  cases inR m.Version 0 1099511627776
  ·rfl
  ·simp only [Bool.not_true,cond_false,Bool.true_eq_false,if_false]
   by_cases h1:m.Lanes.length=0
   ·rw [if_pos h1,h1];rfl
   ·rw [if_neg h1,show ((m.Lanes.length:Int)==0)=false by simp only [beq_eq_false_iff_ne];omega,cond_false]
    by_cases h2:12<m.Lanes.length∨12<m.Zones.length∨4<m.Signals.length∨8<m.Works.length
    ·rw [if_pos h2,show ((((decide ((m.Lanes.length:Int)>12))||(decide ((m.Zones.length:Int)>12)))||(decide ((m.Signals.length:Int)>4)))||(decide ((m.Works.length:Int)>8)))=true by simp;omega];rfl
    ·rw [if_neg h2,show ((((decide ((m.Lanes.length:Int)>12))||(decide ((m.Zones.length:Int)>12)))||(decide ((m.Signals.length:Int)>4)))||(decide ((m.Works.length:Int)>8)))=false by simp;omega,cond_false]
     rw [C8g B.toBear]
     cases H:J7 (laneE m.Lanes.length) 0 m.Lanes with
     |some e=>rfl
     |none=>
      have n1: ∀e,J7 (nextE m) 0 m.Lanes=some e→e≠0:=fun e h=>A1y (fun _ _ _=>C5h) h
      have n2: ∀e,(J7 (nextE m) 0 m.Lanes).or (J7 (signalE m) 0 m.Signals)=some e→e≠0:=fun e h=>by
        rcases Option.or_eq_some_iff.1 h with h|⟨_,h⟩
        ·exact n1 e h
        ·exact A1y (fun _ _ _=>B5t) h
      have n3: ∀e,((J7 (nextE m) 0 m.Lanes).or (J7 (signalE m) 0 m.Signals)).or (J7 (zoneE m) 0 m.Zones)=some e→e≠0:=fun e h=>by
        rcases Option.or_eq_some_iff.1 h with h|⟨_,h⟩
        ·exact n2 e h
        ·exact A1y (fun _ _ _=>C0s) h
      simp only [D1w,thenS,Option.none_or]
      rw [(C6x B.toBear H).2,Option.bind_some]
      rw [D9b m.Signals (signalE m) (fun _ _ _=>B5t) B.toBearS.many (fun i a ha=>by
       have hi:=U2 ha
       have hm:=B.toBearS.many
       unfold A4l
       dsimp only
       rw [X4 hi,E6 ha,Bool.true_and,show ((0:Int)==0)=true from rfl,cond_true,Option.bind_some,D1e B.toBearS i (List.mem_of_getElem? ha),M8 hi (by omega)];rfl) (fun i e he=>by
       unfold A4l
       dsimp only
       rw [show (e==0)=false by simpa using he,Bool.and_false];rfl) (by unfold A4l;dsimp only;rw [T7];rfl) _ n1,Option.bind_some]
      rw [D9b m.Zones (zoneE m) (fun _ _ _=>C0s) B.toBearZ.many (fun i a ha=>by
       have hi:=U2 ha
       have hm:=B.toBearZ.many
       unfold A4k
       dsimp only
       rw [X4 hi,E6 ha,Bool.true_and,show ((0:Int)==0)=true from rfl,cond_true,Option.bind_some,D6g B.toBear B.toBearZ ha,M8 hi (by omega)];rfl) (fun i e he=>by
       unfold A4k
       dsimp only
       rw [show (e==0)=false by simpa using he,Bool.and_false];rfl) (by unfold A4k;dsimp only;rw [T7];rfl) _ n2,Option.bind_some]
      rw [D9b m.Works (workE m) (fun _ _ _=>C5g) B.toBearW.many (fun i a ha=>by
       have hi:=U2 ha
       have hm:=B.toBearW.many
       unfold A4j
       dsimp only
       rw [X4 hi,E6 ha,Bool.true_and,show ((0:Int)==0)=true from rfl,cond_true,Option.bind_some,D6i B.toBear (i:=i) a,M8 hi (by omega)];rfl) (fun i e he=>by
       unfold A4j
       dsimp only
       rw [show (e==0)=false by simpa using he,Bool.and_false];rfl) (by unfold A4j;dsimp only;rw [T7];rfl) _ n3,Option.bind_some]
      rw [Option.or_assoc,Option.or_assoc]
theorem A94 {m:Map}(B:BearM m):A3v m=some (C3v m):=by
  have hb:=B.lanes
  have s0:O7 m 0=(U7 ⟨m⟩).bind fun v2=>cond (v2 !=0) (some (.out (.inr v2))) (some (.go 1)):=rfl
  have s1:O7 m 1=(X9 ⟨m⟩).bind fun v2=>cond (v2 !=0) (some (.out (.inr v2))) (some (.go 2)):=rfl
  have s2:O7 m 2=(W5 ⟨m⟩).bind fun v2=>cond (v2 !=0) (some (.out (.inr v2))) (some (.go 3)):=rfl
  have s3:O7 m 3=(U8 ⟨m⟩).bind fun v2=>cond (v2 !=0) (some (.out (.inr v2))) (some (.go 4)):=rfl
  have s4:O7 m 4=(Y1 ⟨m⟩).bind fun v2=>cond (v2 !=0) (some (.out (.inr v2))) (some (.go 5)):=rfl
  have s5:O7 m 5=(Y2 ⟨m⟩).bind fun v2=>cond (v2 !=0) (some (.out (.inr v2))) (some (.go 6)):=rfl
  have s6:O7 m 6=some (.out (.inl ())):=rfl
  have stp: ∀(i j:Int) (e:Option Int) (X:Option Int),(∀e',e=some e'→e'≠0)→X=some (e.getD 0)→O7 m i=X.bind (fun v2=>cond (v2 !=0) (some (.out (.inr v2))) (some (.go j)))→loop (O7 m) i=match e with|some e'=>some (.inr e')|none=>loop (O7 m) j:=by
    intro i j e X he hX hs
    subst hX
    rw [Option.bind_some]at hs
    cases e with
    |none=>exact P2 hs
    |some e'=>
     rw [Option.getD_some,show (e' !=0)=true by simpa using he e' rfl]at hs
     exact D5 hs
  unfold A3v C3v
  have hnum:U7 ⟨m⟩=some ((if inR m.Version 0 1099511627776=false then some 2 else if m.Lanes.length=0 then some 6 else if 12<m.Lanes.length∨12<m.Zones.length∨4<m.Signals.length∨8<m.Works.length then some 8 else none:Option Int).getD 0):=by
    unfold U7
    dsimp only
    rw [B3m,Option.bind_some]
    cases inR m.Version 0 1099511627776
    ·rfl
    ·simp only [Bool.not_true,cond_false,Bool.true_eq_false,if_false]
     by_cases h1:m.Lanes.length=0
     ·rw [if_pos h1,h1];rfl
     ·rw [if_neg h1,show ((m.Lanes.length:Int)==0)=false by simp only [beq_eq_false_iff_ne];omega,cond_false]
      by_cases h2:12<m.Lanes.length∨12<m.Zones.length∨4<m.Signals.length∨8<m.Works.length
      ·rw [if_pos h2,show ((((decide ((m.Lanes.length:Int)>12))||(decide ((m.Zones.length:Int)>12)))||(decide ((m.Signals.length:Int)>4)))||(decide ((m.Works.length:Int)>8)))=true by simp;omega];rfl
      ·rw [if_neg h2,show ((((decide ((m.Lanes.length:Int)>12))||(decide ((m.Zones.length:Int)>12)))||(decide ((m.Signals.length:Int)>4)))||(decide ((m.Works.length:Int)>8)))=false by simp;omega];rfl
  rw [stp 0 1 _ _ (by repeat' split
                      all_goals (intro e' h;first|(cases h;decide)|cases h)) hnum s0]
  by_cases q1:inR m.Version 0 1099511627776=false
  ·rw [if_pos q1,if_pos q1];rfl
  ·rw [if_neg q1,if_neg q1]
   by_cases q2:m.Lanes.length=0
   ·rw [if_pos q2,if_pos q2];rfl
   ·rw [if_neg q2,if_neg q2]
    by_cases q3:12<m.Lanes.length∨12<m.Zones.length∨4<m.Signals.length∨8<m.Works.length
    ·rw [if_pos q3,if_pos q3];rfl
    ·rw [if_neg q3,if_neg q3]
     dsimp only
     rw [stp 1 2 _ _ (fun e' h=>A1y (fun _ _ _=>C5c) h) (D6c B.toBear) s1]
     cases H:J7 (laneE m.Lanes.length) 0 m.Lanes with
     |some e=>rfl
     |none=>
      dsimp only
      rw [stp 2 3 _ _ (fun e' h=>A1y (fun _ _ _=>C5h) h) (C6x B.toBear H).1 s2]
      cases J7 (nextE m) 0 m.Lanes with
      |some e=>rfl
      |none=>
       dsimp only
       rw [stp 3 4 _ _ (fun e' h=>A1y (fun _ _ _=>B5t) h) (D1c B.toBear B.toBearS) s3]
       cases J7 (signalE m) 0 m.Signals with
       |some e=>rfl
       |none=>
        dsimp only
        rw [stp 4 5 _ _ (fun e' h=>A1y (fun _ _ _=>C0s) h) (D6f B.toBear B.toBearZ) s4]
        cases J7 (zoneE m) 0 m.Zones with
        |some e=>rfl
        |none=>
         dsimp only
         rw [stp 5 6 _ _ (fun e' h=>A1y (fun _ _ _=>C5g) h) (D6h B.toBear B.toBearW) s5]
         cases J7 (workE m) 0 m.Works with
         |some e=>rfl
         |none=>dsimp only;rw [D5 s6];rfl
end Go.Abs.World
namespace Go.Abs.World
open Go Go.Abs
/-- What a valid map is. -/
structure ValR (m:Map):Prop where
  ver:0≤m.Version∧m.Version≤1099511627776
  pos:0<m.Lanes.length
  lanes:m.Lanes.length≤12
  zones:m.Zones.length≤12
  signals:m.Signals.length≤4
  works:m.Works.length≤8
  laneE:J7 (laneE m.Lanes.length) 0 m.Lanes=none
  nextE:J7 (nextE m) 0 m.Lanes=none
  signalE:J7 (signalE m) 0 m.Signals=none
  zoneE:J7 (zoneE m) 0 m.Zones=none
  workE:J7 (workE m) 0 m.Works=none
theorem D3u {α:Type}{g:Nat→α→Option Int}{l:List α}(h: ∀i a e,g i a=some e→e≠0)(h0:(J7 g 0 l).getD 0=0):J7 g 0 l=none:=by
  cases q:J7 g 0 l with
  |none=>rfl
  |some e=>rw [q]at h0;exact absurd h0 (A1y h q)
theorem chkR_zero {m:Map}:C3v m=0↔ValR m:=by
  unfold C3v
  constructor
  ·intro h
   split at h
   ·cases h
   ·rename_i h1
    split at h
    ·cases h
    ·rename_i h2
     split at h
     ·cases h
     ·rename_i h3
      simp only [inR,Bool.not_eq_false,Bool.and_eq_true,decide_eq_true_eq]at h1
      have key: ∀{o r:Option Int},(∀e,o=some e→e≠0)→(o.or r).getD 0=0→o=none∧r.getD 0=0:=by
        intro o r ho hr
        cases o with
        |none=>exact ⟨rfl,hr⟩
        |some e=>exact absurd hr (ho e rfl)
      obtain ⟨a1,h⟩:=key (fun e h=>A1y (fun _ _ _=>C5c) h) h
      obtain ⟨a2,h⟩:=key (fun e h=>A1y (fun _ _ _=>C5h) h) h
      obtain ⟨a3,h⟩:=key (fun e h=>A1y (fun _ _ _=>B5t) h) h
      obtain ⟨a4,h⟩:=key (fun e h=>A1y (fun _ _ _=>C0s) h) h
      exact ⟨h1,by omega,by omega,by omega,by omega,by omega,a1,a2,a3,a4,D3u (fun _ _ _=>C5g) h⟩
  ·rintro ⟨h1,h2,h3,h4,h5,h6,a1,a2,a3,a4,a5⟩
   rw [if_neg (by simp only [inR,Bool.not_eq_false,Bool.and_eq_true,decide_eq_true_eq];exact h1),if_neg (by omega),if_neg (by omega),a1,a2,a3,a4,a5];rfl
section
variable {m:Map}
theorem ValR.laneOK (V:ValR m){i:Nat}{l:Lane}(h:m.Lanes[i]? =some l):LaneOK m.Lanes.length i l:=B8h V.laneE h
theorem ValR.next (V:ValR m){i:Nat}{l:Lane}(h:m.Lanes[i]? =some l){k:Int}(hk:k∈l.Next):(i:Int)<k∧k<m.Lanes.length:=by
  have:=B1x (V.laneOK h).next k hk
  omega
end
/-- The lanes in which a lane goes on. -/
def nextOf (m:Map)(a:Nat):List Int:=((m.Lanes[a]?).map (·.Next)).getD []
theorem ValR.nextOf {m:Map}(V:ValR m){a:Nat}{k:Int}(hk:k∈World.nextOf m a):(a:Int)<k∧k<m.Lanes.length:=by
  unfold World.nextOf at hk
  cases h:m.Lanes[a]? with
  |none=>rw [h]at hk;cases hk
  |some l=>rw [h]at hk;exact V.next h hk
def D7p (m:Map)(b:Int):Nat→Nat→Bool
  |0,_=>false
  |n+1,a=>(nextOf m a).any fun k=>k==b||D7p m b n k.toNat
/-- Does a lane lead to another one? -/
def E19 (m:Map)(a:Nat)(b:Int):Bool:=D7p m b m.Lanes.length a
end Go.Abs.World
namespace Go.Abs.World
open Go Go.Abs
/-- What is known of the sets of the lanes from a number on. -/
structure Reach (m:Map)(i:Nat)(l:List Nat):Prop where
  len:l.length=12
  small: ∀(a x:Nat),l[a]? =some x→x<2^32
  zero: ∀(a:Nat),a<i→l[a]? =some 0
  bits: ∀(a x:Nat),i≤a→a<m.Lanes.length→l[a]? =some x→∀b:Nat,x.testBit b=E19 m a (b:Int)
theorem Reach.get {m:Map}{i:Nat}{l:List Nat}(R:Reach m i l){a:Nat}(h:a<12): ∃x,l[a]? =some x∧x<2^32:=by
  have:=R.len
  exact ⟨l[a],List.getElem?_eq_getElem (by omega),R.small a _ (List.getElem?_eq_getElem (by omega))⟩
end Go.Abs.World
namespace Go.Abs.World
open Go Go.Abs
noncomputable def isM (m:Map)(k:Int):Bool:=(decide (k≥0)&&decide (k<m.Lanes.length))&& (C3v m==0)
theorem isM_true {m:Map}{k:Int}:isM m k=true↔0≤k∧k<m.Lanes.length∧ValR m:=by
  unfold isM
  rw [Bool.and_eq_true,Bool.and_eq_true,beq_iff_eq,chkR_zero]
  simp only [decide_eq_true_eq,and_assoc,ge_iff_le]
theorem C2g {m:Map}(B:BearM m)(k:Int):B08 m k=some (isM m k):=by
  unfold B08 isM
  rw [A94 B]
  cases (decide (k≥0)&&decide (k< (m.Lanes.length:Int)))<;>rfl
theorem B8i {m:Map}(B:BearM m)(k:Int):B0l m k=some (isM m k):=by
  unfold B0l isM
  rw [B33 B]
  cases (decide (k≥0)&&decide (k< (m.Lanes.length:Int)))<;>rfl
theorem B5e {m:Map}(B:BearM m){k:Int}(h0:0≤k)(h1:k<m.Lanes.length):A7g m k=some (W3 m k):=by
  obtain ⟨l,e1,e2⟩:=C5f B.toBear h0 h1
  unfold A7g
  rw [e1,Option.bind_some,e2];rfl
noncomputable def B1y (m:Map)(k:Int):Int:=if isM m k then W3 m k else 0
theorem B5f {m:Map}(B:BearM m)(k:Int):A2h m k=some (B1y m k):=by
  unfold A2h B1y
  rw [C2g B,Option.bind_some]
  cases h:isM m k
  ·rfl
  ·have:=isM_true.1 h
   rw [if_pos rfl,Bool.not_true,cond_false,C5e B.toBear this.1 this.2.1];rfl
theorem B5g {m:Map}(B:BearM m)(k:Int):A9j m k=some (B1y m k):=by
  unfold A9j B1y
  rw [B8i B,Option.bind_some]
  cases h:isM m k
  ·rfl
  ·have:=isM_true.1 h
   rw [if_pos rfl,Bool.not_true,cond_false,B5e B this.1 this.2.1];rfl
theorem B76 (l:List Int)(hl:l.length≤1000000)(k:Int):M2 l k=some (l.contains k):=by
  unfold M2 W0
  rw [C5d l (fun x=>k==x) (by omega) (fun i a h=>by
   have hi:=U2 h
   unfold R5
   rw [X4 hi,E6 h,cond_true,Option.bind_some]
   cases k==a<;>rfl) (by unfold R5;rw [T7];rfl)]
  rw [Option.bind_some,C0r,List.contains_eq_any_beq]
theorem D3v (l:List Int)(hl:l.length≤1000000)(k:Int):B1a l k=some (l.contains k):=by
  unfold B1a
  rw [D9a l (fun x=>x==k) true (fun i a h=>by
   have hi:=U2 h
   unfold A9g
   rw [X4 hi,E6 h,cond_true,Option.bind_some,M8 hi (by omega)]
   cases a==k<;>rfl) (by unfold A9g;rw [T7];rfl)]
  rw [List.contains_eq_any_beq,show (fun x=>x==k)=(fun x=>k==x) from funext fun x=>by rw [Bool.beq_comm]]
  cases l.any fun x=>k==x<;>rfl
/-- What comes before a lane. -/
def B34 (m:Map)(k:Int):List Int:=C39 (fun i (l:Lane)=>if l.Next.contains k then some (i:Int)else none) 0 m.Lanes
theorem D3w {m:Map}(B:BearM m)(k:Int):A58 m k=some (B34 m k):=by
  unfold A58 B34
  have hb:=B.lanes
  rw [D7n m.Lanes (fun i (l:Lane)=>if l.Next.contains k then some (i:Int)else none) id (fun i l s h hs=>by
   have hi:=U2 h
   unfold A1q
   dsimp only
   rw [X4 hi,E6 h,cond_true,Option.bind_some,B76 _ (B.toBear.pts l (List.mem_of_getElem? h)).2,Option.bind_some,A9p (by simp;omega),M8 hi (by omega)]
   cases l.Next.contains k<;>rfl) (fun s=>by unfold A1q;rw [T7];rfl)]
  rfl
theorem D1f {m:Map}(B:BearM m)(k:Int):A9h m k=some (B34 m k):=by
  unfold A9h B34
  have hb:=B.lanes
  rw [D7n m.Lanes (fun i (l:Lane)=>if l.Next.contains k then some (i:Int)else none) id (fun i l s h hs=>by
   have hi:=U2 h
   unfold A5j
   dsimp only
   rw [X4 hi,E6 h,cond_true,Option.bind_some,D3v _ (B.toBear.pts l (List.mem_of_getElem? h)).2,Option.bind_some,A9p (by simp;omega),M8 hi (by omega)]
   cases l.Next.contains k<;>rfl) (fun s=>by unfold A5j;rw [T7];rfl)]
  rfl
end Go.Abs.World
namespace Go.Abs.World
open Go Go.Abs
def D3x (z:Zone)(k:Int):Part×Bool:=match z.Parts.find? (fun p=>p.Lane_==k)with|some p=>(p,true)|none=>(⟨0,0,0,0⟩,false)
structure ZoneOK (m:Map)(z:Zone):Prop where
  two:2≤z.Parts.length
  six:z.Parts.length≤6
  sig:0≤z.Signal_∧z.Signal_≤m.Signals.length
  rise:A6b m.Lanes.length 0 (z.Parts.map (·.Lane_))=true
  part: ∀p∈z.Parts,0≤p.From∧p.From<p.To∧p.To≤W3 m p.Lane_∧0≤p.Rank∧p.Rank≤100
theorem D1g {m:Map}{i:Nat}{z:Zone}(h:zoneE m i z=none):ZoneOK m z:=by
  unfold zoneE at h
  split at h
  ·cases h
  ·rename_i h1
   split at h
   ·cases h
   ·rename_i h2
    split at h
    ·cases h
    ·rename_i h3
     split at h
     ·cases h
     ·rename_i h4
      split at h
      ·cases h
      ·rename_i h5
       refine ⟨by omega,by omega,by omega,by simpa using h4,fun p hp=> ?_⟩
       have:=List.any_eq_false.1 (Bool.eq_false_iff.2 h5) p hp
       simp only [B5d,Bool.or_eq_true,decide_eq_true_eq,not_or,Int.not_lt,Int.not_le,ge_iff_le,gt_iff_lt]at this
       omega
theorem ValR.zoneOK {m:Map}(V:ValR m){z:Zone}(hz:z∈m.Zones):ZoneOK m z:=by
  obtain ⟨i,hi,rfl⟩:=List.mem_iff_getElem.1 hz
  have:=firstE_none.1 V.zoneE i _ (List.getElem?_eq_getElem hi)
  exact D1g this
theorem ZoneOK.lane {m:Map}{z:Zone}(O:ZoneOK m z){p:Part}(hp:p∈z.Parts):0≤p.Lane_∧p.Lane_<m.Lanes.length:=B1x O.rise p.Lane_ (List.mem_map.2 ⟨p,hp,rfl⟩)
end Go.Abs.World
namespace Go.Abs.World
open Go Go.Abs
end Go.Abs.World
namespace Go.Abs.World
open Go Go.Abs
theorem D6j:A71=some true:=law04_awake_le _ (by decide+kernel)
end Go.Abs.World
namespace Go.Abs.World
open Go Go.Abs
end Go.Abs.World
namespace Go.Abs.World
open Go Go.Abs
theorem B1z (n:Int){m:Int}(hm:0<m):0≤n % m∧n % m<m:=⟨Int.emod_nonneg n (by omega),Int.emod_lt_of_pos n hm⟩
theorem D3y {n m:Int}(hm:0<m):n % m=if n.tmod m<0 then n.tmod m+m else n.tmod m:=by
  have a:=Int.emod_nonneg n (show m≠0 by omega)
  have b:=Int.emod_lt_of_pos n hm
  rw [Int.tmod_eq_emod]
  by_cases q:0≤n∨m ∣ n
  ·rw [if_pos q,if_neg (by omega)];omega
  ·rw [if_neg q]
   have:n % m≠0:=fun e=>q (.inr (Int.dvd_of_emod_eq_zero e))
   rw [if_pos (by omega)];omega
theorem D1h {n m:Int}(hm:0<m)(hm2:m≤9223372036854775807):C1z n m=some (n % m):=by
  have h1:=D3y (n:=n) hm
  have a:=B1z n hm
  unfold C1z C7a
  rw [if_neg (by omega),Option.bind_some]
  by_cases q:n.tmod m<0
  ·rw [if_pos q]at h1
   rw [decide_eq_true q,cond_true,I9 (by omega),← h1]
  ·rw [if_neg q]at h1
   rw [decide_eq_false q,cond_false,← h1]
def lnK (kind lim:Int)(next:List Int)(a b c d:Int):Lane:=⟨kind,⟨[⟨a,b⟩,⟨c,d⟩]⟩,if kind=3 then 500 else 1500,lim,next⟩
theorem D9c (kind lim:Int)(next:List Int)(a b c d:Int):Y8 kind lim next [a,b,c,d]=some (lnK kind lim next a b c d):=by
  unfold Y8 lnK
  rw [P2 (s':=(2,[⟨a,b⟩])) rfl,P2 (s':=(4,[⟨a,b⟩,⟨c,d⟩])) rfl,D5 (t:= [⟨a,b⟩,⟨c,d⟩]) rfl,Option.bind_some]
  by_cases h:kind=3
  ·rw [if_pos h,h];rfl
  ·rw [if_neg h,show (kind==3)=false by simpa using h];rfl
def sgK (off a b:Int):Signal:=⟨off,[⟨12,[a]⟩,⟨5,[]⟩,⟨9,[b]⟩,⟨4,[]⟩]⟩
/-- The numbers of which a map of the kit is made. -/
structure Par where
  lim:Int
  r:Int
  o:Int
  o':Int
  ver:Int
  wk:List Work
structure ParOK (p:Par):Prop where
  lim:p.lim=1500∨p.lim=600∨p.lim=1000∨p.lim=300
  r:p.r=0∨p.r=1
  o:0≤p.o∧p.o<31
  o':0≤p.o'∧p.o'<31
  ver:0≤p.ver∧p.ver<5
  wk:p.wk= []∨∃b l,0≤b∧b<40∧0≤l∧l≤400∧p.wk= [⟨0,10000,15000,b,b+20,l⟩]
def B20 (k:Nat)(lim:Int):List Lane:=match k with
  |0=> [lnK 1 lim [] 0 0 60000 0]
  |1|2=> [lnK 1 lim [] 0 0 50000 0,lnK 1 1500 [] 30000 (-20000) 30000 20000]
  |3=> [lnK 1 lim [1,2] 0 0 30000 0,lnK 1 1500 [] 30000 0 60000 0,lnK 1 800 [] 30000 0 54000 10000]
  |4=> [lnK 1 lim [2] 0 0 30000 0,lnK 1 1500 [2] 6000 (-10000) 30000 0,lnK 1 1500 [] 30000 0 60000 0]
  |5=> [lnK 1 lim [1] 0 0 20000 0,lnK 1 lim [] 20000 0 50000 0,lnK 3 200 [] 35000 (-8000) 35000 8000]
  |_=> [lnK 1 lim [1,2] 0 0 20000 0,lnK 1 1500 [] 20000 0 50000 0,lnK 1 1000 [] 20000 0 44000 10000,lnK 2 700 [] 36000 (-12000) 36000 18000]
def C2h (k:Nat)(r:Int):List Zone:=match k with
  |1=> [⟨[⟨0,28000,32000,r⟩,⟨1,18000,22000,2 - 2*r⟩],0⟩]
  |2=> [⟨[⟨0,28000,32000,r⟩,⟨1,18000,22000,2 - 2*r⟩],1⟩]
  |4=> [⟨[⟨0,25000,30000,1⟩,⟨1,20000,26000,0⟩,⟨2,0,5000,0⟩],0⟩]
  |5=> [⟨[⟨1,14000,16000,0⟩,⟨2,6000,10000,3⟩],0⟩]
  |6=> [⟨[⟨1,14000,18000,1⟩,⟨3,10000,14000,0⟩],0⟩,⟨[⟨2,14000,21000,1⟩,⟨3,14500,23000,0⟩],0⟩]
  |7=> [⟨[⟨1,14000,18000,1⟩,⟨3,10000,14000,0⟩],1⟩,⟨[⟨2,14000,21000,1⟩,⟨3,14500,23000,0⟩],2⟩]
  |_=> []
def B9j (k:Nat)(o o':Int):List Signal:=match k with
  |2=> [sgK o 0 1]
  |7=> [sgK o 1 3,sgK o' 2 3]
  |_=> []
def C9u (k:Nat)(p:Par):Map:=⟨p.ver,B20 k p.lim,C2h k p.r,B9j k p.o p.o',p.wk⟩
theorem D1i (n:Int): ∃k p,k<8∧ParOK p∧B9a n=some (C9u k p):=by
  obtain ⟨h0,h1⟩:=B1z n (show (0:Int)<16777216 by decide)
  unfold B9a
  rw [D1h (by decide) (by decide),Option.bind_some]
  generalize n % 16777216=v at h0 h1
  have t: ∀m:Int,0<m→v.tdiv m=v / m:=fun m hm=>by rw [Int.tdiv_eq_ediv_of_nonneg h0]
  have u: ∀x m:Int,0≤x→x.tmod m=x % m:=fun x m hx=>by rw [Int.tmod_eq_emod_of_nonneg hx]
  have d: ∀m:Int,0<m→0≤v / m∧v / m<16777216:=fun m hm=>⟨Int.ediv_nonneg h0 (by omega),Int.lt_of_le_of_lt (Int.ediv_le_self m h0) h1⟩
  have W: ∀m:Int,0<m→w64 (v / m)=v / m:=fun m hm=>I9 (by have:=d m hm;omega)
  rw [t 7 (by decide),t 28 (by decide),t 56 (by decide),t 1736 (by decide),t 5208 (by decide),t 208320 (by decide)]
  rw [W 7 (by decide),W 28 (by decide),W 56 (by decide),W 1736 (by decide),W 5208 (by decide),W 208320 (by decide)]
  rw [u (v / 7) _ (d 7 (by decide)).1,u (v / 28) 2 (d 28 (by decide)).1,u (v / 28) 31 (d 28 (by decide)).1,u (v / 56) 31 (d 56 (by decide)).1,u (v / 56) 17 (d 56 (by decide)).1,u (v / 1736) _ (d 1736 (by decide)).1,u (v / 5208) _ (d 5208 (by decide)).1,u (v / 208320) _ (d 208320 (by decide)).1,u v _ h0,u (v / 28) 5 (d 28 (by decide)).1]
  have b1:=B1z (v / 7) (show (0:Int)<4 by decide)
  have b2:=B1z (v / 28) (show (0:Int)<2 by decide)
  have b3:=B1z (v / 28) (show (0:Int)<31 by decide)
  have b4:=B1z (v / 56) (show (0:Int)<31 by decide)
  have b5:=B1z (v / 56) (show (0:Int)<17 by decide)
  have b6:=B1z (v / 5208) (show (0:Int)<40 by decide)
  have b7:=B1z (v / 208320) (show (0:Int)<3 by decide)
  have b8:=B1z v (show (0:Int)<7 by decide)
  have b9:=B1z (v / 28) (show (0:Int)<5 by decide)
  generalize v / 7 % 4=q1 at b1
  generalize v / 28 % 2=q2 at b2
  generalize v / 28 % 31=q3 at b3
  generalize v / 56 % 31=q4 at b4
  generalize v / 56 % 17=q5 at b5
  generalize v / 5208 % 40=q6 at b6
  generalize v / 208320 % 3=q7 at b7
  generalize v % 7=q8 at b8
  generalize v / 28 % 5=q9 at b9
  have e1: ∃lim:Int,D4 ([1500,600,1000,300]:List Int) q1=some lim∧(lim=1500∨lim=600∨lim=1000∨lim=300):=by
    rcases (show q1=0∨q1=1∨q1=2∨q1=3 by omega)with rfl|rfl|rfl|rfl
    ·exact ⟨1500,rfl,by decide⟩
    ·exact ⟨600,rfl,by decide⟩
    ·exact ⟨1000,rfl,by decide⟩
    ·exact ⟨300,rfl,by decide⟩
  obtain ⟨lim,e1,hlim⟩:=e1
  rw [e1,Option.bind_some]
  have ew: ∀(L:List Lane) (Z:List Zone) (S:List Signal),∃wk,(wk= []∨∃b l,0≤b∧b<40∧0≤l∧l≤400∧wk= [⟨0,10000,15000,b,b+20,l⟩])∧
   (cond (v / 1736 % 3==1) (some (Map.mk q9 L Z S [(Work.mk 0 10000 15000 q6 (w64 (q6+20)) (w64 (q7*200)))])) (some (Map.mk q9 L Z S [])))=some ⟨q9,L,Z,S,wk⟩:=by
    intro L Z S
    cases v / 1736 % 3==1
    ·exact ⟨[], .inl rfl,rfl⟩
    ·exact ⟨[⟨0,10000,15000,q6,q6+20,q7*200⟩], .inr ⟨q6,q7*200,by omega,by omega,by omega,by omega,rfl⟩,by rw [I9 (by omega),I9 (by omega)];rfl⟩
  have er:w64 (2 - w64 (2*q2))=2 - 2*q2:=by rw [I9 (n:=2*q2) (by omega),I9 (by omega)]
  rw [er]
  simp only [D9c,Option.bind_some]
  have fin: ∀(k:Nat) (o o':Int) (L:List Lane) (Z:List Zone) (S:List Signal),k<8→0≤o∧o<31→0≤o'∧o'<31→L=B20 k lim→Z=C2h k q2→S=B9j k o o'→∃k p,k<8∧ParOK p∧(cond (v / 1736 % 3==1) (some (Map.mk q9 L Z S [(Work.mk 0 10000 15000 q6 (w64 (q6+20)) (w64 (q7*200)))])) (some (Map.mk q9 L Z S [])))=some (C9u k p):=by
    intro k o o' L Z S hk h1 h2 e1 e2 e3
    obtain ⟨wk,w1,w2⟩:=ew L Z S
    subst e1 e2 e3
    exact ⟨k,⟨lim,q2,o,o',q9,wk⟩,hk,⟨hlim,by dsimp only;omega,h1,h2,b9,w1⟩,w2⟩
  rcases (show q8=0∨q8=1∨q8=2∨q8=3∨q8=4∨q8=5∨q8=6 by omega)with rfl|rfl|rfl|rfl|rfl|rfl|rfl
  ·exact fin 0 0 0 _ _ _ (by decide) (by decide) (by decide) rfl rfl rfl
  ·exact fin 1 0 0 _ _ _ (by decide) (by decide) (by decide) rfl rfl rfl
  ·exact fin 2 q3 0 _ _ _ (by decide) b3 (by decide) rfl rfl rfl
  ·exact fin 3 0 0 _ _ _ (by decide) (by decide) (by decide) rfl rfl rfl
  ·exact fin 4 0 0 _ _ _ (by decide) (by decide) (by decide) rfl rfl rfl
  ·exact fin 5 0 0 _ _ _ (by decide) (by decide) (by decide) rfl rfl rfl
  ·rcases (show q2=0∨q2=1 by omega)with rfl|rfl
   ·exact fin 6 0 0 _ _ _ (by decide) (by decide) (by decide) rfl rfl rfl
   ·exact fin 7 q4 q5 _ _ _ (by decide) b4 (by omega) rfl rfl rfl
end Go.Abs.World
namespace Go.Abs.World
open Go Go.Abs
theorem D3z:((List.range 8).all fun k=>([1500,600,1000,300]:List Int).all fun lim=>([0,1]:List Int).all fun r=>A7i (C9u k ⟨lim,r,0,0,0,[]⟩)==some 0)=true:=by decide+kernel
theorem C8j (k:Nat)(lim:Int):(B20 k lim).length≤4∧∀l∈B20 k lim,l.Curve_.Pts.length=2∧l.Next.length≤2:=by
  unfold B20
  split<;>simp [lnK]
theorem C2i (k:Nat)(r:Int):(C2h k r).length≤2∧∀z∈C2h k r,z.Parts.length≤3:=by
  unfold C2h
  split<;>simp
theorem D1j (k:Nat)(o o':Int):(B9j k o o').length≤2∧∀s∈B9j k o o',s.Phases.length=4∧∀p∈s.Phases,p.Green.length≤1:=by
  unfold B9j
  split<;>simp [sgK]
theorem D40 {m:Map}{k:Nat}{lim r o o':Int}(h1:m.Lanes=B20 k lim)(h2:m.Zones=C2h k r)(h3:m.Signals=B9j k o o')(h4:m.Works.length≤1):BearM m:=by
  obtain ⟨a1,a2⟩:=C8j k lim
  obtain ⟨b1,b2⟩:=C2i k r
  obtain ⟨c1,c2⟩:=D1j k o o'
  refine ⟨⟨by rw [h1];omega,fun l hl=> ?_⟩,⟨by rw [h3];omega,fun s hs=>⟨?_,fun p hp=> ?_⟩⟩,⟨by rw [h2];omega,fun z hz=> ?_⟩,⟨by omega⟩⟩
  ·rw [h1]at hl;have:=a2 l hl;omega
  ·rw [h3]at hs;have:=(c2 s hs).1;omega
  ·rw [h3]at hs;have:=(c2 s hs).2 p hp;omega
  ·rw [h2]at hz;have:=b2 z hz;omega
theorem ParOK.wk1 {p:Par}(h:ParOK p):p.wk.length≤1:=by
  rcases h.wk with e|⟨b,l,_,_,_,_,e⟩<;>rw [e]<;>simp
theorem D6k {k:Nat}{p:Par}(h:ParOK p):BearM (C9u k p):=D40 rfl rfl rfl h.wk1
theorem E26 {k:Nat}{p:Par}(hk:k<8)(h:ParOK p):ValR (C9u k ⟨p.lim,p.r,0,0,0,[]⟩):=by
  have h1:=List.all_eq_true.1 D3z k (List.mem_range.2 hk)
  have h2:=List.all_eq_true.1 h1 p.lim (by have:=h.lim;simp;omega)
  have h3:=List.all_eq_true.1 h2 p.r (by have:=h.r;simp;omega)
  have h4:=roads_Check_le _ _ (eq_of_beq h3)
  have h5:=A94 (m:=C9u k ⟨p.lim,p.r,0,0,0,[]⟩) (D40 rfl rfl rfl (Nat.zero_le 1))
  rw [h4]at h5
  exact chkR_zero.1 (Option.some.inj h5).symm
/-- Another version, other offsets, other works. -/
theorem ValR.change {L:List Lane}{Z:List Zone}{S S':List Signal}{W W':List Work}{v v':Int}(V:ValR ⟨v,L,Z,S,W⟩)(hv:0≤v'∧v'≤1099511627776)(hl:S'.length=S.length)(hs: ∀s∈S',World.signalE ⟨v,L,Z,S,W⟩ 0 s=none)(hw:W'.length≤8)(hw': ∀w∈W',World.workE ⟨v,L,Z,S,W⟩ 0 w=none):ValR ⟨v',L,Z,S',W'⟩:=by
  refine ⟨hv,V.pos,V.lanes,V.zones,by show S'.length≤4;rw [hl];exact V.signals,hw,V.laneE,V.nextE,?_,?_,?_⟩
  ·rw [firstE_none]
   intro j a ha
   exact hs a (List.mem_of_getElem? ha)
  ·have:=V.zoneE
   rw [firstE_none]at this ⊢
   intro j a ha
   have:=this j a ha
   unfold World.zoneE at this ⊢
   dsimp only at this ⊢
   rw [hl]
   exact this
  ·rw [firstE_none]
   intro j a ha
   exact hw' a (List.mem_of_getElem? ha)
theorem D41 (k:Nat)(o o' a a':Int):(B9j k o o').length=(B9j k a a').length:=by unfold B9j;split<;>rfl
theorem D6l {k:Nat}{o o':Int}(h:0≤o∧o<31)(h':0≤o'∧o'<31){m:Map}(hm:m.Lanes.length=(B20 k 0).length): ∀s∈B9j k o o',signalE m 0 s=none:=by
  have key: ∀(off a b:Int),0≤off∧off<31→0≤a∧a<m.Lanes.length→0≤b∧b<m.Lanes.length→signalE m 0 (sgK off a b)=none:=by
    intro off a b h1 h2 h3
    unfold signalE sgK
    simp only [List.length_cons,List.length_nil]
    rw [if_neg (by decide),if_neg (by decide),if_neg (by simp [inR];omega),if_neg (by simp [inR]),if_neg]
    simp only [List.any_cons,List.any_nil,A6b,Bool.and_true,Bool.or_false,Bool.not_true,Bool.false_or,Bool.or_eq_true,Bool.not_eq_true',not_or,Bool.not_eq_false,Bool.and_eq_true,decide_eq_true_eq]
    omega
  intro s hs
  unfold B9j at hs
  split at hs
  ·rw [show (B20 2 0).length=2 from rfl]at hm
   simp only [List.mem_singleton]at hs
   subst hs
   exact key _ _ _ h (by omega) (by omega)
  ·rw [show (B20 7 0).length=4 from rfl]at hm
   simp only [List.mem_cons,List.not_mem_nil,or_false]at hs
   rcases hs with rfl|rfl
   ·exact key _ _ _ h (by omega) (by omega)
   ·exact key _ _ _ h' (by omega) (by omega)
  ·cases hs
theorem D1k (k:Nat)(lim:Int):(B20 k lim).length=(B20 k 0).length:=by unfold B20;split<;>rfl
end Go.Abs.World
namespace Go.Abs.World
open Go Go.Abs
theorem B8j (c:Int)(h:B0g ⟨[⟨0,0⟩,⟨c,0⟩]⟩=some c):C0q ⟨[⟨0,0⟩,⟨c,0⟩]⟩=c:=by
  have h1:=curve_Length_le _ _ h
  rw [B5b _ (by simp)]at h1
  exact Option.some.inj h1
/-- The first lane of a map of the kit: a road, long enough. -/
theorem C2j (k:Nat)(lim:Int): ∃l,(B20 k lim)[0]? =some l∧l.Kind=1∧l.Limit=lim∧20000≤C0q l.Curve_∧C0q l.Curve_≤60000:=by
  have e6:=B8j 60000 (by decide+kernel)
  have e5:=B8j 50000 (by decide+kernel)
  have e3:=B8j 30000 (by decide+kernel)
  have e2:=B8j 20000 (by decide+kernel)
  unfold B20
  split
  ·exact ⟨_,rfl,rfl,rfl,by show 20000≤C0q ⟨[⟨0,0⟩,⟨60000,0⟩]⟩∧C0q ⟨[⟨0,0⟩,⟨60000,0⟩]⟩≤60000;rw [e6];decide⟩
  ·exact ⟨_,rfl,rfl,rfl,by show 20000≤C0q ⟨[⟨0,0⟩,⟨50000,0⟩]⟩∧C0q ⟨[⟨0,0⟩,⟨50000,0⟩]⟩≤60000;rw [e5];decide⟩
  ·exact ⟨_,rfl,rfl,rfl,by show 20000≤C0q ⟨[⟨0,0⟩,⟨50000,0⟩]⟩∧C0q ⟨[⟨0,0⟩,⟨50000,0⟩]⟩≤60000;rw [e5];decide⟩
  ·exact ⟨_,rfl,rfl,rfl,by show 20000≤C0q ⟨[⟨0,0⟩,⟨30000,0⟩]⟩∧C0q ⟨[⟨0,0⟩,⟨30000,0⟩]⟩≤60000;rw [e3];decide⟩
  ·exact ⟨_,rfl,rfl,rfl,by show 20000≤C0q ⟨[⟨0,0⟩,⟨30000,0⟩]⟩∧C0q ⟨[⟨0,0⟩,⟨30000,0⟩]⟩≤60000;rw [e3];decide⟩
  ·exact ⟨_,rfl,rfl,rfl,by show 20000≤C0q ⟨[⟨0,0⟩,⟨20000,0⟩]⟩∧C0q ⟨[⟨0,0⟩,⟨20000,0⟩]⟩≤60000;rw [e2];decide⟩
  ·exact ⟨_,rfl,rfl,rfl,by show 20000≤C0q ⟨[⟨0,0⟩,⟨20000,0⟩]⟩∧C0q ⟨[⟨0,0⟩,⟨20000,0⟩]⟩≤60000;rw [e2];decide⟩
theorem E27 {m:Map}{l:Lane}(hl:m.Lanes[0]? =some l)(hk:l.Kind=1){w:Work}(h:w.Lane_=0∧0≤w.From∧w.From≤w.To∧w.To≤C0q l.Curve_∧0≤w.Begin∧w.Begin<w.End∧w.End≤1099511627776∧0≤w.Limit∧w.Limit≤2000):workE m 0 w=none:=by
  obtain ⟨h1,h2,h3,h4,h5,h6,h7,h8,h9⟩:=h
  have hlen:=U2 hl
  unfold workE W3
  rw [h1,show ((0:Int).toNat)=0 from rfl,hl,if_neg (by omega),if_neg]
  simp only [Option.map_some,Option.getD_some,Option.get!_some,hk,inR,A77,if_true,Bool.or_eq_true,decide_eq_true_eq,Bool.not_eq_true',not_or,Bool.not_eq_false,Bool.and_eq_true]
  omega
/-- A map of the kit is valid, with such works. -/
theorem D6m {k:Nat}{p:Par}(hk:k<8)(h:ParOK p){W:List Work}(hw:W.length≤8)(hW: ∀w∈W,w.Lane_=0∧0≤w.From∧w.From≤w.To∧w.To≤W3 (C9u k p) 0∧0≤w.Begin∧w.Begin<w.End∧w.End≤1099511627776∧0≤w.Limit∧w.Limit≤2000):ValR ⟨p.ver,B20 k p.lim,C2h k p.r,B9j k p.o p.o',W⟩:=by
  have V:=E26 hk h
  obtain ⟨l,l1,l2,l3,l4,l5⟩:=C2j k p.lim
  have hv:=h.ver
  refine ValR.change (v:=0) (S:=B9j k 0 0) (W:= []) V (by omega) (D41 k _ _ _ _) (fun s hs=>D6l h.o h.o' (by exact D1k k p.lim) s hs) hw (fun w hwm=> ?_)
  obtain ⟨a1,a2,a3,a4,a5,a6,a7,a8,a9⟩:=hW w hwm
  refine E27 (l:=l) l1 l2 ⟨a1,a2,a3,?_,a5,a6,a7,a8,a9⟩
  have:W3 (C9u k p) 0=C0q l.Curve_:=by
    unfold W3 C9u
    dsimp only
    rw [show ((0:Int).toNat)=0 from rfl,l1];rfl
  omega
theorem D42 (k:Nat)(p:Par):20000≤W3 (C9u k p) 0∧W3 (C9u k p) 0≤60000:=by
  obtain ⟨l,l1,l2,l3,l4,l5⟩:=C2j k p.lim
  unfold W3 C9u
  dsimp only
  rw [show ((0:Int).toNat)=0 from rfl,l1]
  exact ⟨l4,l5⟩
theorem D9d {k:Nat}{p:Par}(hk:k<8)(h:ParOK p):ValR (C9u k p):=by
  have hl:=D42 k p
  refine D6m hk h (Nat.le_trans h.wk1 (by decide)) (fun w hw=> ?_)
  rcases h.wk with e|⟨b,l,h1,h2,h3,h4,e⟩
  ·rw [e]at hw;cases hw
  ·rw [e]at hw
   simp only [List.mem_singleton]at hw
   subst hw
   dsimp only
   omega
/-! ### Limits -/
end Go.Abs.World
namespace Go.Abs
end Go.Abs
namespace Go.Abs.World
open Go Go.Abs
end Go.Abs.World
namespace Go.Abs.World
open Go Go.Abs
/-! ### How long lanes are -/
theorem D7q: ∀(l:List Int) (s:Int),(∀x∈l,0≤x∧x≤1048576)→0≤s→s+1048576*l.length≤9000000000000000000→s≤C8e s l∧C8e s l≤s+1048576*l.length
  | [],s,_,_,_=>by simp [C8e]
  |a::r,s,h,h0,h1=>by
   have ha:=h a (by simp)
   simp only [List.length_cons]at h1 ⊢
   rw [C8e,I9 (by omega)]
   have:=D7q r (s+a) (fun x hx=>h x (by simp [hx])) (by omega) (by omega)
   omega
theorem D6n: ∀{l:List Spot} {last:Option CurveVector},Good last l→∀x∈C7b l,1000≤x∧x≤1048576:=by
  intro l last h
  induction h with
  |one last p=>intro x hx;simp [C7b]at hx
  |cons last p q r h1 h2 h3 h4 h ih=>
   intro x hx
   rw [B5a,List.mem_cons]at hx
   rcases hx with rfl|hx
   ·exact ⟨h2,h3⟩
   ·exact ih x hx
theorem D9e {c:Curve}(h:A4f c.Pts=0):1000≤C0q c∧C0q c≤16777216:=by
  have V:=checkM_zero.1 h
  unfold C0q B02
  rw [if_pos h]
  have h16:=V.most
  have h2:=V.two
  have hm:=D6n V.good
  cases hp:c.Pts with
  |nil=>rw [hp]at h2;simp at h2
  |cons p r=>
   rw [hp]at hm h16 h2
   cases r with
   |nil=>simp at h2
   |cons q r=>
    simp only [List.length_cons]at h16
    rw [B5a]at hm ⊢
    have ha:=hm _ (List.mem_cons_self)
    have hl:=B4g r q
    rw [C8e,I9 (by omega),Int.zero_add]
    have:=D7q (C7b (q::r)) (rt (A05 (vec p q) (vec p q))) (fun x hx=>by have:=hm x (List.mem_cons_of_mem _ hx);omega) (by omega) (by rw [hl];omega)
    rw [hl]at this
    omega
theorem ValR.long {m:Map}(V:ValR m){k:Int}(h0:0≤k)(h1:k<m.Lanes.length):1000≤W3 m k∧W3 m k≤16777216:=by
  obtain ⟨l,e1,e2⟩:=B75 h0 h1
  unfold W3
  rw [e1]
  exact D9e (V.laneOK e1).curve
/-! ### Routes -/
def B4j (m:Map):Int→List Int→Bool
  |_,[]=>true
  |a,b::r=>(nextOf m a.toNat).contains b&&B4j m b r
noncomputable def A08 (m:Map)(r:List Int):Int:=
  if C3v m≠0 then C3v m
  else match r with
    | []=>13
    |a::t=>if 7<t.length∨a<0∨(m.Lanes.length:Int)≤a∨B34 m a≠ []∨B4j m a t=false then 13 else 0
/-- What a route is. -/
structure RouteOK (m:Map)(a:Int)(t:List Int):Prop where
  val:ValR m
  most:t.length≤7
  first:0≤a∧a<m.Lanes.length
  source:B34 m a= []
  chain:B4j m a t=true
theorem chkRoute_zero {m:Map}{r:List Int}:A08 m r=0↔∃a t,r=a::t∧RouteOK m a t:=by
  unfold A08
  constructor
  ·intro h
   split at h
   ·exact absurd h (by assumption)
   ·rename_i h1
    have V:=chkR_zero.1 (Decidable.not_not.1 h1)
    split at h
    ·cases h
    ·rename_i a t
     split at h
     ·cases h
     ·rename_i h2
      exact ⟨a,t,rfl,V,by omega,by omega,Decidable.not_not.1 fun q=>h2 (.inr (.inr (.inr (.inl q)))),by
        cases q:B4j m a t with
        |true=>rfl
        |false=>exact absurd (.inr (.inr (.inr (.inr q)))) h2⟩
  ·rintro ⟨a,t,rfl,V,h1,h2,h3,h4⟩
   rw [if_neg (by rw [chkR_zero.2 V];simp)]
   dsimp only
   rw [if_neg]
   rintro (q|q|q|q|q)
   ·omega
   ·omega
   ·omega
   ·exact q h3
   ·rw [h4]at q;cases q
theorem C6z {m:Map}(V:ValR m): ∀{t:List Int} {a:Int},B4j m a t=true→0≤a→∀x∈t,a<x∧x<m.Lanes.length
  | [],_,_,_,x,hx=>by cases hx
  |b::r,a,h,h0,x,hx=>by
   rw [B4j,Bool.and_eq_true,List.contains_iff_mem]at h
   have hb:=V.nextOf h.1
   rcases List.mem_cons.1 hx with rfl|hx
   ·omega
   ·have:=C6z V h.2 (by omega) x hx;omega
theorem RouteOK.mem {m:Map}{a:Int}{t:List Int}(R:RouteOK m a t){x:Int}(hx:x∈a::t):0≤x∧x<m.Lanes.length:=by
  have:=R.first
  rcases List.mem_cons.1 hx with rfl|hx
  ·exact this
  ·have:=C6z R.val R.chain (by omega) x hx;omega
theorem D1l {m:Map}(B:BearM m)(V:ValR m)(l:List Int)(hl:l.length≤1000000): ∀(r:List Int) (i:Nat) (a:Int),l.drop i=r→i≤l.length→0≤a→a<m.Lanes.length→loop (R6 m l) (a,(i:Int))=some (if B4j m a r=true then .inl ()else .inr 13):=by
  intro r
  induction r with
  |nil=>
   intro i a hi hil h0 h1
   have:=U4 hi
   obtain rfl:i=l.length:=by omega
   refine D5 ?_
   unfold R6
   rw [T7];rfl
  |cons b r ih=>
   intro i a hi hil h0 h1
   have hlt:=V5 hi
   have hb:=A2o hi
   obtain ⟨ln,e1,e2⟩:=B75 h0 h1
   have hs:R6 m l (a,(i:Int))=some (if ln.Next.contains b=true then .go (b,((i+1:Nat):Int))else .out (.inr 13)):=by
     unfold R6
     dsimp only
     rw [X4 hlt,E6 hb,cond_true,Option.bind_some,e2,Option.bind_some,B76 _ (B.toBear.pts _ (List.mem_of_getElem? e1)).2,Option.bind_some,M8 hlt (by omega)]
     cases ln.Next.contains b<;>rfl
   have hn:nextOf m a.toNat=ln.Next:=by unfold nextOf;rw [e1];rfl
   rw [B4j,hn]
   cases q:ln.Next.contains b
   ·rw [q]at hs;rw [D5 hs];rfl
   ·rw [q]at hs
    have hbm:=V.next e1 (List.contains_iff_mem.1 q)
    rw [P2 hs,ih (i+1) b (L0 hi) (by omega) (by omega) (by omega),Bool.true_and]
theorem B8k {m:Map}(B:BearM m)(r:List Int)(hr:r.length≤1000000):A02 m r=some (A08 m r):=by
  unfold A02 A08
  rw [A94 B,Option.bind_some]
  by_cases q:C3v m=0
  ·have V:=chkR_zero.1 q
   rw [if_neg (by simpa using q),show (C3v m !=0)=false by simpa using q,cond_false]
   cases r with
   |nil=>rfl
   |cons a t=>
    dsimp only
    simp only [List.length_cons]at hr ⊢
    by_cases h8:7<t.length
    ·rw [if_pos (.inl h8),show ((((t.length+1:Nat):Int)==0)||(decide (((t.length+1:Nat):Int)>8)))=true by simp;omega];rfl
    ·rw [show ((((t.length+1:Nat):Int)==0)||(decide (((t.length+1:Nat):Int)>8)))=false by simp;omega]
     rw [show D4 (a::t) 0=some a from rfl]
     simp only [Bool.not_false,cond_true,Option.bind_some,Bool.false_or]
     by_cases h0:a<0
     ·rw [if_pos (.inr (.inl h0)),decide_eq_true h0];rfl
     ·rw [decide_eq_false h0]
      simp only [Bool.not_false,cond_true,Option.bind_some,Bool.false_or]
      by_cases h1:(m.Lanes.length:Int)≤a
      ·rw [if_pos (.inr (.inr (.inl h1))),show decide (a≥(m.Lanes.length:Int))=true from decide_eq_true h1];rfl
      ·rw [show decide (a≥(m.Lanes.length:Int))=false from decide_eq_false (by omega)]
       simp only [Bool.not_false,cond_true,Bool.false_or]
       rw [Option.bind_some,D3w B,Option.bind_some]
       by_cases hb:B34 m a= []
       ·rw [hb]
        have e1:C6e (a::t) 1 ((t.length+1:Nat):Int)=some t:=by
          unfold C6e
          rw [if_pos (by simp;omega)]
          simp
        rw [e1,show decide ((([]:List Int).length:Int)>0)=false from rfl,cond_false,Option.bind_some]
        have:=D1l B V t (by omega) t 0 a rfl (by omega) (by omega) (by omega)
        rw [show ((0:Nat):Int)=0 from rfl]at this
        rw [this]
        by_cases hc:B4j m a t=true
        ·rw [if_pos hc,if_neg (by rw [hc];simp;omega)];rfl
        ·rw [if_neg hc,if_pos (.inr (.inr (.inr (.inr (by simpa using hc)))))];rfl
       ·rw [if_pos (.inr (.inr (.inr (.inl hb)))),show decide (((B34 m a).length:Int)>0)=true from decide_eq_true (by have:=List.length_pos_iff.2 hb;omega)];rfl
  ·rw [if_pos q,show (C3v m !=0)=true by simpa using q];rfl
/-- Where the lanes of a route begin. -/
noncomputable def A0c (m:Map):Int→List Int→List Int
  |_,[]=> []
  |s,a::r=>s::A0c m (s+W3 m a) r
noncomputable def A8g (m:Map):Int→List Int→Int
  |s,[]=>s
  |s,a::r=>A8g m (s+W3 m a) r
theorem B77 (m:Map): ∀(r:List Int) (s:Int),(A0c m s r).length=r.length
  | [],_=>rfl
  |_::r,_=>by rw [A0c,List.length_cons,B77 m r,List.length_cons]
noncomputable def B5h (m:Map)(r:List Int):RoadsWay:=if A08 m r=0 then ⟨m,r,A0c m 0 r,A8g m 0 r⟩else ⟨⟨0,[],[],[],[]⟩,[],[],0⟩
theorem C70 {m:Map}(B:BearM m)(r:List Int)(hr:r.length≤1000000):A1b m r=some (B5h m r):=by
  unfold A1b B5h
  rw [B8k B r hr,Option.bind_some]
  by_cases q:A08 m r=0
  ·rw [if_pos q,q]
   obtain ⟨a,t,rfl,R⟩:=chkRoute_zero.1 q
   have key: ∀(l:List Int) (i:Nat) (s:Int) (st:List Int),(a::t).drop i=l→i≤(a::t).length→0≤s→s≤16777216*i→st.length=i→loop (Z6 m (a::t)) ((i:Int),(st,s))=some (st++A0c m s l,A8g m s l):=by
     intro l
     induction l with
     |nil=>
      intro i s st hi hil _ _ _
      have:=U4 hi
      obtain rfl:i=(a::t).length:=by omega
      refine D5 ?_
      unfold Z6
      rw [T7,A0c,A8g,List.append_nil];rfl
     |cons x l ih=>
      intro i s st hi hil h0 h1 h2
      have hlt:=V5 hi
      have hx:=A2o hi
      have hm:=R.mem (List.mem_of_getElem? hx)
      have hl:=R.val.long hm.1 hm.2
      have hm7:=R.most
      simp only [List.length_cons]at hlt
      rw [P2 (s':=(((i+1:Nat):Int),(st++ [s],s+W3 m x)))]
      ·rw [ih (i+1) _ _ (L0 hi) (by simp;omega) (by omega) (by omega) (by simp [h2]),A0c,A8g,List.append_assoc];rfl
      ·unfold Z6
       dsimp only
       rw [X4 (by simpa using hlt),E6 hx,cond_true,Option.bind_some,A9p (by simp;omega),Option.bind_some,C5e B.toBear hm.1 hm.2,Option.bind_some,M8 hlt (by omega),wid (by omega)]
   have:=key (a::t) 0 0 [] rfl (by omega) (by decide) (by decide) rfl
   rw [show ((0:Nat):Int)=0 from rfl]at this
   show (loop (Z6 m (a::t)) (0,([],0))).bind _=_
   rw [this];rfl
  ·rw [if_neg q,show (A08 m r !=0)=true by simpa using q];rfl
end Go.Abs.World
namespace Go.Abs.World
open Go Go.Abs
end Go.Abs.World
/-! Lists that are sorted, and how an insertion sort makes them. -/
namespace Go.Abs
open Go
/-- What a comparison must satisfy. -/
structure LtOK {α:Type}(lt:α→α→Bool):Prop where
  asym: ∀a b,lt a b=true→lt b a=false
  trans: ∀a b c,lt b a=false→lt c b=false→lt c a=false
def Srt {α:Type}(lt:α→α→Bool)(l:List α):Prop:=l.Pairwise fun a b=>lt b a=false
section
variable {α:Type}
theorem C9v (U V:List α)(x y:α)(n:Int)(h:n=(U.length:Int)):B79 (U++x::V) n y=U++y::V:=by
  subst h
  simp [B79]
theorem C0t (U V:List α)(x:α)(n:Int)(h:n=(U.length:Int)):D4 (U++x::V) n=some x:=by
  subst h
  simp [D4]
theorem D1m {Q:List α}(h:Q≠ []): ∃Q' q,Q=Q'++ [q]:=⟨Q.dropLast,Q.getLast h,(List.dropLast_concat_getLast h).symm⟩
variable {lt:α→α→Bool}
theorem Srt.ins (L:LtOK lt){Q1 Q2:List α}{x:α}(h:Srt lt (Q1++Q2))(h1: ∀q∈Q1,lt x q=false)(h2: ∀q∈Q2,lt x q=true):Srt lt (Q1++x::Q2):=by
  unfold Srt at h ⊢
  rw [List.pairwise_append]at h ⊢
  refine ⟨h.1,List.pairwise_cons.2 ⟨fun b hb=>L.asym _ _ (h2 b hb),h.2.1⟩,fun a ha b hb=> ?_⟩
  rcases List.mem_cons.1 hb with rfl|hb
  ·exact h1 a ha
  ·exact h.2.2 a ha b hb
theorem LtOK.irr (L:LtOK lt)(a:α):lt a a=false:=by
  cases h:lt a a with
  |false=>rfl
  |true=>rw [L.asym a a h]at h;cases h
theorem Srt.get (L:LtOK lt){l:List α}(h:Srt lt l){i j:Nat}(hij:i≤j)(hj:j<l.length):lt l[j] l[i]=false:=by
  rcases Nat.lt_or_eq_of_le hij with h1|h1
  ·exact List.pairwise_iff_getElem.1 h i j (by omega) hj h1
  ·subst h1;exact L.irr _
/-- The inner loop: an element goes down to its place. -/
theorem D43 (L:LtOK lt){F:Int×List α→Option (Stp (Int×List α) (List α))}{P T:List α}(N:Nat)
    (hstop: ∀xs,F ((P.length:Int),xs)=some (.out xs))
    (hF: ∀(U V:List α) (q x:α),P.length≤U.length→(U++q::x::V).length=N→F (((U.length:Int)+1),U++q::x::V)=some (if lt x q then .go ((U.length:Int),U++x::q::V)else .out (U++q::x::V))) (x:α):
    ∀(n:Nat) (Q1 Q2:List α),Q1.length=n→Srt lt (Q1++Q2)→(∀q∈Q2,lt x q=true)→(P++Q1++x::Q2++T).length=N→
     ∃Q,loop F (((P.length+Q1.length:Nat):Int),P++Q1++x::Q2++T)=some (P++Q++T)∧Q.Perm (x::(Q1++Q2))∧Srt lt Q:=by
  intro n
  induction n with
  |zero=>
   intro Q1 Q2 hn hs hg hN
   obtain rfl:=List.length_eq_zero_iff.1 hn
   refine ⟨x::Q2,?_,by simp,?_⟩
   ·rw [D5 (by rw [List.length_nil,Nat.add_zero];exact hstop _)]
    simp
   ·exact hs.ins L (by simp) hg
  |succ n ih=>
   intro Q1 Q2 hn hs hg hN
   obtain ⟨Q',q,rfl⟩:=D1m (Q:=Q1) (by rintro rfl;simp at hn)
   rw [List.length_append,List.length_singleton]at hn
   have e1:P++ (Q'++ [q])++x::Q2++T=(P++Q')++q::x::(Q2++T):=by simp
   have e2:((P.length+ (Q'++ [q]).length:Nat):Int)=((P++Q').length:Int)+1:=by simp;omega
   have hF1:=hF (P++Q') (Q2++T) q x (by simp) (by rw [← e1];exact hN)
   by_cases hl:lt x q=true
   ·rw [if_pos hl]at hF1
    obtain ⟨Q,g1,g2,g3⟩:=ih Q' (q::Q2) (by omega) (by simpa using hs) (fun y hy=>by
      rcases List.mem_cons.1 hy with rfl|hy
      ·exact hl
      ·exact hg y hy) (by rw [← hN];simp)
    refine ⟨Q,?_,g2.trans (by simp),g3⟩
    rw [e1,e2,P2 hF1,← g1]
    congr 1
    simp
   ·rw [if_neg hl]at hF1
    have hl':lt x q=false:=by simpa using hl
    refine ⟨Q'++ [q]++x::Q2,?_,?_,hs.ins L (fun y hy=> ?_) hg⟩
    ·rw [e1,e2,D5 hF1];simp
    ·have:=List.perm_middle (a:=x) (l₁:=Q'++ [q]) (l₂:=Q2);exact this
    ·rcases List.mem_append.1 hy with h|h
     ·have hq:lt q y=false:=by
        unfold Srt at hs
        rw [List.append_assoc,List.pairwise_append]at hs
        exact hs.2.2 y h q (by simp)
      exact L.trans y q x hq hl'
     ·rw [List.mem_singleton.1 h];exact hl'
/-- The outer loop. -/
theorem D44 {F:Int×List α→Option (Stp (Int×List α) (List α))}{P S:List α}(N:Nat)(b:Nat)
    (hend: ∀xs (i:Nat),b≤i→F ((i:Int),xs)=some (.out xs))
    (hF: ∀(Q R:List α) (x:α),(P++Q++x::R++S).length=N→P.length+Q.length<b→Srt lt Q→∃Q',F (((P.length+Q.length:Nat):Int),P++Q++x::R++S)=some (.go (((P.length+Q.length+1:Nat):Int),P++Q'++R++S))∧Q'.Perm (x::Q)∧Srt lt Q'):
    ∀(R Q:List α),(P++Q++R++S).length=N→P.length+Q.length+R.length=b→Srt lt Q→∃Q',loop F (((P.length+Q.length:Nat):Int),P++Q++R++S)=some (P++Q'++S)∧Q'.Perm (Q++R)∧Srt lt Q':=by
  intro R
  induction R with
  |nil=>
   intro Q hN hb hs
   refine ⟨Q,?_,by simp,hs⟩
   rw [D5 (hend _ _ (by simpa using Nat.le_of_eq hb.symm))]
   simp
  |cons x R ih=>
   intro Q hN hb hs
   rw [List.length_cons]at hb
   obtain ⟨Q',g1,g2,g3⟩:=hF Q R x hN (by omega) hs
   have hl:Q'.length=Q.length+1:=by rw [g2.length_eq];simp
   obtain ⟨Q2,k1,k2,k3⟩:=ih Q' (by rw [← hN];simp [hl];omega) (by omega) g3
   refine ⟨Q2,?_,k2.trans ((g2.append_right R).trans ?_),k3⟩
   ·rw [P2 g1,← k1,hl]
    congr 1
   ·exact (List.perm_middle (a:=x) (l₁:=Q) (l₂:=R)).symm
end
end Go.Abs
/-! How the lists are sorted. -/
namespace Go.Abs.World
open Go Go.Abs
def ltI (a b:Int):Bool:=decide (a<b)
theorem E1a:LtOK ltI:=⟨fun a b h=>by simp only [ltI,decide_eq_true_eq,decide_eq_false_iff_not]at h ⊢;omega,fun a b c h1 h2=>by simp only [ltI,decide_eq_false_iff_not]at h1 h2 ⊢;omega⟩
theorem D9f (a b:Int):A2w a b=some (ltI a b):=by
  have h: ∀x:Int,X0 x=some false:=fun x=>by unfold X0;simp
  unfold A2w
  rw [h,Option.bind_some]
  rfl
theorem app2 {α:Type}(U V:List α)(q x:α):U++q::x::V=(U++ [q])++x::V:=by simp
theorem D1n (P T:List Int)(x:Int)(Q:List Int)(hs:Srt ltI Q)(hN:(P++Q++x::T).length≤1000000):
    ∃Q',loop (C9 (P.length:Int)) (((P.length+Q.length:Nat):Int),P++Q++x::T)=some (P++Q'++T)∧Q'.Perm (x::Q)∧Srt ltI Q':=by
  have hstop: ∀xs,C9 (P.length:Int) ((P.length:Int),xs)=some (.out xs):=fun xs=>by
    unfold C9
    simp only [show decide ((P.length:Int)>(P.length:Int))=false from decide_eq_false (by omega),cond_false,Bool.false_and,Option.bind_some]
  have hF: ∀(U V:List Int) (q y:Int),P.length≤U.length→(U++q::y::V).length=(P++Q++x::T).length→C9 (P.length:Int) (((U.length:Int)+1),U++q::y::V)=some (if ltI y q then .go ((U.length:Int),U++y::q::V)else .out (U++q::y::V)):=fun U V q y hP hl=>by
    unfold C9
    have hb:U.length+2≤1000000:=by rw [← hl]at hN;simp at hN;omega
    have e1:w64 ((U.length:Int)+1 - 1)=(U.length:Int):=by rw [I9 (by omega)];omega
    have g1:D4 (U++q::y::V) ((U.length:Int)+1)=some y:=by rw [app2];exact C0t _ _ _ _ (by simp)
    have g2:D4 (U++q::y::V) (U.length:Int)=some q:=C0t _ _ _ _ rfl
    have s1:B79 (U++q::y::V) ((U.length:Int)+1) q=U++q::q::V:=by rw [app2,C9v _ _ _ _ _ (by simp)];simp
    have g3:D4 (U++q::q::V) (U.length:Int)=some q:=C0t _ _ _ _ rfl
    have s2:B79 (U++q::q::V) (U.length:Int) y=U++y::q::V:=C9v _ _ _ _ _ rfl
    simp only [show decide (((U.length:Int)+1)>(P.length:Int))=true from decide_eq_true (by omega),cond_true,Bool.true_and,e1,g1,g2,s1,g3,s2,Option.bind_some,D9f]
    cases ltI y q<;>rfl
  obtain ⟨Q',h1,h2,h3⟩:=D43 E1a (P:=P) (T:=T) (P++Q++x::T).length hstop hF x Q.length Q [] rfl (by simpa using hs) (by simp) (by simp)
  refine ⟨Q',?_,by simpa using h2,h3⟩
  rw [← h1];congr 1;simp
theorem D9g (P A S:List Int)(hN:(P++A++S).length≤1000000):
    ∃A',G1 (P++A++S) (P.length:Int) ((P.length+A.length:Nat):Int)=some (P++A'++S)∧A'.Perm A∧Srt ltI A':=by
  unfold G1
  have hend: ∀(xs:List Int) (i:Nat),P.length+A.length≤i→D6 (P.length:Int) ((P.length+A.length:Nat):Int) ((i:Int),xs)=some (.out xs):=fun xs i hi=>by
    unfold D6
    rw [show decide ((i:Int)< ((P.length+A.length:Nat):Int))=false from decide_eq_false (by omega)];rfl
  simp only [List.length_append]at hN
  have hw:w64 ((P.length:Int)+1)=((P.length+1:Nat):Int):=by rw [I9 (by omega)];omega
  cases A with
  |nil=>
   refine ⟨[],?_,by simp,List.Pairwise.nil⟩
   rw [hw,D5 (hend _ _ (by simp))]
  |cons a A=>
   have hF: ∀(Q R:List Int) (x:Int),(P++Q++x::R++S).length=(P++a::A++S).length→P.length+Q.length<P.length+ (a::A).length→Srt ltI Q→∃Q',D6 (P.length:Int) ((P.length+ (a::A).length:Nat):Int) (((P.length+Q.length:Nat):Int),P++Q++x::R++S)=some (.go (((P.length+Q.length+1:Nat):Int),P++Q'++R++S))∧Q'.Perm (x::Q)∧Srt ltI Q':=fun Q R x hl hb hs=>by
     obtain ⟨Q',k1,k2,k3⟩:=D1n P (R++S) x Q hs (by simp only [List.length_append,List.length_cons]at hl hN ⊢;omega)
     refine ⟨Q',?_,k2,k3⟩
     unfold D6
     have e1:P++Q++x::R++S=P++Q++x::(R++S):=by simp
     rw [show decide (((P.length+Q.length:Nat):Int)< ((P.length+ (a::A).length:Nat):Int))=true from decide_eq_true (by omega),cond_true]
     simp only [e1,k1,Option.bind_some]
     rw [I9 (by simp only [List.length_cons]at hN hb;omega)]
     simp
   obtain ⟨A',h1,h2,h3⟩:=D44 (lt:=ltI) (P:=P) (S:=S) (P++a::A++S).length (P.length+ (a::A).length) hend hF A [a] (by simp) (by simp;omega) (List.pairwise_singleton _ _)
   refine ⟨A',?_,h2,h3⟩
   rw [hw,← h1];congr 1;simp
theorem D45 (n:Nat)(h:n≤12): ∃v,A2j (IntKind.wrap .u64 (n:Int))=some v:=by
  have: ∀n:Fin 13,(A2j (IntKind.wrap .u64 ((n.val:Nat):Int))).isSome=true:=by decide+kernel
  exact Option.isSome_iff_exists.1 (this ⟨n,by omega⟩)
theorem D9h (xs:List Int)(h:xs.length≤12): ∃ys,O8 xs=some ys∧ys.Perm xs∧Srt ltI ys:=by
  obtain ⟨v,hv⟩:=D45 _ h
  obtain ⟨ys,h1,h2,h3⟩:=D9g [] xs [] (by simp;omega)
  refine ⟨ys,?_,h2,h3⟩
  unfold O8 O1
  rw [hv,Option.bind_some,D5 (t:=ys)]
  ·rfl
  ·unfold M0
   simp only [List.length_nil,Nat.zero_add,List.nil_append,List.append_nil]at h1
   have e:w64 ((xs.length:Int) - 0)≤12:=by rw [I9 (by omega)];omega
   rw [show decide (w64 ((xs.length:Int) - 0)≤12)=true from decide_eq_true e,cond_true]
   have h1':G1 xs 0 (xs.length:Int)=some ys:=h1
   rw [h1',Option.bind_some]
theorem D6o:O9=some ():=by
  obtain ⟨v,hv⟩:=D45 0 (by omega)
  unfold O9 O2
  rw [show IntKind.wrap .u64 0=IntKind.wrap .u64 ((0:Nat):Int) from rfl,hv,Option.bind_some,D5 (t:=())]
  ·rfl
  ·unfold M1 K4
   rw [D5 (t:=())]
   ·rfl
   ·rfl
end Go.Abs.World
/-! Signals, and the red lines. -/
namespace Go.Abs.World
open Go Go.Abs
theorem B9k: ∀(l:List Int) (x:Int),x∈A6c l↔x∈l
  | [],_=> .rfl
  | [_],_=> .rfl
  |a::b::r,x=>by
   have ih:=B9k (b::r) x
   rw [A6c]
   by_cases e:a=b
   ·subst e
    rw [show (a==a)=true by simp,cond_true,ih]
    simp
   ·rw [show (a==b)=false by simp [e],cond_false,List.mem_cons,ih,List.mem_cons (a:=x) (b:=a)]
theorem B8l: ∀(l:List Int),l.Pairwise (· ≤ ·)→(A6c l).Pairwise (· < ·)
  | [],_=>List.Pairwise.nil
  | [_],_=>List.pairwise_singleton _ _
  |a::b::r,h=>by
   obtain ⟨h1,h2⟩:=List.pairwise_cons.1 h
   have ih:=B8l (b::r) h2
   rw [A6c]
   by_cases e:a=b
   ·rw [show (a==b)=true by simp [e],cond_true];exact ih
   ·rw [show (a==b)=false by simp [e],cond_false]
    refine List.pairwise_cons.2 ⟨fun x hx=> ?_,ih⟩
    have hx':=(B9k _ _).1 hx
    have hb:=h1 b (by simp)
    rcases List.mem_cons.1 hx' with rfl|hx'
    ·omega
    ·have:=(List.pairwise_cons.1 h2).1 x hx';omega
theorem C3w: ∀{l m:List Int},l.Pairwise (· < ·)→m.Pairwise (· < ·)→(∀x,x∈l↔x∈m)→l=m
  | [],[],_,_,_=>rfl
  | [],b::m,_,_,h=>absurd ((h b).2 (by simp)) (by simp)
  |a::l,[],_,_,h=>absurd ((h a).1 (by simp)) (by simp)
  |a::l,b::m,h1,h2,h=>by
   obtain ⟨a1,a2⟩:=List.pairwise_cons.1 h1
   obtain ⟨b1,b2⟩:=List.pairwise_cons.1 h2
   have hab:a=b:=by
     rcases List.mem_cons.1 ((h a).1 (by simp))with e|e
     ·exact e
     ·rcases List.mem_cons.1 ((h b).2 (by simp))with e'|e'
      ·exact e'.symm
      ·have:=a1 _ e';have:=b1 _ e;omega
   subst hab
   congr 1
   refine C3w a2 b2 fun x=>⟨fun hx=> ?_,fun hx=> ?_⟩
   ·rcases List.mem_cons.1 ((h x).1 (List.mem_cons_of_mem _ hx))with rfl|e
    ·exact absurd (a1 _ hx) (by omega)
    ·exact e
   ·rcases List.mem_cons.1 ((h x).2 (List.mem_cons_of_mem _ hx))with rfl|e
    ·exact absurd (b1 _ hx) (by omega)
    ·exact e
structure SigOK (s:Signal):Prop where
  pos:0<s.Phases.length
  many:s.Phases.length≤6
  off:0≤s.Offset∧s.Offset≤1099511627776
  ticks: ∀p∈s.Phases,1≤p.Ticks∧p.Ticks≤10000
  green: ∀p∈s.Phases,p.Green.length≤1000000
theorem ValR.sig {m:Map}(B:BearM m)(V:ValR m){i:Nat}{s:Signal}(h:m.Signals[i]? =some s):SigOK s:=by
  have:=firstE_none.1 V.signalE i s h
  unfold World.signalE at this
  split at this
  ·cases this
  split at this
  ·cases this
  split at this
  ·cases this
  split at this
  ·cases this
  rename_i h1 h2 h3 h4
  refine ⟨by omega,by omega,?_,fun p hp=> ?_,(B.toBearS.phases s (List.mem_of_getElem? h)).2⟩
  ·have:inR s.Offset 0 1099511627776=true:=by simpa using h3
   simpa [inR] using this
  ·have:inR p.Ticks 1 10000=true:=by
     cases q:inR p.Ticks 1 10000 with
     |true=>rfl
     |false=>exact absurd (List.any_eq_true.2 ⟨p,hp,by rw [q];rfl⟩) h4
   simpa [inR] using this
def B8o:List Phase→Int
  | []=>0
  |p::r=>p.Ticks+B8o r
def C71 (lane:Int):Int→List Phase→Bool
  |_,[]=>false
  |at_,p::r=>if p.Ticks≤at_ then C71 lane (at_ - p.Ticks) r else p.Green.contains lane
def B9x (s:Signal)(lane tick:Int):Bool:=C71 lane ((s.Offset+tick) % B8o s.Phases) s.Phases
theorem D46: ∀{l:List Phase},(∀p∈l,1≤p.Ticks∧p.Ticks≤10000)→(l.length:Int)≤B8o l∧B8o l≤10000*l.length
  | [],_=>by simp [B8o]
  |p::r,h=>by
   have:=D46 (l:=r) fun q hq=>h q (List.mem_cons_of_mem _ hq)
   have:=h p (by simp)
   simp only [B8o,List.length_cons]
   omega
theorem SigOK.sum {s:Signal}(S:SigOK s):1≤B8o s.Phases∧B8o s.Phases≤60000:=by
  have:=D46 S.ticks
  have:=S.pos
  have:=S.many
  omega
theorem g_l1 (s:Signal)(S:SigOK s): ∀(r:List Phase) (i:Nat) (a:Int),s.Phases.drop i=r→i≤s.Phases.length→0≤a→a+10000*r.length≤1000000→loop (Z1 s) (a,(i:Int))=some (a+B8o r):=by
  intro r
  induction r with
  |nil=>
   intro i a hi hil h0 h1
   have:=U4 hi
   obtain rfl:i=s.Phases.length:=by omega
   refine D5 ?_
   unfold Z1
   rw [T7];simp [B8o]
  |cons p r ih=>
   intro i a hi hil h0 h1
   have hlt:=V5 hi
   have hp:=A2o hi
   have hb:=S.ticks p (List.mem_of_getElem? hp)
   simp only [List.length_cons]at h1
   have hs:Z1 s (a,(i:Int))=some (.go (a+p.Ticks,((i+1:Nat):Int))):=by
     unfold Z1
     dsimp only
     rw [X4 hlt,E6 hp,cond_true,Option.bind_some,I9 (by omega),M8 hlt (by have:=S.many;omega)]
   rw [P2 hs,ih (i+1) _ (L0 hi) (by omega) (by omega) (by omega),B8o]
   congr 1;omega
theorem g_l2 (s:Signal)(S:SigOK s)(lane:Int): ∀(r:List Phase) (i:Nat) (a:Int),s.Phases.drop i=r→i≤s.Phases.length→0≤a→a≤1000000→thenS (loop (X1 s lane) (a,(i:Int))) (fun _=>some false) (fun r=>some r)=some (C71 lane a r):=by
  intro r
  induction r with
  |nil=>
   intro i a hi hil h0 h1
   have:=U4 hi
   obtain rfl:i=s.Phases.length:=by omega
   rw [D5 (t:= .inl ())]
   ·rfl
   ·unfold X1
    rw [T7];rfl
  |cons p r ih=>
   intro i a hi hil h0 h1
   have hlt:=V5 hi
   have hp:=A2o hi
   have hb:=S.ticks p (List.mem_of_getElem? hp)
   by_cases hc:p.Ticks≤a
   ·have hs:X1 s lane (a,(i:Int))=some (.go (a - p.Ticks,((i+1:Nat):Int))):=by
      unfold X1
      dsimp only
      rw [X4 hlt,E6 hp,cond_true,Option.bind_some,show decide (a≥p.Ticks)=true from decide_eq_true hc,cond_true,I9 (by omega),M8 hlt (by have:=S.many;omega)]
    rw [P2 hs,ih (i+1) _ (L0 hi) (by omega) (by omega) (by omega),C71,if_pos hc]
   ·have hs:X1 s lane (a,(i:Int))=some (.out (.inr (p.Green.contains lane))):=by
      unfold X1
      dsimp only
      rw [X4 hlt,E6 hp,cond_true,Option.bind_some,show decide (a≥p.Ticks)=false from decide_eq_false (by omega),cond_false,B76 _ (S.green p (List.mem_of_getElem? hp)),Option.bind_some]
    rw [D5 hs,C71,if_neg hc];rfl
theorem E1b {s:Signal}(S:SigOK s){tick:Int}(h:0≤tick):(w64 (s.Offset.tmod (B8o s.Phases)+tick.tmod (B8o s.Phases))).tmod (B8o s.Phases)=(s.Offset+tick) % B8o s.Phases:=by
  obtain ⟨h1,h2⟩:=S.sum
  have ho:=S.off.1
  rw [Int.tmod_eq_emod_of_nonneg ho,Int.tmod_eq_emod_of_nonneg h]
  have a1:=Int.emod_nonneg s.Offset (b:=B8o s.Phases) (by omega)
  have a2:=Int.emod_nonneg tick (b:=B8o s.Phases) (by omega)
  have a3:=Int.emod_lt_of_pos s.Offset (b:=B8o s.Phases) (by omega)
  have a4:=Int.emod_lt_of_pos tick (b:=B8o s.Phases) (by omega)
  rw [I9 (by omega),Int.tmod_eq_emod_of_nonneg (by omega),← Int.add_emod]
theorem D47 {s:Signal}(S:SigOK s)(lane:Int){tick:Int}(h:0≤tick):A5c s lane tick=some (B9x s lane tick):=by
  obtain ⟨h1,h2⟩:=S.sum
  unfold A5c
  have e1:loop (Z1 s) (0,0)=some (B8o s.Phases):=by
    have:=g_l1 s S s.Phases 0 0 rfl (by omega) (by omega) (by have:=S.many;omega)
    rw [Int.zero_add]at this;exact this
  have hne:B8o s.Phases≠0:=by omega
  rw [e1,Option.bind_some]
  unfold C7a
  rw [if_neg hne,Option.bind_some,if_neg hne,Option.bind_some,if_neg hne,Option.bind_some,E1b S h]
  refine g_l2 s S lane s.Phases 0 _ rfl (by omega) (Int.emod_nonneg _ hne) ?_
  have:=Int.emod_lt_of_pos (s.Offset+tick) (b:=B8o s.Phases) (by omega)
  omega
end Go.Abs.World
/-! The red lines. -/
namespace Go.Abs.World
open Go Go.Abs
theorem B9l {high:Int}: ∀{l:List Int} {low:Int},A6b high low l=true→l.Pairwise (· < ·)
  | [],_,_=>List.Pairwise.nil
  |n::r,low,h=>by
   simp only [A6b,Bool.and_eq_true]at h
   refine List.pairwise_cons.2 ⟨fun x hx=> ?_,B9l h.2⟩
   have:=(B1x h.2 x hx).1
   omega
def C09 (m:Map)(z:Zone):Signal:=m.Signals.getD (z.Signal_ - 1).toNat default
def A9n (m:Map)(lane tick:Int)(z:Zone)(p:Part):Option Int:=if p.Lane_==lane&& !B9x (C09 m z) lane tick then some p.From else none
def A2p (m:Map)(lane tick:Int)(z:Zone):List Int:=if z.Signal_==0 then []else z.Parts.filterMap (A9n m lane tick z)
def C72 (m:Map)(lane tick:Int):List Int:=m.Zones.flatMap (A2p m lane tick)
theorem C9w (m:Map)(lane tick:Int)(z:Zone): ∀l:List Part,(l.map (·.Lane_)).Pairwise (· < ·)→(l.filterMap (A9n m lane tick z)).length≤1
  | [],_=>by simp
  |p::r,h=>by
   obtain ⟨h1,h2⟩:=List.pairwise_cons.1 h
   rw [List.filterMap_cons]
   by_cases e:p.Lane_=lane
   ·have:r.filterMap (A9n m lane tick z)= []:=by
      rw [List.filterMap_eq_nil_iff]
      intro q hq
      have:p.Lane_<q.Lane_:=h1 q.Lane_ (List.mem_map_of_mem hq)
      unfold A9n
      rw [show (q.Lane_==lane)=false by simp;omega];rfl
    rw [this]
    cases A9n m lane tick z p<;>simp
   ·have:A9n m lane tick z p=none:=by unfold A9n;rw [show (p.Lane_==lane)=false by simp [e]];rfl
    rw [this]
    exact C9w m lane tick z r h2
theorem B8m {m:Map}{z:Zone}(Z:ZoneOK m z)(lane tick:Int):(A2p m lane tick z).length≤1:=by
  unfold A2p
  split
  ·simp
  ·exact C9w m lane tick z _ (B9l Z.rise)
theorem C9x {m:Map}(lane tick:Int): ∀l:List Zone,(∀z∈l,ZoneOK m z)→(l.flatMap (A2p m lane tick)).length≤l.length
  | [],_=>by simp
  |z::r,h=>by
   rw [List.flatMap_cons,List.length_append,List.length_cons]
   have:=B8m (h z (by simp)) lane tick
   have:=C9x lane tick r fun y hy=>h y (List.mem_cons_of_mem _ hy)
   omega
theorem E1c {m:Map}(B:BearM m)(V:ValR m)(lane:Int){tick:Int}(ht:0≤tick)(z:Zone)(Z:ZoneOK m z)(hz:z.Signal_≠0): ∀(r:List Part) (i:Nat) (out:List Int),z.Parts.drop i=r→i≤z.Parts.length→out.length+r.length≤1000→
    loop (A1e m lane tick z) (out,(i:Int))=some (out++r.filterMap (A9n m lane tick z)):=by
  intro r
  induction r with
  |nil=>
   intro i out hi hil hl
   have:=U4 hi
   obtain rfl:i=z.Parts.length:=by omega
   refine D5 ?_
   unfold A1e
   rw [T7];simp
  |cons p r ih=>
   intro i out hi hil hl
   have hlt:=V5 hi
   have hp:=A2o hi
   have hsz:=Z.six
   simp only [List.length_cons]at hl
   have hw:w64 (z.Signal_ - 1)=z.Signal_ - 1:=I9 (by have:=Z.sig;have:=V.signals;omega)
   have hk:(z.Signal_ - 1).toNat<m.Signals.length:=by have:=Z.sig;omega
   have hget:m.Signals[(z.Signal_ - 1).toNat]? =some (C09 m z):=by rw [C09,List.getD,List.getElem?_eq_getElem hk];rfl
   have hg:D4 m.Signals (z.Signal_ - 1)=some (C09 m z):=by unfold D4;rw [if_pos (by have:=Z.sig;omega),hget]
   have hs:A1e m lane tick z (out,(i:Int))=some (.go ((match A9n m lane tick z p with|some b=>out++ [b]|none=>out),((i+1:Nat):Int))):=by
     unfold A1e A9n
     dsimp only
     rw [X4 hlt,E6 hp,cond_true,Option.bind_some,hw,hg,M8 hlt (by omega)]
     cases p.Lane_==lane
     ·rfl
     ·simp only [cond_true,Option.bind_some,Bool.true_and]
      rw [D47 (V.sig B hget) lane ht,Option.bind_some]
      cases B9x (C09 m z) lane tick
      ·simp only [Bool.not_false,cond_true,if_true]
       rw [A9p (by simp;omega),Option.bind_some]
      ·rfl
   rw [P2 hs,List.filterMap_cons]
   cases A9n m lane tick z p with
   |none=>exact ih (i+1) out (L0 hi) (by omega) (by omega)
   |some b=>
    dsimp only
    rw [ih (i+1) (out++ [b]) (L0 hi) (by omega) (by simp;omega)]
    simp
theorem E1d {m:Map}(B:BearM m)(V:ValR m)(lane:Int){tick:Int}(ht:0≤tick): ∀(r:List Zone) (i:Nat) (out:List Int),m.Zones.drop i=r→i≤m.Zones.length→out.length+r.length≤100→
    loop (A1f m lane tick) (out,(i:Int))=some (out++r.flatMap (A2p m lane tick)):=by
  intro r
  induction r with
  |nil=>
   intro i out hi hil hl
   have:=U4 hi
   obtain rfl:i=m.Zones.length:=by omega
   refine D5 ?_
   unfold A1f
   rw [T7];simp
  |cons z r ih=>
   intro i out hi hil hl
   have hlt:=V5 hi
   have hz:=A2o hi
   have Z:=V.zoneOK (List.mem_of_getElem? hz)
   simp only [List.length_cons]at hl
   have hn:=V.zones
   have hs:A1f m lane tick (out,(i:Int))=some (.go (out++A2p m lane tick z,((i+1:Nat):Int))):=by
     unfold A1f A2p
     dsimp only
     rw [X4 hlt,E6 hz,cond_true,Option.bind_some,M8 hlt (by omega)]
     by_cases e:z.Signal_=0
     ·rw [show (z.Signal_==0)=true by simp [e],cond_true,if_pos rfl];simp
     ·rw [show (z.Signal_==0)=false by simp [e],cond_false,if_neg (by simp)]
      have:=E1c B V lane ht z Z e z.Parts 0 out rfl (by omega) (by have:=Z.six;omega)
      have this':loop (A1e m lane tick z) (out,0)=_:=this
      rw [this',Option.bind_some]
   have:=B8m Z lane tick
   rw [P2 hs,ih (i+1) _ (L0 hi) (by omega) (by rw [List.length_append];omega),List.flatMap_cons,List.append_assoc]
/-- The red lines: strictly ascending, and those that there are. -/
theorem D9i {m:Map}(B:BearM m)(V:ValR m)(lane:Int){tick:Int}(ht:0≤tick): ∃R,B16 m lane tick=some R∧R.Pairwise (· < ·)∧(∀x,x∈R↔x∈C72 m lane tick)∧R.length≤1000:=by
  have hlen:(C72 m lane tick).length≤12:=Nat.le_trans (C9x lane tick m.Zones fun z hz=>V.zoneOK hz) V.zones
  have h1:loop (A1f m lane tick) ([],0)=some (C72 m lane tick):=by
    have:=E1d B V lane ht m.Zones 0 [] rfl (by omega) (by simp;have:=V.zones;omega)
    rw [List.nil_append]at this
    exact this
  unfold B16
  rw [h1,Option.bind_some]
  cases q:C72 m lane tick with
  |nil=>exact ⟨[],by rw [D6o];rfl,List.Pairwise.nil,fun x=> .rfl,by simp⟩
  |cons a l=>
   rw [q]at hlen
   obtain ⟨ys,g1,g2,g3⟩:=D9h (a::l) hlen
   have hys:ys≠ []:=by rintro rfl;exact absurd g2.length_eq (by simp)
   have hc:B7s ys=some (A6c ys):=by cases ys with|nil=>exact absurd rfl hys|cons=>rfl
   refine ⟨A6c ys,by rw [show List.isEmpty (a::l)=false from rfl,cond_false,g1,Option.bind_some,hc];rfl,B8l _ (g3.imp fun {a b} h=> ?_),fun x=>(B9k _ _).trans g2.mem_iff,?_⟩
   ·simp only [ltI,decide_eq_false_iff_not]at h;omega
   ·have: ∀l:List Int,(A6c l).length≤l.length:=by
      intro l
      induction l with
      |nil=>simp [A6c]
      |cons a l ih=>
       cases l with
       |nil=>simp [A6c]
       |cons b r=>
        rw [A6c]
        cases a==b
        ·simp only [cond_false,List.length_cons]at ih ⊢;omega
        ·simp only [cond_true,List.length_cons]at ih ⊢;omega
    have h2:=this ys
    rw [g2.length_eq]at h2
    omega
theorem E1e {m:Map}(B:BearM m)(lane tick:Int): ∃R,A5e m lane tick=some R∧R.Pairwise (· < ·)∧(∀x,x∈R↔ (0≤tick∧isM m lane=true∧x∈C72 m lane tick))∧R.length≤1000:=by
  unfold A5e
  rw [C2g B]
  by_cases ht:tick<0
  ·exact ⟨[],by rw [show decide (tick<0)=true from decide_eq_true ht];rfl,List.Pairwise.nil,fun x=>⟨fun h=>absurd h (by simp),fun h=>by omega⟩,by simp⟩
  ·rw [show decide (tick<0)=false from decide_eq_false ht]
   cases hi:isM m lane
   ·exact ⟨[],rfl,List.Pairwise.nil,fun x=>⟨fun h=>absurd h (by simp),fun h=>by cases h.2.1⟩,by simp⟩
   ·obtain ⟨R,g1,g2,g3,g4⟩:=D9i B (isM_true.1 hi).2.2 lane (tick:=tick) (by omega)
    exact ⟨R,by simp only [Bool.not_false,cond_true,Option.bind_some,Bool.not_true,Bool.or_false,cond_false,g1],g2,fun x=>(g3 x).trans ⟨fun h=>⟨by omega,rfl,h⟩,fun h=>h.2.2⟩,g4⟩
end Go.Abs.World
namespace Go.Abs
open Go
section
variable {α β σ τ:Type}
end
end Go.Abs
namespace Go.Abs.World
open Go Go.Abs
theorem D6p {z:Zone}(hl:z.Parts.length≤1000000)(k:Int):B5s z k=some (D3x z k):=by
  have key: ∀(r:List Part) (i:Nat),z.Parts.drop i=r→i≤z.Parts.length→thenS (loop (A45 z k) (i:Int)) (fun _=>some ((⟨0,0,0,0⟩:Part),false)) (fun r=>some r)=some (match r.find? (fun p=>p.Lane_==k)with|some p=>(p,true)|none=>(⟨0,0,0,0⟩,false)):=by
    intro r
    induction r with
    |nil=>
     intro i hi hil
     have:=U4 hi
     obtain rfl:i=z.Parts.length:=by omega
     rw [D5 (t:= .inl ()) (by unfold A45;rw [T7];rfl)];rfl
    |cons p r ih=>
     intro i hi hil
     have hlt:=V5 hi
     have hp:=A2o hi
     rw [List.find?_cons]
     cases q:p.Lane_==k
     ·rw [P2 (s':=((i+1:Nat):Int)) (by unfold A45;rw [X4 hlt,E6 hp,cond_true,Option.bind_some,q,M8 hlt (by omega)];rfl)]
      exact ih (i+1) (L0 hi) (by omega)
     ·rw [D5 (t:= .inr (p,true)) (by unfold A45;rw [X4 hlt,E6 hp,cond_true,Option.bind_some,q,cond_true,Option.bind_some])];rfl
  exact key z.Parts 0 rfl (by omega)
end Go.Abs.World
/-! RoadsSignals. -/
namespace Go.Abs.World
open Go Go.Abs
theorem E28 (s:Signal)(S:SigOK s): ∀(r:List Phase) (i:Nat) (a:Int),s.Phases.drop i=r→i≤s.Phases.length→0≤a→a+10000*r.length≤1000000→loop (A1g s) (a,(i:Int))=some (a+B8o r):=by
  intro r
  induction r with
  |nil=>
   intro i a hi hil h0 h1
   have:=U4 hi
   obtain rfl:i=s.Phases.length:=by omega
   refine D5 ?_
   unfold A1g
   rw [T7];simp [B8o]
  |cons p r ih=>
   intro i a hi hil h0 h1
   have hlt:=V5 hi
   have hp:=A2o hi
   have hb:=S.ticks p (List.mem_of_getElem? hp)
   simp only [List.length_cons]at h1
   have hs:A1g s (a,(i:Int))=some (.go (a+p.Ticks,((i+1:Nat):Int))):=by
     unfold A1g
     dsimp only
     rw [X4 hlt,E6 hp,cond_true,Option.bind_some,I9 (by omega),M8 hlt (by have:=S.many;omega)]
   rw [P2 hs,ih (i+1) _ (L0 hi) (by omega) (by omega) (by omega),B8o]
   congr 1;omega
theorem E29 (s:Signal)(S:SigOK s)(lane:Int): ∀(r:List Phase) (i:Nat) (a:Int),s.Phases.drop i=r→i≤s.Phases.length→0≤a→a≤1000000→thenS (loop (A0g s lane) (a,(i:Int))) (fun _=>some false) (fun r=>some r)=some (C71 lane a r):=by
  intro r
  induction r with
  |nil=>
   intro i a hi hil h0 h1
   have:=U4 hi
   obtain rfl:i=s.Phases.length:=by omega
   rw [D5 (t:= .inl ())]
   ·rfl
   ·unfold A0g
    rw [T7];rfl
  |cons p r ih=>
   intro i a hi hil h0 h1
   have hlt:=V5 hi
   have hp:=A2o hi
   have hb:=S.ticks p (List.mem_of_getElem? hp)
   by_cases hc:p.Ticks≤a
   ·have hs:A0g s lane (a,(i:Int))=some (.go (a - p.Ticks,((i+1:Nat):Int))):=by
      unfold A0g
      dsimp only
      rw [X4 hlt,E6 hp,cond_true,Option.bind_some,show decide (a<p.Ticks)=false from decide_eq_false (by omega),cond_false,Option.bind_some,I9 (by omega),M8 hlt (by have:=S.many;omega)]
    rw [P2 hs,ih (i+1) _ (L0 hi) (by omega) (by omega) (by omega),C71,if_pos hc]
   ·have hs:A0g s lane (a,(i:Int))=some (.out (.inr (p.Green.contains lane))):=by
      unfold A0g
      dsimp only
      rw [X4 hlt,E6 hp,cond_true,Option.bind_some,show decide (a<p.Ticks)=true from decide_eq_true (by omega),cond_true,Option.bind_some,D3v _ (S.green p (List.mem_of_getElem? hp)),Option.bind_some]
    rw [D5 hs,C71,if_neg hc];rfl
theorem D48 {s:Signal}(S:SigOK s)(lane:Int){tick:Int}(h:0≤tick):B1d s lane tick=some (B9x s lane tick):=by
  obtain ⟨h1,h2⟩:=S.sum
  unfold B1d
  have e1:loop (A1g s) (0,0)=some (B8o s.Phases):=by
    have:=E28 s S s.Phases 0 0 rfl (by omega) (by omega) (by have:=S.many;omega)
    rw [Int.zero_add]at this;exact this
  have hne:B8o s.Phases≠0:=by omega
  rw [e1,Option.bind_some]
  unfold C7a
  rw [if_neg hne,Option.bind_some,if_neg hne,Option.bind_some,if_neg hne,Option.bind_some,E1b S h]
  refine E29 s S lane s.Phases 0 _ rfl (by omega) (Int.emod_nonneg _ hne) ?_
  have:=Int.emod_lt_of_pos (s.Offset+tick) (b:=B8o s.Phases) (by omega)
  omega
theorem C73 (m:Map)(lane tick:Int)(z:Zone): ∀l:List Part,(l.map (·.Lane_)).Pairwise (· < ·)→l.filterMap (A9n m lane tick z)=match l.find? (fun p=>p.Lane_==lane)with|some p=>if B9x (C09 m z) lane tick=true then []else [p.From]|none=> []
  | [],_=>rfl
  |p::r,h=>by
   obtain ⟨h1,h2⟩:=List.pairwise_cons.1 h
   rw [List.filterMap_cons,List.find?_cons]
   by_cases e:p.Lane_=lane
   ·have:r.filterMap (A9n m lane tick z)= []:=by
      rw [List.filterMap_eq_nil_iff]
      intro q hq
      have:p.Lane_<q.Lane_:=h1 q.Lane_ (List.mem_map_of_mem hq)
      unfold A9n
      rw [show (q.Lane_==lane)=false by simp;omega];rfl
    rw [this,show (p.Lane_==lane)=true by simp [e]]
    unfold A9n
    rw [show (p.Lane_==lane)=true by simp [e]]
    cases B9x (C09 m z) lane tick<;>rfl
   ·have:A9n m lane tick z p=none:=by unfold A9n;rw [show (p.Lane_==lane)=false by simp [e]];rfl
    rw [this,show (p.Lane_==lane)=false by simp [e]]
    exact C73 m lane tick z r h2
theorem D9j (out:List Int)(q:Part×Bool)(i0:Int)(hl:out.length≤1000): ∀(r:List Int) (i:Nat),out.drop i=r→i≤out.length→loop (A1h (out,i0) q) (i:Int)=some ((i+ (r.takeWhile fun y=>decide (y<q.1.From)).length:Nat):Int):=by
  intro r
  induction r with
  |nil=>
   intro i hi hil
   have:=U4 hi
   obtain rfl:i=out.length:=by omega
   refine D5 ?_
   unfold A1h
   dsimp only
   rw [T7];rfl
  |cons y r ih=>
   intro i hi hil
   have hlt:=V5 hi
   have hy:=A2o hi
   rw [List.takeWhile_cons]
   by_cases hc:y<q.1.From
   ·rw [if_pos (by simpa using hc),List.length_cons,P2 (s':=((i+1:Nat):Int)),ih (i+1) (L0 hi) (by omega)]
    ·congr 2;omega
    ·unfold A1h
     dsimp only
     rw [X4 hlt,E6 hy,cond_true,Option.bind_some,show decide (y<q.1.From)=true from decide_eq_true hc,Bool.and_true,cond_true,M8 hlt (by omega)]
   ·rw [if_neg (by simpa using hc)]
    refine D5 ?_
    unfold A1h
    dsimp only
    rw [X4 hlt,E6 hy,cond_true,Option.bind_some,show decide (y<q.1.From)=false from decide_eq_false hc];rfl
theorem D49 {α:Type}(L R:List α):C6e (L++R) 0 (L.length:Int)=some L:=by
  unfold C6e
  rw [if_pos ⟨by omega,by omega,by simp;omega⟩]
  simp
theorem D1o {α:Type}(L R:List α):C6e (L++R) (L.length:Int) ((L++R).length:Int)=some R:=by
  unfold C6e
  rw [if_pos ⟨by omega,by simp;omega,by omega⟩,show (((L++R).length:Int)).toNat=(L++R).length from Int.toNat_natCast _,List.take_length,show ((L.length:Int)).toNat=L.length from Int.toNat_natCast _,List.drop_left]
theorem D7r {α:Type}{p:α→Bool}: ∀{l:List α} {x:α},x∈l.takeWhile p→p x=true
  | [],_,h=>by simp at h
  |a::r,x,h=>by
   rw [List.takeWhile_cons]at h
   split at h
   ·rename_i ha
    rcases List.mem_cons.1 h with rfl|h
    ·exact ha
    ·exact D7r h
   ·simp at h
/-- A number is put into a list that is strictly ascending. -/
theorem D6q (out:List Int)(x:Int)(hs:out.Pairwise (· < ·))(hl:out.length≤500): ∃out':List Int,∀(i':Int),((cond (decide (((out.takeWhile fun y=>decide (y<x)).length:Int)< (out.length:Int))) (D4 out ((out.takeWhile fun y=>decide (y<x)).length:Int)) (some default)).bind fun v6=>cond ((decide (((out.takeWhile fun y=>decide (y<x)).length:Int)< (out.length:Int)))&& (v6==x)) (some (.go (out,i'):Stp (List Int×Int) (List Int))) ((C6e out 0 ((out.takeWhile fun y=>decide (y<x)).length:Int)).bind fun v7=>(A7p ([]:List Int) v7).bind fun v8=>(A7p v8 [x]).bind fun v9=>(C6e out ((out.takeWhile fun y=>decide (y<x)).length:Int) (out.length:Int)).bind fun v10=>(A7p v9 v10).bind fun v11=>some (.go (v11,i'))))=some (.go (out',i'))∧
    out'.Pairwise (· < ·)∧(∀y,y∈out'↔y=x∨y∈out)∧out'.length≤out.length+1:=by
  have e:=List.takeWhile_append_dropWhile (p:=fun y=>decide (y<x)) (l:=out)
  have hL: ∀y∈out.takeWhile (fun y=>decide (y<x)),y<x:=fun y hy=>by
    have:=D7r hy
    simpa using this
  have hR0: ∀y R',out.dropWhile (fun y=>decide (y<x))=y::R'→x≤y:=fun y R' h=>by
    have:=List.head?_dropWhile_not (fun y=>decide (y<x)) out
    rw [h]at this
    simp at this;exact this
  generalize out.takeWhile (fun y=>decide (y<x))=L at*
  generalize out.dropWhile (fun y=>decide (y<x))=R at*
  subst e
  have hll:L.length+R.length≤500:=by simpa using hl
  have hgo: ∀i':Int,((C6e (L++R) 0 (L.length:Int)).bind fun v7=>(A7p ([]:List Int) v7).bind fun v8=>(A7p v8 [x]).bind fun v9=>(C6e (L++R) (L.length:Int) ((L++R).length:Int)).bind fun v10=>(A7p v9 v10).bind fun v11=>some (.go (v11,i'):Stp (List Int×Int) (List Int)))=some (.go (L++x::R,i')):=fun i'=>by
    rw [D49,Option.bind_some,A9p (by simp;omega),Option.bind_some,List.nil_append,A9p (by simp;omega),Option.bind_some,D1o,Option.bind_some,A9p (by simp;omega),Option.bind_some]
    simp
  obtain ⟨p1,p2,p3⟩:=List.pairwise_append.1 hs
  cases R with
  |nil=>
   refine ⟨L++ [x],fun i'=> ?_⟩
   have:=hgo i'
   refine ⟨?_,List.pairwise_append.2 ⟨p1,List.pairwise_singleton _ _,fun y hy z hz=>by rw [List.mem_singleton.1 hz];exact hL y hy⟩,fun y=>by simp [or_comm],by simp⟩
   rw [show decide ((L.length:Int)< ((L++ ([]:List Int)).length:Int))=false from decide_eq_false (by simp)]
   simp only [cond_false,Option.bind_some,Bool.false_and]
   exact this
  |cons y R=>
   have hy:=hR0 y R rfl
   have hg:D4 (L++y::R) (L.length:Int)=some y:=C0t _ _ _ _ rfl
   by_cases hxy:y=x
   ·subst hxy
    refine ⟨L++y::R,fun i'=>⟨?_,hs,fun z=>⟨.inr,fun h=>h.elim (fun h=>by rw [h];simp) id⟩,by simp⟩⟩
    rw [show decide ((L.length:Int)< ((L++y::R).length:Int))=true from decide_eq_true (by simp;omega)]
    simp only [cond_true,hg,Option.bind_some,Bool.true_and]
    rw [show (y==y)=true by simp];rfl
   ·refine ⟨L++x::y::R,fun i'=> ?_⟩
    have:=hgo i'
    obtain ⟨q1,q2⟩:=List.pairwise_cons.1 p2
    refine ⟨?_,List.pairwise_append.2 ⟨p1,List.pairwise_cons.2 ⟨fun z hz=> ?_,p2⟩,fun a ha b hb=> ?_⟩,fun z=>by simp only [List.mem_append,List.mem_cons];constructor<;>(intro h;rcases h with h|h|h|h<;>simp [h]),by simp;omega⟩
    ·rw [show decide ((L.length:Int)< ((L++y::R).length:Int))=true from decide_eq_true (by simp;omega)]
     simp only [cond_true,hg,Option.bind_some,Bool.true_and]
     rw [show (y==x)=false by simp [hxy],cond_false]
     exact this
    ·rcases List.mem_cons.1 hz with rfl|hz
     ·omega
     ·have:=q1 z hz;omega
    ·rcases List.mem_cons.1 hb with rfl|hb
     ·exact hL a ha
     ·exact p3 a ha b hb
theorem E1f {m:Map}(B:BearM m)(V:ValR m)(lane:Int){tick:Int}(ht:0≤tick): ∀(r:List Zone) (i:Nat) (out:List Int),m.Zones.drop i=r→i≤m.Zones.length→out.Pairwise (· < ·)→out.length+r.length≤100→
    ∃R,loop (A1i m lane tick) (out,(i:Int))=some R∧R.Pairwise (· < ·)∧(∀y,y∈R↔y∈out∨y∈r.flatMap (A2p m lane tick))∧R.length≤100:=by
  intro r
  induction r with
  |nil=>
   intro i out hi hil hs hl
   have:=U4 hi
   obtain rfl:i=m.Zones.length:=by omega
   refine ⟨out,D5 ?_,hs,fun y=>by simp,by simpa using hl⟩
   unfold A1i
   rw [T7];rfl
  |cons z r ih=>
   intro i out hi hil hs hl
   have hlt:=V5 hi
   have hz:=A2o hi
   have hzm:=List.mem_of_getElem? hz
   have Z:=V.zoneOK hzm
   have hsg:=Z.sig
   have hns:=V.signals
   have hnz:=V.zones
   simp only [List.length_cons]at hl
   have hpl:z.Parts.length≤1000000:=by have:=Z.six;omega
   suffices h: ∃out',A1i m lane tick (out,(i:Int))=some (.go (out',((i+1:Nat):Int)))∧out'.Pairwise (· < ·)∧(∀y,y∈out'↔y∈out∨y∈A2p m lane tick z)∧out'.length≤out.length+1 by
     obtain ⟨out',g1,g2,g3,g4⟩:=h
     obtain ⟨R,k1,k2,k3,k4⟩:=ih (i+1) out' (L0 hi) (by omega) g2 (by omega)
     refine ⟨R,by rw [P2 g1];exact k1,k2,fun y=> ?_,k4⟩
     rw [k3,g3,List.flatMap_cons,List.mem_append,or_assoc]
   unfold A1i
   dsimp only
   rw [X4 hlt,E6 hz,cond_true,Option.bind_some,D6p hpl,Option.bind_some,M8 hlt (by omega),I9 (n:=z.Signal_ - 1) (by omega)]
   have hzl:A2p m lane tick z=if z.Signal_==0 then []else match z.Parts.find? (fun p=>p.Lane_==lane)with|some p=>if B9x (C09 m z) lane tick=true then []else [p.From]|none=> []:=by
     unfold A2p
     rw [C73 m lane tick z z.Parts (B9l Z.rise)]
   have hskip:A2p m lane tick z= []→∃out',some (.go (out,((i+1:Nat):Int)):Stp (List Int×Int) (List Int))=some (.go (out',((i+1:Nat):Int)))∧out'.Pairwise (· < ·)∧(∀y,y∈out'↔y∈out∨y∈A2p m lane tick z)∧out'.length≤out.length+1:=fun h=>⟨out,rfl,hs,fun y=>by rw [h];simp,by omega⟩
   cases hp:z.Parts.find? (fun p=>p.Lane_==lane)with
   |none=>
    have hpm:D3x z lane=(⟨0,0,0,0⟩,false):=by unfold D3x;rw [hp]
    rw [hpm]
    simp only [Bool.not_false,Bool.true_or,Bool.not_true,cond_false,Option.bind_some,cond_true]
    refine hskip ?_
    rw [hzl,hp]
    split<;>rfl
   |some p=>
    have hpm:D3x z lane=(p,true):=by unfold D3x;rw [hp]
    rw [hpm]
    by_cases h0:z.Signal_=0
    ·rw [show (z.Signal_==0)=true by simp [h0]]
     simp only [Bool.not_true,Bool.false_or,cond_false,Option.bind_some,Bool.true_or,cond_true]
     refine hskip ?_
     rw [hzl,if_pos (by simp [h0])]
    ·have hk:(z.Signal_ - 1).toNat<m.Signals.length:=by omega
     have hget:m.Signals[(z.Signal_ - 1).toNat]? =some (C09 m z):=by rw [C09,List.getD,List.getElem?_eq_getElem hk];rfl
     have hg:D4 m.Signals (z.Signal_ - 1)=some (C09 m z):=by unfold D4;rw [if_pos (by omega),hget]
     rw [show (z.Signal_==0)=false by simp [h0]]
     simp only [Bool.not_true,Bool.false_or,Bool.not_false,cond_true,Option.bind_some,hg,D48 (V.sig B hget) lane ht]
     rw [if_neg (by simp [h0]),hp]at hzl
     cases hgr:B9x (C09 m z) lane tick with
     |true=>
      rw [cond_true]
      refine hskip ?_
      rw [hzl,hgr];rfl
     |false=>
      rw [hgr]at hzl
      have hzl':A2p m lane tick z= [p.From]:=hzl
      have h2:loop (A1h (out,(i:Int)) (p,true)) 0=some (((out.takeWhile fun y=>decide (y<p.From)).length:Nat):Int):=by
        have:=D9j out (p,true) (i:Int) (by omega) out 0 rfl (by omega)
        rw [Nat.zero_add]at this
        exact this
      obtain ⟨out',hk1⟩:=D6q out p.From hs (by omega)
      obtain ⟨k1,k2,k3,k4⟩:=hk1 ((i+1:Nat):Int)
      rw [cond_false,h2,Option.bind_some]
      exact ⟨out',k1,k2,fun y=>by rw [k3,hzl',List.mem_singleton,or_comm],k4⟩
theorem D9k {m:Map}(B:BearM m)(lane tick:Int): ∃R,A5e m lane tick=some R∧B1e m lane tick=some R∧R.length≤1000:=by
  obtain ⟨R,r1,r2,r3,r4⟩:=E1e B lane tick
  refine ⟨R,r1,?_,r4⟩
  unfold B1e
  rw [B8i B,Option.bind_some]
  by_cases ht:tick<0
  ·have:R= []:=List.eq_nil_iff_forall_not_mem.2 fun x hx=>by have:=(r3 x).1 hx;omega
   rw [this,show decide (tick<0)=true from decide_eq_true ht,Bool.or_true];rfl
  ·rw [show decide (tick<0)=false from decide_eq_false ht,Bool.or_false]
   cases hi:isM m lane
   ·have:R= []:=List.eq_nil_iff_forall_not_mem.2 fun x hx=>by have:=(r3 x).1 hx;rw [hi]at this;cases this.2.1
    rw [this];rfl
   ·have V:=(isM_true.1 hi).2.2
    obtain ⟨R',k1,k2,k3,_⟩:=E1f B V lane (tick:=tick) (by omega) m.Zones 0 [] rfl (by omega) List.Pairwise.nil (by simp;have:=V.zones;omega)
    have k1':loop (A1i m lane tick) ([],0)=some R':=k1
    have:R=R':=C3w r2 k2 fun x=>by
      rw [r3,k3]
      exact ⟨fun h=> .inr h.2.2,fun h=>⟨by omega,hi,h.elim (fun h=>absurd h (by simp)) id⟩⟩
    unfold B40
    rw [this,k1'];rfl
end Go.Abs.World
/-! How the passes are sorted. -/
namespace Go.Abs.World
open Go Go.Abs
def E00 (x y:Int):Int:=if x<y then -1 else if x>y then 1 else 0
def ltP (a b:Pass):Bool:=decide (a.From<b.From∨a.From=b.From∧a.Zone_<b.Zone_)
theorem C3x (a b:Int):W9 a b=some (E00 a b):=by
  have h: ∀x:Int,A2g x=some false:=fun x=>by unfold A2g;simp
  unfold W9 E00
  rw [h,h]
  simp only [Option.bind_some,cond_false,D8w]
  split<;>(repeat' split)<;>rfl
end Go.Abs.World
/-! The merge in place. -/
namespace Go.Abs.World
open Go Go.Abs
end Go.Abs.World
/-! The merge in place: the general case, and the whole sort. -/
namespace Go.Abs.World
open Go Go.Abs
end Go.Abs.World
/-! The stable sort. -/
namespace Go.Abs.World
open Go Go.Abs
def BlkS (w:Nat)(l:List Pass):Prop:= ∀i,Srt ltP ((l.drop (i*w)).take w)
theorem BlkS.cons {w:Nat}{M R:List Pass}(hM:M.length=w)(h1:Srt ltP M)(h2:BlkS w R):BlkS w (M++R):=by
  intro i
  cases i with
  |zero=>rw [Nat.zero_mul,List.drop_zero,List.take_append_of_le_length (by omega),List.take_of_length_le (by omega)];exact h1
  |succ i=>
   have:=h2 i
   rw [Nat.add_mul,Nat.one_mul,List.drop_append,List.drop_eq_nil_of_le (by omega),List.nil_append,show i*w+w - M.length=i*w by omega]
   exact this
theorem BlkS.last {w:Nat}{M:List Pass}(hM:M.length≤w)(h1:Srt ltP M):BlkS w M:=by
  intro i
  exact h1.sublist ((List.take_sublist _ _).trans (List.drop_sublist _ _))
theorem BlkS.drop {w:Nat}{R:List Pass}(h:BlkS w R):BlkS w (R.drop w):=by
  intro i
  have:=h (i+1)
  rwa [Nat.add_mul,Nat.one_mul,Nat.add_comm,← List.drop_drop]at this
theorem BlkS.head {w:Nat}{R:List Pass}(h:BlkS w R):Srt ltP (R.take w):=by
  have:=h 0
  rwa [Nat.zero_mul,List.drop_zero]at this
end Go.Abs.World
/-! Places and passes. -/
namespace Go.Abs.World
open Go Go.Abs
theorem B9m (m:Map): ∀(r:List Int) (s:Int),A8g m s r=s+A8g m 0 r
  | [],s=>by simp [A8g]
  |a::r,s=>by rw [A8g,A8g,B9m m r (s+W3 m a),B9m m r (0+W3 m a)];omega
theorem A8w (m:Map): ∀(r:List Int) (s:Int) (i:Nat),i<r.length→(A0c m s r)[i]? =some (s+A8g m 0 (r.take i))
  | [],_,_,h=>absurd h (by simp)
  |a::r,s,0,_=>by simp [A0c,A8g]
  |a::r,s,i+1,h=>by
   rw [A0c,List.getElem?_cons_succ,A8w m r _ i (by simpa using h),List.take_succ_cons,A8g,B9m m _ (0+W3 m a)]
   congr 1;omega
noncomputable def atM (m:Map)(r:List Int)(i:Nat):Int:=A8g m 0 (r.take i)
theorem C5i (m:Map)(r:List Int):atM m r 0=0:=rfl
theorem C2k (m:Map)(x:Int): ∀(l:List Int) (s:Int),A8g m s (l++ [x])=A8g m s l+W3 m x
  | [],s=>rfl
  |a::l,s=>by rw [List.cons_append,A8g,A8g,C2k m x l]
theorem C5j {m:Map}{r:List Int}{i:Nat}{a:Int}(h:r[i]? =some a):atM m r (i+1)=atM m r i+W3 m a:=by
  unfold atM
  rw [List.take_add_one,h]
  exact C2k m a _ _
theorem D9l (m:Map)(r:List Int):atM m r r.length=A8g m 0 r:=by rw [atM,List.take_length]
theorem RouteOK.len {m:Map}{a:Int}{t:List Int}(R:RouteOK m a t){i:Nat}{x:Int}(h:(a::t)[i]? =some x):1000≤W3 m x∧W3 m x≤16777216:=by
  have:=R.mem (List.mem_of_getElem? h)
  exact R.val.long this.1 this.2
theorem RouteOK.mono {m:Map}{a:Int}{t:List Int}(R:RouteOK m a t): ∀(j i:Nat),i+j≤(a::t).length→atM m (a::t) i+1000*j≤atM m (a::t) (i+j)∧atM m (a::t) (i+j)≤atM m (a::t) i+16777216*j
  |0,i,_=>by simp
  |j+1,i,h=>by
   have:=R.mono j i (by omega)
   have e:(a::t)[i+j]? =some (a::t)[i+j]:=List.getElem?_eq_getElem (by omega)
   have hl:=R.len e
   rw [← Nat.add_assoc,C5j e]
   omega
theorem RouteOK.lt {m:Map}{a:Int}{t:List Int}(R:RouteOK m a t){i j:Nat}(hij:i<j)(hj:j≤(a::t).length):atM m (a::t) i+1000≤atM m (a::t) j:=by
  have:=(R.mono (j - i) i (by omega)).1
  rw [show i+ (j - i)=j by omega]at this
  omega
theorem RouteOK.bd {m:Map}{a:Int}{t:List Int}(R:RouteOK m a t){i:Nat}(hi:i≤(a::t).length):0≤atM m (a::t) i∧atM m (a::t) i≤134217728:=by
  have:=R.mono i 0 (by omega)
  have h7:=R.most
  simp only [List.length_cons]at hi
  rw [Nat.zero_add,C5i]at this
  omega
theorem RouteOK.follow {m:Map}{a:Int}{t:List Int}(R:RouteOK m a t):B5h m (a::t)=⟨m,a::t,A0c m 0 (a::t),atM m (a::t) (a::t).length⟩:=by
  unfold B5h
  rw [if_pos (chkRoute_zero.2 ⟨a,t,rfl,R⟩),D9l]
theorem RouteOK.starts {m:Map}{a:Int}{t:List Int}{i:Nat}(hi:i< (a::t).length):D4 (A0c m 0 (a::t)) (i:Int)=some (atM m (a::t) i):=by
  rw [E6 (A8w m _ 0 i hi),Int.zero_add];rfl
section
variable {m:Map}{a:Int}{t:List Int}
/-- A map with so few zones as the kit's. -/
structure BearK (m:Map):Prop extends BearM m where
  zones2:m.Zones.length≤2
end
end Go.Abs.World
/-! The document's routes: checks, starts, places, entries. -/
namespace Go.Abs.World
open Go Go.Abs
theorem C8k {m:Map}(B:BearM m)(V:ValR m)(l:List Int)(hl:l.length≤1000000): ∀(r:List Int) (i:Nat) (a:Int),l.drop (i+1)=r→l[i]? =some a→0≤a→a<m.Lanes.length→thenS (loop (X8 m l) ((i+1:Nat):Int)) (fun _=>some 0) (fun r=>some r)=some (if B4j m a r=true then 0 else 13):=by
  intro r
  induction r with
  |nil=>
   intro i a hi ha h0 h1
   have h2:=U4 hi
   have h3:=(List.getElem?_eq_some_iff.1 ha).1
   have h4:i+1=l.length:=by omega
   rw [D5 (t:= .inl ())]
   ·rfl
   ·unfold X8
    rw [show decide (((i+1:Nat):Int)< (l.length:Int))=false from decide_eq_false (by omega)];rfl
  |cons b r ih=>
   intro i a hi ha h0 h1
   have hlt:=V5 hi
   have hb:=A2o hi
   obtain ⟨ln,e1,e2⟩:=B75 h0 h1
   have hw:w64 (((i+1:Nat):Int) - 1)=(i:Int):=by rw [I9 (by omega)];omega
   have hs:X8 m l ((i+1:Nat):Int)=some (if ln.Next.contains b=true then .go (((i+1+1:Nat):Int))else .out (.inr 13)):=by
     unfold X8
     rw [X4 hlt,cond_true,hw,E6 ha,Option.bind_some,e2,Option.bind_some,E6 hb,Option.bind_some,D3v _ (B.toBear.pts _ (List.mem_of_getElem? e1)).2,Option.bind_some,M8 hlt (by omega)]
     cases ln.Next.contains b<;>rfl
   have hn:nextOf m a.toNat=ln.Next:=by unfold nextOf;rw [e1];rfl
   rw [B4j,hn]
   cases q:ln.Next.contains b
   ·rw [q]at hs;rw [D5 hs];rfl
   ·rw [q]at hs
    have hbm:=V.next e1 (List.contains_iff_mem.1 q)
    rw [P2 hs,ih (i+1) b (L0 hi) hb (by omega) (by omega),Bool.true_and]
theorem B35 {m:Map}(B:BearM m)(r:List Int)(hr:r.length≤1000000):A12 m r=some (A08 m r):=by
  unfold A12 A08
  rw [B33 B,Option.bind_some]
  by_cases q:C3v m=0
  ·have V:=chkR_zero.1 q
   rw [if_neg (by simpa using q),show (C3v m !=0)=false by simpa using q,cond_false]
   cases r with
   |nil=>rfl
   |cons a t=>
    dsimp only
    simp only [List.length_cons]at hr ⊢
    by_cases h8:7<t.length
    ·rw [if_pos (.inl h8),show ((((t.length+1:Nat):Int)==0)||(decide (((t.length+1:Nat):Int)>8)))=true by simp;omega];rfl
    ·rw [show ((((t.length+1:Nat):Int)==0)||(decide (((t.length+1:Nat):Int)>8)))=false by simp;omega]
     rw [show D4 (a::t) 0=some a from rfl]
     simp only [Bool.not_false,cond_true,Option.bind_some,Bool.false_or]
     by_cases h0:a<0
     ·rw [if_pos (.inr (.inl h0)),decide_eq_true h0];rfl
     ·rw [decide_eq_false h0]
      simp only [Bool.not_false,cond_true,Option.bind_some,Bool.false_or]
      by_cases h1:(m.Lanes.length:Int)≤a
      ·rw [if_pos (.inr (.inr (.inl h1))),show decide (a≥(m.Lanes.length:Int))=true from decide_eq_true h1];rfl
      ·rw [show decide (a≥(m.Lanes.length:Int))=false from decide_eq_false (by omega)]
       simp only [Bool.not_false,cond_true,Bool.false_or]
       rw [Option.bind_some,D1f B,Option.bind_some]
       by_cases hb:B34 m a= []
       ·rw [hb,show decide ((([]:List Int).length:Int)>0)=false from rfl,cond_false]
        have:=C8k B V (a::t) (by simpa using hr) t 0 a rfl rfl (by omega) (by omega)
        rw [show ((0+1:Nat):Int)=1 from rfl]at this
        rw [this]
        by_cases hc:B4j m a t=true
        ·rw [if_pos hc,if_neg (by rw [hc];simp;omega)]
        ·rw [if_neg hc,if_pos (.inr (.inr (.inr (.inr (by simpa using hc)))))]
       ·rw [if_pos (.inr (.inr (.inr (.inl hb)))),show decide (((B34 m a).length:Int)>0)=true from decide_eq_true (by have:=List.length_pos_iff.2 hb;omega)];rfl
  ·rw [if_pos q,show (C3v m !=0)=true by simpa using q];rfl
theorem C74 {m:Map}(B:BearM m){a:Int}{t:List Int}(R:RouteOK m a t):A7h m (a::t)=some (A0c m 0 (a::t),atM m (a::t) (a::t).length):=by
  have hm7:=R.most
  have key: ∀(l:List Int) (i:Nat) (st:List Int),(a::t).drop i=l→i≤(a::t).length→st.length=i→loop (A1w m (a::t)) (st,atM m (a::t) i,(i:Int))=some (st++A0c m (atM m (a::t) i) l,atM m (a::t) (a::t).length):=by
    intro l
    induction l with
    |nil=>
     intro i st hi hil _
     have:=U4 hi
     obtain rfl:i=(a::t).length:=by omega
     refine D5 ?_
     unfold A1w
     dsimp only
     rw [T7,A0c,List.append_nil];rfl
    |cons x l ih=>
     intro i st hi hil h2
     have hlt:=V5 hi
     have hx:=A2o hi
     have hm:=R.mem (List.mem_of_getElem? hx)
     have hl:=R.len hx
     have hb:=R.bd (Nat.le_of_lt hlt)
     simp only [List.length_cons]at hlt
     rw [P2 (s':=(st++ [atM m (a::t) i],atM m (a::t) (i+1),((i+1:Nat):Int)))]
     ·rw [ih (i+1) _ (L0 hi) (by simp;omega) (by simp [h2]),A0c,C5j hx,List.append_assoc];rfl
     ·unfold A1w
      dsimp only
      rw [X4 (by simpa using hlt),A9p (by simp;omega),cond_true,Option.bind_some,E6 hx,Option.bind_some,B5e B hm.1 hm.2,Option.bind_some,M8 hlt (by omega),I9 (by omega),C5j hx]
  have:=key (a::t) 0 [] rfl (by omega) rfl
  rw [C5i]at this
  have this':loop (A1w m (a::t)) ([],0,0)=_:=this
  unfold A7h
  rw [this',Option.bind_some,List.nil_append]
noncomputable def StartsM (m:Map)(r:List Int):List Int:=(B5h m r).starts
noncomputable def LongM (m:Map)(r:List Int):Int:=(B5h m r).length
theorem D4a {m:Map}(B:BearM m)(r:List Int)(hr:r.length≤1000000):A2e m r=some (StartsM m r):=by
  unfold A2e StartsM
  rw [C70 B r hr];rfl
theorem D4b {m:Map}(B:BearM m)(r:List Int)(hr:r.length≤1000000):Y3 m r=some (LongM m r):=by
  unfold Y3 LongM
  rw [C70 B r hr];rfl
theorem C3y {m:Map}{r:List Int}(q:A08 m r≠0):B5h m r=⟨⟨0,[],[],[],[]⟩,[],[],0⟩:=by unfold B5h;rw [if_neg q]
theorem D1p {m:Map}(B:BearM m)(r:List Int)(hr:r.length≤1000000):A9i m r=some (StartsM m r):=by
  unfold A9i
  rw [B35 B r hr,Option.bind_some]
  by_cases q:A08 m r=0
  ·obtain ⟨a,t,rfl,R⟩:=chkRoute_zero.1 q
   rw [q,show ((0:Int) !=0)=false from rfl,cond_false,C74 B R,Option.bind_some,StartsM,R.follow]
  ·rw [show (A08 m r !=0)=true by simpa using q,cond_true,StartsM,C3y q]
theorem C9y {m:Map}(B:BearM m)(r:List Int)(hr:r.length≤1000000):A1m m r=some (LongM m r):=by
  unfold A1m
  rw [B35 B r hr,Option.bind_some]
  by_cases q:A08 m r=0
  ·obtain ⟨a,t,rfl,R⟩:=chkRoute_zero.1 q
   rw [q,show ((0:Int) !=0)=false from rfl,cond_false,C74 B R,Option.bind_some,LongM,R.follow]
  ·rw [show (A08 m r !=0)=true by simpa using q,cond_true,LongM,C3y q]
end Go.Abs.World
/-! RoadsRoutes. -/
namespace Go.Abs.World
open Go Go.Abs
section
variable {m:Map}{a:Int}{t:List Int}
end
end Go.Abs.World
/-! The way to stop. -/
namespace Go.Abs.World
open Go Go.Abs
/-- How far it is to stop, by its sum. -/
def C0a (b:Int):Nat→Int→Int
  |0,_=>0
  |n+1,v=>if v≤b then 0 else (v - b)+C0a b n (v - b)
def B4o (v b:Int):Int:=C0a b v.toNat v
theorem C3z {b:Int}(hb:0<b): ∀(n m:Nat) (v:Int),v≤n→v≤m→C0a b n v=C0a b m v
  |0,0,_,_,_=>rfl
  |0,m+1,v,h,_=>by rw [C0a,C0a,if_pos (by omega)]
  |n+1,0,v,_,h=>by rw [C0a,C0a,if_pos (by omega)]
  |n+1,m+1,v,h1,h2=>by
   rw [C0a,C0a]
   by_cases h:v≤b
   ·rw [if_pos h,if_pos h]
   ·rw [if_neg h,if_neg h,C3z hb n m _ (by omega) (by omega)]
theorem B21 {v b:Int}(h:v≤b):B4o v b=0:=by
  unfold B4o
  cases v.toNat with
  |zero=>rfl
  |succ n=>rw [C0a,if_pos h]
theorem B8n {v b:Int}(hb:0<b)(h:b<v):B4o v b=(v - b)+B4o (v - b) b:=by
  unfold B4o
  obtain ⟨n,hn⟩: ∃n,v.toNat=n+1:=⟨v.toNat - 1,by omega⟩
  rw [hn,C0a,if_neg (by omega),C3z hb n (v - b).toNat _ (by omega) (by omega)]
theorem C0u {P:Int→Prop}{b:Int}(hb:0<b)(h0: ∀v,v≤b→P v)(h1: ∀v,b<v→P (v - b)→P v)(v:Int):P v:=by
  have key: ∀(n:Nat) (v:Int),v≤n→P v:=by
    intro n
    induction n with
    |zero=>intro v hv;exact h0 v (by omega)
    |succ n ih=>
     intro v hv
     by_cases h:v≤b
     ·exact h0 v h
     ·exact h1 v (by omega) (ih _ (by omega))
  exact key v.toNat v (by omega)
theorem B9y {b:Int}(hb:0<b)(v:Int):0≤B4o v b:=by
  refine C0u (P:=fun v=>0≤B4o v b) hb (fun v h=>by rw [B21 h];exact Int.le_refl _) (fun v h ih=> ?_) v
  rw [B8n hb h];omega
/-- The closed form. -/
theorem D6r (n:Int):(n* (n+1)) % 2=0:=by
  rcases (show n % 2=0∨n % 2=1 by omega)with h|h
  ·rw [Int.mul_emod,h];simp
  ·rw [Int.mul_emod,Int.add_emod,h];simp
theorem D1q {b:Int}(hb:0<b)(v:Int)(hv:1≤v):2*B4o v b=2* ((v - 1) / b*v) - b* ((v - 1) / b* ((v - 1) / b+1)):=by
  revert hv
  refine C0u (P:=fun v=>1≤v→2*B4o v b=2* ((v - 1) / b*v) - b* ((v - 1) / b* ((v - 1) / b+1))) hb (fun v h hv=> ?_) (fun v h ih hv=> ?_) v
  ·have:(v - 1) / b=0:=Int.ediv_eq_zero_of_lt (by omega) (by omega)
   rw [B21 h,this];simp
  ·have ih:=ih (by omega)
   have e:(v - 1) / b=(v - b - 1) / b+1:=by
     rw [show v - 1=(v - b - 1)+b*1 by omega,Int.add_mul_ediv_left _ _ (by omega)]
   rw [B8n hb h,e]
   generalize (v - b - 1) / b=n at ih ⊢
   rw [Int.mul_add,ih]
   have a1:(n+1)*v=n*v+v:=by rw [Int.add_mul,Int.one_mul]
   have a2:n* (v - b)=n*v - n*b:=Int.mul_sub ..
   have a3:b* ((n+1)* (n+1+1))=b* (n* (n+1))+2* (n*b)+2*b:=by
     rw [show (n+1)* (n+1+1)=n* (n+1)+2*n+2 by
      rw [Int.add_mul,Int.mul_add n,Int.one_mul];omega,Int.mul_add,Int.mul_add,Int.mul_left_comm b 2 n,Int.mul_comm b n,Int.mul_comm b 2]
   rw [a1,a2,a3];omega
def B9n (v b:Int):Int:=if v<1∨b<1 then 0 else B4o (min v 1000000) (min b 1000000)
theorem D6s {b:Int}(hb:0<b){v:Int}(h1:v≤1000000):0≤B4o v b∧B4o v b≤1000000000000:=by
  refine ⟨B9y hb v,?_⟩
  have key: ∀v:Int,0≤v→B4o v b≤v*v:=by
    intro v
    refine C0u (P:=fun v=>0≤v→B4o v b≤v*v) hb (fun v h hv=>by rw [B21 h];exact Int.mul_nonneg hv hv) (fun v h ih hv=> ?_) v
    have ih:=ih (by omega)
    rw [B8n hb h]
    have h1:(v - b)* (v - b)≤(v - 1)* (v - b):=Int.mul_le_mul_of_nonneg_right (by omega) (by omega)
    have h2:(v - 1)* (v - b)≤(v - 1)*v:=Int.mul_le_mul_of_nonneg_left (by omega) (by omega)
    have h3:(v - 1)*v=v*v - v:=by rw [Int.sub_mul,Int.one_mul]
    omega
  by_cases h0:0≤v
  ·have:=key v h0
   have:v*v≤1000000*1000000:=Int.mul_le_mul h1 h1 h0 (by omega)
   omega
  ·rw [B21 (by omega)];omega
theorem D4c (v b:Int):A62 v b=some (B9n v b):=by
  unfold A62 B9n
  rw [A6f,A6f]
  by_cases h:v<1∨b<1
  ·rw [if_pos h,show (decide (v<1)||decide (b<1))=true by simpa using h];rfl
  ·rw [if_neg h,show (decide (v<1)||decide (b<1))=false by simpa using h,cond_false]
   have hV:1≤min v 1000000∧min v 1000000≤1000000:=by omega
   have hB:1≤min b 1000000∧min b 1000000≤1000000:=by omega
   generalize min v 1000000=V at hV ⊢
   generalize min b 1000000=B at hB ⊢
   have hq0:0≤(V - 1) / B:=Int.ediv_nonneg (by omega) (by omega)
   have hq1:(V - 1) / B≤V - 1:=Int.ediv_le_self _ (by omega)
   have hq2:B* ((V - 1) / B)≤V - 1:=Int.mul_ediv_self_le (by omega)
   have hf:=D1q (b:=B) (by omega) V hV.1
   unfold D9v
   rw [I9 (by omega),if_neg (by omega),Option.bind_some,Int.tdiv_eq_ediv_of_nonneg (by omega)]
   generalize (V - 1) / B=n at hq0 hq1 hq2 hf ⊢
   have e0:IntKind.i64.wrap n=n:=I9 (by omega)
   rw [e0]
   have b1:0≤n*V∧n*V≤1000000*1000000:=⟨Int.mul_nonneg hq0 (by omega),Int.mul_le_mul (by omega) hV.2 (by omega) (by omega)⟩
   have b2:0≤n* (n+1)∧n* (n+1)≤1000000*1000000:=⟨Int.mul_nonneg hq0 (by omega),Int.mul_le_mul (by omega) (by omega) (by omega) (by omega)⟩
   have b3:0≤B* (n* (n+1))∧B* (n* (n+1))≤1000000*1000000:=by
     refine ⟨Int.mul_nonneg (by omega) b2.1,?_⟩
     rw [← Int.mul_assoc]
     exact Int.mul_le_mul (by omega) (by omega) (by omega) (by omega)
   have he:=D6r n
   have b4:B* (n* (n+1))=2* (B* (n* (n+1) / 2)):=by
     rw [Int.mul_left_comm 2 B,Int.mul_ediv_cancel' (Int.dvd_of_emod_eq_zero he)]
   rw [I9 (n:=n+1) (by omega),I9 (n:=n* (n+1)) (by omega),I9 (n:=n*V) (by omega),Int.tdiv_eq_ediv_of_nonneg b2.1,I9 (n:=n* (n+1) / 2) (by omega),I9 (n:=B* (n* (n+1) / 2)) (by omega)]
   congr 1
   rw [I9 (by omega)]
   omega
theorem D4d {b:Int}(hb:1≤b)(hb2:mm2 false b 1000000=b)(v:Int): ∀a:Int,v≤1000000→0≤a→a+B4o v b≤4000000000000→loop (A0h b) (v,a)=some (a+B4o v b):=by
  refine C0u (P:=fun v=> ∀a:Int,v≤1000000→0≤a→a+B4o v b≤4000000000000→loop (A0h b) (v,a)=some (a+B4o v b)) (b:=b) (by omega) (fun v h a _ _ _=> ?_) (fun v h ih a h1 h2 h3=> ?_) v
  ·rw [D5 (t:=a) (by unfold A0h;rw [hb2];simp [show ¬v>b by omega]),B21 h,Int.add_zero]
  ·have hr:=B8n (by omega) h
   have hn:=B9y (b:=b) (by omega) (v - b)
   rw [P2 (s':=(v - b,a+ (v - b))) (by
    unfold A0h;rw [hb2]
    dsimp only
    rw [I9 (n:=v - b) (by omega),I9 (n:=a+ (v - b)) (by omega),decide_eq_true (show v>b by omega)];rfl),ih _ (by omega) (by omega) (by omega)]
   congr 1;omega
theorem C9z (v b:Int):B0m v b=some (B9n v b):=by
  unfold B0m B9n
  rw [A6f,A6f]
  by_cases h:v<1∨b<1
  ·rw [if_pos h,show (decide (min v 1000000<1)||decide (min b 1000000<1))=true by simp only [Bool.or_eq_true,decide_eq_true_eq];omega];rfl
  ·rw [if_neg h,show (decide (min v 1000000<1)||decide (min b 1000000<1))=false by simp only [Bool.or_eq_false_iff,decide_eq_false_iff_not];omega,cond_false]
   have hB:1≤min b 1000000∧min b 1000000≤1000000:=by omega
   have hbd:=D6s (b:=min b 1000000) (by omega) (v:=min v 1000000) (by omega)
   have e:A0h b=A0h (min b 1000000):=by
     funext x;unfold A0h;rw [A6f,A6f,show min (min b 1000000) 1000000=min b 1000000 by omega]
   rw [e,D4d hB.1 (by rw [A6f];omega) _ 0 (by omega) (by omega) (by omega)]
   show some (0+_)=_
   rw [Int.zero_add]
end Go.Abs.World
/-! Marks of speed and place; which states are small. -/
namespace Go.Abs.World
open Go Go.Abs
structure SmallS (s:State):Prop where
  agents:s.Agents.length≤10
  ins:s.In.length≤20
  routes: ∀a∈s.Agents,a.Route.length≤10
theorem D6t (s:State): ∃b,B0w s=some b∧(b=true→SmallS s):=by
  unfold B0w
  by_cases h:10<s.Agents.length∨20<s.In.length
  ·rw [show (decide ((s.Agents.length:Int)>10)||decide ((s.In.length:Int)>20))=true by simp only [Bool.or_eq_true,decide_eq_true_eq];omega]
   exact ⟨false,rfl,nofun⟩
  ·rw [show (decide ((s.Agents.length:Int)>10)||decide ((s.In.length:Int)>20))=false by simp only [Bool.or_eq_false_iff,decide_eq_false_iff_not];omega,cond_false]
   have hk:=Y6 s.Agents (A4h s) (fun _ a=>if 10<a.Route.length then some false else none) (fun i a ha=>by
     have hi:=U2 ha
     unfold A4h
     rw [X4 hi,E6 ha,cond_true,Option.bind_some]
     by_cases q:10<a.Route.length
     ·rw [if_pos q,decide_eq_true (show (a.Route.length:Int)>10 by omega)];rfl
     ·rw [if_neg q,decide_eq_false (show ¬(a.Route.length:Int)>10 by omega),cond_false,M8 hi (by omega)]) (by unfold A4h;rw [T7];rfl)
   rw [hk]
   cases hf:J7 (fun _ (a:Agent)=>if 10<a.Route.length then some false else none) 0 s.Agents with
   |some b=>
    refine ⟨b,rfl,fun hb=> ?_⟩
    subst hb
    exfalso
    have: ∀(l:List Agent) (i:Nat),J7 (fun _ (a:Agent)=>if 10<a.Route.length then some false else none) i l≠some true:=by
      intro l
      induction l with
      |nil=>intro i h;cases h
      |cons a l ih=>
       intro i h
       unfold J7 at h
       by_cases q:10<a.Route.length
       ·rw [if_pos q]at h;cases h
       ·rw [if_neg q]at h;exact ih _ h
    exact this _ _ hf
   |none=>
    refine ⟨true,rfl,fun _=>⟨by omega,by omega,fun a ha=> ?_⟩⟩
    obtain ⟨j,hj⟩:=List.getElem?_of_mem ha
    have:=firstE_none.1 hf j a hj
    by_cases q:10<a.Route.length
    ·rw [if_pos q]at this;cases this
    ·omega
end Go.Abs.World
/-! Which states are valid: the program and the document have one answer. -/
namespace Go.Abs.World
open Go Go.Abs
/-! ### Copies -/
theorem D00 {α:Type}{l:List α}(h:l.length≤1000000):A7p ([]:List α) l=some l:=by
  rw [A9p (by simp;omega),List.nil_append]
structure SizeS (s:State):Prop where
  agents:s.Agents.length≤1000
  ins:s.In.length≤1000000
  routes: ∀a∈s.Agents,a.Route.length≤1000
theorem SmallS.size {s:State}(h:SmallS s):SizeS s:=⟨by have:=h.agents;omega,by have:=h.ins;omega,fun a ha=>by have:=h.routes a ha;omega⟩
theorem D4e {l:List Int}(h:l.length≤1000000):A13 l=some l:=D00 h
theorem C8l {a:Agent}(h:a.Route.length≤1000):A0e a=some a:=by
  unfold A0e
  rw [D4e (by omega),Option.bind_some]
theorem D1r (a:Agent)(h:a.Route.length≤1000000):loop (A46 a a) 0=some (.inl ()):=by
  rw [Y6 a.Route (A46 a a) (fun _ _=>(none:Option Bool)) (fun i x hx=> ?_) (by unfold A46;rw [T7];rfl)]
  ·rw [firstE_none.2 fun _ _ _=>rfl];rfl
  ·unfold A46
   rw [X4 (U2 hx),E6 hx,cond_true,Option.bind_some,Option.bind_some,show (x !=x)=false by simp,cond_false,M8 (U2 hx) (by omega)]
theorem D4f {s:State}(h:SizeS s):B3l s s=some true:=by
  unfold B3l
  rw [show (((s.Tick !=s.Tick)||((s.Agents.length:Int) !=(s.Agents.length:Int)))||((s.In.length:Int) !=(s.In.length:Int)))=false by simp,cond_false]
  have h1:=Y6 s.Agents (A65 s s) (fun _ _=>(none:Option Bool)) (fun i x hx=>by
    unfold A65
    have hr:=h.routes x (List.mem_of_getElem? hx)
    have:=h.agents
    rw [X4 (U2 hx),E6 hx,cond_true,Option.bind_some,Option.bind_some]
    rw [show ((((((((x.Route.length:Int) !=(x.Route.length:Int))||(x.S !=x.S))||(x.V !=x.V))||(x.Len !=x.Len))||(x.Begin !=x.Begin))||(!(x.Obey==x.Obey)))||(!(x.Gone==x.Gone)))=false by simp,cond_false,D1r x (by omega),M8 (U2 hx) (by omega)];rfl) (by unfold A65;rw [T7];rfl)
  have h2:=Y6 s.In (A64 s s) (fun _ _=>(none:Option Bool)) (fun i x hx=>by
    unfold A64
    have:=h.ins
    rw [X4 (U2 hx),E6 hx,cond_true,Option.bind_some,Option.bind_some]
    rw [show (!(x.Agent_==x.Agent_&& (x.Zone_==x.Zone_&& (x.Since==x.Since&& (x.Rank==x.Rank&&true)))))=false by simp,cond_false,M8 (U2 hx) (by omega)]) (by unfold A64;rw [T7];rfl)
  rw [h1,h2,firstE_none.2 fun _ _ _=>rfl,firstE_none.2 fun _ _ _=>rfl];rfl
/-! ### The lane of an agent -/
/-- The last place up to a number. -/
def B5i (S:Int):Nat→Nat→List Int→Nat
  |_,b,[]=>b
  |i,b,x::r=>B5i S (i+1) (if x≤S then i else b) r
theorem C8m (st:List Int)(S:Int): ∀(r:List Int) (i b:Nat),st.drop i=r→i≤st.length→(i=0→b=0)→(0<i→b<i∧(∃y,st[b]? =some y∧y≤S)∧∀(j:Nat) y,b<j→j<i→st[j]? =some y→S<y)→(∃y,st[0]? =some y∧y≤S)→
    (∃y,st[B5i S i b r]? =some y∧y≤S)∧∀(j:Nat) y,B5i S i b r<j→st[j]? =some y→S<y:=by
  intro r
  induction r with
  |nil=>
   intro i b hi hil h0 h1 hne
   have:=U4 hi
   obtain ⟨y0,g0,_⟩:=hne
   have:=U2 g0
   obtain ⟨q1,q2,q3⟩:=h1 (by omega)
   exact ⟨q2,fun j y hj hy=>q3 j y hj (by have:=U2 hy;omega) hy⟩
  |cons x r ih=>
   intro i b hi hil h0 h1 hne
   have hx:=A2o hi
   have hlt:=V5 hi
   unfold B5i
   refine ih (i+1) _ (L0 hi) hlt (by omega) (fun _=> ?_) hne
   by_cases q:x≤S
   ·rw [if_pos q]
    exact ⟨by omega,⟨x,hx,q⟩,fun j y h2 h3=>by omega⟩
   ·rw [if_neg q]
    by_cases z:i=0
    ·subst z
     obtain ⟨y0,g0,g1⟩:=hne
     rw [hx]at g0;cases g0;exact absurd g1 q
    ·obtain ⟨q1,q2,q3⟩:=h1 (by omega)
     refine ⟨by omega,q2,fun j y h2 h3 hy=> ?_⟩
     by_cases e:j=i
     ·subst e;rw [hx]at hy;cases hy;omega
     ·exact q3 j y h2 (by omega) hy
theorem D4g {st:List Int}{S:Int}(hne: ∃y,st[0]? =some y∧y≤S):(∃y,st[B5i S 0 0 st]? =some y∧y≤S)∧∀(j:Nat) y,B5i S 0 0 st<j→st[j]? =some y→S<y:=
  C8m st S st 0 0 rfl (by omega) (fun _=>rfl) (fun h=>by omega) hne
theorem D9m (g:Agent)(st:List Int)(hl:st.length≤1000000): ∀(r:List Int) (i b:Nat),st.drop i=r→i≤st.length→loop (A44 g st) ((b:Int),(i:Int))=some ((B5i g.S i b r:Nat):Int):=by
  intro r
  induction r with
  |nil=>
   intro i b hi hil
   have:=U4 hi
   obtain rfl:i=st.length:=by omega
   exact D5 (by unfold A44;dsimp only;rw [T7];rfl)
  |cons x r ih=>
   intro i b hi hil
   have hx:=A2o hi
   have hlt:=V5 hi
   unfold B5i
   by_cases q:x≤g.S
   ·rw [if_pos q,P2 (s':=((i:Int),((i+1:Nat):Int))),ih (i+1) i (L0 hi) hlt]
    unfold A44;dsimp only
    rw [X4 hlt,E6 hx,cond_true,Option.bind_some,decide_eq_true q,cond_true,M8 hlt (by omega)]
   ·rw [if_neg q,P2 (s':=((b:Int),((i+1:Nat):Int))),ih (i+1) b (L0 hi) hlt]
    unfold A44;dsimp only
    rw [X4 hlt,E6 hx,cond_true,Option.bind_some,decide_eq_false q,cond_false,M8 hlt (by omega)]
theorem D4h (g:Agent)(st:List Int)(hl:st.length≤1000000)(k:Nat)(hk: ∃y,st[k]? =some y∧y≤g.S)(hj: ∀(j:Nat) y,k<j→st[j]? =some y→g.S<y): ∀(n i:Nat),i=k+n→i<st.length→loop (A2f g st) (i:Int)=some (k:Int):=by
  intro n
  induction n with
  |zero=>
   intro i hi hil
   obtain ⟨y,h1,h2⟩:=hk
   obtain rfl:i=k:=by omega
   exact D5 (by unfold A2f;rw [E6 h1,Option.bind_some,decide_eq_false (show ¬y>g.S by omega)];rfl)
  |succ n ih=>
   intro i hi hil
   have h1:st[i]? =some st[i]:=List.getElem?_eq_getElem hil
   have h2:=hj i _ (by omega) h1
   rw [P2 (s':=((i - 1:Nat):Int)) (by unfold A2f;rw [E6 h1,Option.bind_some,decide_eq_true (show st[i]>g.S by omega),cond_true,I9 (by omega)];congr 2;omega)]
   exact ih (i - 1) (by omega) (by omega)
noncomputable def atK (m:Map)(g:Agent):Nat:=B5i g.S 0 0 (StartsM m g.Route)
/-- The lane of an agent, and its offset. -/
noncomputable def A8x (m:Map)(g:Agent):Int×Int:=(g.Route.getD (atK m g) 0,g.S - (StartsM m g.Route).getD (atK m g) 0)
theorem RouteOK.StartsM {m:Map}{a:Int}{t:List Int}(R:RouteOK m a t):StartsM m (a::t)=A0c m 0 (a::t):=by unfold World.StartsM;rw [R.follow]
theorem RouteOK.LongM {m:Map}{a:Int}{t:List Int}(R:RouteOK m a t):LongM m (a::t)=atM m (a::t) (a::t).length:=by unfold World.LongM;rw [R.follow]
theorem C75 {m:Map}{a:Int}{t:List Int}(R:RouteOK m a t){g:Agent}(hg:g.Route=a::t)(h0:0≤g.S):
    ∃x,atK m g< (a::t).length∧(a::t)[atK m g]? =some x∧A8x m g=(x,g.S - atM m (a::t) (atK m g))∧atM m (a::t) (atK m g)≤g.S∧(∀j,atK m g<j→j< (a::t).length→g.S<atM m (a::t) j):=by
  have hl:=B77 m (a::t) 0
  have h00:(A0c m 0 (a::t))[0]? =some 0:=by rw [A0c];rfl
  obtain ⟨⟨y,y1,y2⟩,y3⟩:=D4g (st:=A0c m 0 (a::t)) (S:=g.S) ⟨0,h00,h0⟩
  have e:atK m g=B5i g.S 0 0 (A0c m 0 (a::t)):=by unfold atK;rw [hg,R.StartsM]
  rw [← e]at y1 y3
  have hlt:=U2 y1
  rw [hl]at hlt
  have hy:y=atM m (a::t) (atK m g):=by
    have:=A8w m (a::t) 0 (atK m g) hlt
    rw [y1,Int.zero_add]at this
    exact Option.some.inj this
  refine ⟨(a::t)[atK m g],hlt,List.getElem?_eq_getElem hlt,?_,by omega,fun j hj hjl=> ?_⟩
  ·unfold A8x
   rw [hg,R.StartsM,List.getD,List.getD,List.getElem?_eq_getElem hlt,y1,hy];rfl
  ·have:=A8w m (a::t) 0 j hjl
   rw [Int.zero_add]at this
   exact y3 j _ hj this
theorem D01 {m:Map}(B:BearM m){a:Int}{t:List Int}(R:RouteOK m a t){g:Agent}(hg:g.Route=a::t)(h0:0≤g.S)(h1:g.S≤9223372036854775807):A7d m g=some (A8x m g)∧B0k m g=some (A8x m g):=by
  obtain ⟨x,q1,q2,q3,q4,q5⟩:=C75 R hg h0
  have hm7:=R.most
  have hr:g.Route.length≤1000000:=by rw [hg];simp;omega
  have hl:=B77 m (a::t) 0
  have hbd:=R.bd (i:=atK m g) (by omega)
  have hs:D4 (A0c m 0 (a::t)) ((atK m g:Nat):Int)=some (atM m (a::t) (atK m g)):=RouteOK.starts q1
  have hk:(A0c m 0 (a::t))[atK m g]? =some (atM m (a::t) (atK m g)):=by rw [A8w m _ 0 _ q1,Int.zero_add];rfl
  constructor
  ·unfold A7d
   rw [D4a B _ hr,Option.bind_some,hg,R.StartsM]
   have hn:w64 (((A0c m 0 (a::t)).length:Int) - 1)=((t.length:Nat):Int):=by rw [hl,I9 (by simp;omega)];simp
   rw [hn,D4h g _ (by rw [hl];simp;omega) (atK m g) ⟨_,hk,q4⟩ (fun j y hj hy=>by
    have hjl:=U2 hy
    rw [hl]at hjl
    have:=A8w m (a::t) 0 j hjl
    rw [hy,Int.zero_add]at this
    cases this
    exact q5 j hj hjl) (t.length - atK m g) t.length (by simp only [List.length_cons]at q1;omega) (by rw [hl];simp),Option.bind_some,E6 q2,Option.bind_some,hs,Option.bind_some,q3,I9 (by omega)]
  ·unfold B0k
   rw [D1p B _ hr,Option.bind_some,hg,R.StartsM]
   have:=D9m g (A0c m 0 (a::t)) (by rw [hl];simp;omega) (A0c m 0 (a::t)) 0 0 rfl (by omega)
   have e:atK m g=B5i g.S 0 0 (A0c m 0 (a::t)):=by unfold atK;rw [hg,R.StartsM]
   rw [← e]at this
   rw [show ((0:Int),(0:Int))=(((0:Nat):Int),((0:Nat):Int)) from rfl,this,Option.bind_some,E6 q2,Option.bind_some,hs,Option.bind_some,q3,I9 (by omega)]
end Go.Abs.World
/-! Which states are valid, second part. -/
namespace Go.Abs.World
open Go Go.Abs
noncomputable def D4i (m:Map)(x:Int):Int:=((m.Lanes[x.toNat]?).map (·.Kind)).getD 0
/-- The greatest speed, acceleration and braking where an agent is. -/
noncomputable def D7s (m:Map)(g:Agent):Int×Int×Int:=A77 (D4i m (A8x m g).1)
noncomputable def C2l (m:Map)(g:Agent):Bool:=decide (w64 (g.S - g.Len)>LongM m g.Route)
def D6u (g:Agent):Bool:=(((decide (g.Len<300)||decide (g.Len>20000))||decide (g.Begin<0))||decide (g.Begin>1099511627776))||decide (g.S<0)
/-- The error of an agent of a state. -/
noncomputable def A5u (m:Map)(s:State)(i:Int)(g:Agent):Int:=
  if A08 m g.Route=0 then
   if D6u g=true∨g.S>LongM m g.Route+g.Len+2000 then 2
   else if g.V<0∨g.V>(D7s m g).1 then 2
   else if g.Gone≠C2l m g∨(g.Begin>s.Tick∧g.S≠0)∨(i=0∧g.Begin≠0)then 10 else 0
  else 13
theorem D02 {m:Map}{a:Int}{t:List Int}(R:RouteOK m a t):1000≤LongM m (a::t)∧LongM m (a::t)≤134217728:=by
  have h1:=R.bd (Nat.le_refl _)
  have h2:=R.lt (i:=0) (j:=(a::t).length) (by simp) (Nat.le_refl _)
  rw [C5i]at h2
  rw [R.LongM];omega
theorem C8n {m:Map}(B:BearM m){g:Agent}(hr:g.Route.length≤1000000):A5y m g=some (C2l m g)∧A8s m g=some (C2l m g):=by
  constructor
  ·unfold A5y A3e
   rw [Option.bind_some,D4b B _ hr];rfl
  ·unfold A8s
   rw [C9y B _ hr];rfl
theorem C76 {m:Map}{a:Int}{t:List Int}(R:RouteOK m a t){g:Agent}(hg:g.Route=a::t)(h0:0≤g.S): ∃l,D4 m.Lanes (A8x m g).1=some l∧D4i m (A8x m g).1=l.Kind∧m.Lanes[(A8x m g).1.toNat]? =some l:=by
  obtain ⟨x,q1,q2,q3,_⟩:=C75 R hg h0
  have hx:=R.mem (List.mem_of_getElem? q2)
  have hl:m.Lanes[x.toNat]? =some m.Lanes[x.toNat]:=List.getElem?_eq_getElem (by omega)
  have hg:=E6 hl
  rw [Int.toNat_of_nonneg hx.1]at hg
  refine ⟨_,by rw [q3];exact hg,?_,by rw [q3];exact hl⟩
  rw [q3];unfold D4i
  dsimp only
  rw [hl];rfl
theorem C40 {g:Agent}(h:D6u g=false):300≤g.Len∧g.Len≤20000∧0≤g.Begin∧g.Begin≤1099511627776∧0≤g.S:=by
  unfold D6u at h
  simp only [Bool.or_eq_false_iff,decide_eq_false_iff_not]at h
  omega
theorem D03 {m:Map}(B:BearM m)(s:State){i:Int}{g:Agent}(hi:D4 s.Agents i=some g)(hr:g.Route.length≤1000)(hS:g.S≤9223372036854775807):
    A10 m s i=some (A5u m s i g)∧A4e m s i=some (A5u m s i g):=by
  have hr':g.Route.length≤1000000:=by omega
  unfold A10 A4e A5u
  rw [hi,Option.bind_some,Option.bind_some,B8k B _ hr',B35 B _ hr',Option.bind_some,Option.bind_some]
  by_cases q:A08 m g.Route=0
  case neg=>
    rw [if_neg q,show (A08 m g.Route !=0)=true by simpa using q]
    exact ⟨rfl,rfl⟩
  rw [if_pos q,q,show ((0:Int) !=0)=false from rfl,cond_false,cond_false]
  obtain ⟨a,t,ht,R⟩:=chkRoute_zero.1 q
  have hL:=D02 R
  rw [← ht]at hL
  rw [D4b B _ hr',C9y B _ hr']
  have e:((((decide (g.Len<300)||decide (g.Len>20000))||decide (g.Begin<0))||decide (g.Begin>1099511627776))||decide (g.S<0))=D6u g:=rfl
  rw [e]
  by_cases o:D6u g=true
  ·rw [if_pos (.inl o),o];exact ⟨rfl,rfl⟩
  have o':D6u g=false:=by simpa using o
  obtain ⟨o1,o2,o3,o4,o5⟩:=C40 o'
  rw [o',Bool.not_false,cond_true,Option.bind_some,Option.bind_some,Bool.false_or,I9 (n:=LongM m g.Route+g.Len) (by omega),I9 (n:=LongM m g.Route+g.Len+2000) (by omega)]
  by_cases l:g.S>LongM m g.Route+g.Len+2000
  ·rw [if_pos (.inr l),decide_eq_true l];exact ⟨rfl,rfl⟩
  rw [if_neg (fun h=>h.elim (fun h=>by cases h) l),decide_eq_false l,cond_false,cond_false]
  obtain ⟨l1,l2⟩:=D01 B R ht o5 hS
  obtain ⟨ln,k1,k2,_⟩:=C76 R ht o5
  rw [l1,l2,Option.bind_some,Option.bind_some,k1,Option.bind_some,Option.bind_some,B5c,B3o,Option.bind_some,Option.bind_some]
  have ev:(D7s m g).1=(A77 ln.Kind).1:=by unfold D7s;rw [k2]
  rw [ev]
  by_cases v:g.V<0∨g.V>(A77 ln.Kind).1
  ·rw [if_pos v,show (decide (g.V<0)||decide (g.V>(A77 ln.Kind).1))=true by simpa using v];exact ⟨rfl,rfl⟩
  rw [if_neg v,show (decide (g.V<0)||decide (g.V>(A77 ln.Kind).1))=false by rw [Bool.eq_false_iff];simpa using v,cond_false,cond_false,(C8n B hr').1,(C8n B hr').2,Option.bind_some,Option.bind_some]
  have hb: ∀b:Bool,(b=true↔g.Gone≠C2l m g∨(g.Begin>s.Tick∧g.S≠0)∨(i=0∧g.Begin≠0))→cond b (some (10:Int)) (some 0)=some (if g.Gone≠C2l m g∨(g.Begin>s.Tick∧g.S≠0)∨(i=0∧g.Begin≠0)then 10 else 0):=by
    intro b hb
    by_cases h:g.Gone≠C2l m g∨(g.Begin>s.Tick∧g.S≠0)∨(i=0∧g.Begin≠0)
    ·rw [if_pos h,hb.2 h];rfl
    ·rw [if_neg h]
     cases b
     ·rfl
     ·exact absurd (hb.1 rfl) h
  exact ⟨hb _ (by simp),hb _ (by simp [or_assoc])⟩
/-! ### The whole check -/
def C0b (a b:Stay):Bool:=decide (a.Agent_<b.Agent_)||(a.Agent_==b.Agent_&&decide (a.Zone_<b.Zone_))
theorem E1g (a b:Int):A5z [a,b]=some (if a≠0 then a else b):=by
  unfold A5z
  by_cases h:a=0
  ·subst h
   rw [P2 (s':=1) rfl,if_neg (by simp)]
   by_cases h:b=0
   ·subst h;rw [P2 (s':=2) rfl,D5 (t:= .inl ()) rfl];rfl
   ·rw [D5 (t:= .inr b) (by unfold A3w;rw [show D4 [(0:Int),b] 1=some b from rfl,Option.bind_some,show (b !=0)=true by simpa using h];rfl)];rfl
  ·rw [D5 (t:= .inr a) (by unfold A3w;rw [show D4 [a,b] 0=some a from rfl,Option.bind_some,show (a !=0)=true by simpa using h];rfl),if_pos h];rfl
/-- What the order of two stays is. -/
def E1n (a b:Stay):Int:=if E00 a.Agent_ b.Agent_≠0 then E00 a.Agent_ b.Agent_ else E00 a.Zone_ b.Zone_
theorem D6v (a b:Stay):A3x a b=some (E1n a b):=by
  unfold A3x E1n
  rw [C3x,Option.bind_some,C3x,Option.bind_some,E1g,Option.bind_some]
theorem D6w (a b:Stay):decide (E1n a b≥0)= !C0b a b:=by
  unfold E1n C0b E00
  by_cases h1:a.Agent_<b.Agent_
  ·simp [h1]
  ·by_cases h2:a.Agent_>b.Agent_
   ·have:a.Agent_≠b.Agent_:=by omega
    simp [h1,h2,this]
   ·have:a.Agent_=b.Agent_:=by omega
    by_cases h3:a.Zone_<b.Zone_
    ·simp [this,h3]
    ·by_cases h4:a.Zone_>b.Zone_
     ·simp [this,h3,h4]
     ·simp [this,h3,h4]
def C3a (m:Map)(s:State)(x:Stay):Bool:=((decide (x.Agent_<0)||decide (x.Agent_≥(s.Agents.length:Int)))||decide (x.Zone_<0))||decide (x.Zone_≥(m.Zones.length:Int))
def inE (m:Map)(s:State)(i:Nat)(x:Stay):Option Int:=if C3a m s x=true∨(0<i∧∃y,s.In[i - 1]? =some y∧C0b y x=false)then some 11 else none
def C5k (s:State)(x:Stay):Bool:=((decide (x.Since<0)||decide (x.Since>s.Tick))||decide (x.Rank<0))||decide (x.Rank>100)
noncomputable def D1x (m:Map)(s:State):Int:=
  if C3v m=0 then
   if s.Tick<0∨s.Tick>1099511627776 then 2 else if s.Agents.length=0 then 6 else if 8<s.Agents.length then 8
   else match J7 (fun i g=>if A5u m s (i:Int) g=0 then none else some (A5u m s (i:Int) g)) 0 s.Agents with
     |some e=>e
     |none=>match J7 (inE m s) 0 s.In with
      |some e=>e
      |none=>if s.In.any (C5k s)=true then 2 else 0
  else C3v m
theorem C8o {m:Map}(B:BearM m){s:State}(h:SizeS s)(hw: ∀g∈s.Agents,g.S≤9223372036854775807):
    loop (A1d m s) 0=some (D1w (J7 (fun i g=>if A5u m s (i:Int) g=0 then none else some (A5u m s (i:Int) g)) 0 s.Agents))∧
    loop (A4o m s) 0=some (D1w (J7 (fun i g=>if A5u m s (i:Int) g=0 then none else some (A5u m s (i:Int) g)) 0 s.Agents)):=by
  have hh:=h.agents
  constructor
  ·refine Y6 s.Agents _ _ (fun i g hg=> ?_) (by unfold A1d;rw [T7];rfl)
   have hm:=List.mem_of_getElem? hg
   unfold A1d
   rw [X4 (U2 hg),cond_true,(D03 B s (E6 hg) (h.routes g hm) (hw g hm)).1,Option.bind_some]
   by_cases q:A5u m s (i:Int) g=0
   ·rw [if_pos q,q,show ((0:Int) !=0)=false from rfl,cond_false,M8 (U2 hg) (by omega)]
   ·rw [if_neg q,show (A5u m s (i:Int) g !=0)=true by simpa using q];rfl
  ·refine Y6 s.Agents _ _ (fun i g hg=> ?_) (by unfold A4o;rw [T7];rfl)
   have hm:=List.mem_of_getElem? hg
   unfold A4o
   rw [X4 (U2 hg),cond_true,(D03 B s (E6 hg) (h.routes g hm) (hw g hm)).2,Option.bind_some]
   by_cases q:A5u m s (i:Int) g=0
   ·rw [if_pos q,q,show ((0:Int) !=0)=false from rfl,cond_false,M8 (U2 hg) (by omega)]
   ·rw [if_neg q,show (A5u m s (i:Int) g !=0)=true by simpa using q];rfl
theorem D04 {α:Type}{l:List α}{i:Nat}{a:α}(h:l[i]? =some a)(h0:0<i): ∃y,l[i - 1]? =some y∧D4 l (w64 ((i:Int) - 1))=some y∨1000000000000<i:=by
  by_cases hb:1000000000000<i
  ·exact ⟨a, .inr hb⟩
  ·have:=U2 h
   have e:l[i - 1]? =some l[i - 1]:=List.getElem?_eq_getElem (by omega)
   refine ⟨_, .inl ⟨e,?_⟩⟩
   rw [I9 (by omega),show (i:Int) - 1=((i - 1:Nat):Int) by omega]
   exact E6 e
theorem D6x (m:Map){s:State}(h:SizeS s):
    loop (A1c m s) 0=some (D1w (J7 (inE m s) 0 s.In))∧loop (A4n m s) 0=some (D1w (J7 (inE m s) 0 s.In)):=by
  have hh:=h.ins
  constructor
  ·refine Y6 s.In _ _ (fun i x hx=> ?_) (by unfold A1c;rw [T7];rfl)
   have hi:=U2 hx
   unfold A1c
   rw [X4 hi,cond_true,E6 hx,Option.bind_some]
   have e:(((decide (x.Agent_<0)||decide (x.Agent_≥(s.Agents.length:Int)))||decide (x.Zone_<0))||decide (x.Zone_≥(m.Zones.length:Int)))=C3a m s x:=rfl
   rw [e]
   unfold inE
   by_cases hb:C3a m s x=true
   ·rw [hb,if_pos (.inl rfl)];rfl
   have hb':C3a m s x=false:=by simpa using hb
   rw [hb',Bool.not_false,Bool.true_and]
   by_cases h0:0<i
   ·obtain ⟨y,hy⟩:=D04 hx h0
    rcases hy with ⟨y1,y2⟩|hy
    ·rw [decide_eq_true (show (i:Int)>0 by omega),cond_true,y2,Option.bind_some,cond_true,D6v,Option.bind_some,Bool.false_or,Bool.true_and,D6w]
     by_cases q:C0b y x=true
     ·rw [q,if_neg (by rintro (h|⟨_,z,z1,z2⟩);exact (by cases h);rw [y1]at z1;cases z1;rw [q]at z2;cases z2),Bool.not_true,cond_false,M8 hi (by omega)]
     ·have q':C0b y x=false:=by simpa using q
      rw [q',if_pos (.inr ⟨h0,y,y1,q'⟩)];rfl
    ·omega
   ·rw [decide_eq_false (show ¬(i:Int)>0 by omega),cond_false,Option.bind_some,cond_false,Option.bind_some,Bool.false_or,Bool.false_and,cond_false,if_neg (by rintro (h|⟨h,_⟩);exact (by cases h);exact h0 h),M8 hi (by omega)]
  ·refine Y6 s.In _ _ (fun i x hx=> ?_) (by unfold A4n;rw [T7];rfl)
   have hi:=U2 hx
   unfold A4n
   rw [X4 hi,cond_true,E6 hx,Option.bind_some]
   have e:(((decide (x.Agent_<0)||decide (x.Agent_≥(s.Agents.length:Int)))||decide (x.Zone_<0))||decide (x.Zone_≥(m.Zones.length:Int)))=C3a m s x:=rfl
   rw [e]
   unfold inE
   by_cases hb:C3a m s x=true
   ·rw [hb,if_pos (.inl rfl)];rfl
   have hb':C3a m s x=false:=by simpa using hb
   rw [hb',cond_false]
   by_cases h0:0<i
   ·obtain ⟨y,hy⟩:=D04 hx h0
    rcases hy with ⟨y1,y2⟩|hy
    ·rw [decide_eq_true (show (i:Int)>0 by omega),cond_true,y2,Option.bind_some,Bool.true_and]
     have hc: ∀b:Bool,(cond b (some y) (some default)).bind (fun v=>some v)=some (cond b y default):=by intro b;cases b<;>rfl
     by_cases q1:x.Agent_<y.Agent_
     ·rw [decide_eq_true q1,if_pos (.inr ⟨h0,y,y1,by unfold C0b;simp;omega⟩)];rfl
     ·rw [decide_eq_false q1,Bool.not_false,cond_true,Option.bind_some,Bool.true_and]
      by_cases q2:x.Agent_=y.Agent_
      ·rw [show (x.Agent_==y.Agent_)=true by simpa using q2,cond_true,Option.bind_some,Bool.false_or,Bool.true_and,Bool.true_and]
       by_cases q3:x.Zone_≤y.Zone_
       ·rw [decide_eq_true q3,if_pos (.inr ⟨h0,y,y1,by unfold C0b;simp;omega⟩)];rfl
       ·rw [decide_eq_false q3,if_neg (by rintro (h|⟨_,z,z1,z2⟩);exact (by cases h);rw [y1]at z1;cases z1;unfold C0b at z2;simp at z2;omega),cond_false,M8 hi (by omega)]
      ·rw [show (x.Agent_==y.Agent_)=false by simpa using q2,cond_false,Option.bind_some,Bool.false_or,Bool.true_and,Bool.false_and,cond_false,if_neg (by rintro (h|⟨_,z,z1,z2⟩);exact (by cases h);rw [y1]at z1;cases z1;unfold C0b at z2;simp at z2;omega),M8 hi (by omega)]
    ·omega
   ·rw [decide_eq_false (show ¬(i:Int)>0 by omega),cond_false,Option.bind_some]
    simp only [Bool.false_and,cond_false,Option.bind_some]
    rw [if_neg (by rintro (h|⟨h,_⟩);exact (by cases h);exact h0 h),M8 hi (by omega)]
theorem B9z {α:Type}(l:List α)(P:α→Bool)(F:Int→Option (Stp Int (Sum Unit Int)))(hl:l.length≤1000000000)(hF: ∀(i:Nat) a,l[i]? =some a→F (i:Int)=some (if P a then .out (.inr (i:Int))else .go (w64 ((i:Int)+1))))(h0:F (l.length:Int)=some (.out (.inl ()))):
    (thenS (loop F 0) (fun _=>some (-1)) (fun r=>some r)).bind (fun v=>some (decide (v≥0)))=some (l.any P):=by
  rw [C3t l P hl hF h0]
  have:=C0r P l
  unfold E16 at this
  cases hq:l.findIdx? P with
  |some i=>rw [hq]at this;show some _=_;rw [← this]
  |none=>rw [hq]at this;show some _=_;rw [← this]
theorem D9n {s:State}(h:SizeS s):D1 s.In s=some (s.In.any (C5k s)):=by
  have hh:=h.ins
  unfold D1 G9
  refine B9z s.In (C5k s) _ (by omega) (fun i x hx=> ?_) (by unfold E5;rw [T7];rfl)
  unfold E5 A3f
  rw [X4 (U2 hx),E6 hx,cond_true,Option.bind_some,Option.bind_some]
  have e:(((decide (x.Since<0)||decide (x.Since>s.Tick))||decide (x.Rank<0))||decide (x.Rank>100))=C5k s x:=rfl
  rw [e]
  cases C5k s x<;>rfl
theorem D6y {s:State}(h:SizeS s):thenS (loop (A4m s) 0) (fun _=>some 0) (fun r=>some r)=some (if s.In.any (C5k s)=true then 2 else 0):=by
  have hh:=h.ins
  rw [Y6 s.In _ (fun _ x=>if C5k s x=true then some 2 else none) (fun i x hx=> ?_) (by unfold A4m;rw [T7];rfl)]
  ·by_cases q:s.In.any (C5k s)=true
   ·rw [if_pos q]
    cases hf:J7 (fun _ x=>if C5k s x=true then some (2:Int)else none) 0 s.In with
    |some e=>
     have: ∀(l:List Stay) (i:Nat),J7 (fun _ x=>if C5k s x=true then some (2:Int)else none) i l=some e→e=2:=by
       intro l
       induction l with
       |nil=>intro i h;cases h
       |cons a l ih=>
        intro i h
        unfold J7 at h
        by_cases z:C5k s a=true
        ·rw [if_pos z]at h;cases h;rfl
        ·rw [if_neg z]at h;exact ih _ h
     rw [this _ _ hf];rfl
    |none=>
     obtain ⟨x,x1,x2⟩:=List.any_eq_true.1 q
     obtain ⟨j,hj⟩:=List.getElem?_of_mem x1
     have:=firstE_none.1 hf j x hj
     rw [if_pos x2]at this;cases this
   ·rw [if_neg q,firstE_none.2 fun j x hj=> ?_]
    ·rfl
    ·by_cases z:C5k s x=true
     ·exact absurd (List.any_eq_true.2 ⟨x,List.mem_of_getElem? hj,z⟩) q
     ·rw [if_neg z]
  ·unfold A4m
   rw [X4 (U2 hx),E6 hx,cond_true,Option.bind_some]
   have e:(((decide (x.Since<0)||decide (x.Since>s.Tick))||decide (x.Rank<0))||decide (x.Rank>100))=C5k s x:=rfl
   rw [e]
   by_cases z:C5k s x=true
   ·rw [if_pos z,z];rfl
   ·rw [if_neg z,show C5k s x=false by simpa using z,cond_false,M8 (U2 hx) (by omega)]
theorem D6z {m:Map}(B:BearM m){s:State}(h:SizeS s)(hw: ∀g∈s.Agents,g.S≤9223372036854775807):A3y m s=some (D1x m s)∧B1b m s=some (D1x m s):=by
  obtain ⟨a1,a2⟩:=C8o B h hw
  obtain ⟨i1,i2⟩:=D6x m h
  unfold A3y B1b D1x
  rw [A94 B,B33 B,Option.bind_some,Option.bind_some]
  by_cases q:C3v m=0
  case neg=>rw [if_neg q,show (C3v m !=0)=true by simpa using q];exact ⟨rfl,rfl⟩
  rw [if_pos q,q,show ((0:Int) !=0)=false from rfl,cond_false,cond_false]
  by_cases t:s.Tick<0∨s.Tick>1099511627776
  ·rw [if_pos t,show (decide (s.Tick<0)||decide (s.Tick>1099511627776))=true by simpa using t];exact ⟨rfl,rfl⟩
  rw [if_neg t,show (decide (s.Tick<0)||decide (s.Tick>1099511627776))=false by rw [Bool.eq_false_iff];simpa using t,cond_false,cond_false]
  by_cases n0:s.Agents.length=0
  ·rw [if_pos n0,show (((s.Agents.length:Nat):Int)==0)=true by rw [n0];rfl];exact ⟨rfl,rfl⟩
  rw [if_neg n0,show (((s.Agents.length:Nat):Int)==0)=false by simpa using (show ((s.Agents.length:Nat):Int)≠0 by omega),cond_false,cond_false]
  by_cases n8:8<s.Agents.length
  ·rw [if_pos n8,decide_eq_true (show (s.Agents.length:Int)>8 by omega)];exact ⟨rfl,rfl⟩
  rw [if_neg n8,decide_eq_false (show ¬(s.Agents.length:Int)>8 by omega),cond_false,cond_false,a1,a2]
  cases J7 (fun i g=>if A5u m s (i:Int) g=0 then none else some (A5u m s (i:Int) g)) 0 s.Agents with
  |some e=>exact ⟨rfl,rfl⟩
  |none=>
   show thenS _ _ _=_∧thenS _ _ _=_
   rw [i1,i2]
   cases J7 (inE m s) 0 s.In with
   |some e=>exact ⟨rfl,rfl⟩
   |none=>
    refine ⟨?_,D6y h⟩
    show (D1 s.In s).bind _=_
    rw [D9n h,Option.bind_some]
    cases s.In.any (C5k s)<;>rfl
end Go.Abs.World
/-! WorldChecks. -/
namespace Go.Abs.World
open Go Go.Abs
abbrev D9o (g:Agent):Prop:=(∀x∈g.Route,A6v x)∧A6v g.S∧A6v g.V∧A6v g.Len∧A6v g.Begin∧True∧True
abbrev E1h (x:Stay):Prop:=A6v x.Agent_∧A6v x.Zone_∧A6v x.Since∧A6v x.Rank
abbrev D4j (s:State):Prop:=A6v s.Tick∧(∀g∈s.Agents,D9o g)∧∀x∈s.In,E1h x
/-- A map of the kit. -/
structure KitM (m:Map):Prop extends BearK m where
  val:ValR m
theorem D9p (n:Int): ∃m,B9a n=some m∧KitM m∧∃k p,k<8∧ParOK p∧m=C9u k p:=by
  obtain ⟨k,p,hk,hp,hm⟩:=D1i n
  exact ⟨_,hm,⟨⟨D6k hp,(C2i k p.r).1⟩,D9d hk hp⟩,k,p,hk,hp,rfl⟩
theorem KitM.chk {m:Map}(K:KitM m):C3v m=0:=chkR_zero.2 K.val
end Go.Abs.World
/-! An agent in a tick. -/
namespace Go.Abs.World
open Go Go.Abs
/-- Who is there. -/
def C00 (s:State)(i:Int):Bool:=match D4 s.Agents i with
  |some g=> !g.Gone&&decide (g.Begin≤s.Tick)
  |none=>false
theorem C77 {α:Type}{l:List α}{i:Int}(h: ¬(0≤i∧i<l.length)):D4 l i=none:=by
  unfold D4
  by_cases h0:0≤i
  ·rw [if_pos h0]
   exact List.getElem?_eq_none (by omega)
  ·rw [if_neg h0]
theorem C78 {α:Type}{l:List α}{i:Int}(h0:0≤i)(h1:i<l.length): ∃a,D4 l i=some a∧l[i.toNat]? =some a:=by
  have:l[i.toNat]? =some l[i.toNat]:=List.getElem?_eq_getElem (by omega)
  exact ⟨_,by unfold D4;rw [if_pos h0];exact this,this⟩
theorem D70 (s:State)(i:Int):A2t s i=some (C00 s i)∧B1c s i=some (C00 s i):=by
  unfold A2t B1c C00
  by_cases h:0≤i∧i<s.Agents.length
  ·obtain ⟨g,hg,_⟩:=C78 h.1 h.2
   rw [show (decide (i≥0)&&decide (i< (s.Agents.length:Int)))=true by simp only [Bool.and_eq_true,decide_eq_true_eq];exact h,cond_true,hg,Option.bind_some,Option.bind_some]
   simp only [cond_true,Option.bind_some,Bool.true_and]
   constructor
   ·cases g.Gone<;>simp
   ·by_cases q:g.Begin≤s.Tick<;>simp [q]
  ·rw [show (decide (i≥0)&&decide (i< (s.Agents.length:Int)))=false by rw [Bool.eq_false_iff];simp only [ne_eq,Bool.and_eq_true,decide_eq_true_eq];exact h,C77 h]
   exact ⟨rfl,rfl⟩
/-- A red line before which an agent could stop, and then cannot. -/
def A8y (f v nxt b line:Int):Bool:=(decide (line>f)&&decide (w64 (f+B9n v b)<line))&&decide (w64 (w64 (f+nxt)+B9n nxt b)≥line)
def B5j (R:List Int)(f v nxt b:Int):Bool:= !R.any (A8y f v nxt b)
theorem D05 (R:List Int)(hR:R.length≤1000)(f v nxt b:Int):A70 R f v nxt b=some (B5j R f v nxt b):=by
  unfold A70 F0 F5
  rw [B9z R (A8y f v nxt b) _ (by omega) (fun i x hx=> ?_) (by unfold D2;rw [T7];rfl)]
  ·rfl
  ·unfold D2 Y4
   rw [X4 (U2 hx),E6 hx,cond_true,Option.bind_some,D4c,D4c]
   have e:((cond (decide (x>f)) (some (B9n v b)) (some default)).bind fun v1=>(cond (decide (x>f)&&decide (w64 (f+v1)<x)) (some (B9n nxt b)) (some default)).bind fun v2=>some ((decide (x>f)&&decide (w64 (f+v1)<x))&&decide (w64 (w64 (f+nxt)+v2)≥x)))=some (A8y f v nxt b x):=by
     unfold A8y
     cases decide (x>f)
     ·rfl
     ·simp only [cond_true,Option.bind_some,Bool.true_and]
      cases decide (w64 (f+B9n v b)<x)<;>rfl
   rw [e,Option.bind_some]
   cases A8y f v nxt b x<;>rfl
theorem D06 (R:List Int)(hR:R.length≤1000)(f v nxt b:Int):B1f R f v nxt b=some (B5j R f v nxt b):=by
  unfold B1f B5j
  rw [Y6 R _ (fun _ x=>if A8y f v nxt b x=true then some false else none) (fun i x hx=> ?_) (by unfold A6t;rw [T7];rfl)]
  ·have key: ∀(l:List Int) (i:Nat),thenS (some (D1w (J7 (fun _ x=>if A8y f v nxt b x=true then some false else none) i l))) (fun _=>some true) (fun r=>some r)=some (!l.any (A8y f v nxt b)):=by
     intro l
     induction l with
     |nil=>intro i;rfl
     |cons x l ih=>
      intro i
      unfold J7
      by_cases z:A8y f v nxt b x=true
      ·rw [if_pos z,List.any_cons,z];rfl
      ·rw [if_neg z,List.any_cons,show A8y f v nxt b x=false by simpa using z,Bool.false_or]
       exact ih _
   exact key R 0
  ·unfold A6t
   rw [X4 (U2 hx),E6 hx,cond_true,Option.bind_some,C9z,C9z]
   have e:((cond (decide (x>f)) (some (B9n v b)) (some default)).bind fun v2=>(cond (decide (x>f)) (some x) (some default)).bind fun v3=>(cond (decide (x>f)&&decide (w64 (f+v2)<v3)) (some (B9n nxt b)) (some default)).bind fun v4=>(cond (decide (x>f)&&decide (w64 (f+v2)<v3)) (some x) (some default)).bind fun v5=>cond ((decide (x>f)&&decide (w64 (f+v2)<v3))&&decide (w64 (w64 (f+nxt)+v4)≥v5)) (some (Stp.out (Sum.inr false))) (some (Stp.go (w64 ((i:Int)+1)))))=(some (if A8y f v nxt b x=true then Stp.out (Sum.inr false)else Stp.go (w64 ((i:Int)+1))):Option (Stp Int (Sum Unit Bool))):=by
     unfold A8y
     cases decide (x>f)
     ·rfl
     ·simp only [cond_true,Option.bind_some,Bool.true_and]
      cases decide (w64 (f+B9n v b)<x)
      ·rfl
      ·simp only [cond_true,Option.bind_some,Bool.true_and]
       cases decide (w64 (w64 (f+nxt)+B9n nxt b)≥x)<;>rfl
   rw [e]
   by_cases z:A8y f v nxt b x=true
   ·rw [if_pos z,if_pos z]
   ·rw [if_neg z,if_neg z,M8 (U2 hx) (by omega)]
/-- The red lines of a lane. -/
noncomputable def E01 (m:Map)(lane tick:Int):List Int:=(A5e m lane tick).getD []
theorem E1i {m:Map}(B:BearM m)(lane tick:Int):A5e m lane tick=some (E01 m lane tick)∧B1e m lane tick=some (E01 m lane tick)∧(E01 m lane tick).length≤1000:=by
  obtain ⟨R,h1,h2,h3⟩:=D9k B lane tick
  unfold E01
  rw [h1,h2]
  exact ⟨rfl,rfl,h3⟩
def A7k (g:Agent)(most act:Int):Int:=max 0 (min (w64 (g.V+act)) most)
/-- The acceleration, made less as long as it has to be. -/
def C5l (K:Int→Bool)(low:Int):Nat→Int→Int
  |0,act=>act
  |n+1,act=>if act>low∧K act=false then C5l K low n (act - 1)else act
/-- An agent that is there, after a tick. -/
noncomputable def B63 (m:Map)(g:Agent)(tick act:Int):Int:=
  let L:=A8x m g;let t:=D7s m g;let act0:=max (-t.2.2) (min act t.2.1)
  if g.Obey=true∧L.2≤B1y m L.1 then A7k g t.1 (C5l (fun x=>B5j (E01 m L.1 tick) L.2 g.V (A7k g t.1 x) t.2.2) (-t.2.2) (act0+t.2.2).toNat act0)else A7k g t.1 act0
noncomputable def C8p (m:Map)(g:Agent)(tick act:Int):Agent:=
  {g with V:=B63 m g tick act,S:=w64 (g.S+B63 m g tick act),Gone:=C2l m {g with V:=B63 m g tick act,S:=w64 (g.S+B63 m g tick act)}}
theorem D9q (k:Int):0≤(A77 k).1∧(A77 k).1≤2000∧0≤(A77 k).2.1∧(A77 k).2.1≤100∧0≤(A77 k).2.2∧(A77 k).2.2≤300:=by
  unfold A77
  repeat' split
  all_goals simp
theorem D4k {g:Agent}{L:Int×Int}{t:Int×Int×Int}{R:List Int}(hR:R.length≤1000)(ht:0≤t.2.2∧t.2.2≤300): ∀(n:Nat) (act:Int), -t.2.2≤act→act≤100→(act+t.2.2).toNat≤n→
    loop (Z7 g L t R) act=some (C5l (fun x=>B5j R L.2 g.V (A7k g t.1 x) t.2.2) (-t.2.2) n act):=by
  intro n
  induction n with
  |zero=>
   intro act h1 h2 h3
   rw [C5l]
   refine D5 ?_
   unfold Z7
   rw [I9 (n:=0 - t.2.2) (by omega),decide_eq_false (show ¬act>0 - t.2.2 by omega)];rfl
  |succ n ih=>
   intro act h1 h2 h3
   rw [C5l]
   by_cases q:act> -t.2.2
   ·have hs:V3 act g t.1=some (A7k g t.1 act):=by unfold V3 A7k;rw [B3s,A6f]
    by_cases k:B5j R L.2 g.V (A7k g t.1 act) t.2.2=false
    ·rw [if_pos ⟨q,k⟩,← ih (act - 1) (by omega) (by omega) (by omega)]
     refine P2 ?_
     unfold Z7
     rw [I9 (n:=0 - t.2.2) (by omega),decide_eq_true (show act>0 - t.2.2 by omega),cond_true,hs,Option.bind_some,cond_true,D05 R hR,Option.bind_some,k,I9 (by omega)];rfl
    ·rw [if_neg (fun x=>k x.2)]
     refine D5 ?_
     unfold Z7
     rw [I9 (n:=0 - t.2.2) (by omega),decide_eq_true (show act>0 - t.2.2 by omega),cond_true,hs,Option.bind_some,cond_true,D05 R hR,Option.bind_some,show B5j R L.2 g.V (A7k g t.1 act) t.2.2=true by simpa using k];rfl
   ·rw [if_neg (fun x=>q x.1)]
    refine D5 ?_
    unfold Z7
    rw [I9 (n:=0 - t.2.2) (by omega),decide_eq_false (show ¬act>0 - t.2.2 by omega)];rfl
theorem D1s {g:Agent}{L:Int×Int}{t:Int×Int×Int}{R:List Int}(hR:R.length≤1000)(ht:0≤t.2.2∧t.2.2≤300): ∀(n:Nat) (act:Int), -t.2.2≤act→act≤100→(act+t.2.2).toNat≤n→
    loop (A2l g L t R) (act,A7k g t.1 act)=some (A7k g t.1 (C5l (fun x=>B5j R L.2 g.V (A7k g t.1 x) t.2.2) (-t.2.2) n act)):=by
  intro n
  induction n with
  |zero=>
   intro act h1 h2 h3
   rw [C5l]
   refine D5 ?_
   unfold A2l
   dsimp only
   rw [I9 (n:=0 - t.2.2) (by omega),decide_eq_false (show ¬act>0 - t.2.2 by omega)];rfl
  |succ n ih=>
   intro act h1 h2 h3
   rw [C5l]
   by_cases q:act> -t.2.2
   ·by_cases k:B5j R L.2 g.V (A7k g t.1 act) t.2.2=false
    ·rw [if_pos ⟨q,k⟩,← ih (act - 1) (by omega) (by omega) (by omega)]
     refine P2 ?_
     unfold A2l
     dsimp only
     rw [I9 (n:=0 - t.2.2) (by omega),decide_eq_true (show act>0 - t.2.2 by omega),cond_true,D06 R hR,Option.bind_some,k,I9 (n:=act - 1) (by omega),B3s,A6f];rfl
    ·rw [if_neg (fun x=>k x.2)]
     refine D5 ?_
     unfold A2l
     dsimp only
     rw [I9 (n:=0 - t.2.2) (by omega),decide_eq_true (show act>0 - t.2.2 by omega),cond_true,D06 R hR,Option.bind_some,show B5j R L.2 g.V (A7k g t.1 act) t.2.2=true by simpa using k];rfl
   ·rw [if_neg (fun x=>q x.1)]
    refine D5 ?_
    unfold A2l
    dsimp only
    rw [I9 (n:=0 - t.2.2) (by omega),decide_eq_false (show ¬act>0 - t.2.2 by omega)];rfl
end Go.Abs.World
/-! An agent in a tick, second part. -/
namespace Go.Abs.World
open Go Go.Abs
/-- What is known of an agent of a valid state. -/
structure AgentOK (m:Map)(s:State)(i:Int)(g:Agent):Prop where
  route: ∃a t,g.Route=a::t∧RouteOK m a t
  len:300≤g.Len∧g.Len≤20000
  begin:0≤g.Begin∧g.Begin≤1099511627776
  S:0≤g.S∧g.S≤LongM m g.Route+g.Len+2000
  V:0≤g.V∧g.V≤(D7s m g).1
  gone:g.Gone=C2l m g
  late: ¬(g.Begin>s.Tick∧g.S≠0)
  first:i=0→g.Begin=0
theorem agentM_zero {m:Map}{s:State}{i:Int}{g:Agent}:A5u m s i g=0↔AgentOK m s i g:=by
  unfold A5u
  constructor
  ·intro h
   by_cases q:A08 m g.Route=0
   ·rw [if_pos q]at h
    by_cases o:D6u g=true∨g.S>LongM m g.Route+g.Len+2000
    ·rw [if_pos o]at h;cases h
    ·rw [if_neg o]at h
     by_cases v:g.V<0∨g.V>(D7s m g).1
     ·rw [if_pos v]at h;cases h
     ·rw [if_neg v]at h
      by_cases z:g.Gone≠C2l m g∨(g.Begin>s.Tick∧g.S≠0)∨(i=0∧g.Begin≠0)
      ·rw [if_pos z]at h;cases h
      ·obtain ⟨o1,o2,o3,o4,o5⟩:=C40 (g:=g) (by cases hq:D6u g<;>simp_all)
       refine ⟨chkRoute_zero.1 q,⟨o1,o2⟩,⟨o3,o4⟩,⟨o5,?_⟩,?_,?_,fun h=>z (.inr (.inl h)),fun h=> ?_⟩
       ·exact Int.not_lt.1 fun h=>o (.inr h)
       ·omega
       ·exact Classical.byContradiction fun h=>z (.inl h)
       ·exact Classical.byContradiction fun h'=>z (.inr (.inr ⟨h,h'⟩))
   ·rw [if_neg q]at h;cases h
  ·intro A
   have l:=A.len;have b:=A.begin;have S:=A.S;have V:=A.V
   rw [if_pos (chkRoute_zero.2 A.route),if_neg,if_neg,if_neg]
   ·rintro (h|h|h)
    ·exact h A.gone
    ·exact A.late h
    ·exact h.2 (A.first h.1)
   ·omega
   ·rintro (h|h)
    ·unfold D6u at h
     simp only [Bool.or_eq_true,decide_eq_true_eq]at h
     omega
    ·omega
structure StateOK (m:Map)(s:State):Prop where
  tick:0≤s.Tick∧s.Tick≤1099511627776
  num:0<s.Agents.length∧s.Agents.length≤8
  agent: ∀(i:Nat) g,s.Agents[i]? =some g→AgentOK m s (i:Int) g
  ins: ∀(i:Nat) x,s.In[i]? =some x→C3a m s x=false
  sorted: ∀(i:Nat) x y,s.In[i]? =some x→s.In[i+1]? =some y→C0b x y=true
  rank: ∀x∈s.In,C5k s x=false
theorem D4l {m:Map}(K:KitM m){s:State}:D1x m s=0↔StateOK m s:=by
  unfold D1x
  rw [if_pos K.chk]
  constructor
  ·intro h
   by_cases t:s.Tick<0∨s.Tick>1099511627776
   ·rw [if_pos t]at h;cases h
   rw [if_neg t]at h
   by_cases n0:s.Agents.length=0
   ·rw [if_pos n0]at h;cases h
   rw [if_neg n0]at h
   by_cases n8:8<s.Agents.length
   ·rw [if_pos n8]at h;cases h
   rw [if_neg n8]at h
   cases ha:J7 (fun i g=>if A5u m s (i:Int) g=0 then none else some (A5u m s (i:Int) g)) 0 s.Agents with
   |some e=>
    rw [ha]at h
    have: ∀(l:List Agent) (i:Nat),J7 (fun i g=>if A5u m s (i:Int) g=0 then none else some (A5u m s (i:Int) g)) i l=some e→e≠0:=by
      intro l
      induction l with
      |nil=>intro i h;cases h
      |cons a l ih=>
       intro i h
       unfold J7 at h
       by_cases z:A5u m s (i:Int) a=0
       ·rw [if_pos z]at h;exact ih _ h
       ·rw [if_neg z]at h;cases h;exact z
    exact absurd h (this _ _ ha)
   |none=>
    rw [ha]at h
    cases hi:J7 (inE m s) 0 s.In with
    |some e=>
     rw [hi]at h
     have: ∀(l:List Stay) (i:Nat),J7 (inE m s) i l=some e→e≠0:=by
       intro l
       induction l with
       |nil=>intro i h;cases h
       |cons a l ih=>
        intro i h
        unfold J7 at h
        cases z:inE m s i a with
        |none=>rw [z]at h;exact ih _ h
        |some e'=>
         rw [z]at h;cases h
         unfold inE at z
         split at z
         ·cases z;decide
         ·cases z
     exact absurd h (this _ _ hi)
    |none=>
     rw [hi]at h
     have ha':=firstE_none.1 ha
     have hi':=firstE_none.1 hi
     simp only [Nat.zero_add]at ha' hi'
     have hin: ∀(i:Nat) x,s.In[i]? =some x→¬(C3a m s x=true∨(0<i∧∃y,s.In[i - 1]? =some y∧C0b y x=false)):=by
       intro i x hx q
       have:=hi' i x hx
       unfold inE at this
       rw [if_pos q]at this;cases this
     have hr:s.In.any (C5k s)=false:=by
       cases q:s.In.any (C5k s)with
       |false=>rfl
       |true=>rw [q]at h;cases h
     refine ⟨by omega,by omega,fun i g hg=>agentM_zero.1 ?_,fun i x hx=> ?_,fun i x y hx hy=> ?_,fun x hx=> ?_⟩
     ·have:=ha' i g hg
      by_cases z:A5u m s (i:Int) g=0
      ·exact z
      ·rw [if_neg z]at this;cases this
     ·have:=hin i x hx
      cases q:C3a m s x with
      |false=>rfl
      |true=>exact absurd (.inl q) this
     ·have:=hin (i+1) y hy
      cases q:C0b x y with
      |true=>rfl
      |false=>exact absurd (.inr ⟨by omega,x,hx,q⟩) this
     ·have:=List.any_eq_false.1 hr x hx
      simpa using this
  ·intro O
   have t:=O.tick;have n:=O.num
   rw [if_neg (by omega),if_neg (by omega),if_neg (by omega)]
   rw [firstE_none.2 fun i g hg=>by rw [Nat.zero_add,if_pos (agentM_zero.2 (O.agent i g hg))]]
   rw [firstE_none.2 fun i x hx=> ?_]
   ·dsimp only
    rw [if_neg]
    intro h
    obtain ⟨x,x1,x2⟩:=List.any_eq_true.1 h
    rw [O.rank x x1]at x2;cases x2
   ·rw [Nat.zero_add]
    unfold inE
    rw [if_neg]
    rintro (h|⟨h0,y,y1,y2⟩)
    ·rw [O.ins i x hx]at h;cases h
    ·have:=O.sorted (i - 1) y x y1 (by rw [show i - 1+1=i by omega];exact hx)
     rw [this]at y2;cases y2
theorem AgentOK.bd {m:Map}{s:State}{i:Int}{g:Agent}(A:AgentOK m s i g):1000≤LongM m g.Route∧LongM m g.Route≤134217728:=by
  obtain ⟨a,t,h,R⟩:=A.route
  rw [h];exact D02 R
theorem D9r {m:Map}(B:BearM m){s:State}{i:Int}{g:Agent}(A:AgentOK m s i g)(hr:g.Route.length≤1000)(tick act:Int):A63 m g tick act=some (C8p m g tick act)∧B0n m g tick act=some (C8p m g tick act):=by
  obtain ⟨a,t,ht,R⟩:=A.route
  have hL:=A.bd;have hS:=A.S;have hl:=A.len;have hV:=A.V
  obtain ⟨l1,l2⟩:=D01 B R ht hS.1 (by omega)
  obtain ⟨ln,k1,k2,_⟩:=C76 R ht hS.1
  have ev:D7s m g=A77 ln.Kind:=by unfold D7s;rw [k2]
  have htb:=D9q ln.Kind
  obtain ⟨r1,r2,r3⟩:=E1i B (A8x m g).1 tick
  have hlow:w64 (0 - (A77 ln.Kind).2.2)= -(A77 ln.Kind).2.2:=by rw [I9 (by omega)];omega
  have hact: -(A77 ln.Kind).2.2≤max (-(A77 ln.Kind).2.2) (min act (A77 ln.Kind).2.1)∧max (-(A77 ln.Kind).2.2) (min act (A77 ln.Kind).2.1)≤100:=by omega
  have hg: ∀g':Agent,g'.Route=g.Route→A5y m g'=some (C2l m g')∧A8s m g'=some (C2l m g'):=fun g' h=>C8n B (by rw [h];omega)
  have hmv: ∀x,V3 x g (A77 ln.Kind).1=some (A7k g (A77 ln.Kind).1 x):=by intro x;unfold V3 A7k;rw [B3s,A6f]
  have hlow': ∀X,(mm2 true 0 (mm2 false (w64 (g.V+X)) (A77 ln.Kind).1))=A7k g (A77 ln.Kind).1 X:=by intro X;unfold A7k;rw [B3s,A6f]
  by_cases q:g.Obey=true∧(A8x m g).2≤B1y m (A8x m g).1
  ·have hN:B63 m g tick act=A7k g (A77 ln.Kind).1 (C5l (fun x=>B5j (E01 m (A8x m g).1 tick) (A8x m g).2 g.V (A7k g (A77 ln.Kind).1 x) (A77 ln.Kind).2.2) (-(A77 ln.Kind).2.2) (max (-(A77 ln.Kind).2.2) (min act (A77 ln.Kind).2.1)+ (A77 ln.Kind).2.2).toNat (max (-(A77 ln.Kind).2.2) (min act (A77 ln.Kind).2.1))):=by
     unfold B63;rw [ev];exact if_pos q
   constructor
   ·unfold A63 C8p
    rw [l1,Option.bind_some,k1,Option.bind_some,B5c,Option.bind_some,q.1,cond_true,B5f B,Option.bind_some,Bool.true_and,decide_eq_true q.2,cond_true,r1,Option.bind_some,B3s,A6f,hlow,D4k r3 ⟨htb.2.2.2.2.1,htb.2.2.2.2.2⟩ _ _ hact.1 hact.2 (Nat.le_refl _)]
    simp only [Option.bind_some]
    rw [hmv,Option.bind_some,← hN,(hg ⟨g.Route,w64 (g.S+B63 m g tick act),B63 m g tick act,g.Len,g.Begin,true,g.Gone⟩ rfl).1]
    simp only [Option.bind_some,q.1]
   ·unfold B0n C8p
    rw [l2,Option.bind_some,k1,Option.bind_some,B3o,Option.bind_some,q.1,cond_true,B5g B,Option.bind_some,Bool.true_and,decide_eq_true q.2,cond_true,r2,Option.bind_some,hlow',B3s,A6f,hlow,D1s r3 ⟨htb.2.2.2.2.1,htb.2.2.2.2.2⟩ _ _ hact.1 hact.2 (Nat.le_refl _)]
    simp only [Option.bind_some]
    rw [← hN,(hg ⟨g.Route,w64 (g.S+B63 m g tick act),B63 m g tick act,g.Len,g.Begin,true,g.Gone⟩ rfl).2]
    simp only [Option.bind_some,q.1]
  ·have hN:B63 m g tick act=A7k g (A77 ln.Kind).1 (max (-(A77 ln.Kind).2.2) (min act (A77 ln.Kind).2.1)):=by
     unfold B63;rw [ev];exact if_neg q
   have hc: ∀{α:Type} (o:Bool) (x y:α),(cond o (some (B1y m (A8x m g).1)) (some default)).bind (fun v4=>some (cond (o&&decide ((A8x m g).2≤v4)) x y))=some (cond (o&&decide ((A8x m g).2≤B1y m (A8x m g).1)) x y):=by intro α o x y;cases o<;>rfl
   have hf:(g.Obey&&decide ((A8x m g).2≤B1y m (A8x m g).1))=false:=by
     rw [Bool.eq_false_iff];simpa using q
   constructor
   ·unfold A63 C8p
    rw [l1,Option.bind_some,k1,Option.bind_some,B5c,Option.bind_some,B5f B]
    have e: ∀F:Int→Option Agent,((cond g.Obey (some (B1y m (A8x m g).1)) (some default)).bind fun v4=>(cond (g.Obey&&decide ((A8x m g).2≤v4)) ((A5e m (A8x m g).1 tick).bind fun v5=>(loop (Z7 g (A8x m g) (A77 ln.Kind) v5) (mm2 true (w64 (0 - (A77 ln.Kind).2.2)) (mm2 false act (A77 ln.Kind).2.1))).bind fun y2=>some y2) (some (mm2 true (w64 (0 - (A77 ln.Kind).2.2)) (mm2 false act (A77 ln.Kind).2.1)))).bind F)=F (mm2 true (w64 (0 - (A77 ln.Kind).2.2)) (mm2 false act (A77 ln.Kind).2.1)):=by
      intro F
      cases ho:g.Obey
      ·rfl
      ·rw [ho]at hf
       rw [cond_true,Option.bind_some,hf];rfl
    rw [e,hmv,B3s,A6f,hlow,← hN,Option.bind_some,(hg ⟨g.Route,w64 (g.S+B63 m g tick act),B63 m g tick act,g.Len,g.Begin,g.Obey,g.Gone⟩ rfl).1]
    rfl
   ·unfold B0n C8p
    rw [l2,Option.bind_some,k1,Option.bind_some,B3o,Option.bind_some,B5g B]
    have e: ∀(F:Int→Option Agent) (Y:List Int→Option Int) (X:Int),((cond g.Obey (some (B1y m (A8x m g).1)) (some default)).bind fun v4=>(cond (g.Obey&&decide ((A8x m g).2≤v4)) ((B1e m (A8x m g).1 tick).bind Y) (some X)).bind F)=F X:=by
      intro F Y X
      cases ho:g.Obey
      ·rfl
      ·rw [ho]at hf
       rw [cond_true,Option.bind_some,hf];rfl
    rw [e,hlow',B3s,A6f,hlow,← hN,(hg ⟨g.Route,w64 (g.S+B63 m g tick act),B63 m g tick act,g.Len,g.Begin,g.Obey,g.Gone⟩ rfl).2]
    rfl
def D4m:Agent:=⟨[],0,0,0,0,false,false⟩
noncomputable def D1t (m:Map)(s:State)(i act:Int):Agent:=match D4 s.Agents i with
  |none=>D4m
  |some g=>if C00 s i=true∧D1x m s=0 then C8p m g s.Tick act else g
theorem wf_S {s:State}(w:D4j s): ∀g∈s.Agents,g.S≤9223372036854775807:=fun g hg=>(w.2.1 g hg).2.1.2
theorem D9s {m:Map}(K:KitM m){s:State}(S:SizeS s)(w: ∀g∈s.Agents,g.S≤9223372036854775807)(i act:Int):A7e m s i act=some (D1t m s i act)∧B3k m s i act=some (D1t m s i act):=by
  obtain ⟨c1,c2⟩:=D6z K.toBearM S w
  obtain ⟨t1,t2⟩:=D70 s i
  unfold A7e B3k D1t
  by_cases h:0≤i∧i<s.Agents.length
  case neg=>
    rw [show (decide (i<0)||decide (i≥(s.Agents.length:Int)))=true by simp only [Bool.or_eq_true,decide_eq_true_eq];omega,C77 h]
    exact ⟨rfl,rfl⟩
  obtain ⟨g,hg,hg'⟩:=C78 h.1 h.2
  have hr:=S.routes g (List.mem_of_getElem? hg')
  rw [show (decide (i<0)||decide (i≥(s.Agents.length:Int)))=false by rw [Bool.eq_false_iff];simp only [ne_eq,Bool.or_eq_true,decide_eq_true_eq];omega,cond_false,cond_false,hg,Option.bind_some,Option.bind_some,C8l hr,Option.bind_some,t1,Option.bind_some,D00 (by omega),Option.bind_some,c1,c2,Option.bind_some,t2]
  dsimp only
  have eg:(⟨g.Route,g.S,g.V,g.Len,g.Begin,g.Obey,g.Gone⟩:Agent)=g:=rfl
  by_cases q:C00 s i=true∧D1x m s=0
  ·rw [if_pos q,q.1,q.2]
   have O:=(D4l K).1 q.2
   have A:=O.agent i.toNat g hg'
   obtain ⟨m1,m2⟩:=D9r K.toBearM A hr s.Tick act
   rw [eg,m2]
   refine ⟨?_,rfl⟩
   show (A63 m g s.Tick act).bind _=_
   rw [m1];rfl
  ·rw [if_neg q]
   constructor
   ·cases ht:C00 s i
    ·rfl
    ·have:D1x m s≠0:=fun h=>q ⟨ht,h⟩
     show cond (!true||(D1x m s !=0)) _ _=_
     rw [show (!true||(D1x m s !=0))=true by simpa using this];rfl
   ·cases hz:(D1x m s !=0)
    ·have hz':D1x m s=0:=by simpa using hz
     have:C00 s i=false:=by
       cases ht:C00 s i
       ·rfl
       ·exact absurd ⟨ht,hz'⟩ q
     rw [this];rfl
    ·rfl
theorem B4p (n:Int)(s:State)(i act:Int)(_w0:A6v n)(w1:D4j s)(_w2:A6v i)(_w3:A6v act):A6w n s i act=some true:=by
  obtain ⟨b,h1,h2⟩:=D6t s
  obtain ⟨m,hm,K,_⟩:=D9p n
  unfold A6w
  rw [h1,Option.bind_some,D6j]
  cases b
  ·rfl
  ·have S:=(h2 rfl).size
   obtain ⟨c1,c2⟩:=D9s K S (wf_S w1) i act
   have hr:(D1t m s i act).Route.length≤1000:=by
     unfold D1t
     cases hg:D4 s.Agents i with
     |none=>simp [D4m]
     |some g=>
      have:g∈s.Agents:=by
        unfold D4 at hg
        split at hg
        ·exact List.mem_of_getElem? hg
        ·cases hg
      have:=S.routes g this
      dsimp only
      split
      ·exact this
      ·exact this
   rw [hm]
   simp only [Bool.not_true,cond_false,Option.bind_some,c1,c2]
   have:=D4f (s:=⟨0,[D1t m s i act],[]⟩) ⟨by simp,by simp,fun a ha=>by simp at ha;subst ha;exact hr⟩
   rw [this];rfl
end Go.Abs.World
