/-
  Plain facts, second part: the law itself.
-/
import Derived.Test.YtgjdiioennhoeaaGreatPlain
set_option linter.all false
namespace Go.Abs.World
open Go Go.Abs
def xH {α τ:Type}:Stp (List α×Int) τ→Stp (Int×List α) τ
  | .go x=> .go (x.2,x.1)
  | .out t=> .out t
theorem gX {α τ:Type}(F:List α×Int→Option (Stp (List α×Int) τ))(l:List α)(i:Int)(t:τ)(h:loop (fun s:Int×List α=>(F (s.2,s.1)).map xH) (i,l)=some t):loop F (l,i)=some t:=by
  obtain ⟨n,hn⟩:=loop_some.1 h;refine loop_some.2 ⟨n,?_⟩;clear h
  induction n generalizing l i with
  |zero=>cases hn
  |succ n ih=>
   rw [loopN]at hn ⊢;dsimp only at hn;cases hf:F (l,i)with
   |none=>rw [hf]at hn;cases hn
   |some x=>
    rw [hf]at hn;cases x with
    |go s=>exact ih s.1 s.2 hn
    |out t'=>exact hn
theorem XX: ∀{l l':List Pass},Srt AE l→Srt AE l'→l.Perm l'→(∀x∈l,∀y∈l,AE x y=false→AE y x=false→x=y)→l=l'
  | [],l',_,_,h,_=>(List.Perm.nil_eq h)
  |a::l,[],_,_,h,_=>absurd h.length_eq (by simp)
  |a::l,b::l',h1,h2,h,hk=>by
   obtain ⟨a1,a2⟩:=bB.1 h1;obtain ⟨b1,b2⟩:=bB.1 h2;have hbl:b∈a::l:=h.mem_iff.2 (by simp);have hal:a∈b::l':=h.mem_iff.1 (by simp)
   have e1:AE b a=false:=by
     rcases lU.1 hbl with e|e
     ·rw [e];exact ltP_ok.irr a
     ·exact a1 b e
   have e2:AE a b=false:=by
     rcases lU.1 hal with e|e
     ·rw [e];exact ltP_ok.irr b
     ·exact b1 a e
   have hab:=hk a (by simp) b hbl e2 e1;subst hab;congr 1;exact XX a2 b2 (List.Perm.cons_inv h) fun x hx y hy=>hk x (List.mem_cons_of_mem _ hx) y (List.mem_cons_of_mem _ hy)
section
variable {m:Map}{a:Int}{t:List Int}
theorem gY (R:RouteOK m a t): ∀x∈Ml m 0 (a::t),∀y∈Ml m 0 (a::t),AE x y=false→AE y x=false→x=y:=by
  intro x hx y hy h1 h2;obtain ⟨i,l,j,z,k,p,e1,e2,e3,e4,e5⟩:=DM m _ 0 x hx;obtain ⟨i',l',j',z',k',p',f1,f2,f3,f4,f5⟩:=DM m _ 0 y hy;subst e4 f4;have hx1:x.From=Qu m (a::t) i+p.From:=by rw [e5];show 0+Qu m (a::t) i+p.From=_;omega
  have hy1:y.From=Qu m (a::t) i'+p'.From:=by rw [f5];show 0+Qu m (a::t) i'+p'.From=_;omega
  have hx2:x.Zone_=(j:Int):=by rw [e5]
  have hy2:y.Zone_=(j':Int):=by rw [f5]
  simp only [AE,wA]at h1 h2;have hj:j=j':=by omega
  subst hj;rw [e2]at f2;obtain rfl:=lD f2;have Z:=R.val.zoneOK (lG e2);have g1:=Z.part p (lG e3);have g2:=Z.part p' (lG f3);have n1:=Vm (m:=m) e1;have n2:=Vm (m:=m) f1;have hil:=(lI.1 e1).1;have hil':=(lI.1 f1).1
  have hii:i=i':=by
    rcases Nat.lt_trichotomy i i' with h|h|h
    ·exfalso
     have:Qu m (a::t) (i+1)≤Qu m (a::t) i':=by
       rcases Nat.lt_or_ge (i+1) i' with h'|h'
       ·have:=R.lt h' (Nat.le_of_lt hil');omega
       ·rw [show i'=i+1 by omega];omega
     omega
    ·exact h
    ·exfalso
     have:Qu m (a::t) (i'+1)≤Qu m (a::t) i:=by
       rcases Nat.lt_or_ge (i'+1) i with h'|h'
       ·have:=R.lt h' (Nat.le_of_lt hil);omega
       ·rw [show i=i'+1 by omega];omega
     omega
  subst hii;rw [e1]at f1;have hlane:=lD f1
  have hkk:k=k':=by
    have hp:=Qs Z.rise;have hk1:=(lI.1 e3).1;have hk2:=(lI.1 f3).1;have q1:z.Parts[k]=p:=(lI.1 e3).2;have q2:z.Parts[k']=p':=(lI.1 f3).2;have hpi:=bC.1 hp;rcases Nat.lt_trichotomy k k' with h|h|h
    ·have:=hpi k k' (by simpa using hk1) (by simpa using hk2) h;simp only [List.getElem_map,q1,q2]at this;omega
    ·exact h
    ·have:=hpi k' k (by simpa using hk2) (by simpa using hk1) h;simp only [List.getElem_map,q1,q2]at this;omega
  subst hkk;rw [e3]at f3;obtain rfl:=lD f3;rw [e5,f5]
theorem yE (B:BearM m)(R:RouteOK m a t){i:Nat}{lane:Int}(hx:(a::t)[i]? =some lane)(zi:Nat){z:Zone}(hz:m.Zones[zi]? =some z)(o1 o2:List Pass):
    ∀(r:List Part) (k:Nat) (out:List Pass),z.Parts.drop k=r→k≤z.Parts.length→out.length+r.length≤1000→
     loop (Bs m (a::t) (Q9 m 0 (a::t)) (o1,(i:Int)) (o2,(zi:Int))) (out,(k:Int))=some (out++Pt lane (Qu m (a::t) i) zi k r):=by
  have Z:=R.val.zoneOK (lG hz);have h6:=Z.six;have hi:i< (a::t).length:=(lI.1 hx).1;intro r
  induction r with
  |nil=>
   intro k out hk hkl hl;have:=P3 hk;obtain rfl:k=z.Parts.length:=by omega
   refine D3 ?_;unfold Bs;dsimp only;rw [C8 hz,lB,H9];simp [Pt]
  |cons p r ih=>
   intro k out hk hkl hl;have hlt:=O3 hk;have hp:=Y3 hk;have hpm:=lG hp;have hpt:=Z.part p hpm;have hln:=Mh Z.rise p.Lane_ (List.mem_map_of_mem hpm);have hll:=R.val.long hln.1 hln.2;have hb:=R.bd (Nat.le_of_lt hi);simp only [lL]at hl
   have hs:Bs m (a::t) (Q9 m 0 (a::t)) (o1,(i:Int)) (o2,(zi:Int)) (out,(k:Int))=some (.go (out++ (if p.Lane_==lane then [⟨(zi:Int),(k:Int),Qu m (a::t) i+p.From,Qu m (a::t) i+p.To⟩]else []),((k+1:Nat):Int))):=by
     unfold Bs;dsimp only;rw [C8 hz,lB,J8 hlt,bM,lB,C8 hp,lB,C8 hx,lB,G4 hlt (by omega)];cases p.Lane_==lane
     ·simp
     ·rw [bM,RouteOK.starts hi,lB,lB,H4 (by omega),H4 (by omega),Ia (by simp;omega)];rfl
   rw [K1 hs,ih (k+1) _ (L4 hk) (by omega) (by rw [lM];split<;>simp<;>omega),Pt,lO]
theorem yF (B:BearM m)(R:RouteOK m a t){i:Nat}{lane:Int}(hx:(a::t)[i]? =some lane)(o1:List Pass):
    ∀(r:List Zone) (zi:Nat) (out:List Pass),m.Zones.drop zi=r→zi≤m.Zones.length→out.length+r.length≤500→
     loop (Bt m (a::t) (Q9 m 0 (a::t)) (o1,(i:Int))) (out,(zi:Int))=some (out++Te lane (Qu m (a::t) i) zi r):=by
  intro r
  induction r with
  |nil=>
   intro zi out hk hkl hl;have:=P3 hk;obtain rfl:zi=m.Zones.length:=by omega
   refine D3 ?_;unfold Bt;rw [H9];simp [Te]
  |cons z r ih=>
   intro zi out hk hkl hl;have hlt:=O3 hk;have hz:=Y3 hk;have Z:=R.val.zoneOK (lG hz);have h6:=Z.six;have hnz:=R.val.zones;simp only [lL]at hl;have h1:=DK lane (Qu m (a::t) i) zi z.Parts 0 (Qs Z.rise);have h3:loop (Bs m (a::t) (Q9 m 0 (a::t)) (o1,(i:Int)) (out,(zi:Int))) (out,0)=_:=yE B R hx zi hz o1 out z.Parts 0 out rfl (by omega) (by omega)
   have hs:Bt m (a::t) (Q9 m 0 (a::t)) (o1,(i:Int)) (out,(zi:Int))=some (.go (out++Pt lane (Qu m (a::t) i) zi 0 z.Parts,((zi+1:Nat):Int))):=by
     unfold Bt;dsimp only;rw [J8 hlt,bM,h3,lB,G4 hlt (by omega)]
   rw [K1 hs,ih (zi+1) _ (L4 hk) (by omega) (by rw [lM];omega),Te,lO]
theorem yG (B:BearM m)(R:RouteOK m a t):
    ∀(r:List Int) (i:Nat) (out:List Pass),(a::t).drop i=r→i≤(a::t).length→out.length+12*r.length≤200→
     loop (Ac m (a::t) (Q9 m 0 (a::t))) (out,(i:Int))=some (out++Ml m (Qu m (a::t) i) r):=by
  have hlen:(Q9 m 0 (a::t)).length=(a::t).length:=Nw _ _ _;intro r
  induction r with
  |nil=>
   intro i out hk hkl hle;have:=P3 hk;have hii:i=(a::t).length:=by omega
   refine D3 ?_;unfold Ac;dsimp only;rw [hlen,hii,H9];simp [Ml]
  |cons x r ih=>
   intro i out hk hkl hle;have hlt:=O3 hk;have hx:=Y3 hk;have hm7:=R.most;have hnz:=R.val.zones;simp only [lL]at hle hlt;have h2:loop (Bt m (a::t) (Q9 m 0 (a::t)) (out,(i:Int))) (out,0)=_:=yF B R hx out m.Zones 0 out rfl (by omega) (by omega)
   have hs:Ac m (a::t) (Q9 m 0 (a::t)) (out,(i:Int))=some (.go (out++Te x (Qu m (a::t) i) 0 m.Zones,((i+1:Nat):Int))):=by
     unfold Ac;dsimp only;rw [hlen,J8 (O3 hk),bM,h2,lB,G4 (O3 hk) (by simp only [lL];omega)]
   have:=DL (m:=m) x (Qu m (a::t) i) m.Zones 0 fun z hz=>R.val.zoneOK hz;rw [K1 hs,ih (i+1) _ (L4 hk) (by simp only [lL];omega) (by rw [lM];omega),Vm hx,Ml,lO]
end
theorem oA (T:List Pass)(x:Pass)(Q:List Pass)(hs:Srt AE Q)(hN:(Q++x::T).length≤1000000):
    ∃Q',loop V9 (Q++x::T,(Q.length:Int))=some (Q'++T)∧Q'.Perm (x::Q)∧Srt AE Q':=by
  have hstop: ∀xs:List Pass,(fun s:Int×List Pass=>(V9 (s.2,s.1)).map xH) ((([]:List Pass).length:Int),xs)=some (.out xs):=fun xs=>by
    show (V9 (xs,0)).map xH=_;unfold V9;rfl
  have hF: ∀(U V:List Pass) (q y:Pass),([]:List Pass).length≤U.length→(U++q::y::V).length=(Q++x::T).length→(fun s:Int×List Pass=>(V9 (s.2,s.1)).map xH) (((U.length:Int)+1),U++q::y::V)=some (if AE y q then .go ((U.length:Int),U++y::q::V)else .out (U++q::y::V)):=fun U V q y _ hl=>by
    show (V9 (U++q::y::V,(U.length:Int)+1)).map xH=_;unfold V9;have hb:U.length+2≤1000000:=by rw [← hl]at hN;simp at hN;omega
    have e1:E5 ((U.length:Int)+1 - 1)=(U.length:Int):=by rw [H4 (by omega)];omega
    have g1:C4 (U++q::y::V) ((U.length:Int)+1)=some y:=by rw [gS];exact Pg _ _ _ _ (by simp)
    have g2:C4 (U++q::y::V) (U.length:Int)=some q:=Pg _ _ _ _ rfl;have s1:Mm (U++q::y::V) ((U.length:Int)+1) q=U++q::q::V:=by rw [gS,Ya _ _ _ _ _ (by simp)];simp
    have g3:C4 (U++q::q::V) (U.length:Int)=some q:=Pg _ _ _ _ rfl;have s2:Mm (U++q::q::V) (U.length:Int) y=U++y::q::V:=Ya _ _ _ _ _ rfl;simp only [show decide (((U.length:Int)+1)>0)=true from bH (by omega),bM,bQ,e1,g1,g2,s1,g3,s2,lB];by_cases h1:y.From<q.From
    ·rw [bH h1,show AE y q=true from bH (.inl h1)];rfl
    ·rw [bI h1];simp only [bV,bM,lB,bQ,bW];by_cases h2:y.From=q.From
     ·rw [show (y.From==q.From)=true by simp [h2]];simp only [bM,lB,bQ];by_cases h3:y.Zone_<q.Zone_
      ·rw [bH h3,show AE y q=true from bH (.inr ⟨h2,h3⟩)];rfl
      ·rw [bI h3,show AE y q=false from bI (by omega)];rfl
     ·rw [show (y.From==q.From)=false by simp [h2],show AE y q=false from bI (by omega)];rfl
  obtain ⟨Q',h1,h2,h3⟩:=JL ltP_ok (F:=fun s:Int×List Pass=>(V9 (s.2,s.1)).map xH) (P:= []) (T:=T) (Q++x::T).length hstop hF x Q.length Q [] rfl (by simpa using hs) (by simp) (by simp);refine ⟨Q',gX _ _ _ _ ?_,by simpa using h2,h3⟩;have e:(((([]:List Pass).length+Q.length:Nat):Int),[]++Q++ [x]++T)=((Q.length:Int),Q++x::T):=by simp
  rw [e]at h1;rw [h1];rfl
theorem tX (A:List Pass)(hN:A.length≤1000000): ∃A',loop Br (A,1)=some A'∧A'.Perm A∧Srt AE A':=by
  have hend: ∀(xs:List Pass) (i:Nat),xs.length≤i→Br (xs,(i:Int))=some (.out xs):=fun xs i hi=>by
    unfold Br;rw [show decide ((i:Int)< (xs.length:Int))=false from bI (by omega)];rfl
  have key: ∀(R Q:List Pass),(Q++R).length≤1000000→Srt AE Q→∃A',loop Br (Q++R,(Q.length:Int))=some A'∧A'.Perm (Q++R)∧Srt AE A':=by
    intro R
    induction R with
    |nil=>
     intro Q hl hs;exact ⟨Q,by rw [lP];exact D3 (hend _ _ (wH _)),by simp,hs⟩
    |cons x R ih=>
     intro Q hl hs;obtain ⟨Q',k1,k2,k3⟩:=oA R x Q hs hl;have hlq:Q'.length=Q.length+1:=by rw [k2.length_eq];simp
     simp only [lM,lL]at hl;obtain ⟨A',g1,g2,g3⟩:=ih Q' (by rw [lM];omega) k3;refine ⟨A',?_,g2.trans ((k2.append_right R).trans (List.perm_middle (a:=x) (l₁:=Q) (l₂:=R)).symm),g3⟩;rw [← g1,hlq];refine K1 ?_;unfold Br;dsimp only;rw [show decide ((Q.length:Int)< ((Q++x::R).length:Int))=true from bH (by simp;omega),bM,k1,lB,H4 (by omega)];congr 2
  cases A with
  |nil=>exact ⟨[],D3 (hend [] 1 (by simp)), .refl _,List.Pairwise.nil⟩
  |cons a A=>
   obtain ⟨A',g1,g2,g3⟩:=key A [a] (by simpa using hN) (List.pairwise_singleton _ _);exact ⟨A',g1,g2,g3⟩
theorem cG {m:Map}(B:BearK m)(r:List Int)(hr:r.length≤1000000): ∃ps,X1 m r=some ps∧Gn m r=some ps∧ps.length≤16:=by
  by_cases q:Q8 m r=0
  ·obtain ⟨a,t,rfl,R⟩:=chkRoute_zero.1 q;obtain ⟨ps,p1,p2,p3,p4⟩:=SH B R;refine ⟨ps,p1,?_,p4⟩;have hm7:=R.most;have hlen:(Ml m 0 (a::t)).length≤16:=by rw [← p2.length_eq];exact p4
   have h1:loop (Ac m (a::t) (Q9 m 0 (a::t))) ([],0)=some (Ml m 0 (a::t)):=by
     have:=yG B.toBearM R (a::t) 0 [] rfl (by omega) (by simp;omega);rw [lQ,CL]at this;exact this
   obtain ⟨A',g1,g2,g3⟩:=tX (Ml m 0 (a::t)) (by omega);have:ps=A':=XX p3 g3 (p2.trans g2.symm) fun x hx y hy=>gY R x (p2.mem_iff.1 hx) y (p2.mem_iff.1 hy);unfold Gn;rw [Zl B.toBearM _ hr,lB,show StartsM m (a::t)=Q9 m 0 (a::t) by unfold StartsM;rw [R.follow],h1,lB,g1,this];rfl
  ·refine ⟨[],?_,?_,by simp⟩
   ·have h1:loop (P7 m (Bx m r)) ([],0)=some []:=by
      refine D3 ?_;unfold P7;rw [Vn q];rfl
    unfold X1;rw [Tz B.toBearM r hr,lB,h1,lB,GB];rfl
   ·have h1:loop (Ac m r []) ([],0)=some []:=D3 rfl;obtain ⟨A',g1,g2,_⟩:=tX [] (by simp);obtain rfl:A'= []:=List.length_eq_zero_iff.1 g2.length_eq;unfold Gn;rw [Zl B.toBearM r hr,lB,StartsM,Vn q];dsimp only;rw [h1,lB,g1];rfl
def AF (b:Int):Nat→Int→Int
  |0,_=>0
  |n+1,v=>if v≤b then 0 else (v - b)+AF b n (v - b)
def KT (v b:Int):Int:=AF b v.toNat v
theorem PG {b:Int}(hb:0<b): ∀(n m:Nat) (v:Int),v≤n→v≤m→AF b n v=AF b m v
  |0,0,_,_,_=>rfl
  |0,m+1,v,h,_=>by rw [AF,AF,bO (by omega)]
  |n+1,0,v,_,h=>by rw [AF,AF,bO (by omega)]
  |n+1,m+1,v,h1,h2=>by
   rw [AF,AF];by_cases h:v≤b
   ·rw [bO h,bO h]
   ·rw [bP h,bP h,PG hb n m _ (by omega) (by omega)]
theorem XY {v b:Int}(h:v≤b):KT v b=0:=by
  unfold KT;cases v.toNat with
  |zero=>rfl
  |succ n=>rw [AF,bO h]
theorem gZ {v b:Int}(hb:0<b)(h:b<v):KT v b=(v - b)+KT (v - b) b:=by
  unfold KT;obtain ⟨n,hn⟩: ∃n,v.toNat=n+1:=⟨v.toNat - 1,by omega⟩;rw [hn,AF,bP (by omega),PG hb n (v - b).toNat _ (by omega) (by omega)]
theorem oC {P:Int→Prop}{b:Int}(hb:0<b)(h0: ∀v,v≤b→P v)(h1: ∀v,b<v→P (v - b)→P v)(v:Int):P v:=by
  have key: ∀(n:Nat) (v:Int),v≤n→P v:=by
    intro n
    induction n with
    |zero=>intro v hv;exact h0 v (by omega)
    |succ n ih=>
     intro v hv;by_cases h:v≤b
     ·exact h0 v h
     ·exact h1 v (by omega) (ih _ (by omega))
  exact key v.toNat v (by omega)
theorem oF (n:Int):(n* (n+1)) % 2=0:=by
  rcases (show n % 2=0∨n % 2=1 by omega)with h|h
  ·rw [Int.mul_emod,h];simp
  ·rw [Int.mul_emod,Int.add_emod,h];simp
theorem cH {b:Int}(hb:0<b)(v:Int)(hv:1≤v):2*KT v b=2* ((v - 1) / b*v) - b* ((v - 1) / b* ((v - 1) / b+1)):=by
  revert hv;refine oC (P:=fun v=>1≤v→2*KT v b=2* ((v - 1) / b*v) - b* ((v - 1) / b* ((v - 1) / b+1))) hb (fun v h hv=> ?_) (fun v h ih hv=> ?_) v
  ·have:(v - 1) / b=0:=Int.ediv_eq_zero_of_lt (by omega) (by omega);rw [XY h,this];simp
  ·have ih:=ih (by omega)
   have e:(v - 1) / b=(v - b - 1) / b+1:=by
     rw [show v - 1=(v - b - 1)+b*1 by omega,Int.add_mul_ediv_left _ _ (by omega)]
   rw [gZ hb h,e];generalize (v - b - 1) / b=n at ih ⊢;rw [Int.mul_add,ih];have a1:(n+1)*v=n*v+v:=by rw [Int.add_mul,Int.one_mul]
   have a2:n* (v - b)=n*v - n*b:=Int.mul_sub ..
   have a3:b* ((n+1)* (n+1+1))=b* (n* (n+1))+2* (n*b)+2*b:=by
     rw [show (n+1)* (n+1+1)=n* (n+1)+2*n+2 by
      rw [Int.add_mul,Int.mul_add n,Int.one_mul];omega,Int.mul_add,Int.mul_add,Int.mul_left_comm b 2 n,Int.mul_comm b n,Int.mul_comm b 2]
   rw [a1,a2,a3];omega
def PH (v b:Int):Int:=if v<1∨b<1 then 0 else KT (min v 1000000) (min b 1000000)
theorem eM (v b:Int):Nl v b=some (PH v b):=by
  unfold Nl PH;rw [Qz,Qz];by_cases h:v<1∨b<1
  ·rw [bO h,show (decide (v<1)||decide (b<1))=true by simpa using h];rfl
  ·rw [bP h,show (decide (v<1)||decide (b<1))=false by simpa using h,bN];have hV:1≤min v 1000000∧min v 1000000≤1000000:=by omega
   have hB:1≤min b 1000000∧min b 1000000≤1000000:=by omega
   generalize min v 1000000=V at hV ⊢;generalize min b 1000000=B at hB ⊢;have hq0:0≤(V - 1) / B:=Int.ediv_nonneg (by omega) (by omega);have hq1:(V - 1) / B≤V - 1:=Int.ediv_le_self _ (by omega);have hq2:B* ((V - 1) / B)≤V - 1:=Int.mul_ediv_self_le (by omega);have hf:=cH (b:=B) (by omega) V hV.1;unfold TW;rw [H4 (by omega),bP (by omega),lB,wP (by omega)];generalize (V - 1) / B=n at hq0 hq1 hq2 hf ⊢;have e0:IntKind.i64.wrap n=n:=H4 (by omega);rw [e0];have b1:0≤n*V∧n*V≤1000000*1000000:=⟨wO hq0 (by omega),Int.mul_le_mul (by omega) hV.2 (by omega) (by omega)⟩;have b2:0≤n* (n+1)∧n* (n+1)≤1000000*1000000:=⟨wO hq0 (by omega),Int.mul_le_mul (by omega) (by omega) (by omega) (by omega)⟩
   have b3:0≤B* (n* (n+1))∧B* (n* (n+1))≤1000000*1000000:=by
     refine ⟨wO (by omega) b2.1,?_⟩;rw [← Int.mul_assoc];exact Int.mul_le_mul (by omega) (by omega) (by omega) (by omega)
   have he:=oF n
   have b4:B* (n* (n+1))=2* (B* (n* (n+1) / 2)):=by
     rw [Int.mul_left_comm 2 B,Int.mul_ediv_cancel' (Int.dvd_of_emod_eq_zero he)]
   rw [H4 (n:=n+1) (by omega),H4 (n:=n* (n+1)) (by omega),H4 (n:=n*V) (by omega),wP b2.1,H4 (n:=n* (n+1) / 2) (by omega),H4 (n:=B* (n* (n+1) / 2)) (by omega)];congr 1;rw [H4 (by omega)];omega
structure SmallS (s:State):Prop where
  agents:s.Agents.length≤10
  ins:s.In.length≤20
  routes: ∀a∈s.Agents,a.Route.length≤10
theorem CM {α:Type}{l:List α}(h:l.length≤1000000):X3 ([]:List α) l=some l:=by
  rw [Ia (by simp;omega),lQ]
structure SizeS (s:State):Prop where
  agents:s.Agents.length≤1000
  ins:s.In.length≤1000000
  routes: ∀a∈s.Agents,a.Route.length≤1000
theorem SmallS.size {s:State}(h:SmallS s):SizeS s:=⟨by have:=h.agents;omega,by have:=h.ins;omega,fun a ha=>by have:=h.routes a ha;omega⟩
theorem SJ (F:Int×State→Option (Stp (Int×State) State))(s:State)(h:SizeS s)(l0:List Stay)
    (hF: ∀(i:Nat) (a:Agent) (t:State),s.Agents[i]? =some a→F ((i:Int),t)=(X3 t.Agents [a]).bind fun v=>some (.go (E5 ((i:Int)+1),⟨t.Tick,v,t.In⟩))) (h0: ∀t:State,F ((s.Agents.length:Int),t)=some (.out t)):
    loop F (0,⟨s.Tick,[],l0⟩)=some ⟨s.Tick,s.Agents,l0⟩:=by
  have key: ∀(r:List Agent) (i:Nat),s.Agents.drop i=r→i≤s.Agents.length→loop F ((i:Int),⟨s.Tick,s.Agents.take i,l0⟩)=some ⟨s.Tick,s.Agents,l0⟩:=by
    intro r
    induction r with
    |nil=>
     intro i hi hil;have:=P3 hi;obtain rfl:i=s.Agents.length:=by omega
     rw [D3 (h0 _),List.take_length]
    |cons a r ih=>
     intro i hi hil;have hlt:=O3 hi;have ha:=Y3 hi;have hh:=h.agents;rw [K1 (s':=(((i+1:Nat):Int),⟨s.Tick,s.Agents.take (i+1),l0⟩)),ih (i+1) (L4 hi) hlt];rw [hF i a _ ha,Ia (by rw [lV];simp;omega),lB,G4 hlt (by omega),List.take_add_one,ha];rfl
  exact key s.Agents 0 rfl (by omega)
theorem oG {s:State}(h:SizeS s):ON s=some s:=by
  unfold ON;rw [CM h.ins,lB,SJ (Rf s) s h s.In (fun i a t ha=> ?_) (fun t=>by unfold Rf;dsimp only;rw [H9];rfl)]
  ·rfl
  ·unfold Rf;dsimp only;rw [J8 (G1 ha),C8 ha,bM,lB,CM (by have:=h.routes a (lG ha);omega),lB]
theorem hJ {l:List Int}(h:l.length≤1000000):Lc l=some l:=CM h
theorem KU {a:Agent}(h:a.Route.length≤1000):Er a=some a:=by
  unfold Er;rw [hJ (by omega),lB]
theorem sN {s:State}(h:SizeS s):Jj s=some s:=by
  unfold Jj;rw [show Au s.In=some s.In from CM h.ins,lB,SJ (Kl s) s h s.In (fun i a t ha=> ?_) (fun t=>by unfold Kl;dsimp only;rw [H9];rfl)]
  ·rfl
  ·unfold Kl;dsimp only;rw [J8 (G1 ha),C8 ha,bM,lB,KU (h.routes a (lG ha)),lB]
def Vo (S:Int):Nat→Nat→List Int→Nat
  |_,b,[]=>b
  |i,b,x::r=>Vo S (i+1) (if x≤S then i else b) r
theorem XZ (st:List Int)(S:Int): ∀(r:List Int) (i b:Nat),st.drop i=r→i≤st.length→(i=0→b=0)→(0<i→b<i∧(∃y,st[b]? =some y∧y≤S)∧∀(j:Nat) y,b<j→j<i→st[j]? =some y→S<y)→(∃y,st[0]? =some y∧y≤S)→
    (∃y,st[Vo S i b r]? =some y∧y≤S)∧∀(j:Nat) y,Vo S i b r<j→st[j]? =some y→S<y:=by
  intro r
  induction r with
  |nil=>
   intro i b hi hil h0 h1 hne;have:=P3 hi;obtain ⟨y0,g0,_⟩:=hne;have:=G1 g0;obtain ⟨q1,q2,q3⟩:=h1 (by omega);exact ⟨q2,fun j y hj hy=>q3 j y hj (by have:=G1 hy;omega) hy⟩
  |cons x r ih=>
   intro i b hi hil h0 h1 hne;have hx:=Y3 hi;have hlt:=O3 hi;unfold Vo;refine ih (i+1) _ (L4 hi) hlt (by omega) (fun _=> ?_) hne;by_cases q:x≤S
   ·rw [bO q];exact ⟨by omega,⟨x,hx,q⟩,fun j y h2 h3=>by omega⟩
   ·rw [bP q];by_cases z:i=0
    ·subst z;obtain ⟨y0,g0,g1⟩:=hne;rw [hx]at g0;cases g0;exact absurd g1 q
    ·obtain ⟨q1,q2,q3⟩:=h1 (by omega);refine ⟨by omega,q2,fun j y h2 h3 hy=> ?_⟩;by_cases e:j=i
     ·subst e;rw [hx]at hy;cases hy;omega
     ·exact q3 j y h2 (by omega) hy
theorem hO {st:List Int}{S:Int}(hne: ∃y,st[0]? =some y∧y≤S):(∃y,st[Vo S 0 0 st]? =some y∧y≤S)∧∀(j:Nat) y,Vo S 0 0 st<j→st[j]? =some y→S<y:=
  XZ st S st 0 0 rfl (by omega) (fun _=>rfl) (fun h=>by omega) hne
theorem sO (g:Agent)(st:List Int)(hl:st.length≤1000000): ∀(r:List Int) (i b:Nat),st.drop i=r→i≤st.length→loop (Hj g st) ((b:Int),(i:Int))=some ((Vo g.S i b r:Nat):Int):=by
  intro r
  induction r with
  |nil=>
   intro i b hi hil;have:=P3 hi;obtain rfl:i=st.length:=by omega
   exact D3 (by unfold Hj;dsimp only;rw [H9];rfl)
  |cons x r ih=>
   intro i b hi hil;have hx:=Y3 hi;have hlt:=O3 hi;unfold Vo;by_cases q:x≤g.S
   ·rw [bO q,K1 (s':=((i:Int),((i+1:Nat):Int))),ih (i+1) i (L4 hi) hlt];unfold Hj;dsimp only;rw [J8 hlt,C8 hx,bM,lB,bH q,bM,G4 hlt (by omega)]
   ·rw [bP q,K1 (s':=((b:Int),((i+1:Nat):Int))),ih (i+1) b (L4 hi) hlt];unfold Hj;dsimp only;rw [J8 hlt,C8 hx,bM,lB,bI q,bN,G4 hlt (by omega)]
theorem hQ (g:Agent)(st:List Int)(hl:st.length≤1000000)(k:Nat)(hk: ∃y,st[k]? =some y∧y≤g.S)(hj: ∀(j:Nat) y,k<j→st[j]? =some y→g.S<y): ∀(n i:Nat),i=k+n→i<st.length→loop (Km g st) (i:Int)=some (k:Int):=by
  intro n
  induction n with
  |zero=>
   intro i hi hil;obtain ⟨y,h1,h2⟩:=hk;obtain rfl:i=k:=by omega
   exact D3 (by unfold Km;rw [C8 h1,lB,bI (show ¬y>g.S by omega)];rfl)
  |succ n ih=>
   intro i hi hil;have h1:st[i]? =some st[i]:=lH hil;have h2:=hj i _ (by omega) h1;rw [K1 (s':=((i - 1:Nat):Int)) (by unfold Km;rw [C8 h1,lB,bH (show st[i]>g.S by omega),bM,H4 (by omega)];congr 2;omega)];exact ih (i - 1) (by omega) (by omega)
noncomputable def QR (m:Map)(g:Agent):Nat:=Vo g.S 0 0 (StartsM m g.Route)
noncomputable def Ht (m:Map)(g:Agent):Int×Int:=(g.Route.getD (QR m g) 0,g.S - (StartsM m g.Route).getD (QR m g) 0)
theorem RouteOK.StartsM {m:Map}{a:Int}{t:List Int}(R:RouteOK m a t):StartsM m (a::t)=Q9 m 0 (a::t):=by unfold World.StartsM;rw [R.follow]
theorem RouteOK.LongM {m:Map}{a:Int}{t:List Int}(R:RouteOK m a t):LongM m (a::t)=Qu m (a::t) (a::t).length:=by unfold World.LongM;rw [R.follow]
theorem JP {m:Map}{a:Int}{t:List Int}(R:RouteOK m a t){g:Agent}(hg:g.Route=a::t)(h0:0≤g.S):
    ∃x,QR m g< (a::t).length∧(a::t)[QR m g]? =some x∧Ht m g=(x,g.S - Qu m (a::t) (QR m g))∧Qu m (a::t) (QR m g)≤g.S∧(∀j,QR m g<j→j< (a::t).length→g.S<Qu m (a::t) j):=by
  have hl:=Nw m (a::t) 0;have h00:(Q9 m 0 (a::t))[0]? =some 0:=by rw [Q9];rfl
  obtain ⟨⟨y,y1,y2⟩,y3⟩:=hO (st:=Q9 m 0 (a::t)) (S:=g.S) ⟨0,h00,h0⟩;have e:QR m g=Vo g.S 0 0 (Q9 m 0 (a::t)):=by unfold QR;rw [hg,R.StartsM]
  rw [← e]at y1 y3;have hlt:=G1 y1;rw [hl]at hlt
  have hy:y=Qu m (a::t) (QR m g):=by
    have:=Nx m (a::t) 0 (QR m g) hlt;rw [y1,Int.zero_add]at this;exact lD this
  refine ⟨(a::t)[QR m g],hlt,lH hlt,?_,by omega,fun j hj hjl=> ?_⟩
  ·unfold Ht;rw [hg,R.StartsM,List.getD,List.getD,lH hlt,y1,hy];rfl
  ·have:=Nx m (a::t) 0 j hjl;rw [Int.zero_add]at this;exact y3 j _ hj this
theorem YA {m:Map}(B:BearM m){a:Int}{t:List Int}(R:RouteOK m a t){g:Agent}(hg:g.Route=a::t)(h0:0≤g.S)(h1:g.S≤9223372036854775807):Jk m g=some (Ht m g)∧Ur m g=some (Ht m g):=by
  obtain ⟨x,q1,q2,q3,q4,q5⟩:=JP R hg h0;have hm7:=R.most;have hr:g.Route.length≤1000000:=by rw [hg];simp;omega
  have hl:=Nw m (a::t) 0;have hbd:=R.bd (i:=QR m g) (by omega);have hs:C4 (Q9 m 0 (a::t)) ((QR m g:Nat):Int)=some (Qu m (a::t) (QR m g)):=RouteOK.starts q1;have hk:(Q9 m 0 (a::t))[QR m g]? =some (Qu m (a::t) (QR m g)):=by rw [Nx m _ 0 _ q1,Int.zero_add];rfl
  constructor
  ·unfold Jk;rw [JN B _ hr,lB,hg,R.StartsM];have hn:E5 (((Q9 m 0 (a::t)).length:Int) - 1)=((t.length:Nat):Int):=by rw [hl,H4 (by simp;omega)];simp
   rw [hn,hQ g _ (by rw [hl];simp;omega) (QR m g) ⟨_,hk,q4⟩ (fun j y hj hy=>by
    have hjl:=G1 hy;rw [hl]at hjl;have:=Nx m (a::t) 0 j hjl;rw [hy,Int.zero_add]at this;cases this
    exact q5 j hj hjl) (t.length - QR m g) t.length (by simp only [lL]at q1;omega) (by rw [hl];simp),lB,C8 q2,lB,hs,lB,q3,H4 (by omega)]
  ·unfold Ur;rw [Zl B _ hr,lB,hg,R.StartsM];have:=sO g (Q9 m 0 (a::t)) (by rw [hl];simp;omega) (Q9 m 0 (a::t)) 0 0 rfl (by omega);have e:QR m g=Vo g.S 0 0 (Q9 m 0 (a::t)):=by unfold QR;rw [hg,R.StartsM]
   rw [← e]at this;rw [show ((0:Int),(0:Int))=(((0:Nat):Int),((0:Nat):Int)) from rfl,this,lB,C8 q2,lB,hs,lB,q3,H4 (by omega)]
noncomputable def Dr (m:Map)(x:Int):Int:=((m.Lanes[x.toNat]?).map (·.Kind)).getD 0
noncomputable def Zm (m:Map)(g:Agent):Int×Int×Int:=Y2 (Dr m (Ht m g).1)
noncomputable def Yb (m:Map)(g:Agent):Bool:=decide (E5 (g.S - g.Len)>LongM m g.Route)
def US (g:Agent):Bool:=(((decide (g.Len<300)||decide (g.Len>20000))||decide (g.Begin<0))||decide (g.Begin>1099511627776))||decide (g.S<0)
noncomputable def Fe (m:Map)(s:State)(i:Int)(g:Agent):Int:=
  if Q8 m g.Route=0 then
   if US g=true∨g.S>LongM m g.Route+g.Len+2000 then 2
   else if g.V<0∨g.V>(Zm m g).1 then 2
   else if g.Gone≠Yb m g∨(g.Begin>s.Tick∧g.S≠0)∨(i=0∧g.Begin≠0)then 10 else 0
  else 13
theorem Pi {m:Map}{a:Int}{t:List Int}(R:RouteOK m a t):1000≤LongM m (a::t)∧LongM m (a::t)≤134217728:=by
  have h1:=R.bd (wH _);have h2:=R.lt (i:=0) (j:=(a::t).length) (by simp) (wH _);rw [CL]at h2;rw [R.LongM];omega
theorem UT {m:Map}(B:BearM m){g:Agent}(hr:g.Route.length≤1000000):Gx m g=some (Yb m g)∧Qk m g=some (Yb m g):=by
  constructor
  ·unfold Gx Aw;rw [lB,eK B _ hr];rfl
  ·unfold Qk;rw [PF B _ hr];rfl
theorem SK {m:Map}{a:Int}{t:List Int}(R:RouteOK m a t){g:Agent}(hg:g.Route=a::t)(h0:0≤g.S): ∃l,C4 m.Lanes (Ht m g).1=some l∧Dr m (Ht m g).1=l.Kind∧m.Lanes[(Ht m g).1.toNat]? =some l:=by
  obtain ⟨x,q1,q2,q3,_⟩:=JP R hg h0;have hx:=R.mem (lG q2);have hl:m.Lanes[x.toNat]? =some m.Lanes[x.toNat]:=lH (by omega);have hg:=C8 hl;rw [wG hx.1]at hg;refine ⟨_,by rw [q3];exact hg,?_,by rw [q3];exact hl⟩;rw [q3];unfold Dr;dsimp only;rw [hl];rfl
theorem PI {g:Agent}(h:US g=false):300≤g.Len∧g.Len≤20000∧0≤g.Begin∧g.Begin≤1099511627776∧0≤g.S:=by
  unfold US at h;simp only [bY,wA]at h;omega
theorem YB {m:Map}(B:BearM m)(s:State){i:Int}{g:Agent}(hi:C4 s.Agents i=some g)(hr:g.Route.length≤1000)(hS:g.S≤9223372036854775807):
    Ai m s i=some (Fe m s i g)∧Im m s i=some (Fe m s i g):=by
  have hr':g.Route.length≤1000000:=by omega
  unfold Ai Im Fe;rw [hi,lB,lB,EP B _ hr',Ph B _ hr',lB,lB];by_cases q:Q8 m g.Route=0
  case neg=>
    rw [bP q,show (Q8 m g.Route !=0)=true by simpa using q];exact ⟨rfl,rfl⟩
  rw [bO q,q,show ((0:Int) !=0)=false from rfl,bN,bN];obtain ⟨a,t,ht,R⟩:=chkRoute_zero.1 q;have hL:=Pi R;rw [← ht]at hL;rw [eK B _ hr',PF B _ hr'];have e:((((decide (g.Len<300)||decide (g.Len>20000))||decide (g.Begin<0))||decide (g.Begin>1099511627776))||decide (g.S<0))=US g:=rfl;rw [e];by_cases o:US g=true
  ·rw [bO (.inl o),o];exact ⟨rfl,rfl⟩
  have o':US g=false:=by simpa using o
  obtain ⟨o1,o2,o3,o4,o5⟩:=PI o';rw [o',bV,bM,lB,lB,bW,H4 (n:=LongM m g.Route+g.Len) (by omega),H4 (n:=LongM m g.Route+g.Len+2000) (by omega)];by_cases l:g.S>LongM m g.Route+g.Len+2000
  ·rw [bO (.inr l),bH l];exact ⟨rfl,rfl⟩
  rw [bP (fun h=>h.elim (fun h=>by cases h) l),bI l,bN,bN];obtain ⟨l1,l2⟩:=YA B R ht o5 hS;obtain ⟨ln,k1,k2,_⟩:=SK R ht o5;rw [l1,l2,lB,lB,k1,lB,lB,Xv,Zg,lB,lB];have ev:(Zm m g).1=(Y2 ln.Kind).1:=by unfold Zm;rw [k2]
  rw [ev];by_cases v:g.V<0∨g.V>(Y2 ln.Kind).1
  ·rw [bO v,show (decide (g.V<0)||decide (g.V>(Y2 ln.Kind).1))=true by simpa using v];exact ⟨rfl,rfl⟩
  rw [bP v,show (decide (g.V<0)||decide (g.V>(Y2 ln.Kind).1))=false by rw [bX];simpa using v,bN,bN,(UT B hr').1,(UT B hr').2,lB,lB]
  have hb: ∀b:Bool,(b=true↔g.Gone≠Yb m g∨(g.Begin>s.Tick∧g.S≠0)∨(i=0∧g.Begin≠0))→cond b (some (10:Int)) (some 0)=some (if g.Gone≠Yb m g∨(g.Begin>s.Tick∧g.S≠0)∨(i=0∧g.Begin≠0)then 10 else 0):=by
    intro b hb;by_cases h:g.Gone≠Yb m g∨(g.Begin>s.Tick∧g.S≠0)∨(i=0∧g.Begin≠0)
    ·rw [bO h,hb.2 h];rfl
    ·rw [bP h];cases b
     ·rfl
     ·exact absurd (hb.1 rfl) h
  exact ⟨hb _ (by simp),hb _ (by simp [or_assoc])⟩
def Fm (a b:Stay):Bool:=decide (a.Agent_<b.Agent_)||(a.Agent_==b.Agent_&&decide (a.Zone_<b.Zone_))
theorem cI (a b:Int):Cd [a,b]=some (if a≠0 then a else b):=by
  unfold Cd;by_cases h:a=0
  ·subst h;rw [K1 (s':=1) rfl,bP (by simp)];by_cases h:b=0
   ·subst h;rw [K1 (s':=2) rfl,D3 (t:= .inl ()) rfl];rfl
   ·rw [D3 (t:= .inr b) (by unfold Ap;rw [show C4 [(0:Int),b] 1=some b from rfl,lB,show (b !=0)=true by simpa using h];rfl)];rfl
  ·rw [D3 (t:= .inr a) (by unfold Ap;rw [show C4 [a,b] 0=some a from rfl,lB,show (a !=0)=true by simpa using h];rfl),bO h];rfl
def QS (a b:Stay):Int:=if IE a.Agent_ b.Agent_≠0 then IE a.Agent_ b.Agent_ else IE a.Zone_ b.Zone_
theorem PJ (a b:Stay):Eb a b=some (QS a b):=by
  unfold Eb QS;rw [Vl,lB,Vl,lB,cI,lB]
theorem YC (a b:Stay):decide (QS a b≥0)= !Fm a b:=by
  unfold QS Fm IE;by_cases h1:a.Agent_<b.Agent_
  ·simp [h1]
  ·by_cases h2:a.Agent_>b.Agent_
   ·have:a.Agent_≠b.Agent_:=by omega
    simp [h1,h2,this]
   ·have:a.Agent_=b.Agent_:=by omega
    by_cases h3:a.Zone_<b.Zone_
    ·simp [this,h3]
    ·by_cases h4:a.Zone_>b.Zone_
     ·simp [this,h3,h4]
     ·simp [this,h3,h4]
def Yc (m:Map)(s:State)(x:Stay):Bool:=((decide (x.Agent_<0)||decide (x.Agent_≥(s.Agents.length:Int)))||decide (x.Zone_<0))||decide (x.Zone_≥(m.Zones.length:Int))
def iZ (m:Map)(s:State)(i:Nat)(x:Stay):Option Int:=if Yc m s x=true∨(0<i∧∃y,s.In[i - 1]? =some y∧Fm y x=false)then some 11 else none
def Vp (s:State)(x:Stay):Bool:=((decide (x.Since<0)||decide (x.Since>s.Tick))||decide (x.Rank<0))||decide (x.Rank>100)
noncomputable def Vq (m:Map)(s:State):Int:=
  if Xy m=0 then
   if s.Tick<0∨s.Tick>1099511627776 then 2 else if s.Agents.length=0 then 6 else if 8<s.Agents.length then 8
   else match J0 (fun i g=>if Fe m s (i:Int) g=0 then none else some (Fe m s (i:Int) g)) 0 s.Agents with
     |some e=>e
     |none=>match J0 (iZ m s) 0 s.In with
      |some e=>e
      |none=>if s.In.any (Vp s)=true then 2 else 0
  else Xy m
theorem YD {m:Map}(B:BearM m){s:State}(h:SizeS s)(hw: ∀g∈s.Agents,g.S≤9223372036854775807):
    loop (Ay m s) 0=some (LU (J0 (fun i g=>if Fe m s (i:Int) g=0 then none else some (Fe m s (i:Int) g)) 0 s.Agents))∧
    loop (Iq m s) 0=some (LU (J0 (fun i g=>if Fe m s (i:Int) g=0 then none else some (Fe m s (i:Int) g)) 0 s.Agents)):=by
  have hh:=h.agents;constructor
  ·refine Z7 s.Agents _ _ (fun i g hg=> ?_) (by unfold Ay;rw [H9];rfl);have hm:=lG hg;unfold Ay;rw [J8 (G1 hg),bM,(YB B s (C8 hg) (h.routes g hm) (hw g hm)).1,lB];by_cases q:Fe m s (i:Int) g=0
   ·rw [bO q,q,show ((0:Int) !=0)=false from rfl,bN,G4 (G1 hg) (by omega)]
   ·rw [bP q,show (Fe m s (i:Int) g !=0)=true by simpa using q];rfl
  ·refine Z7 s.Agents _ _ (fun i g hg=> ?_) (by unfold Iq;rw [H9];rfl);have hm:=lG hg;unfold Iq;rw [J8 (G1 hg),bM,(YB B s (C8 hg) (h.routes g hm) (hw g hm)).2,lB];by_cases q:Fe m s (i:Int) g=0
   ·rw [bO q,q,show ((0:Int) !=0)=false from rfl,bN,G4 (G1 hg) (by omega)]
   ·rw [bP q,show (Fe m s (i:Int) g !=0)=true by simpa using q];rfl
theorem YE {α:Type}{l:List α}{i:Nat}{a:α}(h:l[i]? =some a)(h0:0<i): ∃y,l[i - 1]? =some y∧C4 l (E5 ((i:Int) - 1))=some y∨1000000000000<i:=by
  by_cases hb:1000000000000<i
  ·exact ⟨a, .inr hb⟩
  ·have:=G1 h;have e:l[i - 1]? =some l[i - 1]:=lH (by omega);refine ⟨_, .inl ⟨e,?_⟩⟩;rw [H4 (by omega),show (i:Int) - 1=((i - 1:Nat):Int) by omega];exact C8 e
theorem oH (m:Map){s:State}(h:SizeS s):
    loop (Ax m s) 0=some (LU (J0 (iZ m s) 0 s.In))∧loop (Ip m s) 0=some (LU (J0 (iZ m s) 0 s.In)):=by
  have hh:=h.ins;constructor
  ·refine Z7 s.In _ _ (fun i x hx=> ?_) (by unfold Ax;rw [H9];rfl);have hi:=G1 hx;unfold Ax;rw [J8 hi,bM,C8 hx,lB];have e:(((decide (x.Agent_<0)||decide (x.Agent_≥(s.Agents.length:Int)))||decide (x.Zone_<0))||decide (x.Zone_≥(m.Zones.length:Int)))=Yc m s x:=rfl;rw [e];unfold iZ;by_cases hb:Yc m s x=true
   ·rw [hb,bO (.inl rfl)];rfl
   have hb':Yc m s x=false:=by simpa using hb
   rw [hb',bV,bQ];by_cases h0:0<i
   ·obtain ⟨y,hy⟩:=YE hx h0;rcases hy with ⟨y1,y2⟩|hy
    ·rw [bH (show (i:Int)>0 by omega),bM,y2,lB,bM,PJ,lB,bW,bQ,YC];by_cases q:Fm y x=true
     ·rw [q,bP (by rintro (h|⟨_,z,z1,z2⟩);exact (by cases h);rw [y1]at z1;cases z1;rw [q]at z2;cases z2),bU,bN,G4 hi (by omega)]
     ·have q':Fm y x=false:=by simpa using q
      rw [q',bO (.inr ⟨h0,y,y1,q'⟩)];rfl
    ·omega
   ·rw [bI (show ¬(i:Int)>0 by omega),bN,lB,bN,lB,bW,bR,bN,bP (by rintro (h|⟨h,_⟩);exact (by cases h);exact h0 h),G4 hi (by omega)]
  ·refine Z7 s.In _ _ (fun i x hx=> ?_) (by unfold Ip;rw [H9];rfl);have hi:=G1 hx;unfold Ip;rw [J8 hi,bM,C8 hx,lB];have e:(((decide (x.Agent_<0)||decide (x.Agent_≥(s.Agents.length:Int)))||decide (x.Zone_<0))||decide (x.Zone_≥(m.Zones.length:Int)))=Yc m s x:=rfl;rw [e];unfold iZ;by_cases hb:Yc m s x=true
   ·rw [hb,bO (.inl rfl)];rfl
   have hb':Yc m s x=false:=by simpa using hb
   rw [hb',bN];by_cases h0:0<i
   ·obtain ⟨y,hy⟩:=YE hx h0;rcases hy with ⟨y1,y2⟩|hy
    ·rw [bH (show (i:Int)>0 by omega),bM,y2,lB,bQ];have hc: ∀b:Bool,(cond b (some y) (some default)).bind (fun v=>some v)=some (cond b y default):=by intro b;cases b<;>rfl
     by_cases q1:x.Agent_<y.Agent_
     ·rw [bH q1,bO (.inr ⟨h0,y,y1,by unfold Fm;simp;omega⟩)];rfl
     ·rw [bI q1,bV,bM,lB,bQ];by_cases q2:x.Agent_=y.Agent_
      ·rw [show (x.Agent_==y.Agent_)=true by simpa using q2,bM,lB,bW,bQ,bQ];by_cases q3:x.Zone_≤y.Zone_
       ·rw [bH q3,bO (.inr ⟨h0,y,y1,by unfold Fm;simp;omega⟩)];rfl
       ·rw [bI q3,bP (by rintro (h|⟨_,z,z1,z2⟩);exact (by cases h);rw [y1]at z1;cases z1;unfold Fm at z2;simp at z2;omega),bN,G4 hi (by omega)]
      ·rw [show (x.Agent_==y.Agent_)=false by simpa using q2,bN,lB,bW,bQ,bR,bN,bP (by rintro (h|⟨_,z,z1,z2⟩);exact (by cases h);rw [y1]at z1;cases z1;unfold Fm at z2;simp at z2;omega),G4 hi (by omega)]
    ·omega
   ·rw [bI (show ¬(i:Int)>0 by omega),bN,lB];simp only [bR,bN,lB];rw [bP (by rintro (h|⟨h,_⟩);exact (by cases h);exact h0 h),G4 hi (by omega)]
theorem Pj {α:Type}(l:List α)(P:α→Bool)(F:Int→Option (Stp Int (Sum Unit Int)))(hl:l.length≤1000000000)(hF: ∀(i:Nat) a,l[i]? =some a→F (i:Int)=some (if P a then .out (.inr (i:Int))else .go (E5 ((i:Int)+1))))(h0:F (l.length:Int)=some (.out (.inl ()))):
    (thenS (loop F 0) (fun _=>some (-1)) (fun r=>some r)).bind (fun v=>some (decide (v≥0)))=some (l.any P):=by
  rw [OV l P hl hF h0];have:=Xw P l;unfold HZ at this;cases hq:l.findIdx? P with
  |some i=>rw [hq]at this;show some _=_;rw [← this]
  |none=>rw [hq]at this;show some _=_;rw [← this]
theorem sP {s:State}(h:SizeS s):G0 s.In s=some (s.In.any (Vp s)):=by
  have hh:=h.ins;unfold G0 K6;refine Pj s.In (Vp s) _ (by omega) (fun i x hx=> ?_) (by unfold N0;rw [H9];rfl);unfold N0 Nd;rw [J8 (G1 hx),C8 hx,bM,lB,lB];have e:(((decide (x.Since<0)||decide (x.Since>s.Tick))||decide (x.Rank<0))||decide (x.Rank>100))=Vp s x:=rfl;rw [e];cases Vp s x<;>rfl
theorem oI {s:State}(h:SizeS s):thenS (loop (Io s) 0) (fun _=>some 0) (fun r=>some r)=some (if s.In.any (Vp s)=true then 2 else 0):=by
  have hh:=h.ins;rw [Z7 s.In _ (fun _ x=>if Vp s x=true then some 2 else none) (fun i x hx=> ?_) (by unfold Io;rw [H9];rfl)]
  ·by_cases q:s.In.any (Vp s)=true
   ·rw [bO q];cases hf:J0 (fun _ x=>if Vp s x=true then some (2:Int)else none) 0 s.In with
    |some e=>
     have: ∀(l:List Stay) (i:Nat),J0 (fun _ x=>if Vp s x=true then some (2:Int)else none) i l=some e→e=2:=by
       intro l
       induction l with
       |nil=>intro i h;cases h
       |cons a l ih=>
        intro i h;unfold J0 at h;by_cases z:Vp s a=true
        ·rw [bO z]at h;cases h;rfl
        ·rw [bP z]at h;exact ih _ h
     rw [this _ _ hf];rfl
    |none=>
     obtain ⟨x,x1,x2⟩:=lZ.1 q;obtain ⟨j,hj⟩:=bF x1;have:=firstE_none.1 hf j x hj;rw [bO x2]at this;cases this
   ·rw [bP q,firstE_none.2 fun j x hj=> ?_]
    ·rfl
    ·by_cases z:Vp s x=true
     ·exact absurd (lZ.2 ⟨x,lG hj,z⟩) q
     ·rw [bP z]
  ·unfold Io;rw [J8 (G1 hx),C8 hx,bM,lB];have e:(((decide (x.Since<0)||decide (x.Since>s.Tick))||decide (x.Rank<0))||decide (x.Rank>100))=Vp s x:=rfl;rw [e];by_cases z:Vp s x=true
   ·rw [bO z,z];rfl
   ·rw [bP z,show Vp s x=false by simpa using z,bN,G4 (G1 hx) (by omega)]
theorem PK {m:Map}(B:BearM m){s:State}(h:SizeS s)(hw: ∀g∈s.Agents,g.S≤9223372036854775807):Ec m s=some (Vq m s)∧Rx m s=some (Vq m s):=by
  obtain ⟨a1,a2⟩:=YD B h hw;obtain ⟨i1,i2⟩:=oH m h;unfold Ec Rx Vq;rw [Pf B,Vg B,lB,lB];by_cases q:Xy m=0
  case neg=>rw [bP q,show (Xy m !=0)=true by simpa using q];exact ⟨rfl,rfl⟩
  rw [bO q,q,show ((0:Int) !=0)=false from rfl,bN,bN];by_cases t:s.Tick<0∨s.Tick>1099511627776
  ·rw [bO t,show (decide (s.Tick<0)||decide (s.Tick>1099511627776))=true by simpa using t];exact ⟨rfl,rfl⟩
  rw [bP t,show (decide (s.Tick<0)||decide (s.Tick>1099511627776))=false by rw [bX];simpa using t,bN,bN];by_cases n0:s.Agents.length=0
  ·rw [bO n0,show (((s.Agents.length:Nat):Int)==0)=true by rw [n0];rfl];exact ⟨rfl,rfl⟩
  rw [bP n0,show (((s.Agents.length:Nat):Int)==0)=false by simpa using (show ((s.Agents.length:Nat):Int)≠0 by omega),bN,bN];by_cases n8:8<s.Agents.length
  ·rw [bO n8,bH (show (s.Agents.length:Int)>8 by omega)];exact ⟨rfl,rfl⟩
  rw [bP n8,bI (show ¬(s.Agents.length:Int)>8 by omega),bN,bN,a1,a2];cases J0 (fun i g=>if Fe m s (i:Int) g=0 then none else some (Fe m s (i:Int) g)) 0 s.Agents with
  |some e=>exact ⟨rfl,rfl⟩
  |none=>
   show thenS _ _ _=_∧thenS _ _ _=_;rw [i1,i2];cases J0 (iZ m s) 0 s.In with
   |some e=>exact ⟨rfl,rfl⟩
   |none=>
    refine ⟨?_,oI h⟩;show (G0 s.In s).bind _=_;rw [sP h,lB];cases s.In.any (Vp s)<;>rfl
structure KitM (m:Map):Prop extends BearK m where
  val:ValR m
theorem sQ (n:Int): ∃m,DH n=some m∧KitM m∧∃k p,k<8∧ParOK p∧m=ID k p:=by
  obtain ⟨k,p,hk,hp,hm⟩:=aZ n;exact ⟨_,hm,⟨⟨nQ hp,(KO k p.r).1⟩,rY hk hp⟩,k,p,hk,hp,rfl⟩
theorem KitM.chk {m:Map}(K:KitM m):Xy m=0:=chkR_zero.2 K.val
def W3 (s:State)(i:Int):Bool:=match C4 s.Agents i with
  |some g=> !g.Gone&&decide (g.Begin≤s.Tick)
  |none=>false
theorem JQ {α:Type}{l:List α}{i:Int}(h: ¬(0≤i∧i<l.length)):C4 l i=none:=by
  unfold C4;by_cases h0:0≤i
  ·rw [bO h0];exact lJ (by omega)
  ·rw [bP h0]
theorem Ua {α:Type}{l:List α}{i:Int}(h0:0≤i)(h1:i<l.length): ∃a,C4 l i=some a∧l[i.toNat]? =some a:=by
  have:l[i.toNat]? =some l[i.toNat]:=lH (by omega);exact ⟨_,by unfold C4;rw [bO h0];exact this,this⟩
theorem Sd (s:State)(i:Int):Jb s i=some (W3 s i)∧Lq s i=some (W3 s i):=by
  unfold Jb Lq W3;by_cases h:0≤i∧i<s.Agents.length
  ·obtain ⟨g,hg,_⟩:=Ua h.1 h.2;rw [show (decide (i≥0)&&decide (i< (s.Agents.length:Int)))=true by simp only [bS,bJ];exact h,bM,hg,lB,lB];simp only [bM,lB,bQ];constructor
   ·cases g.Gone<;>simp
   ·by_cases q:g.Begin≤s.Tick<;>simp [q]
  ·rw [show (decide (i≥0)&&decide (i< (s.Agents.length:Int)))=false by rw [bX];simp only [ne_eq,bS,bJ];exact h,JQ h];exact ⟨rfl,rfl⟩
def IF (f v MD b line:Int):Bool:=(decide (line>f)&&decide (E5 (f+PH v b)<line))&&decide (E5 (E5 (f+MD)+PH MD b)≥line)
def JR (R:List Int)(f v MD b:Int):Bool:= !R.any (IF f v MD b)
theorem YF (R:List Int)(hR:R.length≤1000)(f v MD b:Int):Je R f v MD b=some (JR R f v MD b):=by
  unfold Je I0 I6;rw [Pj R (IF f v MD b) _ (by omega) (fun i x hx=> ?_) (by unfold L7;rw [H9];rfl)]
  ·rfl
  ·unfold L7 Fh;rw [J8 (G1 hx),C8 hx,bM,lB,eM,eM]
   have e:((cond (decide (x>f)) (some (PH v b)) (some default)).bind fun v1=>(cond (decide (x>f)&&decide (E5 (f+v1)<x)) (some (PH MD b)) (some default)).bind fun v2=>some ((decide (x>f)&&decide (E5 (f+v1)<x))&&decide (E5 (E5 (f+MD)+v2)≥x)))=some (IF f v MD b x):=by
     unfold IF;cases decide (x>f)
     ·rfl
     ·simp only [bM,lB,bQ];cases decide (E5 (f+PH v b)<x)<;>rfl
   rw [e,lB];cases IF f v MD b x<;>rfl
noncomputable def oJ (m:Map)(lane tick:Int):List Int:=(Ii m lane tick).getD []
theorem sR {m:Map}(B:BearM m)(lane tick:Int):Ii m lane tick=some (oJ m lane tick)∧(oJ m lane tick).length≤1000:=by
  obtain ⟨R,h1,_,_,h3⟩:=vZ B lane tick;unfold oJ;rw [h1];exact ⟨rfl,h3⟩
def Mp (g:Agent)(most act:Int):Int:=max 0 (min (E5 (g.V+act)) most)
def SL (K:Int→Bool)(low:Int):Nat→Int→Int
  |0,act=>act
  |n+1,act=>if act>low∧K act=false then SL K low n (act - 1)else act
noncomputable def Pu (m:Map)(g:Agent)(tick act:Int):Int:=
  let L:=Ht m g;let t:=Zm m g;let act0:=max (-t.2.2) (min act t.2.1)
  if g.Obey=true∧L.2≤Fi m L.1 then Mp g t.1 (SL (fun x=>JR (oJ m L.1 tick) L.2 g.V (Mp g t.1 x) t.2.2) (-t.2.2) (act0+t.2.2).toNat act0)else Mp g t.1 act0
noncomputable def YG (m:Map)(g:Agent)(tick act:Int):Agent:=
  {g with V:=Pu m g tick act,S:=E5 (g.S+Pu m g tick act),Gone:=Yb m {g with V:=Pu m g tick act,S:=E5 (g.S+Pu m g tick act)}}
theorem Zn (k:Int):0≤(Y2 k).1∧(Y2 k).1≤2000∧0≤(Y2 k).2.1∧(Y2 k).2.1≤100∧0≤(Y2 k).2.2∧(Y2 k).2.2≤300:=by
  unfold Y2
  repeat' split
  all_goals simp
theorem iA {g:Agent}{L:Int×Int}{t:Int×Int×Int}{R:List Int}(hR:R.length≤1000)(ht:0≤t.2.2∧t.2.2≤300): ∀(n:Nat) (act:Int), -t.2.2≤act→act≤100→(act+t.2.2).toNat≤n→
    loop (Y6 g L t R) act=some (SL (fun x=>JR R L.2 g.V (Mp g t.1 x) t.2.2) (-t.2.2) n act):=by
  intro n
  induction n with
  |zero=>
   intro act h1 h2 h3;rw [SL];refine D3 ?_;unfold Y6;rw [H4 (n:=0 - t.2.2) (by omega),bI (show ¬act>0 - t.2.2 by omega)];rfl
  |succ n ih=>
   intro act h1 h2 h3;rw [SL];by_cases q:act> -t.2.2
   ·have hs:Aj act g t.1=some (Mp g t.1 act):=by unfold Aj Mp;rw [Wa,Qz]
    by_cases k:JR R L.2 g.V (Mp g t.1 act) t.2.2=false
    ·rw [bO ⟨q,k⟩,← ih (act - 1) (by omega) (by omega) (by omega)];refine K1 ?_;unfold Y6;rw [H4 (n:=0 - t.2.2) (by omega),bH (show act>0 - t.2.2 by omega),bM,hs,lB,bM,YF R hR,lB,k,H4 (by omega)];rfl
    ·rw [bP (fun x=>k x.2)];refine D3 ?_;unfold Y6;rw [H4 (n:=0 - t.2.2) (by omega),bH (show act>0 - t.2.2 by omega),bM,hs,lB,bM,YF R hR,lB,show JR R L.2 g.V (Mp g t.1 act) t.2.2=true by simpa using k];rfl
   ·rw [bP (fun x=>q x.1)];refine D3 ?_;unfold Y6;rw [H4 (n:=0 - t.2.2) (by omega),bI (show ¬act>0 - t.2.2 by omega)];rfl
structure AgentOK (m:Map)(s:State)(i:Int)(g:Agent):Prop where
  route: ∃a t,g.Route=a::t∧RouteOK m a t
  len:300≤g.Len∧g.Len≤20000
  begin:0≤g.Begin∧g.Begin≤1099511627776
  S:0≤g.S∧g.S≤LongM m g.Route+g.Len+2000
  V:0≤g.V∧g.V≤(Zm m g).1
  gone:g.Gone=Yb m g
  late: ¬(g.Begin>s.Tick∧g.S≠0)
  first:i=0→g.Begin=0
theorem agentM_zero {m:Map}{s:State}{i:Int}{g:Agent}:Fe m s i g=0↔AgentOK m s i g:=by
  unfold Fe;constructor
  ·intro h;by_cases q:Q8 m g.Route=0
   ·rw [bO q]at h;by_cases o:US g=true∨g.S>LongM m g.Route+g.Len+2000
    ·rw [bO o]at h;cases h
    ·rw [bP o]at h;by_cases v:g.V<0∨g.V>(Zm m g).1
     ·rw [bO v]at h;cases h
     ·rw [bP v]at h;by_cases z:g.Gone≠Yb m g∨(g.Begin>s.Tick∧g.S≠0)∨(i=0∧g.Begin≠0)
      ·rw [bO z]at h;cases h
      ·obtain ⟨o1,o2,o3,o4,o5⟩:=PI (g:=g) (by cases hq:US g<;>simp_all);refine ⟨chkRoute_zero.1 q,⟨o1,o2⟩,⟨o3,o4⟩,⟨o5,?_⟩,?_,?_,fun h=>z (.inr (.inl h)),fun h=> ?_⟩
       ·exact Int.not_lt.1 fun h=>o (.inr h)
       ·omega
       ·exact Classical.byContradiction fun h=>z (.inl h)
       ·exact Classical.byContradiction fun h'=>z (.inr (.inr ⟨h,h'⟩))
   ·rw [bP q]at h;cases h
  ·intro A;have l:=A.len;have b:=A.begin;have S:=A.S;have V:=A.V;rw [bO (chkRoute_zero.2 A.route),bP,bP,bP]
   ·rintro (h|h|h)
    ·exact h A.gone
    ·exact A.late h
    ·exact h.2 (A.first h.1)
   ·omega
   ·rintro (h|h)
    ·unfold US at h;simp only [bT,bJ]at h;omega
    ·omega
structure StateOK (m:Map)(s:State):Prop where
  tick:0≤s.Tick∧s.Tick≤1099511627776
  num:0<s.Agents.length∧s.Agents.length≤8
  agent: ∀(i:Nat) g,s.Agents[i]? =some g→AgentOK m s (i:Int) g
  ins: ∀(i:Nat) x,s.In[i]? =some x→Yc m s x=false
  sorted: ∀(i:Nat) x y,s.In[i]? =some x→s.In[i+1]? =some y→Fm x y=true
  rank: ∀x∈s.In,Vp s x=false
theorem Ny {m:Map}(K:KitM m){s:State}:Vq m s=0↔StateOK m s:=by
  unfold Vq;rw [bO K.chk];constructor
  ·intro h;by_cases t:s.Tick<0∨s.Tick>1099511627776
   ·rw [bO t]at h;cases h
   rw [bP t]at h;by_cases n0:s.Agents.length=0
   ·rw [bO n0]at h;cases h
   rw [bP n0]at h;by_cases n8:8<s.Agents.length
   ·rw [bO n8]at h;cases h
   rw [bP n8]at h;cases ha:J0 (fun i g=>if Fe m s (i:Int) g=0 then none else some (Fe m s (i:Int) g)) 0 s.Agents with
   |some e=>
    rw [ha]at h
    have: ∀(l:List Agent) (i:Nat),J0 (fun i g=>if Fe m s (i:Int) g=0 then none else some (Fe m s (i:Int) g)) i l=some e→e≠0:=by
      intro l
      induction l with
      |nil=>intro i h;cases h
      |cons a l ih=>
       intro i h;unfold J0 at h;by_cases z:Fe m s (i:Int) a=0
       ·rw [bO z]at h;exact ih _ h
       ·rw [bP z]at h;cases h;exact z
    exact absurd h (this _ _ ha)
   |none=>
    rw [ha]at h;cases hi:J0 (iZ m s) 0 s.In with
    |some e=>
     rw [hi]at h
     have: ∀(l:List Stay) (i:Nat),J0 (iZ m s) i l=some e→e≠0:=by
       intro l
       induction l with
       |nil=>intro i h;cases h
       |cons a l ih=>
        intro i h;unfold J0 at h;cases z:iZ m s i a with
        |none=>rw [z]at h;exact ih _ h
        |some e'=>
         rw [z]at h;cases h;unfold iZ at z;split at z
         ·cases z;decide
         ·cases z
     exact absurd h (this _ _ hi)
    |none=>
     rw [hi]at h;have ha':=firstE_none.1 ha;have hi':=firstE_none.1 hi;simp only [wK]at ha' hi'
     have hin: ∀(i:Nat) x,s.In[i]? =some x→¬(Yc m s x=true∨(0<i∧∃y,s.In[i - 1]? =some y∧Fm y x=false)):=by
       intro i x hx q;have:=hi' i x hx;unfold iZ at this;rw [bO q]at this;cases this
     have hr:s.In.any (Vp s)=false:=by
       cases q:s.In.any (Vp s)with
       |false=>rfl
       |true=>rw [q]at h;cases h
     refine ⟨by omega,by omega,fun i g hg=>agentM_zero.1 ?_,fun i x hx=> ?_,fun i x y hx hy=> ?_,fun x hx=> ?_⟩
     ·have:=ha' i g hg;by_cases z:Fe m s (i:Int) g=0
      ·exact z
      ·rw [bP z]at this;cases this
     ·have:=hin i x hx;cases q:Yc m s x with
      |false=>rfl
      |true=>exact absurd (.inl q) this
     ·have:=hin (i+1) y hy;cases q:Fm x y with
      |true=>rfl
      |false=>exact absurd (.inr ⟨by omega,x,hx,q⟩) this
     ·have:=List.any_eq_false.1 hr x hx;simpa using this
  ·intro O;have t:=O.tick;have n:=O.num;rw [bP (by omega),bP (by omega),bP (by omega)];rw [firstE_none.2 fun i g hg=>by rw [wK,bO (agentM_zero.2 (O.agent i g hg))]];rw [firstE_none.2 fun i x hx=> ?_]
   ·dsimp only;rw [bP];intro h;obtain ⟨x,x1,x2⟩:=lZ.1 h;rw [O.rank x x1]at x2;cases x2
   ·rw [wK];unfold iZ;rw [bP];rintro (h|⟨h0,y,y1,y2⟩)
    ·rw [O.ins i x hx]at h;cases h
    ·have:=O.sorted (i - 1) y x y1 (by rw [show i - 1+1=i by omega];exact hx);rw [this]at y2;cases y2
theorem AgentOK.bd {m:Map}{s:State}{i:Int}{g:Agent}(A:AgentOK m s i g):1000≤LongM m g.Route∧LongM m g.Route≤134217728:=by
  obtain ⟨a,t,h,R⟩:=A.route;rw [h];exact Pi R
theorem oK {m:Map}(B:BearM m){s:State}{i:Int}{g:Agent}(A:AgentOK m s i g)(hr:g.Route.length≤1000)(tick act:Int):Ha m g tick act=some (YG m g tick act):=by
  obtain ⟨a,t,ht,R⟩:=A.route;have hL:=A.bd;have hS:=A.S;have hl:=A.len;have hV:=A.V;obtain ⟨l1,_⟩:=YA B R ht hS.1 (by omega);obtain ⟨ln,k1,k2,_⟩:=SK R ht hS.1;have ev:Zm m g=Y2 ln.Kind:=by unfold Zm;rw [k2]
  have htb:=Zn ln.Kind;obtain ⟨r1,r3⟩:=sR B (Ht m g).1 tick;have hlow:E5 (0 - (Y2 ln.Kind).2.2)= -(Y2 ln.Kind).2.2:=by rw [H4 (by omega)];omega
  have hact: -(Y2 ln.Kind).2.2≤max (-(Y2 ln.Kind).2.2) (min act (Y2 ln.Kind).2.1)∧max (-(Y2 ln.Kind).2.2) (min act (Y2 ln.Kind).2.1)≤100:=by omega
  have hg: ∀g':Agent,g'.Route=g.Route→Gx m g'=some (Yb m g')∧Qk m g'=some (Yb m g'):=fun g' h=>UT B (by rw [h];omega);have hmv: ∀x,Aj x g (Y2 ln.Kind).1=some (Mp g (Y2 ln.Kind).1 x):=by intro x;unfold Aj Mp;rw [Wa,Qz]
  by_cases q:g.Obey=true∧(Ht m g).2≤Fi m (Ht m g).1
  ·have hN:Pu m g tick act=Mp g (Y2 ln.Kind).1 (SL (fun x=>JR (oJ m (Ht m g).1 tick) (Ht m g).2 g.V (Mp g (Y2 ln.Kind).1 x) (Y2 ln.Kind).2.2) (-(Y2 ln.Kind).2.2) (max (-(Y2 ln.Kind).2.2) (min act (Y2 ln.Kind).2.1)+ (Y2 ln.Kind).2.2).toNat (max (-(Y2 ln.Kind).2.2) (min act (Y2 ln.Kind).2.1))):=by
     unfold Pu;rw [ev];exact bO q
   unfold Ha YG;rw [l1,lB,k1,lB,Xv,lB,q.1,bM,Kk B,lB,bQ,bH q.2,bM,r1,lB,Wa,Qz,hlow,iA r3 ⟨htb.2.2.2.2.1,htb.2.2.2.2.2⟩ _ _ hact.1 hact.2 (wH _)];simp only [lB];rw [hmv,lB,← hN,(hg ⟨g.Route,E5 (g.S+Pu m g tick act),Pu m g tick act,g.Len,g.Begin,true,g.Gone⟩ rfl).1];simp only [lB,q.1]
  ·have hN:Pu m g tick act=Mp g (Y2 ln.Kind).1 (max (-(Y2 ln.Kind).2.2) (min act (Y2 ln.Kind).2.1)):=by
     unfold Pu;rw [ev];exact bP q
   have hc: ∀{α:Type} (o:Bool) (x y:α),(cond o (some (Fi m (Ht m g).1)) (some default)).bind (fun v4=>some (cond (o&&decide ((Ht m g).2≤v4)) x y))=some (cond (o&&decide ((Ht m g).2≤Fi m (Ht m g).1)) x y):=by intro α o x y;cases o<;>rfl
   have hf:(g.Obey&&decide ((Ht m g).2≤Fi m (Ht m g).1))=false:=by
     rw [bX];simpa using q
   unfold Ha YG;rw [l1,lB,k1,lB,Xv,lB,Kk B]
   have e: ∀F:Int→Option Agent,((cond g.Obey (some (Fi m (Ht m g).1)) (some default)).bind fun v4=>(cond (g.Obey&&decide ((Ht m g).2≤v4)) ((Ii m (Ht m g).1 tick).bind fun v5=>(loop (Y6 g (Ht m g) (Y2 ln.Kind) v5) (Xb true (E5 (0 - (Y2 ln.Kind).2.2)) (Xb false act (Y2 ln.Kind).2.1))).bind fun y2=>some y2) (some (Xb true (E5 (0 - (Y2 ln.Kind).2.2)) (Xb false act (Y2 ln.Kind).2.1)))).bind F)=F (Xb true (E5 (0 - (Y2 ln.Kind).2.2)) (Xb false act (Y2 ln.Kind).2.1)):=by
     intro F;cases ho:g.Obey
     ·rfl
     ·rw [ho]at hf;rw [bM,lB,hf];rfl
   rw [e,hmv,Wa,Qz,hlow,← hN,lB,(hg ⟨g.Route,E5 (g.S+Pu m g tick act),Pu m g tick act,g.Len,g.Begin,g.Obey,g.Gone⟩ rfl).1];rfl
def sS:Agent:=⟨[],0,0,0,0,false,false⟩
noncomputable def IG (m:Map)(s:State)(i act:Int):Agent:=match C4 s.Agents i with
  |none=>sS
  |some g=>if W3 s i=true∧Vq m s=0 then YG m g s.Tick act else g
theorem oL {m:Map}(K:KitM m){s:State}(S:SizeS s)(w: ∀g∈s.Agents,g.S≤9223372036854775807)(i act:Int):Lj m s i act=some (IG m s i act):=by
  obtain ⟨c1,_⟩:=PK K.toBearM S w;obtain ⟨t1,_⟩:=Sd s i;unfold Lj IG;by_cases h:0≤i∧i<s.Agents.length
  case neg=>
    rw [show (decide (i<0)||decide (i≥(s.Agents.length:Int)))=true by simp only [bT,bJ];omega,JQ h];rfl
  obtain ⟨g,hg,hg'⟩:=Ua h.1 h.2;have hr:=S.routes g (lG hg');rw [show (decide (i<0)||decide (i≥(s.Agents.length:Int)))=false by rw [bX];simp only [ne_eq,bT,bJ];omega,bN,hg,lB,KU hr,lB,t1,lB,c1];dsimp only;by_cases q:W3 s i=true∧Vq m s=0
  ·rw [bO q,q.1,q.2];have O:=(Ny K).1 q.2;have A:=O.agent i.toNat g hg';show (Ha m g s.Tick act).bind _=_;rw [oK K.toBearM A hr s.Tick act];rfl
  ·rw [bP q];cases ht:W3 s i
   ·rfl
   ·have:Vq m s≠0:=fun h=>q ⟨ht,h⟩;show cond (!true||(Vq m s !=0)) _ _=_;rw [show (!true||(Vq m s !=0))=true by simpa using this];rfl
def ES (g:Agent):Bool:=(((decide (g.S≥0))&& (decide (g.S≤1099511627776)))&& (decide (g.Len≥0)))&& (decide (g.Len≤1099511627776))
noncomputable def Mi (m:Map)(r:List Int):List Pass:=(X1 m r).getD []
theorem iB {m:Map}(B:BearK m)(r:List Int)(hr:r.length≤1000000):X1 m r=some (Mi m r)∧Gn m r=some (Mi m r)∧(Mi m r).length≤16:=by
  obtain ⟨ps,h1,h2,h3⟩:=cG B r hr;unfold Mi;rw [h1,h2];exact ⟨rfl,rfl,h3⟩
def Wy (g g':Agent)(z:Int)(p:Pass):Bool:=((p.Zone_==z)&&decide (p.From≤g'.S))&&decide (E5 (g.S - g.Len)≤p.To)
noncomputable def Iu (m:Map)(g g':Agent)(z:Int):Bool:=(ES g&&ES g')&& (Mi m g.Route).any (Wy g g' z)
theorem Zo {m:Map}(B:BearK m){g g':Agent}(hr:g.Route.length≤1000)(z:Int):Ed m g g' z=some (Iu m g g' z)∧Hl m g g' z=some (Iu m g g' z):=by
  obtain ⟨p1,p2,p3⟩:=iB B g.Route (by omega);have s1: ∀g,Nk g=some (ES g):=fun _=>rfl;have s2: ∀g,Nm g=some (ES g):=fun _=>rfl
  have hc:G6 (Mi m g.Route) z ⟨E5 (g.S - g.Len),g'.S⟩=some ((Mi m g.Route).any (Wy g g' z)):=by
    unfold G6 J6;refine Pj _ (Wy g g' z) _ (by omega) (fun i x hx=> ?_) (by unfold M2;rw [H9];rfl);unfold M2 Ib;rw [J8 (G1 hx),C8 hx,bM,lB,lB];show cond (Wy g g' z x) _ _=_;cases Wy g g' z x<;>rfl
  have hd:thenS (loop (Ek g g' z (Mi m g.Route)) 0) (fun _=>some false) (fun r=>some r)=some ((Mi m g.Route).any (Wy g g' z)):=by
    rw [KM (Mi m g.Route) (Wy g g' z) true (fun i x hx=> ?_) (by unfold Ek;rw [H9];rfl)]
    ·cases (Mi m g.Route).any (Wy g g' z)<;>rfl
    ·unfold Ek Wy;rw [J8 (G1 hx),C8 hx,bM,lB,G4 (G1 hx) (by omega)];by_cases q1:x.Zone_=z
     ·rw [show (x.Zone_==z)=true by simpa using q1,bM,lB,bQ];by_cases q2:E5 (g.S - g.Len)≤x.To
      ·rw [bH q2,bM,lB,bQ,Bool.and_true];by_cases q3:x.From≤g'.S
       ·rw [bH (show g'.S≥x.From from q3)];rfl
       ·rw [bI (show ¬g'.S≥x.From from q3)];rfl
      ·rw [bI q2,Bool.and_false];rfl
     ·rw [show (x.Zone_==z)=false by simpa using q1];rfl
  unfold Ed Hl Iu;rw [s1,s2,lB,lB];cases hs:ES g
  ·exact ⟨rfl,rfl⟩
  ·rw [bU,bV,bM,bM,s1,s2,lB,lB];cases hs':ES g'
   ·exact ⟨rfl,rfl⟩
   ·simp only [bU,Bool.or_self,bN,bQ];constructor
    ·show (Aw g).bind _=_;unfold Aw;rw [lB,p1,lB,hc];rfl
    ·show (Gn m g.Route).bind _=_;rw [p2,lB,hd]
theorem eN {α:Type}{P:α→Bool}{l:List α}(h:0≤HZ P l): ∃x,l[(HZ P l).toNat]? =some x∧P x=true∧l.find? P=some x:=by
  unfold HZ at h ⊢;cases hq:l.findIdx? P with
  |none=>rw [hq]at h;exact absurd h (by simp)
  |some i=>
   obtain ⟨h1,h2,h3⟩:=List.findIdx?_eq_some_iff_getElem.1 hq;refine ⟨l[i],by rw [wF];exact lH h1,h2,?_⟩;exact List.find?_eq_some_iff_getElem.2 ⟨h2,i,h1,rfl,fun j hj=>by simpa using h3 j hj⟩
theorem iC {m:Map}{r:List Int}{z:Int}(h:0≤Ft m r z): ∃zn l,0≤z∧m.Zones[z.toNat]? =some zn∧Q8 m r=0∧r[(Ft m r z).toNat]? =some l∧(Nv zn l).2=true:=by
  unfold Ft at h ⊢;cases hz:m.Zones[z.toNat]? with
  |none=>rw [hz]at h;exact absurd h (by simp)
  |some zn=>
   rw [hz]at h;dsimp only at h ⊢;by_cases q:0≤z∧Q8 m r=0
   ·rw [bO q]at h ⊢;obtain ⟨l,h1,h2,_⟩:=eN h;exact ⟨zn,l,q.1,rfl,q.2,h1,h2⟩
   ·rw [bP q]at h;exact absurd h (by simp)
noncomputable def Mx (m:Map)(r:List Int)(z:Int):Int:=if 0≤Ft m r z then r.getD (Ft m r z).toNat 0 else -1
theorem IH {m:Map}{r:List Int}{z:Int}(h:0≤Ft m r z): ∃zn,0≤z∧m.Zones[z.toNat]? =some zn∧r[(Ft m r z).toNat]? =some (Mx m r z)∧(Nv zn (Mx m r z)).2=true∧0≤Mx m r z:=by
  obtain ⟨zn,l,h0,h1,h2,h3,h4⟩:=iC h;have e:Mx m r z=l:=by unfold Mx;rw [bO h,List.getD,h3];rfl
  obtain ⟨a,t,rfl,R⟩:=chkRoute_zero.1 h2;have:=R.mem (lG h3);rw [e];exact ⟨zn,h0,h1,h3,h4,this.1⟩
theorem JS {m:Map}(B:BearM m){r:List Int}(hr:r.length≤1000000)(z:Int):Ee m r z=some (Mx m r z):=by
  unfold Ee;rw [nV B r hr,lB];by_cases q:0≤Ft m r z
  ·obtain ⟨zn,_,_,h3,_⟩:=IH q;have hg:=C8 h3;rw [wG q]at hg;rw [bH (show Ft m r z≥0 from q),bM,hg];rfl
  ·rw [bI (show ¬Ft m r z≥0 from q)];unfold Mx;rw [bP q];rfl
noncomputable def KV (m:Map)(r:List Int)(z tick:Int):Int:=
  if 0≤Ft m r z then
   match m.Zones[z.toNat]? with
   |some zn=>if zn.Signal_>0 then (if JM m (zn.Signal_ - 1) (Mx m r z) tick=true then 2 else 0)else (Nv zn (Mx m r z)).1.Rank
   |none=>0
  else 0
theorem eO {m:Map}(K:KitM m){g:Agent}(hr:g.Route.length≤1000)(z tick:Int):Gz m g z tick=some (KV m g.Route z tick)∧Uu m g z tick=some (KV m g.Route z tick):=by
  have B:=K.toBearM;have hr':g.Route.length≤1000000:=by omega
  unfold Gz Uu KV;rw [JS B hr',JO B _ hr',lB,lB];by_cases q:0≤Ft m g.Route z
  case neg=>
    rw [bP q,bH (show Ft m g.Route z<0 by omega)];have:Mx m g.Route z= -1:=by unfold Mx;rw [bP q]
    rw [this];exact ⟨rfl,rfl⟩
  obtain ⟨zn,h0,h1,h3,h4,h5⟩:=IH q;have hz:=C8 h1;rw [wG h0]at hz;have hg:=C8 h3;rw [wG q]at hg;have Z:=K.val.zoneOK (lG h1);have hS:=Z.sig;have hsl:=K.val.signals;have hp:=B.toBearZ.parts zn (lG h1);rw [bO q,h1,bI (show ¬Mx m g.Route z<0 by omega),bI (show ¬Ft m g.Route z<0 by omega),bN,bN,hz,lB,lB];dsimp only;by_cases s:zn.Signal_>0
  ·rw [bO s,bH s,H4 (by omega),nY B,hg];simp only [lB,bM,gU B,bQ];cases JM m (zn.Signal_ - 1) (Mx m g.Route z) tick<;>exact ⟨rfl,rfl⟩
  ·rw [bP s,bI s,bN,bN,lB,bR,bN]
   have hany:zn.Parts.any (fun p=>p.Lane_==Mx m g.Route z)=true:=by
     unfold Nv at h4;cases hf:zn.Parts.find? (fun p=>p.Lane_==Mx m g.Route z)with
     |none=>rw [hf]at h4;cases h4
     |some p=>
      exact lZ.2 ⟨p,l7 hf,l6 (p:=fun p:Part=>p.Lane_==Mx m g.Route z) hf⟩
   have hidx:0≤HZ (fun p:Part=>p.Lane_==Mx m g.Route z) zn.Parts:=by
     have:=Xw (fun p:Part=>p.Lane_==Mx m g.Route z) zn.Parts;rw [hany]at this;simpa using this
   obtain ⟨p,p1,p2,p3⟩:=eN hidx;have hpr:(Nv zn (Mx m g.Route z)).1.Rank=p.Rank:=by unfold Nv;rw [p3]
   constructor
   ·have e:J2 zn.Parts (Mx m g.Route z)=some (HZ (fun p:Part=>p.Lane_==Mx m g.Route z) zn.Parts):=by
      unfold J2;refine Sc zn.Parts (fun p:Part=>p.Lane_==Mx m g.Route z) (by omega) (fun i a h=> ?_) (by unfold N4;rw [H9];rfl);unfold N4 Ow;rw [J8 (G1 h),C8 h,bM,lB,lB];cases a.Lane_==Mx m g.Route z<;>rfl
    have hgp:=C8 p1;rw [wG hidx]at hgp;rw [e,lB,hgp,lB,hpr]
   ·have key: ∀(l:List Part) (i:Nat),zn.Parts.drop i=l→i≤zn.Parts.length→thenS (loop (Ho g (Ft m g.Route z) zn) (i:Int)) (fun _=>some 0) (fun r=>some r)=some (match l.find? (fun p=>p.Lane_==Mx m g.Route z)with|some p=>p.Rank|none=>0):=by
      intro l
      induction l with
      |nil=>
       intro i hi hil;have:=P3 hi;obtain rfl:i=zn.Parts.length:=by omega
       rw [D3 (t:= .inl ()) (by unfold Ho;rw [H9];rfl)];rfl
      |cons x l ih=>
       intro i hi hil;have hx:=Y3 hi;have hlt:=O3 hi;rw [List.find?_cons];cases hq:x.Lane_==Mx m g.Route z with
       |true=>
        rw [D3 (t:= .inr x.Rank) (by unfold Ho;rw [J8 hlt,C8 hx,bM,lB,hg,lB,hq,bM,lB])];rfl
       |false=>
        rw [K1 (s':=((i+1:Nat):Int)) (by unfold Ho;rw [J8 hlt,C8 hx,bM,lB,hg,lB,hq,bN,G4 hlt (by omega)])];exact ih (i+1) (L4 hi) hlt
    have:=key zn.Parts 0 rfl (wI _);rw [p3]at this;rw [show ((0:Nat):Int)=0 from rfl]at this;rw [bN,this,hpr]
def Zp (i z:Int)(x:Stay):Bool:=x.Agent_==i&&x.Zone_==z
def SM (l:List Stay):Prop:=l.Pairwise fun a b=>Fm a b=true
theorem KW {a b c:Stay}(h1:Fm a b=true)(h2:Fm b c=true):Fm a c=true:=by
  unfold Fm at*;simp only [bT,bJ,bS,bZ]at*;omega
theorem iD {l:List Stay}(h: ∀(i:Nat) x y,l[i]? =some x→l[i+1]? =some y→Fm x y=true):SM l:=by
  unfold SM
  induction l with
  |nil=>exact List.Pairwise.nil
  |cons a l ih=>
   have ih:=ih fun i x y hx hy=>h (i+1) x y (by simpa using hx) (by simpa using hy);refine bB.2 ⟨fun b hb=> ?_,ih⟩;cases l with
   |nil=>cases hb
   |cons c l=>
    have h0:=h 0 a c rfl rfl;rcases lU.1 hb with rfl|hb
    ·exact h0
    ·exact KW h0 ((bB.1 ih).1 b hb)
theorem sU (a b:Stay):decide (QS a b<0)=Fm a b:=by
  have:=YC a b
  have e:decide (QS a b<0)= !decide (QS a b≥0):=by
    by_cases h:QS a b<0
    ·rw [bH h,bI (by omega)];rfl
    ·rw [bI h,bH (by omega)];rfl
  rw [e,this,Bool.not_not]
theorem oM (a b:Stay):(QS a b==0)=Zp b.Agent_ b.Zone_ a:=by
  unfold QS Zp IE;by_cases h1:a.Agent_<b.Agent_
  ·have:a.Agent_≠b.Agent_:=by omega
   simp [h1,this]
  ·by_cases h2:a.Agent_>b.Agent_
   ·have:a.Agent_≠b.Agent_:=by omega
    simp [h1,h2,this]
   ·have:a.Agent_=b.Agent_:=by omega
    by_cases h3:a.Zone_<b.Zone_
    ·have:a.Zone_≠b.Zone_:=by omega
     simp [h3,this, *]
    ·by_cases h4:a.Zone_>b.Zone_
     ·have:a.Zone_≠b.Zone_:=by omega
      simp [h3,h4,this, *]
     ·have:a.Zone_=b.Zone_:=by omega
      simp [this, *]
theorem eP {l:List Stay}(hl:l.length≤1000000)(hs:SM l)(y:Stay): ∃s:Nat,D9 l y=some ((s:Int),(l.find? (Zp y.Agent_ y.Zone_)).isSome)∧∀x,l.find? (Zp y.Agent_ y.Zone_)=some x→l[s]? =some x:=by
  have hget: ∀c,c<l.length→l[c]? =some (l.getD c default):=by
    intro c hc;rw [List.getD,lH hc];rfl
  obtain ⟨s,h1,_,h3,h4,h5⟩:=sA (F:=E2 l y) (fun c=>Fm (l.getD c default) y) 0 l.length (wI _) (fun a b _ hab hb=>by
    unfold E2;dsimp only;have hm:(a+b) / 2<l.length:=by omega
    rw [bH (show (a:Int)< (b:Int) by omega),bM,sI a b (by omega),C8 (hget _ hm),lB,PJ,lB,sU];by_cases q:Fm (l.getD ((a+b) / 2) default) y=true
    ·rw [bO q,q,bM,G4 hm (by omega)]
    ·rw [bP q,show Fm (l.getD ((a+b) / 2) default) y=false by simpa using q];rfl) (fun a b hab=>by
    unfold E2;dsimp only
    rw [bI (show ¬(a:Int)< (b:Int) by omega)];rfl) (fun c c' _ hcc hc' q=>by
    rcases Nat.lt_or_eq_of_le hcc with h|h
    ·have h1:=bC.1 hs c c' (by omega) hc' h;have e1:=hget c (by omega);have e2:=hget c' hc';rw [lH (by omega)]at e1 e2;rw [lD e1,lD e2]at h1;exact KW h1 q
    ·subst h;exact q)
  have hmem: ∀x,l.find? (Zp y.Agent_ y.Zone_)=some x→l[s]? =some x:=by
    intro x hx;have k1:=l6 hx;have k2:=l7 hx;obtain ⟨j,hj⟩:=bF k2;have hjl:=G1 hj;have e1:=hget j hjl;rw [hj]at e1;have ex:x=l.getD j default:=lD e1
    have nl:Fm x y=false:=by
      unfold Zp at k1;unfold Fm;simp only [bS,bZ]at k1;rw [bX];simp only [ne_eq,bT,bJ,bS,bZ];omega
    have hsj:s≤j:=by
      refine Nat.not_lt.1 fun h=> ?_;have:=h4 j (wI _) h;rw [← ex,nl]at this;cases this
    rcases Nat.lt_or_eq_of_le hsj with h|h
    ·exfalso;have h6:=h5 s (wH _) (by omega);have h7:=bC.1 hs s j (by omega) hjl h;have e2:=hget s (by omega);rw [lH (by omega)]at e2;have e3:=hj;rw [lH hjl]at e3;rw [lD e2,lD e3]at h7;unfold Zp at k1;unfold Fm at h6 h7;simp only [bS,bZ]at k1;rw [bX]at h6;simp only [ne_eq,bT,bJ,bS,bZ]at h6 h7;omega
    ·subst h;exact hj
  refine ⟨s,?_,hmem⟩;have h1':loop (E2 l y) (0,(l.length:Int))=some (s:Int):=h1;unfold D9;rw [h1',lB];by_cases hlt:s<l.length
  ·have e:=hget s hlt;rw [J8 hlt,bM,C8 e,lB,bM,PJ,lB,oM,bQ];congr 2;cases hf:l.find? (Zp y.Agent_ y.Zone_)with
   |some x=>
    have:=hmem x hf;rw [e]at this;rw [lD this,l6 hf];rfl
   |none=>
    have:=List.find?_eq_none.1 hf (l.getD s default) (lG e);simpa using this
  ·rw [show decide ((s:Int)< (l.length:Int))=false from bI (by omega),bN,lB,bN,lB,bR];congr 2;cases hf:l.find? (Zp y.Agent_ y.Zone_)with
   |some x=>have:=G1 (hmem x hf);omega
   |none=>rfl
theorem cJ {S α β τ:Type}{F:S→Option (Stp S τ)}(pk:Nat→List β→S)(l:List α)(g:Nat→α→Option β)(fin:List β→τ)(s0:List β)(B:Nat){S0:S}(hS:pk 0 s0=S0)(hB:s0.length+l.length≤B)
    (hF: ∀(i:Nat) a (s:List β),l[i]? =some a→s.length+1≤B→F (pk i s)=some (.go (pk (i+1) (match g i a with|some b=>s++ [b]|none=>s))))
    (h0: ∀s,F (pk l.length s)=some (.out (fin s))):loop F S0=some (fin (s0++Hr g 0 l)):=by
  have:=eE (F:=F) pk l (fun i s=>s.length≤s0.length+i) (fun i s a=>match g i a with|some b=>s++ [b]|none=>s) fin (s0:=s0) (S0:=S0) hS (by simp) (fun i a s h hs=>hF i a s h (by have:=(lI.1 h).1;omega)) (fun i a s _ hs=>by
    cases g i a<;>simp<;>omega) (fun s _=>h0 s)
  exact this.trans (congrArg (fun x=>some (fin x)) (FY g l 0 s0))
theorem oN {S α β τ:Type}{F:S→Option (Stp S τ)}(pk:Nat→List β→S)(l:List α)(g:Nat→α→List β)(fin:List β→τ)(s0:List β)(C B:Nat){S0:S}(hS:pk 0 s0=S0)(hB:s0.length+l.length*C≤B)(hC: ∀(i:Nat) a,l[i]? =some a→(g i a).length≤C)
    (hF: ∀(i:Nat) a (s:List β),l[i]? =some a→s.length+C≤B→F (pk i s)=some (.go (pk (i+1) (s++g i a))))
    (h0: ∀s,F (pk l.length s)=some (.out (fin s))):loop F S0=some (fin (s0++Wj g 0 l)):=by
  have key: ∀(r:List α) (i:Nat) (s:List β),IA (fun i s a=>s++g i a) i s r=s++Wj g i r:=by
    intro r
    induction r with
    |nil=>intro i s;simp [IA,Wj]
    |cons a r ih=>intro i s;simp [IA,Wj,ih]
  have:=eE (F:=F) pk l (fun i s=>s.length≤s0.length+i*C) (fun i s a=>s++g i a) fin (s0:=s0) (S0:=S0) hS (by simp) (fun i a s h hs=>hF i a s h (by
    have h1:=(lI.1 h).1;have h2:(i+1)*C≤l.length*C:=Nat.mul_le_mul_right C h1
    rw [wJ,Nat.one_mul]at h2;omega)) (fun i a s h hs=>by
    have h3:=hC i a h
    rw [lM,wJ,Nat.one_mul];omega) (fun s _=>h0 s)
  exact this.trans (congrArg (fun x=>some (fin x)) (key l 0 s0))
noncomputable def Pk (m:Map)(s:State)(A:List Agent)(i z:Int):Bool:=W3 s i&& (match C4 s.Agents i,C4 A i with
  |some g,some g'=>Iu m g g' z
  |_,_=>false)
theorem Vr {s:State}{i:Int}(h:W3 s i=true): ∃g,C4 s.Agents i=some g∧s.Agents[i.toNat]? =some g∧0≤i∧i<s.Agents.length∧g.Gone=false∧g.Begin≤s.Tick:=by
  unfold W3 at h;by_cases q:0≤i∧i<s.Agents.length
  ·obtain ⟨g,h1,h2⟩:=Ua q.1 q.2;rw [h1]at h;dsimp only at h;rw [bS,bJ]at h;exact ⟨g,h1,h2,q.1,q.2,by simpa using h.1,h.2⟩
  ·rw [JQ q]at h;cases h
theorem iE {m:Map}{s:State}{A:List Agent}{i z:Int}(h:Pk m s A i z=true): ∃g g',C4 s.Agents i=some g∧s.Agents[i.toNat]? =some g∧0≤i∧i<s.Agents.length∧C4 A i=some g'∧Iu m g g' z=true:=by
  unfold Pk at h;rw [bS]at h;obtain ⟨g,h1,h2,h3,h4,_⟩:=Vr h.1;rw [h1]at h;cases hA:C4 A i with
  |none=>rw [hA]at h;exact absurd h.2 (by simp)
  |some g'=>rw [hA]at h;exact ⟨g,g',h1,h2,h3,h4,rfl,h.2⟩
theorem CN {m:Map}(B:BearK m){s:State}(S:SizeS s){sc:WorldScene}{A:List Agent}(hm:sc.m=m)(hb:sc.before=s)(ha:sc.after.Agents=A)(hl:A.length=s.Agents.length)(i z:Int):O9 sc i z=some (Pk m s A i z):=by
  unfold O9 Pk;rw [hm,hb,ha,(Sd s i).1,lB];cases h:W3 s i
  ·rfl
  ·obtain ⟨g,h1,h2,h3,h4,_⟩:=Vr h;obtain ⟨g',h5,_⟩:=Ua (l:=A) h3 (by omega);rw [h1,h5];simp only [bM,lB,bQ];rw [(Zo B (S.routes g (lG h2)) z).1];rfl
noncomputable def Wk (m:Map)(s:State)(i z:Int):Stay:=match s.In.find? (Zp i z)with
  |some x=>x
  |none=>⟨i,z,s.Tick,match C4 s.Agents i with|some g=>KV m g.Route z s.Tick|none=>0⟩
theorem MC (m:Map)(s:State)(i z:Int):(Wk m s i z).Agent_=i∧(Wk m s i z).Zone_=z:=by
  unfold Wk;cases h:s.In.find? (Zp i z)with
  |none=>exact ⟨rfl,rfl⟩
  |some x=>
   have:=l6 h;unfold Zp at this;simpa using this
noncomputable def ET (m:Map)(s:State)(A:List Agent)(i:Nat)(z:Nat)(_:Zone):Option Stay:=if Pk m s A i z=true then some (Wk m s i z)else none
noncomputable def Vs (m:Map)(s:State)(A:List Agent)(i:Nat)(_:Agent):List Stay:=Hr (ET m s A i) 0 m.Zones
noncomputable def Bi (m:Map)(s:State)(A:List Agent):List Stay:=Wj (Vs m s A) 0 s.Agents
theorem GC (m:Map)(s:State)(A:List Agent)(i:Nat)(a:Agent):(Vs m s A i a).length≤m.Zones.length:=Xx _ _ _
theorem El {α β:Type}{g:Nat→α→Option β}{b:β}: ∀(l:List α) (k:Nat),b∈Hr g k l↔∃(i:Nat) (a:α),l[i]? =some a∧g (k+i) a=some b
  | [],k=>by simp [Hr]
  |a::r,k=>by
   have ih:=El (g:=g) (b:=b) r (k+1)
   have e:(∃(i:Nat) (a':α),(a::r)[i]? =some a'∧g (k+i) a'=some b)↔g k a=some b∨∃(i:Nat) (a':α),r[i]? =some a'∧g (k+1+i) a'=some b:=by
     constructor
     ·rintro ⟨i,a',h1,h2⟩;cases i with
      |zero=>simp at h1;subst h1;exact .inl h2
      |succ i=>exact .inr ⟨i,a',by simpa using h1,by rw [show k+1+i=k+ (i+1) by omega];exact h2⟩
     ·rintro (h|⟨i,a',h1,h2⟩)
      ·exact ⟨0,a,rfl,h⟩
      ·exact ⟨i+1,a',by simpa using h1,by rw [show k+ (i+1)=k+1+i by omega];exact h2⟩
   rw [e,Hr];cases hg:g k a with
   |none=>simp [ih]
   |some c=>simp [ih,eq_comm]
theorem JT {α β:Type}{g:Nat→α→List β}{b:β}: ∀(l:List α) (k:Nat),b∈Wj g k l↔∃(i:Nat) (a:α),l[i]? =some a∧b∈g (k+i) a
  | [],k=>by simp [Wj]
  |a::r,k=>by
   have ih:=JT (g:=g) (b:=b) r (k+1);rw [Wj,lT,ih];constructor
   ·rintro (h|⟨i,a',h1,h2⟩)
    ·exact ⟨0,a,rfl,h⟩
    ·exact ⟨i+1,a',by simpa using h1,by rw [show k+ (i+1)=k+1+i by omega];exact h2⟩
   ·rintro ⟨i,a',h1,h2⟩;cases i with
    |zero=>simp at h1;subst h1;exact .inl h2
    |succ i=>exact .inr ⟨i,a',by simpa using h1,by rw [show k+1+i=k+ (i+1) by omega];exact h2⟩
theorem stays_mem {m:Map}{s:State}{A:List Agent}{x:Stay}:x∈Bi m s A↔∃i z:Nat,i<s.Agents.length∧z<m.Zones.length∧Pk m s A i z=true∧x=Wk m s i z:=by
  unfold Bi;rw [JT];constructor
  ·rintro ⟨i,a,h1,h2⟩;unfold Vs at h2;rw [El]at h2;obtain ⟨z,zn,h3,h4⟩:=h2;unfold ET at h4;rw [wK,wK]at h4;split at h4
   ·rename_i h5;cases h4;exact ⟨i,z,G1 h1,G1 h3,h5,rfl⟩
   ·cases h4
  ·rintro ⟨i,z,h1,h2,h3,rfl⟩;refine ⟨i,s.Agents[i],lH h1,?_⟩;unfold Vs;rw [El];refine ⟨z,m.Zones[z],lH h2,?_⟩;unfold ET;rw [wK,wK,bO h3]
theorem PL {α β:Type}{g:Nat→α→Option β}{R:β→β→Prop}(h: ∀i j a a' b b',i<j→g i a=some b→g j a'=some b'→R b b'): ∀(l:List α) (k:Nat),(Hr g k l).Pairwise R
  | [],k=>List.Pairwise.nil
  |a::r,k=>by
   have ih:=PL h r (k+1);rw [Hr];cases hg:g k a with
   |none=>exact ih
   |some b=>
    refine bB.2 ⟨fun b' hb'=> ?_,ih⟩;obtain ⟨i,a',_,h2⟩:=(El r (k+1)).1 hb';exact h k (k+1+i) a a' b b' (by omega) hg h2
theorem PM {α β:Type}{g:Nat→α→List β}{R:β→β→Prop}(h0: ∀i a,(g i a).Pairwise R)(h: ∀i j a a' b b',i<j→b∈g i a→b'∈g j a'→R b b'): ∀(l:List α) (k:Nat),(Wj g k l).Pairwise R
  | [],k=>List.Pairwise.nil
  |a::r,k=>by
   rw [Wj];refine List.pairwise_append.2 ⟨h0 k a,PM h0 h r (k+1),fun b hb b' hb'=> ?_⟩;obtain ⟨i,a',_,h2⟩:=(JT r (k+1)).1 hb';exact h k (k+1+i) a a' b b' (by omega) hb h2
theorem PN (m:Map)(s:State)(A:List Agent):SM (Bi m s A):=by
  have key: ∀(i z:Nat) zn b,ET m s A i z zn=some b→b.Agent_=(i:Int)∧b.Zone_=(z:Int):=by
    intro i z zn b h;unfold ET at h;split at h
    ·cases h;exact MC m s i z
    ·cases h
  refine PM (fun i a=>PL (fun z z' _ _ b b' hz h1 h2=> ?_) _ _) (fun i j a a' b b' hij h1 h2=> ?_) _ _
  ·have k1:=key i z _ b h1;have k2:=key i z' _ b' h2;unfold Fm;rw [k1.1,k1.2,k2.1,k2.2];simp [hz]
  ·unfold Vs at h1 h2;obtain ⟨z,zn,_,h1⟩:=(El _ _).1 h1;obtain ⟨z',zn',_,h2⟩:=(El _ _).1 h2;have k1:=key i _ zn b h1;have k2:=key j _ zn' b' h2;unfold Fm;rw [k1.1,k2.1];simp only [bT,bJ,bS,bZ];omega
theorem cK {m:Map}{s:State}{A:List Agent}{i z:Int}(hz:0≤z∧z<m.Zones.length)(h:Pk m s A i z=true):(Bi m s A).find? (Zp i z)=some (Wk m s i z):=by
  obtain ⟨g,g',h1,h2,h3,h4,_⟩:=iE h;have hm:Wk m s i z∈Bi m s A:=stays_mem.2 ⟨i.toNat,z.toNat,by omega,by omega,by rw [wG h3,wG hz.1];exact h,by rw [wG h3,wG hz.1]⟩
  have hk:Zp i z (Wk m s i z)=true:=by
    have:=MC m s i z;unfold Zp;rw [this.1,this.2];simp
  cases hf:(Bi m s A).find? (Zp i z)with
  |none=>exact absurd hk (by simpa using List.find?_eq_none.1 hf _ hm)
  |some x=>
   obtain ⟨i',z',_,_,_,rfl⟩:=stays_mem.1 (l7 hf);have:=l6 hf;unfold Zp at this;have k:=MC m s i' z';rw [k.1,k.2]at this;simp only [bS,bZ]at this;rw [this.1,this.2]
theorem DN (m:Map)(s:State)(A:List Agent):(Bi m s A).length≤s.Agents.length*m.Zones.length:=SE _ _ _ _ fun _ _ _=>GC _ _ _ _ _
theorem iF {m:Map}(K:KitM m){s:State}(S:SizeS s)(hs:SM s.In){i z:Int}{g:Agent}(hg:C4 s.Agents i=some g)(hr:g.Route.length≤1000):
    ∃v8,D9 s.In (Stay.mk i z s.Tick 0)=some v8∧cond v8.2 ((C4 s.In v8.1).bind fun v9=>some v9) ((Gz m g z s.Tick).bind fun v10=>some (Stay.mk i z s.Tick v10))=some (Wk m s i z):=by
  obtain ⟨k,h1,h2⟩:=eP S.ins hs (Stay.mk i z s.Tick 0);refine ⟨_,h1,?_⟩;unfold Wk;dsimp only at h2 ⊢;cases hf:s.In.find? (Zp i z)with
  |some x=>rw [C8 (h2 x hf)];rfl
  |none=>rw [(eO K hr z s.Tick).1,hg];rfl
noncomputable def Ds (m:Map)(s:State)(acts:List Int):List Agent:=s.Agents.mapIdx fun i _=>IG m s i (acts.getD i 0)
noncomputable def EU (m:Map)(s:State)(acts:List Int)(k:Nat):List Agent:=s.Agents.mapIdx fun i g=>if i<k then IG m s i (acts.getD i 0)else g
theorem cL (m:Map)(s:State)(acts:List Int):EU m s acts 0=s.Agents:=by
  apply List.ext_getElem?;intro i;unfold EU;rw [bD];cases s.Agents[i]? <;>simp
theorem iG (m:Map)(s:State)(acts:List Int):EU m s acts s.Agents.length=Ds m s acts:=by
  apply List.ext_getElem?;intro i;unfold EU Ds;rw [bD,bD];cases h:s.Agents[i]? with
  |none=>rfl
  |some g=>simp [G1 h]
theorem Qv (m:Map)(s:State)(acts:List Int):(Ds m s acts).length=s.Agents.length:=by unfold Ds;simp
theorem iH {m:Map}{s:State}{acts:List Int}{k:Nat}{g:Agent}(h:s.Agents[k]? =some g):C4 (EU m s acts k) (k:Int)=some g:=by
  apply C8;unfold EU;rw [bD,h];simp
theorem SN {m:Map}{s:State}{acts:List Int}{k:Nat}{g:Agent}(h:s.Agents[k]? =some g):C4 (Ds m s acts) (k:Int)=some (IG m s k (acts.getD k 0)):=by
  apply C8;unfold Ds;rw [bD,h];simp
theorem iI {m:Map}{s:State}{acts:List Int}{k:Nat}:Mm (EU m s acts k) (k:Int) (IG m s k (acts.getD k 0))=EU m s acts (k+1):=by
  apply List.ext_getElem?;intro i;unfold Mm EU;rw [wF,List.getElem?_set,bD,bD,List.length_mapIdx];by_cases q:k=i
  ·subst q;by_cases h:k<s.Agents.length
   ·rw [bO rfl,bO h,lH h];simp
   ·rw [bO rfl,bP h,lJ (by omega)];rfl
  ·rw [bP q];have:i<k↔i<k+1:=by omega
   simp [this]
theorem wT (acts:List Int)(i:Nat):(cond (decide ((i:Int)< (acts.length:Int))) ((C4 acts (i:Int)).bind fun v3=>some v3) (some 0))=some (acts.getD i 0):=by
  by_cases h:i<acts.length
  ·rw [J8 h,C8 (lH h),List.getD,lH h];rfl
  ·rw [bI (by omega),List.getD,lJ (by omega)];rfl
theorem cM {m:Map}(K:KitM m){s:State}(S:SizeS s)(w: ∀g∈s.Agents,g.S≤9223372036854775807)(acts:List Int){v2:State}(hv:v2.Agents=s.Agents):Hf m s acts v2=some (Ds m s acts):=by
  have hl:=S.agents
  have e:loop (Cu m s acts) (0,s.Agents)=some (Ds m s acts):=by
    refine eE (fun i (_:Unit)=>((i:Int),EU m s acts i)) s.Agents (fun _ _=>True) (fun _ _ _=>()) (fun _=>Ds m s acts) (s0:=()) (by rw [cL];rfl) trivial (fun i a _ h _=> ?_) (fun _ _ _ _ _=>trivial) (fun _ _=> ?_)
    ·unfold Cu;dsimp only;rw [J8 (G1 h),bM,wT,lB,oL K S w i _,lB,iH h,lB,iI,G4 (G1 h) (by omega)]
    ·unfold Cu;dsimp only;rw [H9,iG];rfl
  unfold Hf;rw [hv,e];rfl
theorem cN {m:Map}(K:KitM m){s:State}(S:SizeS s)(hs:SM s.In)(acts:List Int){A:List Agent}(hA:A.length=s.Agents.length)(v2:State):He m s acts v2 A=some (Bi m s A):=by
  have hl:=S.agents;have hz:=K.zones2
  have e:loop (Ct m s acts v2 A) (0,[])=some (Bi m s A):=by
    refine oN (fun i l=>((i:Int),l)) s.Agents (Vs m s A) id [] 2 1000000 rfl (by simp;omega) (fun i a _=>wL (GC _ _ _ _ _) hz) (fun i a l h hb=> ?_) (fun l=> ?_)
    ·have hg:=C8 h;have hr:=S.routes a (lG h)
     have e:loop (Cs m s acts v2 A ((i:Int),l) a) (0,l)=some (l++Vs m s A i a):=by
       refine cJ (fun z l=>((z:Int),l)) m.Zones (ET m s A i) id l 1000000 rfl (by omega) (fun z zn l' hz' hb'=> ?_) (fun l'=> ?_)
       ·unfold Cs ET;dsimp only;rw [J8 (G1 hz'),bM,CN K.toBearK S rfl rfl rfl hA,lB,G4 (G1 hz') (by omega)];cases hh:Pk m s A i z
        ·rfl
        ·obtain ⟨v8,p1,p2⟩:=iF K S hs (z:=(z:Int)) hg hr;rw [bU,bN,p1,lB,p2,lB,X3,bO (by simp;omega)];rfl
       ·unfold Cs;dsimp only;rw [H9];rfl
     unfold Ct;dsimp only;rw [J8 (G1 h),bM,hg,lB,e,lB,G4 (G1 h) (by omega)]
    ·unfold Ct;dsimp only;rw [H9];rfl
  unfold He;rw [e];rfl
theorem cO {m:Map}{s:State}{A:List Agent}{i:Nat}(h:W3 s i=false)(a:Agent):Vs m s A i a= []:=by
  apply List.eq_nil_iff_forall_not_mem.2;intro x hx;unfold Vs at hx;obtain ⟨z,zn,_,h2⟩:=(El _ _).1 hx;unfold ET Pk at h2;rw [h,bR,bP (by simp)]at h2;cases h2
theorem cP {m:Map}(B:BearK m){r:List Int}(hr:r.length≤1000000){p:Pass}(hp:p∈Mi m r):0≤Ft m r p.Zone_:=by
  unfold Mi at hp;by_cases q:Q8 m r=0
  ·obtain ⟨a,t,rfl,R⟩:=chkRoute_zero.1 q;obtain ⟨ps,p1,p2,_⟩:=SH B R;rw [p1]at hp;obtain ⟨i,lane,j,z,k,pt,h1,h2,h3,h4,rfl⟩:=DM m (a::t) 0 p (p2.mem_iff.1 hp);unfold Ft;dsimp only;rw [wF,h2];dsimp only;rw [bO ⟨by omega,q⟩]
   have hz:(Nv z lane).2=true:=by
     unfold Nv;cases hf:z.Parts.find? (fun p=>p.Lane_==lane)with
     |some _=>rfl
     |none=>
      have:=List.find?_eq_none.1 hf pt (lG h3);exact absurd (by simpa using h4) this
   have h5:=Xw (fun l=>(Nv z l).2) (a::t);rw [show ((a::t).any fun l=>(Nv z l).2)=true from lZ.2 ⟨lane,lG h1,hz⟩]at h5;exact bK h5
  ·have h1:loop (P7 m (Bx m r)) ([],0)=some []:=by
     refine D3 ?_;unfold P7;rw [Vn q];rfl
   have:X1 m r=some []:=by
     unfold X1;rw [Tz B.toBearM r hr,lB,h1,lB,GB];rfl
   rw [this]at hp;cases hp
theorem EV {m:Map}(B:BearK m){g g':Agent}(hr:g.Route.length≤1000){z:Int}(h:Iu m g g' z=true):0≤Ft m g.Route z:=by
  unfold Iu at h;rw [bS]at h;obtain ⟨p,h1,h2⟩:=lZ.1 h.2;unfold Wy at h2;simp only [bS,bZ]at h2;rw [← h2.1.1];exact cP B (by omega) h1
noncomputable def Ks (m:Map)(r:List Int)(x:Int):Int×Bool:=match r.findIdx? (fun y=>x==y)with
  |some i=>((StartsM m r).getD i 0,true)
  |none=>(0,false)
theorem cQ {m:Map}{a:Int}{t:List Int}(R:RouteOK m a t){i:Nat}(hi:i< (a::t).length):(StartsM m (a::t))[i]? =some ((StartsM m (a::t)).getD i 0):=by
  rw [List.getD,lH (by rw [R.StartsM,Nw];exact hi)];rfl
theorem YH {m:Map}(B:BearM m){s:State}{sc:WorldScene}{i:Int}{g:Agent}(hm:sc.m=m)(hb:sc.before=s)(hg:C4 s.Agents i=some g)(hr:g.Route.length≤1000){a:Int}{t:List Int}(hR:g.Route=a::t)(R:RouteOK m a t)(x:Int):U5 sc i x=some (Ks m g.Route x):=by
  unfold U5 T0 Ks
  rw [hm,hb,hg,lB,Sc g.Route (fun y=>x==y) (by omega) (fun i y h=>by
   unfold U9;rw [J8 (G1 h),bM,C8 h,lB]
   cases x==y<;>rfl) (by unfold U9;rw [H9];rfl),lB]
  unfold HZ;cases hf:g.Route.findIdx? (fun y=>x==y)with
  |none=>rfl
  |some k=>
   have hk:=(List.findIdx?_eq_some_iff_getElem.1 hf).1;dsimp only;rw [hR]at hk ⊢;rw [bI (by omega),bN,JN B _ (by rw [← hR];omega),lB,C8 (cQ R hk)];rfl
def xI (L:Int)(f' b' b:Agent)(fs bs:Int):Bool:=((((decide (E5 (f'.S - fs)≥0))&& (decide (E5 (b'.S - bs)≥0)))&& (decide (E5 (E5 (b.S - b.Len) - bs)≤L)))&& (decide (E5 (E5 (f'.S - f'.Len) - fs)≤L)))&& (decide (E5 (b'.S - bs)≥E5 (E5 (f'.S - f'.Len) - fs)))
noncomputable def Wz (m:Map)(tick i j:Int)(gi gj gi' gj':Agent)(x:Int):Option Crash:=
  if (Ks m gi.Route x).2=true∧(Ks m gj.Route x).2=true then
   if E5 (gi.S - (Ks m gi.Route x).1)<E5 (gj.S - (Ks m gj.Route x).1)then
    (if xI (Fi m x) gj' gi' gi (Ks m gj.Route x).1 (Ks m gi.Route x).1=true then some ⟨tick,i,j,x, -1,[i]⟩else none)
   else (if xI (Fi m x) gi' gj' gj (Ks m gi.Route x).1 (Ks m gj.Route x).1=true then some ⟨tick,i,j,x, -1,[j]⟩else none)
  else none
theorem wU {m:Map}(B:BearM m){s v2:State}{acts:List Int}{A:List Agent}{St:List Stay}{x4:List Crash}(hx4:x4.length≤1000000){i j:Int}{gi gj gi' gj':Agent}(hi:C4 s.Agents i=some gi)(hj:C4 s.Agents j=some gj)(hi':C4 A i=some gi')(hj':C4 A j=some gj')(hri:gi.Route.length≤1000)(hrj:gj.Route.length≤1000)
    {a b:Int} {t u:List Int} (hRi:gi.Route=a::t) (hRj:gj.Route=b::u) (Ri:RouteOK m a t) (Rj:RouteOK m b u) {k:Nat} {l:Lane} (h:m.Lanes[k]? =some l):
    Be m s acts v2 A St x4 (i,j) (k:Int)=some (match (Wz m s.Tick i j gi gj gi' gj' (k:Int)).map fun c=>x4++ [c]with|some e=> .out (.inr e)|none=> .go ((k+1:Nat):Int)):=by
  have hL:=B.lanes;unfold Be Wz;dsimp only;rw [J8 (G1 h),bM,YH B rfl rfl hi hri hRi Ri,lB,YH B rfl rfl hj hrj hRj Rj,lB,G4 (G1 h) (by omega),hi,hj];cases h1:(Ks m gi.Route (k:Int)).2
  ·rw [bP (by simp)];rfl
  cases h2:(Ks m gj.Route (k:Int)).2
  ·rw [bP (by simp)];rfl
  rw [bO ⟨rfl,rfl⟩];simp only [bU,Bool.or_self,bN,lB];by_cases q:E5 (gi.S - (Ks m gi.Route (k:Int)).1)<E5 (gj.S - (Ks m gj.Route (k:Int)).1)
  ·rw [bO q,bH q];simp only [bM,lB,hi,hj,hi',hj',Aw,Ab,Kk B];show cond (xI _ _ _ _ _ _) _ _=_;cases xI (Fi m (k:Int)) gj' gi' gi (Ks m gj.Route (k:Int)).1 (Ks m gi.Route (k:Int)).1
   ·rfl
   ·rw [bM,X3,bO (by simp;omega)];rfl
  ·rw [bP q,bI q];simp only [bN,lB,hi,hj,hi',hj',Aw,Ab,Kk B];show cond (xI _ _ _ _ _ _) _ _=_;cases xI (Fi m (k:Int)) gi' gj' gj (Ks m gi.Route (k:Int)).1 (Ks m gj.Route (k:Int)).1
   ·rfl
   ·rw [bM,X3,bO (by simp;omega)];rfl
structure Two (m:Map)(s:State)(A:List Agent)(i j:Int)(gi gj gi' gj':Agent):Prop where
  hi:C4 s.Agents i=some gi
  hj:C4 s.Agents j=some gj
  hi':C4 A i=some gi'
  hj':C4 A j=some gj'
  ti:W3 s i=true
  tj:W3 s j=true
  ri:gi.Route.length≤1000
  rj:gj.Route.length≤1000
  oi: ∃a t,gi.Route=a::t∧RouteOK m a t
  oj: ∃a t,gj.Route=a::t∧RouteOK m a t
theorem PO {α β γ:Type}(g:Nat→α→Option β)(f:β→γ): ∀(l:List α) (k:Nat),J0 (fun i a=>(g i a).map f) k l=(J0 g k l).map f
  | [],_=>rfl
  |a::r,k=>by
   rw [J0,J0];cases g k a with
   |none=>exact PO g f r (k+1)
   |some b=>rfl
noncomputable def PP (m:Map)(tick i j:Int)(gi gj gi' gj':Agent):List Crash:=(J0 (fun k (_:Lane)=>Wz m tick i j gi gj gi' gj' (k:Int)) 0 m.Lanes).toList
theorem SO (m:Map)(tick i j:Int)(gi gj gi' gj':Agent):(PP m tick i j gi gj gi' gj').length≤1:=by
  unfold PP;cases J0 (fun k (_:Lane)=>Wz m tick i j gi gj gi' gj' (k:Int)) 0 m.Lanes<;>simp
theorem yH {m:Map}(B:BearM m){s v2:State}{acts:List Int}{A:List Agent}{St:List Stay}{x4:List Crash}(hx4:x4.length≤1000000){i j:Int}{gi gj gi' gj':Agent}(T:Two m s A i j gi gj gi' gj'):
    Hc m s acts v2 A St x4 (i,j)=some (x4++PP m s.Tick i j gi gj gi' gj'):=by
  obtain ⟨a,t,hRi,Ri⟩:=T.oi;obtain ⟨b,u,hRj,Rj⟩:=T.oj;unfold Hc PP;rw [Z7 m.Lanes _ (fun k (_:Lane)=>(Wz m s.Tick i j gi gj gi' gj' (k:Int)).map fun c=>x4++ [c]) (fun k l h=>by rw [wU B hx4 T.hi T.hj T.hi' T.hj' T.ri T.rj hRi hRj Ri Rj h];cases Wz m s.Tick i j gi gj gi' gj' (k:Int)<;>rfl) (by unfold Be;rw [H9];rfl),PO (fun k (_:Lane)=>Wz m s.Tick i j gi gj gi' gj' (k:Int))];cases J0 (fun k (_:Lane)=>Wz m s.Tick i j gi gj gi' gj' (k:Int)) 0 m.Lanes with
  |none=>simp [LU,thenS]
  |some c=>rfl
noncomputable def Qw (m:Map)(s:State)(A:List Agent)(i j:Int)(gi gj:Agent)(z:Int):Bool:=(Pk m s A i z&&Pk m s A j z)&& (Mx m gi.Route z !=Mx m gj.Route z)
theorem iJ {m:Map}(B:BearK m){s:State}(S:SizeS s){sc:WorldScene}{A:List Agent}(hm:sc.m=m)(hb:sc.before=s)(ha:sc.after.Agents=A)(hl:A.length=s.Agents.length){i j:Int}{gi gj:Agent}(hi:C4 s.Agents i=some gi)(hj:C4 s.Agents j=some gj)(hri:gi.Route.length≤1000)(hrj:gj.Route.length≤1000)(z:Int):
    U4 sc i j z=some (Qw m s A i j gi gj z):=by
  unfold U4 Qw;rw [CN B S hm hb ha hl,CN B S hm hb ha hl,hm,hb,lB,hi,hj];cases Pk m s A i z
  ·rfl
  ·simp only [bM,lB,bQ];cases Pk m s A j z
   ·rfl
   ·simp only [bM,lB,JS B.toBearM (show gi.Route.length≤1000000 by omega),JS B.toBearM (show gj.Route.length≤1000000 by omega)]
noncomputable def sV (m:Map)(s:State)(i j z:Int):List Int:=
  if (Wk m s i z).Rank< (Wk m s j z).Rank∨(Wk m s i z).Rank=(Wk m s j z).Rank∧(Wk m s i z).Since>(Wk m s j z).Since then [i]
  else if (Wk m s j z).Rank< (Wk m s i z).Rank∨(Wk m s j z).Since>(Wk m s i z).Since then [j]else [i,j]
noncomputable def UU (m:Map)(s:State)(A:List Agent)(i j:Int)(gi gj:Agent)(z:Nat)(_:Zone):Option Crash:=if Qw m s A i j gi gj z=true then some ⟨s.Tick,i,j, -1,(z:Int),sV m s i j z⟩else none
noncomputable def SP (m:Map)(s:State)(A:List Agent)(i j:Int)(gi gj:Agent):List Crash:=Hr (UU m s A i j gi gj) 0 m.Zones
theorem cR {m:Map}{s:State}{A:List Agent}{i j:Int}{gi gj:Agent}{z:Int}(h:Qw m s A i j gi gj z=true):Pk m s A i z=true∧Pk m s A j z=true:=by
  unfold Qw at h;simp only [bS]at h;exact h.1
theorem YI {m:Map}(B:BearK m){s:State}(S:SizeS s){A:List Agent}{sc:WorldScene}(ha:sc.after.In=Bi m s A){i z:Int}(hz:0≤z∧z<m.Zones.length)(h:Pk m s A i z=true):V5 sc i z=some (Wk m s i z):=by
  have h2:=B.zones2;have hl:=DN m s A
  have hlen:(Bi m s A).length≤1000000:=by
    have:=wM S.agents h2;omega
  obtain ⟨k,h1,h2⟩:=eP hlen (PN m s A) (Stay.mk i z 0 0);have hf:=cK hz h;unfold V5;rw [ha,h1,lB,C8 (h2 _ hf)];rfl
theorem wV (m:Map)(s:State)(i j z:Int):((Aa (Wk m s i z).Rank (Wk m s j z).Rank).bind fun v31=>(Az (Wk m s j z).Since (Wk m s i z).Since).bind fun v32=>(Cd [v31,v32]).bind fun v33=>(cond (v33==(-1)) (some [i]) (cond (v33==1) (some [j]) (some [i,j]))))=some (sV m s i j z):=by
  rw [Vl,lB,Zj,lB,cI,lB];unfold sV IE;by_cases a:(Wk m s i z).Rank< (Wk m s j z).Rank
  ·simp [a]
  ·by_cases b:(Wk m s i z).Rank>(Wk m s j z).Rank
   ·have:(Wk m s i z).Rank≠(Wk m s j z).Rank:=by omega
    simp [a,b,this]
   ·have e:(Wk m s i z).Rank=(Wk m s j z).Rank:=by omega
    by_cases c:(Wk m s j z).Since< (Wk m s i z).Since
    ·simp [e,c]
    ·by_cases d:(Wk m s j z).Since>(Wk m s i z).Since
     ·simp [e,c,d]
     ·simp [e,c,d]
theorem iK (m:Map)(s:State)(A:List Agent)(i j:Int)(gi gj:Agent):(SP m s A i j gi gj).length≤m.Zones.length:=Xx _ _ _
theorem wW {m:Map}(B:BearK m){s v2:State}(S:SizeS s){acts:List Int}{A:List Agent}(hl:A.length=s.Agents.length){y:List Crash}(hy:y.length≤1000001){i j:Int}{gi gj gi' gj':Agent}(T:Two m s A i j gi gj gi' gj'):
    Ev m s acts v2 A (Bi m s A) (i,j) y=some (y++SP m s A i j gi gj):=by
  have h2:=B.zones2
  have e:loop (Bd m s acts v2 A (Bi m s A) (i,j)) (0,y)=some (y++SP m s A i j gi gj):=by
    refine cJ (fun z l=>((z:Int),l)) m.Zones (UU m s A i j gi gj) id y 1000003 rfl (by omega) (fun z zn l hz hb=> ?_) (fun l=> ?_)
    ·unfold Bd UU;dsimp only;rw [J8 (G1 hz),bM,iJ B S rfl rfl rfl hl T.hi T.hj T.ri T.rj,lB,G4 (G1 hz) (by omega)];cases hc:Qw m s A i j gi gj z
     ·rfl
     ·have hh:=cR hc;have hzr:(0:Int)≤(z:Int)∧(z:Int)<m.Zones.length:=⟨by omega,by have:=G1 hz;omega⟩;rw [bU,bN,YI B S rfl hzr hh.1,lB,YI B S rfl hzr hh.2,lB];have hw:=wV m s i j z;rw [Vl,lB,Zj,lB,cI,lB]at hw ⊢;rw [hw,lB,X3,bO (by simp;omega)];rfl
    ·unfold Bd;dsimp only;rw [H9];rfl
  unfold Ev;rw [e];rfl
noncomputable def GD (m:Map)(s:State)(A:List Agent)(i j:Int)(gi gj:Agent):List Int:=Hr (fun z (_:Zone)=>if Qw m s A i j gi gj z=true then some (z:Int)else none) 0 m.Zones
theorem iL {m:Map}(B:BearK m){s s':State}{A:List Agent}(hA:s'.Agents=A){i j:Int}{gi gj gi' gj':Agent}(T:Two m s A i j gi gj gi' gj'):Sa m s s' i j=some (GD m s A i j gi gj):=by
  have h2:=B.zones2
  have e:loop (Ir m s s' i j) ([],0)=some (GD m s A i j gi gj):=by
    refine JK m.Zones (fun z (_:Zone)=>if Qw m s A i j gi gj z=true then some (z:Int)else none) id (fun z zn l hz hb=> ?_) (fun l=> ?_)
    ·have ec:Qw m s A i j gi gj (z:Int)=((Iu m gi gi' (z:Int)&&Iu m gj gj' (z:Int))&& (Mx m gi.Route (z:Int) !=Mx m gj.Route (z:Int))):=by
       unfold Qw Pk;rw [T.hi,T.hj,T.hi',T.hj',T.ti,T.tj,bQ,bQ]
     have hno:Qw m s A i j gi gj (z:Int)=false→(if Qw m s A i j gi gj (z:Int)=true then some (z:Int)else none)=none:=fun h=>bP (by rw [h];simp);unfold Ir;dsimp only;rw [J8 (G1 hz),bM,hA,T.hi,lB,T.hj,lB,T.hi',lB,(Zo B T.ri z).2,lB,G4 (G1 hz) (by omega),T.hj'];cases h1:Iu m gi gi' (z:Int)
     ·rw [hno (by rw [ec,h1];rfl)];rfl
     ·simp only [bU,bV,bM,bN,lB,bW,bQ];rw [(Zo B T.rj z).2,lB];cases h3:Iu m gj gj' (z:Int)
      ·rw [hno (by rw [ec,h1,h3];rfl)];rfl
      ·have q1:=EV B T.ri h1;have q2:=EV B T.rj h3;obtain ⟨_,_,_,g1,_⟩:=IH q1;obtain ⟨_,_,_,g2,_⟩:=IH q2;have g1:=C8 g1;have g2:=C8 g2;rw [wG q1]at g1;rw [wG q2]at g2;rw [bU,bN,JO B.toBearM _ (by have:=T.ri;omega),lB,g1,lB,JO B.toBearM _ (by have:=T.rj;omega),lB,g2,lB];cases e:(Mx m gi.Route (z:Int) !=Mx m gj.Route (z:Int))
       ·rw [hno (by rw [ec,h1,h3,e];rfl)];rfl
       ·rw [bO (show Qw m s A i j gi gj (z:Int)=true by rw [ec,h1,h3,e];rfl),bM,X3,bO (by have:=G1 hz;simp;omega)];rfl
    ·unfold Ir;dsimp only;rw [H9];rfl
  unfold Sa;rw [e];rfl
noncomputable def EW (m:Map)(s:State)(A:List Agent)(i j:Int):List Crash:=match C4 s.Agents i,C4 s.Agents j,C4 A i,C4 A j with
  |some gi,some gj,some gi',some gj'=>PP m s.Tick i j gi gj gi' gj'++SP m s A i j gi gj
  |_,_,_,_=> []
theorem Two.pair {m:Map}{s:State}{A:List Agent}{i j:Int}{gi gj gi' gj':Agent}(T:Two m s A i j gi gj gi' gj'):EW m s A i j=PP m s.Tick i j gi gj gi' gj'++SP m s A i j gi gj:=by
  unfold EW;rw [T.hi,T.hj,T.hi',T.hj']
theorem oO {m:Map}{s:State}(O: ∀g∈s.Agents,∃a t,g.Route=a::t∧RouteOK m a t)(S:SizeS s){A:List Agent}(hA:A.length=s.Agents.length){i j:Int}(hi:W3 s i=true)(hj:W3 s j=true): ∃gi gj gi' gj',Two m s A i j gi gj gi' gj':=by
  obtain ⟨gi,a1,a2,a3,a4,_⟩:=Vr hi;obtain ⟨gj,b1,b2,b3,b4,_⟩:=Vr hj;obtain ⟨gi',c1,_⟩:=Ua (l:=A) a3 (by omega);obtain ⟨gj',d1,_⟩:=Ua (l:=A) b3 (by omega);have mi:=lG a2;have mj:=lG b2;exact ⟨gi,gj,gi',gj',a1,b1,c1,d1,hi,hj,S.routes gi mi,S.routes gj mj,O gi mi,O gj mj⟩
theorem SQ {m:Map}(B:BearK m)(s:State)(A:List Agent)(i j:Int):(EW m s A i j).length≤3:=by
  have h2:=B.zones2;unfold EW;split
  ·rename_i gi gj gi' gj' _ _ _ _;have h1:=SO m s.Tick i j gi gj gi' gj';have h3:=iK m s A i j gi gj;rw [lM];omega
  ·simp
def Zq (s:State)(i:Nat):Nat→Nat→List (Int×Int)
  |0,_=> []
  |k+1,j=>cond (W3 s i&&W3 s j) (((i:Int),(j:Int))::Zq s i k (j+1)) (Zq s i k (j+1))
def Nz (s:State)(n:Nat):Nat→Nat→List (Int×Int)
  |0,_=> []
  |k+1,i=>Zq s i (n - (i+1)) (i+1)++Nz s n k (i+1)
theorem SR (s:State)(i:Nat): ∀k j,CA s i k j=some (Zq s i k j)
  |0,_=>rfl
  |k+1,j=>by rw [CA,(Sd s i).1,lB,(Sd s j).1,lB,SR s i k (j+1)];rfl
theorem SS (s:State)(n:Nat): ∀k i,FM s n k i=some (Nz s n k i)
  |0,_=>rfl
  |k+1,i=>by rw [FM,SR,lB,SS s n k (i+1)];rfl
theorem iM {s:State}(S:SizeS s):JC s=some (Nz s s.Agents.length s.Agents.length 0):=by
  have:=S.agents;unfold JC;rw [bO (by omega),SS]
theorem PQ {s:State}{i:Nat}{p:Int×Int}: ∀{k j},p∈Zq s i k j→p.1=i∧W3 s i=true∧W3 s p.2=true∧∃j':Nat,p.2=j'∧j≤j'∧j'<j+k
  |0,_,h=>by simp [Zq]at h
  |k+1,j,h=>by
   rw [Zq]at h;cases hc:(W3 s i&&W3 s j)
   ·rw [hc,bN]at h;obtain ⟨h1,h2,h3,j',h4,h5,h6⟩:=PQ h;exact ⟨h1,h2,h3,j',h4,by omega,by omega⟩
   ·rw [hc,bM]at h;rw [bS]at hc;rcases lU.1 h with rfl|h
    ·exact ⟨rfl,hc.1,hc.2,j,rfl,by omega,by omega⟩
    ·obtain ⟨h1,h2,h3,j',h4,h5,h6⟩:=PQ h;exact ⟨h1,h2,h3,j',h4,by omega,by omega⟩
theorem ST {s:State}{n:Nat}{p:Int×Int}: ∀{k i},p∈Nz s n k i→∃a b:Nat,p=((a:Int),(b:Int))∧i≤a∧a<b∧b<n∧W3 s a=true∧W3 s b=true
  |0,_,h=>by simp [Nz]at h
  |k+1,i,h=>by
   rw [Nz]at h;rcases lT.1 h with h|h
   ·obtain ⟨h1,h2,h3,j',h4,h5,h6⟩:=PQ h;obtain ⟨x,y⟩:=p;dsimp only at h1 h3 h4;subst h1 h4;exact ⟨i,j',rfl,by omega,by omega,by omega,h2,h3⟩
   ·obtain ⟨a,b,h1,h2,h3⟩:=ST h;exact ⟨a,b,h1,by omega,h3⟩
theorem YJ (s:State)(i:Nat): ∀k j,(Zq s i k j).length≤k
  |0,_=>by simp [Zq]
  |k+1,j=>by
   have:=YJ s i k (j+1);rw [Zq];cases W3 s i&&W3 s j
   ·rw [bN];omega
   ·rw [bM,lL];omega
theorem JU (s:State)(n:Nat): ∀k i,(Nz s n k i).length≤k*n
  |0,_=>by simp [Nz]
  |k+1,i=>by
   have h1:=YJ s i (n - (i+1)) (i+1);have h2:=JU s n k (i+1);rw [Nz,lM,wJ,Nat.one_mul];omega
noncomputable def Yd (m:Map)(s:State)(A:List Agent):List Crash:=(Nz s s.Agents.length s.Agents.length 0).flatMap fun p=>EW m s A p.1 p.2
theorem yI {m:Map}(B:BearK m){s v2:State}(S:SizeS s){acts:List Int}{A:List Agent}(hl:A.length=s.Agents.length){x4:List Crash}(hx:x4.length≤1000000){i j:Int}{gi gj gi' gj':Agent}(T:Two m s A i j gi gj gi' gj'):
    Cr m s acts v2 A (Bi m s A) x4 (i,j)=some (.go (x4++EW m s A i j)):=by
  have h1:=SO m s.Tick i j gi gj gi' gj';unfold Cr;rw [yH B.toBearM hx T,lB,wW B S hl (by rw [lM];omega) T,lB,T.pair,lO]
theorem EX {m:Map}(B:BearK m){s v2:State}(S:SizeS s)(O: ∀g∈s.Agents,∃a t,g.Route=a::t∧RouteOK m a t){acts:List Int}{A:List Agent}(hl:A.length=s.Agents.length): ∀(L:List (Int×Int)) (x:List Crash),(∀p∈L,W3 s p.1=true∧W3 s p.2=true)→x.length+3*L.length≤1000003→
    loopL (Cr m s acts v2 A (Bi m s A)) (fun x4=>x4) L x=some (x++L.flatMap fun p=>EW m s A p.1 p.2)
  | [],x,_,_=>by simp [loopL]
  |p::L,x,h,hx=>by
   obtain ⟨i,j⟩:=p;have hp:=h (i,j) (by simp);obtain ⟨gi,gj,gi',gj',T⟩:=oO O S hl hp.1 hp.2;rw [lL]at hx;have h3:=SQ B s A i j;rw [loopL,yI B S hl (by omega) T];dsimp only;rw [EX B S O hl L _ (fun q hq=>h q (by simp [hq])) (by rw [lM];omega),bE,lO]
theorem yJ {m:Map}(B:BearK m){s v2:State}(S:SizeS s)(hn:s.Agents.length≤500)(O: ∀g∈s.Agents,∃a t,g.Route=a::t∧RouteOK m a t){acts:List Int}{A:List Agent}(hl:A.length=s.Agents.length):Hd m s acts v2 A (Bi m s A)=some (Yd m s A):=by
  have h1:=JU s s.Agents.length s.Agents.length 0;have h2:s.Agents.length*s.Agents.length≤500*500:=wM hn hn;unfold Hd Wu
  rw [lB,iM S,lB,EX B S O hl _ _ (fun p hp=>by
   obtain ⟨a,b,rfl,_,_,_,h3,h4⟩:=ST hp
   exact ⟨h3,h4⟩) (by rw [lN];omega),lB,lQ];rfl
noncomputable def Wl (m:Map)(s:State)(acts:List Int):State×List Crash×Int:=
  if Vq m s≠0 then (⟨0,[],[]⟩,[],Vq m s)
  else if s.Tick=1099511627776 then (⟨0,[],[]⟩,[],2)
  else (⟨s.Tick+1,Ds m s acts,Bi m s (Ds m s acts)⟩,Yd m s (Ds m s acts),0)
theorem YK {m:Map}(K:KitM m){s:State}(S:SizeS s)(w: ∀g∈s.Agents,g.S≤9223372036854775807)(acts:List Int):Hg m s acts=some (Wl m s acts):=by
  have c1:=(PK K.toBearM S w).1;unfold Hg Wl;rw [c1,lB];by_cases q:Vq m s=0
  case neg=>
    rw [bO q,show (Vq m s !=0)=true by simpa using q];rfl
  rw [bP (by simp [q]),show (Vq m s !=0)=false by simp [q],bN];have O:=(Ny K).1 q;have t1:=O.tick;by_cases t:s.Tick=1099511627776
  ·rw [bO t,bH (by omega)];rfl
  rw [bP t,bI (by omega),bN];have hn:s.Agents.length≤500:=by have:=O.num;omega
  have OR: ∀g∈s.Agents,∃a t,g.Route=a::t∧RouteOK m a t:=fun g hg=>by
    obtain ⟨i,hi⟩:=bF hg;exact (O.agent i g hi).route
  have hs:=iD O.sorted;have e1:Hb s=some s:=sN S;have tk:E5 (s.Tick+1)=s.Tick+1:=H4 (by omega);rw [e1,lB,cM K S w acts rfl,lB,cN K S hs acts (Qv m s acts),lB,yJ K.toBearK S hn OR (Qv m s acts),tk];rfl
theorem JV (l:List Crash)(hl:l.length≤1000000)(hw: ∀c∈l,c.Who.length≤1000000):Ki l l=some true:=by
  unfold Ki
  rw [show ((l.length:Int) !=(l.length:Int))=false by simp,bN,Z7 l _ (fun _ _=>(none:Option Bool)) (fun i a h=>by
   have e:=IC a.Who (hw a (lG h));unfold Fc;rw [J8 (G1 h),C8 h,G4 (G1 h) (by omega)]
   simp [e]) (by unfold Fc;rw [H9];rfl)]
  have: ∀(l:List Crash) (k:Nat),J0 (fun _ _=>(none:Option Bool)) k l=none:=by
    intro l
    induction l with
    |nil=>intro k;rfl
    |cons a r ih=>intro k;rw [J0];exact ih (k+1)
  rw [this];rfl
theorem oP (m:Map)(s:State)(A:List Agent)(i j:Int): ∀c∈EW m s A i j,c.Who.length≤2:=by
  intro c hc;unfold EW at hc;split at hc
  ·rename_i gi gj gi' gj' _ _ _ _;rcases lT.1 hc with h|h
   ·unfold PP at h;rw [Option.mem_toList]at h
    have: ∀(l:List Lane) (k:Nat),∀c,J0 (fun k (_:Lane)=>Wz m s.Tick i j gi gj gi' gj' (k:Int)) k l=some c→c.Who.length≤2:=by
      intro l
      induction l with
      |nil=>intro k c h;cases h
      |cons a r ih=>
       intro k c h;rw [J0]at h;split at h
       ·rename_i e he;cases h;unfold Wz at he;split at he
        ·split at he
         ·split at he
          ·cases he;simp
          ·cases he
         ·split at he
          ·cases he;simp
          ·cases he
        ·cases he
       ·exact ih (k+1) c h
    exact this _ _ _ h
   ·unfold SP at h;obtain ⟨z,zn,_,h⟩:=(El _ _).1 h;unfold UU at h;split at h
    ·cases h;unfold sV;dsimp only;split
     ·simp
     ·split<;>simp
    ·cases h
  ·cases hc
theorem iN {m:Map}(K:KitM m){s:State}(S:SizeS s)(acts:List Int):SizeS (Wl m s acts).1∧(Wl m s acts).2.1.length≤1000000∧∀c∈(Wl m s acts).2.1,c.Who.length≤1000000:=by
  have h0:SizeS ⟨0,[],[]⟩:=⟨by simp,by simp,by simp⟩;unfold Wl;split
  ·exact ⟨h0,by simp,by simp⟩
  rename_i q;split
  ·exact ⟨h0,by simp,by simp⟩
  have O:=(Ny K).1 (Decidable.byContradiction q);have hn:=O.num;have hz:=K.zones2;have h1:=DN m s (Ds m s acts);have h2:s.Agents.length*m.Zones.length≤8*2:=wM hn.2 hz;have h3:=JU s s.Agents.length s.Agents.length 0;have h4:s.Agents.length*s.Agents.length≤8*8:=wM hn.2 hn.2;refine ⟨⟨by rw [Qv];omega,by dsimp only;omega,fun a ha=> ?_⟩,?_,fun c hc=> ?_⟩
  ·dsimp only at ha;obtain ⟨i,hi⟩:=bF ha;have hil:i<s.Agents.length:=by have:=G1 hi;rw [Qv]at this;exact this
   have hg:s.Agents[i]? =some s.Agents[i]:=lH hil;have:=SN (m:=m) (acts:=acts) hg;rw [C8 hi]at this;rw [lD this];unfold IG;rw [C8 hg];have:=S.routes _ (lG hg);dsimp only;split
   ·exact this
   ·exact this
  ·have: ∀l:List (Int×Int),(l.flatMap fun p=>EW m s (Ds m s acts) p.1 p.2).length≤3*l.length:=by
     intro l
     induction l with
     |nil=>simp
     |cons p l ih=>have:=SQ K.toBearK s (Ds m s acts) p.1 p.2;rw [bE,lM,lL];omega
   have:=this (Nz s s.Agents.length s.Agents.length 0);show (Yd m s (Ds m s acts)).length≤_;unfold Yd;omega
  ·obtain ⟨p,_,h⟩:=List.mem_flatMap.1 hc;have:=oP m s _ _ _ c h;omega
noncomputable def CO (m:Map)(g:Agent)(i:Nat)(st:Int):Option Span:=
  if max 0 (E5 (E5 (g.S - g.Len) - st))≤min (E5 (g.S - st)) (Fi m (g.Route.getD i 0))then some ⟨g.Route.getD i 0,max 0 (E5 (E5 (g.S - g.Len) - st)),min (E5 (g.S - st)) (Fi m (g.Route.getD i 0))⟩else none
noncomputable def Fo (m:Map)(g:Agent):List Span:=if ES g=true then Hr (CO m g) 0 (StartsM m g.Route)else []
theorem PR {m:Map}(r:List Int):(StartsM m r).length≤r.length:=by
  unfold StartsM Bx;split
  ·dsimp only;rw [Nw];exact wH _
  ·simp
theorem eQ {m:Map}(B:BearM m){g:Agent}(hr:g.Route.length≤1000):Jo m g=some (Fo m g)∧Qo m g=some (Fo m g):=by
  have s1:Nk g=some (ES g):=rfl;have s2:Nm g=some (ES g):=rfl;have hsl:=PR (m:=m) g.Route
  have hrt: ∀(i:Nat) st,(StartsM m g.Route)[i]? =some st→C4 g.Route (i:Int)=some (g.Route.getD i 0):=fun i st h=>by
    have:=G1 h;apply C8;rw [List.getD,lH (by omega)];rfl
  have e1:loop (Cq m g (StartsM m g.Route)) ([],0)=some (Hr (CO m g) 0 (StartsM m g.Route)):=by
    refine JK (StartsM m g.Route) (CO m g) id (fun i st l h hl=> ?_) (fun l=> ?_)
    ·have hi:=G1 h;unfold Cq CO;dsimp only;rw [J8 hi,bM,C8 h,lB,hrt i st h,G4 hi (by omega)];simp only [lB,Aw,Ab,Ih,Ej,Kk B,Wa,Qz];rw [Int.max_comm 0];by_cases q:max (E5 (E5 (g.S - g.Len) - st)) 0≤min (E5 (g.S - st)) (Fi m (g.Route.getD i 0))
     ·rw [bO q,bI (by omega),bV,bM,X3,bO (by simp;omega)];rfl
     ·rw [bP q,bH (by omega)];rfl
    ·unfold Cq;dsimp only;rw [H9];rfl
  have e2:loop (Kq m g (StartsM m g.Route)) ([],0)=some (Hr (CO m g) 0 (StartsM m g.Route)):=by
    refine JK (StartsM m g.Route) (CO m g) id (fun i st l h hl=> ?_) (fun l=> ?_)
    ·have hi:=G1 h;unfold Kq CO;dsimp only;rw [J8 hi,bM,C8 h,lB,lB,hrt i st h,G4 hi (by omega)];simp only [lB,LV B,Wa,Qz];by_cases q:max 0 (E5 (E5 (g.S - g.Len) - st))≤min (E5 (g.S - st)) (Fi m (g.Route.getD i 0))
     ·rw [bO q,bH q,bM,X3,bO (by simp;omega)];rfl
     ·rw [bP q,bI q];rfl
    ·unfold Kq;dsimp only;rw [H9];rfl
  unfold Jo Qo Fo;rw [s1,s2,lB,lB];cases hs:ES g
  ·exact ⟨rfl,rfl⟩
  ·simp only [bU,bN,if_true];rw [JN B _ (by omega),Zl B _ (by omega),lB,lB,e1,e2];exact ⟨rfl,rfl⟩
theorem YL (m:Map)(g:Agent):(Fo m g).length≤g.Route.length:=by
  unfold Fo;split
  ·exact wL (Xx _ _ _) (PR _)
  ·simp
theorem eS {m:Map}{g:Agent}{x:Span}(h:x∈Fo m g):x.From≤x.To:=by
  unfold Fo at h;split at h
  ·obtain ⟨i,st,_,h⟩:=(El _ _).1 h;unfold CO at h;split at h
   ·cases h;assumption
   ·cases h
  ·cases h
def Ye (x y:Span):Bool:=((x.Lane_==y.Lane_)&&decide (x.From≤y.To))&&decide (y.From≤x.To)
noncomputable def CP (m:Map)(g g':Agent):Bool:=(Fo m g).any fun x=>(Fo m g').any fun y=>Ye x y
theorem YM {m:Map}(B:BearM m){g g':Agent}(hr:g.Route.length≤1000)(hr':g'.Route.length≤1000):Cz m g g'=some (CP m g g')∧Lu m g g'=some (CP m g g'):=by
  obtain ⟨b1,b2⟩:=eQ B hr;obtain ⟨c1,c2⟩:=eQ B hr';have l1:=YL m g;have l2:=YL m g';constructor
  ·have inner: ∀x∈Fo m g,F8 (Fo m g') x=some ((Fo m g').any fun y=>Ye x y):=by
     intro x hx;unfold F8 I5;refine Pj _ (fun y=>Ye x y) _ (by omega) (fun i y hy=> ?_) (by unfold L6;rw [H9];rfl);have o1:=eS hx;have o2:=eS (lG hy);unfold L6 Gi;rw [J8 (G1 hy),bM,C8 hy,lB];simp only [Ih,Ej,Wa,Qz];unfold Ye;by_cases e:x.Lane_=y.Lane_
     ·rw [e];simp only [beq_self_eq_true,bM,lB,bQ];by_cases q:x.From≤y.To∧y.From≤x.To
      ·rw [bH q.1,bH q.2,bI (by omega)];rfl
      ·rw [show (decide (x.From≤y.To)&&decide (y.From≤x.To))=false by rw [bX];simpa using q,bH (by omega)];rfl
     ·rw [show (x.Lane_==y.Lane_)=false by simpa using e];rfl
   have outer:G8 (Fo m g) (Fo m g')=some (CP m g g'):=by
     unfold G8 J7 CP;refine Pj _ (fun x=>(Fo m g').any fun y=>Ye x y) _ (by omega) (fun i x hx=> ?_) (by unfold G7;rw [H9];rfl);unfold G7 Af;rw [J8 (G1 hx),bM,C8 hx,lB,inner x (lG hx)];simp only [lB];cases (Fo m g').any fun y=>Ye x y<;>rfl
   unfold Cz;rw [c1,lB,b1,lB,outer];rfl
  ·have inner: ∀(i:Nat) x,(Fo m g)[i]? =some x→loop (De (Fo m g) (Fo m g') (i:Int)) 0=some (if (Fo m g').any (fun y=>Ye x y)then .inr true else .inl ()):=by
     intro i x hx;refine KM (Fo m g') (fun y=>Ye x y) true (fun j y hy=> ?_) (by unfold De;rw [H9];rfl);unfold De Ye;rw [J8 (G1 hy),bM,C8 hx,lB,C8 hy,lB,G4 (G1 hy) (by omega)];cases e:(x.Lane_==y.Lane_)
     ·rfl
     ·simp only [bM,lB,bQ];cases e2:decide (x.From≤y.To)
      ·rfl
      ·simp only [bM,lB,bQ];cases decide (y.From≤x.To)<;>rfl
   have outer:loop (Df (Fo m g) (Fo m g')) 0=some (if (Fo m g).any (fun x=>(Fo m g').any fun y=>Ye x y)then .inr true else .inl ()):=by
     refine KM (Fo m g) (fun x=>(Fo m g').any fun y=>Ye x y) true (fun i x hx=> ?_) (by unfold Df;rw [H9];rfl);unfold Df;rw [J8 (G1 hx),bM,inner i x hx,G4 (G1 hx) (by omega)];cases (Fo m g').any fun y=>Ye x y<;>rfl
   unfold Lu CP;rw [b2,lB,c2,lB,outer];cases (Fo m g).any fun x=>(Fo m g').any fun y=>Ye x y<;>rfl
noncomputable def II (m:Map)(s:State)(A:List Agent)(i j:Int):Bool:=match C4 s.Agents i,C4 s.Agents j with
  |some gi,some gj=>CP m gi gj||decide (0< (GD m s A i j gi gj).length)
  |_,_=>false
abbrev Ni:State:=⟨0,[],[]⟩
theorem cS {m:Map}(K:KitM m){A:List Agent}(S:SizeS ⟨0,A,[]⟩):loop (Jt m A) (0,(⟨0,A,[]⟩:State))=some ⟨0,A,Bi m ⟨0,A,[]⟩ A⟩:=by
  have hl:A.length≤1000:=S.agents;have hz:=K.zones2;refine oN (fun i l=>((i:Int),(⟨0,A,l⟩:State))) A (Vs m ⟨0,A,[]⟩ A) (fun l=>(⟨0,A,l⟩:State)) [] 2 1000000 rfl (by simp;omega) (fun i a _=>wL (GC _ _ _ _ _) hz) (fun i g l h hb=> ?_) (fun l=> ?_)
  ·have hg:C4 A (i:Int)=some g:=C8 h;have hr:g.Route.length≤1000:=S.routes g (lG h)
   have e:loop (Js m A ((i:Int),(⟨0,A,l⟩:State))) (0,(⟨0,A,l⟩:State))=some ⟨0,A,l++Vs m ⟨0,A,[]⟩ A i g⟩:=by
     have th: ∀l',W3 ⟨0,A,l'⟩ (i:Int)=W3 ⟨0,A,[]⟩ (i:Int):=fun _=>rfl;cases ht:W3 ⟨0,A,[]⟩ (i:Int)
     ·rw [D3 (t:=(⟨0,A,l⟩:State)),cO ht,lP];unfold Js;dsimp only;rw [(Sd _ _).2,th,ht];cases decide ((0:Int)< (m.Zones.length:Int))<;>rfl
     ·refine cJ (fun z l=>((z:Int),(⟨0,A,l⟩:State))) m.Zones (ET m ⟨0,A,[]⟩ A i) (fun l=>(⟨0,A,l⟩:State)) l 1000000 rfl (by omega) (fun z zn l' hz' hb'=> ?_) (fun l'=> ?_)
      ·unfold Js ET;dsimp only;rw [J8 (G1 hz'),bM,(Sd _ _).2,lB,th,ht,bQ,bM,hg,lB,lB,(Zo K.toBearK hr z).2,lB,G4 (G1 hz') (by omega)]
       have e:Pk m ⟨0,A,[]⟩ A i z=Iu m g g z:=by
         unfold Pk;rw [ht,bQ];dsimp only;rw [hg]
       rw [e];cases hh:Iu m g g z
       ·rfl
       ·have es:Wk m ⟨0,A,[]⟩ (i:Int) (z:Int)=⟨(i:Int),(z:Int),0,KV m g.Route z 0⟩:=by
          unfold Wk;simp only [List.find?_nil,hg]
        rw [bM,lB,(eO K hr z 0).2,lB,X3,bO (by simp;omega),bO rfl,es];rfl
      ·unfold Js;dsimp only;rw [H9];rfl
   unfold Jt;dsimp only;rw [J8 (G1 h),bM,e,lB,G4 (G1 h) (by omega)]
  ·unfold Jt;dsimp only;rw [H9];rfl
theorem cT {m:Map}(B:BearK m){s:State}(S:SizeS s)(O: ∀g∈s.Agents,∃a t,g.Route=a::t∧RouteOK m a t)(i:Nat): ∀(k j:Nat),j+k=s.Agents.length→
    loop (Jr m s.Agents ((i:Int),s)) (j:Int)=some (if (Zq s i k j).any (fun p=>II m s s.Agents p.1 p.2)=true then .inr (Ni,12)else .inl ())
  |0,j,hj=>by
   obtain rfl:j=s.Agents.length:=by omega
   rw [D3 (t:= .inl ()) (by unfold Jr;rw [H9];rfl)];rfl
  |k+1,j,hj=>by
   have hjl:j<s.Agents.length:=by omega
   have hn:=S.agents
   have key:Jr m s.Agents ((i:Int),s) (j:Int)=some (if (W3 s i&&W3 s j)&&II m s s.Agents i j=true then .out (.inr (Ni,12))else .go ((j+1:Nat):Int)):=by
     unfold Jr;dsimp only;rw [J8 hjl,bM,(Sd s i).2,lB,G4 hjl (by omega)];cases h1:W3 s i
     ·rfl
     ·simp only [bU,bV,bM,bW,bQ];rw [(Sd s j).2,lB];cases h2:W3 s j
      ·rfl
      ·obtain ⟨gi,gj,gi',gj',T⟩:=oO O S rfl h1 h2;have hbad:II m s s.Agents i j=(CP m gi gj||decide (0< (GD m s s.Agents i j gi gj).length)):=by unfold II;rw [T.hi,T.hj]
       rw [bU,bN,T.hi,T.hj,lB,lB,(YM B.toBearM T.ri T.rj).2,lB,hbad];cases CP m gi gj
       ·rw [bV,bM,iL B rfl T,lB];by_cases q:0< (GD m s s.Agents i j gi gj).length
        ·rw [bH (show ((GD m s s.Agents i j gi gj).length:Int)>0 by omega),bH q];rfl
        ·rw [bI (show ¬((GD m s s.Agents i j gi gj).length:Int)>0 by omega),bI q];rfl
       ·rfl
   rw [Zq];cases h1:(W3 s i&&W3 s j)
   ·rw [h1]at key;rw [K1 (s':=((j+1:Nat):Int)) (by rw [key];rfl),bN];exact cT B S O i k (j+1) (by omega)
   ·rw [h1]at key;rw [bM,List.any_cons];cases h2:II m s s.Agents i j
    ·rw [h2]at key;rw [K1 (s':=((j+1:Nat):Int)) (by rw [key];rfl),bW];exact cT B S O i k (j+1) (by omega)
    ·rw [h2]at key;rw [D3 (t:= .inr (Ni,12)) (by rw [key];rfl)];rfl
theorem oQ {m:Map}(B:BearK m){s:State}(S:SizeS s)(O: ∀g∈s.Agents,∃a t,g.Route=a::t∧RouteOK m a t): ∀(k i:Nat),i+k=s.Agents.length→
    loop (Gp m s.Agents) ((i:Int),s)=some (if (Nz s s.Agents.length k i).any (fun p=>II m s s.Agents p.1 p.2)=true then .inr (Ni,12)else .inl s)
  |0,i,hi=>by
   obtain rfl:i=s.Agents.length:=by omega
   rw [D3 (t:= .inl s) (by unfold Gp;dsimp only;rw [H9];rfl)];rfl
  |k+1,i,hi=>by
   have hil:i<s.Agents.length:=by omega
   have hn:=S.agents
   have key:Gp m s.Agents ((i:Int),s)=some (if (Zq s i (s.Agents.length - (i+1)) (i+1)).any (fun p=>II m s s.Agents p.1 p.2)=true then .out (.inr (Ni,12))else .go (((i+1:Nat):Int),s)):=by
     unfold Gp;dsimp only;rw [J8 hil,bM,G4 hil (by omega),cT B S O i (s.Agents.length - (i+1)) (i+1) (by omega)];cases (Zq s i (s.Agents.length - (i+1)) (i+1)).any (fun p=>II m s s.Agents p.1 p.2)<;>rfl
   rw [Nz,List.any_append];cases h:(Zq s i (s.Agents.length - (i+1)) (i+1)).any (fun p=>II m s s.Agents p.1 p.2)
   ·rw [h]at key;rw [K1 (s':=(((i+1:Nat):Int),s)) (by rw [key];rfl),bW];exact oQ B S O k (i+1) (by omega)
   ·rw [h]at key;rw [D3 (t:= .inr (Ni,12)) (by rw [key];rfl)];rfl
theorem eT (A:List Agent)(l:List Stay)(i:Nat): ∀k j,Zq ⟨0,A,l⟩ i k j=Zq ⟨0,A,[]⟩ i k j
  |0,_=>rfl
  |k+1,j=>by rw [Zq,Zq,eT A l i k (j+1)];rfl
theorem YN (A:List Agent)(l:List Stay)(n:Nat): ∀k i,Nz ⟨0,A,l⟩ n k i=Nz ⟨0,A,[]⟩ n k i
  |0,_=>rfl
  |k+1,i=>by rw [Nz,Nz,eT,YN A l n k (i+1)]
noncomputable def Pq (m:Map)(A:List Agent):State×Int:=
  if Vq m ⟨0,A,[]⟩≠0 then (Ni,Vq m ⟨0,A,[]⟩)
  else if A.any (fun g=>g.Gone)=true then (Ni,10)
  else if (Nz ⟨0,A,[]⟩ A.length A.length 0).any (fun p=>II m ⟨0,A,[]⟩ A p.1 p.2)=true then (Ni,12)
  else (⟨0,A,Bi m ⟨0,A,[]⟩ A⟩,0)
theorem UV {m:Map}(K:KitM m){A:List Agent}(S:SizeS ⟨0,A,[]⟩)(w: ∀g∈A,g.S≤9223372036854775807):Qp m A=some (Pq m A):=by
  have c2:=(PK K.toBearM S w).2;have hl:A.length≤1000:=S.agents;have e2:Rb ⟨0,A,[]⟩=some ⟨0,A,[]⟩:=oG S;unfold Qp Pq;rw [e2,lB,c2,lB];by_cases q:Vq m ⟨0,A,[]⟩=0
  case neg=>
    rw [bO q,show (Vq m ⟨0,A,[]⟩ !=0)=true by simpa using q];rfl
  rw [bP (by simp [q]),show (Vq m ⟨0,A,[]⟩ !=0)=false by simp [q],bN];have O:=(Ny K).1 q
  have OR: ∀g∈A,∃a t,g.Route=a::t∧RouteOK m a t:=fun g hg=>by
    obtain ⟨i,hi⟩:=bF hg;exact (O.agent i g hi).route
  have g2:loop (Mf A) 0=some (if A.any (fun g=>g.Gone)then .inr (Ni,10)else .inl ()):=by
    refine KM A (fun g=>g.Gone) (Ni,10) (fun i x hx=> ?_) (by unfold Mf;rw [H9];rfl);unfold Mf;rw [J8 (G1 hx),bM,C8 hx,lB,G4 (G1 hx) (by omega)];cases x.Gone<;>rfl
  rw [g2];cases hG:A.any (fun g=>g.Gone)
  case true=>rfl
  have S':SizeS ⟨0,A,Bi m ⟨0,A,[]⟩ A⟩:=by
    have h1:=DN m ⟨0,A,[]⟩ A;have h2:A.length*m.Zones.length≤1000*2:=wM hl K.zones2;exact ⟨hl,by dsimp only at h1 ⊢;omega,S.routes⟩
  have h4:loop (Gp m A) (0,⟨0,A,Bi m ⟨0,A,[]⟩ A⟩)=_:=oQ (s:=⟨0,A,Bi m ⟨0,A,[]⟩ A⟩) K.toBearK S' OR A.length 0 (by dsimp only;omega);dsimp only at h4;rw [YN]at h4;have e5:(fun p:Int×Int=>II m ⟨0,A,Bi m ⟨0,A,[]⟩ A⟩ A p.1 p.2)=fun p=>II m ⟨0,A,[]⟩ A p.1 p.2:=rfl;rw [e5]at h4;rw [bP (by simp)];show (loop (Jt m A) (0,⟨0,A,[]⟩)).bind _=_;rw [cS K S,lB,h4];cases (Nz ⟨0,A,[]⟩ A.length A.length 0).any (fun p=>II m ⟨0,A,[]⟩ A p.1 p.2)<;>rfl
theorem oR {m:Map}(K:KitM m){A:List Agent}(S:SizeS ⟨0,A,[]⟩):SizeS (Pq m A).1:=by
  have h0:SizeS Ni:=⟨by simp,by simp,by simp⟩;unfold Pq;split
  ·exact h0
  split
  ·exact h0
  split
  ·exact h0
  have hl:A.length≤1000:=S.agents;have h1:=DN m ⟨0,A,[]⟩ A;have h2:A.length*m.Zones.length≤1000*2:=wM hl K.zones2;exact ⟨hl,by dsimp only at h1 ⊢;omega,S.routes⟩
theorem iO {m:Map}(V:ValR m){a b:Int}(ha:0≤a)(hb:b∈nextOf m a.toNat):Dr m b=Dr m a:=by
  unfold nextOf at hb;cases h:m.Lanes[a.toNat]? with
  |none=>rw [h]at hb;cases hb
  |some l=>
   rw [h]at hb;have hb:b∈l.Next:=hb;have h1:=(firstE_none.1 V.nextE) a.toNat l h;rw [wK]at h1;unfold nextE at h1;obtain ⟨j,hj⟩:=bF hb;have h2:=(firstE_none.1 h1) j b hj;have hk:=V.next h hb;have hn:m.Lanes[b.toNat]? =some m.Lanes[b.toNat]:=lH (by omega);unfold CI at h2;rw [hn]at h2;dsimp only at h2;split at h2
   ·cases h2
   ·rename_i q;unfold Dr;rw [hn,h];exact Decidable.not_not.1 q
theorem PS {m:Map}(V:ValR m): ∀(t:List Int) (a:Int),0≤a→Mo m a t=true→∀x∈a::t,Dr m x=Dr m a
  | [],a,_,_,x,hx=>by simp at hx;rw [hx]
  |b::t,a,ha,h,x,hx=>by
   rw [Mo,bS]at h;have hb:b∈nextOf m a.toNat:=by simpa using h.1
   have hk:=V.nextOf hb;rcases lU.1 hx with rfl|hx
   ·rfl
   ·rw [PS V t b (by omega) h.2 x hx,iO V ha hb]
theorem JW {m:Map}{a:Int}{t:List Int}(R:RouteOK m a t){g:Agent}(hg:g.Route=a::t)(h0:0≤g.S):Zm m g=Y2 (Dr m a):=by
  obtain ⟨x,h1,h2,h3,_⟩:=JP R hg h0;unfold Zm;rw [h3];dsimp only;rw [PS R.val t a R.first.1 R.chain x (lG h2)]
theorem oT {m:Map}(g:Agent)(tick act:Int):0≤Pu m g tick act∧Pu m g tick act≤(Zm m g).1:=by
  have hs: ∀x,0≤Mp g (Zm m g).1 x∧Mp g (Zm m g).1 x≤(Zm m g).1:=fun x=>by
    have:=Zn (Dr m (Ht m g).1);unfold Mp Zm;omega
  unfold Pu;dsimp only;split
  ·exact hs _
  ·exact hs _
theorem oU {m:Map}(K:KitM m){s:State}(O:StateOK m s)(i:Nat){g:Agent}(hg:s.Agents[i]? =some g)(act:Int)(s':State)(ht:s'.Tick=s.Tick+1):AgentOK m s' (i:Int) (IG m s i act):=by
  have A:=O.agent i g hg;have hc:Vq m s=0:=(Ny K).2 O;unfold IG;rw [C8 hg];dsimp only;by_cases th:W3 s (i:Int)=true
  ·rw [bO ⟨th,hc⟩];obtain ⟨g1,h1,_,_,_,h5,h6⟩:=Vr th;rw [C8 hg]at h1;obtain rfl:=lD h1;obtain ⟨a,t,hR,R⟩:=A.route;have hv:=oT (m:=m) g s.Tick act;have ht2:=Zn (Dr m (Ht m g).1);have ht3:(Zm m g).1≤2000:=ht2.2.1;have hL:=Pi R;rw [← hR]at hL
   have hgone:E5 (g.S - g.Len)≤LongM m g.Route:=by
     have:=A.gone;rw [h5]at this;unfold Yb at this;exact Int.not_lt.1 (of_decide_eq_false this.symm)
   have hS:=A.S;have hl:=A.len;rw [H4 (by omega)]at hgone;have hw:E5 (g.S+Pu m g s.Tick act)=g.S+Pu m g s.Tick act:=H4 (by omega);have e1:=JW R hR hS.1;have e2:Zm m (YG m g s.Tick act)=Y2 (Dr m a):=JW R hR (by show 0≤E5 _;rw [hw];omega);refine ⟨⟨a,t,hR,R⟩,A.len,A.begin,?_,?_,rfl,?_,A.first⟩
   ·show 0≤E5 _∧E5 _≤_;rw [hw];show _∧g.S+Pu m g s.Tick act≤LongM m g.Route+g.Len+2000;omega
   ·rw [e2,← e1];exact hv
   ·rintro ⟨q,_⟩;have:g.Begin>s'.Tick:=q;omega
  ·rw [bP fun h=>th h.1];refine ⟨A.route,A.len,A.begin,A.S,A.V,A.gone,?_,A.first⟩;rintro ⟨q,q2⟩;exact A.late ⟨by omega,q2⟩
theorem sW {m:Map}(V:ValR m)(r:List Int)(z tick:Int):0≤KV m r z tick∧KV m r z tick≤100:=by
  unfold KV;split
  ·cases hz:m.Zones[z.toNat]? with
   |none=>simp
   |some zn=>
    dsimp only;split
    ·split<;>simp
    ·have Z:=V.zoneOK (lG hz);unfold Nv;cases hf:zn.Parts.find? (fun p=>p.Lane_==Mx m r z)with
     |none=>simp
     |some p=>have:=Z.part p (l7 hf);dsimp only;omega
  ·simp
theorem wX {m:Map}(K:KitM m){s:State}(O:StateOK m s)(i z:Int):0≤(Wk m s i z).Since∧(Wk m s i z).Since≤s.Tick∧0≤(Wk m s i z).Rank∧(Wk m s i z).Rank≤100:=by
  unfold Wk;cases hf:s.In.find? (Zp i z)with
  |some x=>
   have:=O.rank x (l7 hf);unfold Vp at this;simp only [bY,wA]at this;dsimp only;omega
  |none=>
   have:=O.tick;dsimp only;cases C4 s.Agents i with
   |none=>dsimp only;omega
   |some g=>have:=sW K.val g.Route z s.Tick;dsimp only;omega
theorem oV {m:Map}(K:KitM m){s s':State}(O:StateOK m s)(A:List Agent)(hn:s'.Agents.length=s.Agents.length)(ht:s.Tick≤s'.Tick)(hI:s'.In=Bi m s A):
    (∀(i:Nat) x,s'.In[i]? =some x→Yc m s' x=false)∧(∀(i:Nat) x y,s'.In[i]? =some x→s'.In[i+1]? =some y→Fm x y=true)∧(∀x∈s'.In,Vp s' x=false):=by
  rw [hI];refine ⟨fun i x hx=> ?_,fun i x y hx hy=> ?_,fun x hx=> ?_⟩
  ·obtain ⟨a,z,h1,h2,_,rfl⟩:=stays_mem.1 (lG hx);have k:=MC m s a z;unfold Yc;rw [k.1,k.2];simp only [bY,wA];omega
  ·have hs:=PN m s A;have h1:=G1 hy;have:=bC.1 hs i (i+1) (by omega) h1 (by omega);rw [lH (by omega)]at hx hy;rw [lD hx,lD hy]at this;exact this
  ·obtain ⟨a,z,h1,h2,_,rfl⟩:=stays_mem.1 hx;have:=wX K O a z;unfold Vp;simp only [bY,wA];omega
theorem sX {m:Map}(K:KitM m){s:State}(O:StateOK m s)(ht:s.Tick<1099511627776)(acts:List Int):(Wl m s acts).2.2=0∧StateOK m (Wl m s acts).1∧(Wl m s acts).1=⟨s.Tick+1,Ds m s acts,Bi m s (Ds m s acts)⟩∧(Wl m s acts).2.1=Yd m s (Ds m s acts):=by
  have hc:Vq m s=0:=(Ny K).2 O
  have e:Wl m s acts=(⟨s.Tick+1,Ds m s acts,Bi m s (Ds m s acts)⟩,Yd m s (Ds m s acts),0):=by
    unfold Wl;rw [bP (by simp [hc]),bP (by omega)]
  have t:=O.tick;have n:=O.num;rw [e];refine ⟨rfl,?_,rfl,rfl⟩;obtain ⟨i1,i2,i3⟩:=oV K (s':=⟨s.Tick+1,Ds m s acts,Bi m s (Ds m s acts)⟩) O (Ds m s acts) (Qv m s acts) (by dsimp only;omega) rfl;refine ⟨by dsimp only;omega,by dsimp only;rw [Qv];exact n,fun i g' hg'=> ?_,i1,i2,i3⟩;dsimp only at hg';have hi:=G1 hg';rw [Qv]at hi;have hg:s.Agents[i]? =some s.Agents[i]:=lH hi;have h1:=SN (m:=m) (acts:=acts) hg;rw [C8 hg']at h1;rw [lD h1];exact oU K O i hg _ _ rfl
theorem JX {m:Map}{a:Int}{t:List Int}(R:RouteOK m a t):(a::t).length≤8:=by
  have:=R.most;rw [lL];omega
theorem JY {m:Map}(K:KitM m)(n:Int): ∃a t,Kr m n=some (a::t)∧RouteOK m a t:=by
  obtain ⟨a,t,h1,h2,h3⟩:=UQ K.toBearM K.val n;exact ⟨a,t,h1,nW K.val h2 h3⟩
theorem UW {m:Map}(K:KitM m)(n:Int): ∃a t,Ef m n=some (a::t)∧RouteOK m a t:=by
  have step: ∀x:Int,0≤x→x<4→∃a t,RouteOK m a t∧(Al m n x=some (.out (.inr (a::t)))∨Al m n x=some (.go (x+1))):=by
    intro x h0 h1;obtain ⟨a,t,e,R⟩:=JY K (E5 (n % 1048576+x));obtain ⟨l,hl⟩: ∃l,m.Lanes[a.toNat]? =some l:=⟨_,lH (by have:=R.first;omega)⟩;have hg:=C8 hl;rw [wG R.first.1]at hg;refine ⟨a,t,R,?_⟩;unfold Al;rw [bH h1,bM,Vj (by omega) (by omega),lB,e,lB,bH (show (((a::t).length:Nat):Int)>0 by rw [lL];omega),bM,show C4 (a::t) 0=some a from rfl,lB,bM,hg,lB,H4 (by omega)];cases l.Kind==1
    ·exact .inr rfl
    ·exact .inl rfl
  have key: ∀(k:Nat) (x:Int),0≤x→x+k=4→∃a t,RouteOK m a t∧thenS (loop (Al m n) x) (fun _=>(Kr m 0).bind fun v5=>some v5) (fun r=>some r)=some (a::t):=by
    intro k
    induction k with
    |zero=>
     intro x h0 hx;obtain ⟨a,t,e,R⟩:=JY K 0;refine ⟨a,t,R,?_⟩;rw [D3 (t:= .inl ()) (by unfold Al;rw [bI (by omega)];rfl)];show (Kr m 0).bind _=_;rw [e];rfl
    |succ k ih=>
     intro x h0 hx;obtain ⟨a,t,R,h|h⟩:=step x h0 (by omega)
     ·refine ⟨a,t,R,?_⟩;rw [D3 h];rfl
     ·obtain ⟨a,t,R,e⟩:=ih (x+1) (by omega) (by omega);refine ⟨a,t,R,?_⟩;rw [K1 h];exact e
  obtain ⟨a,t,R,e⟩:=key 4 0 (by omega) (by omega);exact ⟨a,t,e,R⟩
structure KAgent (m:Map)(first:Bool)(g:Agent):Prop where
  route: ∃a t,g.Route=a::t∧RouteOK m a t
  len:300≤g.Len∧g.Len≤5000
  begin:0≤g.Begin∧g.Begin≤40
  S:0≤g.S∧g.S≤LongM m g.Route
  V:0≤g.V∧g.V≤(Zm m g).1
  gone:g.Gone=false
  late:g.Begin>0→g.S=0
  first:first=true→g.Begin=0∧g.Obey=false
theorem SU {m:Map}(K:KitM m)(p:KitActor)(first:Bool): ∃g,Tw m p first=some g∧KAgent m first g∧(p.Len=0→g.Len=300)∧(first=true→Ef m p.R=some g.Route):=by
  obtain ⟨a1,t1,e1,R1⟩:=JY K p.R;obtain ⟨a2,t2,e2,R2⟩:=UW K p.R
  have hy: ∃a t o,(cond first ((Ef m p.R).bind fun v3=>some (v3,false)) (some (a1::t1,(!p.Disobeys))))=some (a::t,o)∧RouteOK m a t∧(first=true→o=false)∧(first=true→Ef m p.R=some (a::t)):=by
    cases first
    ·exact ⟨a1,t1,_,rfl,R1,nofun,nofun⟩
    ·rw [e2];exact ⟨a2,t2,_,rfl,R2,fun _=>rfl,fun _=>rfl⟩
  obtain ⟨a,t,o,e3,R,ho,hrr⟩:=hy;obtain ⟨l,hl⟩: ∃l,m.Lanes[a.toNat]? =some l:=⟨_,lH (by have:=R.first;omega)⟩;have hg:=C8 hl;rw [wG R.first.1]at hg;have hk:Dr m a=l.Kind:=by unfold Dr;rw [hl];rfl
  have hT:=Zn (Dr m a);have hL:=Pi R;have hr:=JX R
  have m1: ∀n:Int,0≤n % ((Y2 (Dr m a)).1+1)∧n % ((Y2 (Dr m a)).1+1)≤(Y2 (Dr m a)).1:=fun n=>by
    have h1:=wR n (show (Y2 (Dr m a)).1+1≠0 by omega);have h2:=wS n (show 0< (Y2 (Dr m a)).1+1 by omega);omega
  have m2: ∀n:Int,0≤n % (LongM m (a::t)+1)∧n % (LongM m (a::t)+1)≤LongM m (a::t):=fun n=>by
    have h1:=wR n (show LongM m (a::t)+1≠0 by omega);have h2:=wS n (show 0<LongM m (a::t)+1 by omega);omega
  have len: ∃L,(cond (decide ((Y2 (Dr m a)).1<1000)) (some 300) (some (E5 (300+p.Len % 4700))))=some L∧(300≤L∧L≤5000)∧(p.Len=0→L=300):=by
    cases decide ((Y2 (Dr m a)).1<1000)
    ·exact ⟨_,rfl,by rw [H4 (by omega)];omega,fun h=>by rw [h];rfl⟩
    ·exact ⟨_,rfl,by omega,fun _=>rfl⟩
  obtain ⟨L,eL,bL,bL0⟩:=len;have hv:=m1 p.V;have hs:=m2 p.S
  have fin: ∀S B:Int,0≤S→S≤LongM m (a::t)→0≤B→B≤40→(B>0→S=0)→(first=true→B=0)→KAgent m first ⟨a::t,S,p.V % ((Y2 (Dr m a)).1+1),L,B,o,false⟩∧(p.Len=0→L=300)∧(first=true→Ef m p.R=some (a::t)):=by
    intro S B h1 h2 h3 h4 h5 h6;refine ⟨?_,bL0,hrr⟩;refine ⟨⟨a,t,rfl,R⟩,bL,⟨h3,h4⟩,⟨h1,h2⟩,?_,rfl,h5,fun h=>⟨h6 h,ho h⟩⟩;rw [JW R rfl h1];exact hv
  unfold Tw;rw [e1,lB,Zi (by omega) (by omega),lB,e3,lB];dsimp only;rw [show C4 (a::t) 0=some a from rfl,lB,hg,lB,Zg,lB,← hk,H4 (by omega),Zi (by omega) (by omega),lB,eL,lB,PF K.toBearM _ (by omega),lB,H4 (by omega),Zi (by omega) (by omega),lB];cases hf:first
  ·rw [bV,bM,Vj (by omega) (by omega),lB,bQ];by_cases q:p.Begin % 4=3
   ·rw [show (p.Begin % 4==3)=true by simpa using q,bM,Vj (by omega) (by omega),lB];rw [hf]at fin;exact ⟨_,rfl,fin 0 (p.Begin % 40) (by omega) (by omega) (by omega) (by omega) (fun _=>rfl) nofun⟩
   ·rw [show (p.Begin % 4==3)=false by simpa using q,bN];rw [hf]at fin;exact ⟨_,rfl,fin _ 0 hs.1 hs.2 (by omega) (by omega) (fun h=>absurd h (by omega)) nofun⟩
  ·rw [hf]at fin;exact ⟨_,rfl,fin _ 0 hs.1 hs.2 (by omega) (by omega) (fun h=>absurd h (by omega)) fun _=>rfl⟩
structure KList (m:Map)(A:List Agent):Prop where
  few:A.length≤8
  ok: ∀(i:Nat) g,A[i]? =some g→KAgent m (decide (i=0)) g
theorem KList.size {m:Map}{A:List Agent}(h:KList m A):SizeS ⟨0,A,[]⟩:=by
  refine ⟨by have:=h.few;dsimp only;omega,by simp,fun g hg=> ?_⟩;obtain ⟨i,hi⟩:=bF hg;obtain ⟨a,t,hR,R⟩:=(h.ok i g hi).route;have:=JX R;rw [hR];omega
theorem KList.wf {m:Map}{A:List Agent}(h:KList m A): ∀g∈A,g.S≤9223372036854775807:=fun g hg=>by
  obtain ⟨i,hi⟩:=bF hg;have k:=h.ok i g hi;obtain ⟨a,t,hR,R⟩:=k.route;have h1:=Pi R;have h2:=k.S;rw [hR]at h2;omega
theorem KList.chk {m:Map}(K:KitM m){A:List Agent}(h:KList m A)(hn:A≠ []):StateOK m ⟨0,A,[]⟩:=by
  refine ⟨by dsimp only;omega,⟨List.length_pos_iff.2 hn,h.few⟩,fun i g hg=> ?_,fun i x hx=>by simp at hx,fun i x y hx=>by simp at hx,fun x hx=>by simp at hx⟩;have k:=h.ok i g hg;obtain ⟨a,t,hR,R⟩:=k.route;have hL:=Pi R;rw [← hR]at hL;have hS:=k.S;have hl:=k.len;have hb:=k.begin;refine ⟨k.route,by omega,by omega,by omega,k.V,?_,?_,fun h0=>(k.first (by simpa using h0)).1⟩
  ·rw [k.gone];unfold Yb;rw [H4 (by omega),bI (by omega)]
  ·rintro ⟨q,q2⟩;exact q2 (k.late q)
theorem oX {m:Map}(K:KitM m){A:List Agent}(h:(Pq m A).2=0):(Pq m A).1=⟨0,A,Bi m ⟨0,A,[]⟩ A⟩∧StateOK m (Pq m A).1:=by
  unfold Pq at h ⊢;by_cases q:Vq m ⟨0,A,[]⟩=0
  case neg=>rw [bO q]at h;exact absurd h q
  rw [bP (by simp [q])]at h ⊢;by_cases g:A.any (fun g=>g.Gone)=true
  ·rw [bO g]at h;cases h
  rw [bP g]at h ⊢;by_cases b:(Nz ⟨0,A,[]⟩ A.length A.length 0).any (fun p=>II m ⟨0,A,[]⟩ A p.1 p.2)=true
  ·rw [bO b]at h;cases h
  rw [bP b];have O:=(Ny K).1 q;refine ⟨rfl,?_⟩;obtain ⟨i1,i2,i3⟩:=oV K (s':=⟨0,A,Bi m ⟨0,A,[]⟩ A⟩) O A rfl (Int.le_refl _) rfl;exact ⟨O.tick,O.num,fun i g hg=>by have x:=O.agent i g hg;exact ⟨x.route,x.len,x.begin,x.S,x.V,x.gone,x.late,x.first⟩,i1,i2,i3⟩
theorem sY {m:Map}(K:KitM m){g:Agent}(h:KAgent m true g):(Pq m [g]).2=0:=by
  have L:KList m [g]:=⟨by simp,fun i g' hg=>by
    cases i with
    |zero=>cases hg;exact h
    |succ i=>simp at hg⟩
  have q:=(Ny K).2 (L.chk K (by simp));unfold Pq;rw [bP (by simp [q]),bP (by simp [h.gone])];rfl
theorem StateOK.size {m:Map}(K:KitM m){s:State}(O:StateOK m s)(h:s.In.length≤1000000):SizeS s:=by
  refine ⟨by have:=O.num;omega,h,fun g hg=> ?_⟩;obtain ⟨i,hi⟩:=bF hg;obtain ⟨a,t,hR,R⟩:=(O.agent i g hi).route;have:=JX R;rw [hR];omega
def yK (m:Map)(l:List Agent)(s:State):Prop:=KList m l∧(l≠ []→s=(Pq m l).1∧(Pq m l).2=0)
theorem GF {m:Map}(K:KitM m)(ps:List KitActor)(hp:ps.length≤7): ∀(k idx:Nat) (l:List Agent) (s:State),idx+k=ps.length→l.length≤idx→yK m l s→∃l' s',loop (Gq m ps) (l,(idx:Int),s)=some (l',s')∧yK m l' s'∧l'.length≤ps.length
  |0,idx,l,s,hi,hl,I=>by
   obtain rfl:idx=ps.length:=by omega
   exact ⟨l,s,D3 (by unfold Gq;dsimp only;rw [H9];rfl),I,hl⟩
  |k+1,idx,l,s,hi,hl,I=>by
   have hidx:idx<ps.length:=by omega
   have hlen:l.length≤7:=by omega
   obtain ⟨p,hpx⟩: ∃p,ps[idx]? =some p:=⟨_,lH hidx⟩;obtain ⟨g,hg,kg,_⟩:=SU K p ((l.length:Int)==0)
   have L':KList m (l++ [g]):=by
     refine ⟨by simp;omega,fun i g' hg'=> ?_⟩;by_cases q:i<l.length
     ·rw [lX q]at hg';exact I.1.ok i g' hg'
     ·have hlt:=G1 hg';rw [lM,List.length_singleton]at hlt;obtain rfl:i=l.length:=by omega
      rw [lW (wH _),Nat.sub_self]at hg';cases hg'
      have:decide (l.length=0)=((l.length:Int)==0):=by
        by_cases h0:l.length=0
        ·simp [h0]
        ·simp [h0]
      rw [this];exact kg
   have e:=UV K L'.size L'.wf
   have key:Gq m ps (l,(idx:Int),s)=some (if (Pq m (l++ [g])).2=0 then .go ((Pq m (l++ [g])).1.Agents,((idx+1:Nat):Int),(Pq m (l++ [g])).1)else .go (l,((idx+1:Nat):Int),s)):=by
     unfold Gq;dsimp only;rw [J8 hidx,bH (show (l.length:Int)<8 by omega),Bool.and_self,bM,CM (by omega),lB,C8 hpx,lB,hg,lB,X3,bO (by simp;omega),lB,e,lB,G4 hidx (by omega)];by_cases q:(Pq m (l++ [g])).2=0
     ·rw [bO q,q];rfl
     ·rw [bP q,show ((Pq m (l++ [g])).2==0)=false by simpa using q];rfl
   by_cases q:(Pq m (l++ [g])).2=0
   ·rw [bO q]at key;have n:=oX K q;have ea:(Pq m (l++ [g])).1.Agents=l++ [g]:=by rw [n.1]
    rw [ea]at key;rw [K1 key];exact GF K ps hp k (idx+1) _ _ (by omega) (by simp;omega) ⟨L',fun _=>⟨rfl,q⟩⟩
   ·rw [bP q]at key;rw [K1 key];exact GF K ps hp k (idx+1) _ _ (by omega) (by omega) I
theorem iP {m:Map}(K:KitM m)(ps:List KitActor)(hp:ps.length≤7): ∃A,Tx m ps=some (Pq m A).1∧(Pq m A).2=0∧KList m A∧0<A.length∧(A.length≤1∨A.length≤ps.length):=by
  have L0:KList m []:=⟨by simp,fun i g h=>by simp at h⟩;have e0:=UV K L0.size L0.wf;obtain ⟨l,s,e,I,hll⟩:=GF K ps hp ps.length 0 [] (Pq m []).1 (by omega) (by simp) ⟨L0,fun h=>absurd rfl h⟩;have e:loop (Gq m ps) ([],0,(Pq m []).1)=some (l,s):=e;unfold Tx;rw [e0,lB,e,lB];dsimp only;by_cases h:l= []
  ·subst h;obtain ⟨g,hg,kg,h300⟩:=SU K ⟨0,1048576,0,0,0,false⟩ true;have hlen:=h300.1 rfl
   have kg':KAgent m true ⟨g.Route,E5 (g.Len+1),0,g.Len,g.Begin,g.Obey,g.Gone⟩:=by
     obtain ⟨a,t,hR,R⟩:=kg.route;have hL:=Pi R;rw [← hR]at hL;have hT:=Zn;refine ⟨kg.route,kg.len,kg.begin,?_,?_,kg.gone,fun h=> ?_,kg.first⟩
     ·show 0≤E5 (g.Len+1)∧E5 (g.Len+1)≤LongM m g.Route;rw [hlen,H4 (by omega)];omega
     ·have:=Zn (Dr m (Ht m ⟨g.Route,E5 (g.Len+1),0,g.Len,g.Begin,g.Obey,g.Gone⟩).1);exact ⟨Int.le_refl _,this.1⟩
     ·have:=(kg.first rfl).1;dsimp only at h;omega
   have L:KList m [⟨g.Route,E5 (g.Len+1),0,g.Len,g.Begin,g.Obey,g.Gone⟩]:=⟨by simp,fun i g' hg=>by
     cases i with
     |zero=>cases hg;exact kg'
     |succ i=>simp at hg⟩
   refine ⟨_,?_,sY K kg',L,by simp, .inl (by simp)⟩;rw [show (((([]:List Agent).length:Nat):Int)==0)=true from rfl,bM,hg,lB,UV K L.size L.wf];rfl
  ·have:=I.2 h;have hl:=List.length_pos_iff.2 h;refine ⟨l,?_,this.2,I.1,hl, .inr hll⟩;rw [show ((l.length:Int)==0)=false by simp;exact h,bN,this.1]
theorem oY {m:Map}(K:KitM m)(ps:List KitActor)(hp:ps.length≤7): ∃A,Tx m ps=some (Pq m A).1∧(Pq m A).2=0∧KList m A:=by
  obtain ⟨A,h1,h2,h3,_⟩:=iP K ps hp;exact ⟨A,h1,h2,h3⟩
theorem eU {m:Map}{s:State}(O:StateOK m s): ∀g∈s.Agents,g.S≤9223372036854775807:=fun g hg=>by
  obtain ⟨i,hi⟩:=bF hg;have k:=O.agent i g hi;obtain ⟨a,t,hR,R⟩:=k.route;have h1:=Pi R;have h2:=k.S;have h3:=k.len;rw [hR]at h2;omega
end Go.Abs.World
namespace Go.Abs
open Go
def GG (L:List Int):Prop:= ∀b∈L,0≤b∧b<256
theorem DO:GG []:=fun _ h=>by cases h
theorem oZ {b:Int}{L:List Int}:GG (b::L)↔ (0≤b∧b<256)∧GG L:=List.forall_mem_cons
theorem isB_append {L M:List Int}:GG (L++M)↔GG L∧GG M:=List.forall_mem_append
theorem YO {L:List Int}(h:GG L)(n:Nat):GG (L.take n):=fun b hb=>h b (List.mem_of_mem_take hb)
def Z4 (n:Int)(k:Nat):Int:=n % 18446744073709551616 / 2^k % 256
def AM (n:Int):List Int:= [Z4 n 56,Z4 n 48,Z4 n 40,Z4 n 32,Z4 n 24,Z4 n 16,Z4 n 8,Z4 n 0]
theorem UX (n:Int):(AM n).length=8:=rfl
theorem pA (n:Int)(k:Nat):0≤Z4 n k∧Z4 n k<256:=by
  unfold Z4;omega
theorem eV (n:Int):GG (AM n):=by
  intro b hb;simp only [AM,lU,List.not_mem_nil,or_false]at hb;rcases hb with h|h|h|h|h|h|h|h<;>rw [h]<;>exact pA _ _
def yL (L:List Int):Int:=L.foldl (fun a b=>a*256+b) 0
def zG (L:List Int):Int:=E5 (yL L)
theorem yM {L:List Int}(h:L.length=8): ∃a b c d e f g i,L= [a,b,c,d,e,f,g,i]:=by
  rcases L with _|⟨a,_|⟨b,_|⟨c,_|⟨d,_|⟨e,_|⟨f,_|⟨g,_|⟨i,_|⟨j,r⟩⟩⟩⟩⟩⟩⟩⟩⟩<;>simp at h;exact ⟨a,b,c,d,e,f,g,i,rfl⟩
theorem pB (n:Int):E5 n % 18446744073709551616=n % 18446744073709551616:=by
  have h:E5 n=IntKind.wrap .i64 n:=rfl;rw [h];unfold IntKind.wrap;simp only [IntKind.bits,IntKind.signed,bQ,bJ,show (2:Int)^64=18446744073709551616 from rfl];split<;>omega
theorem sZ (n:Int):yL (AM n)=n % 18446744073709551616:=by
  simp only [AM,Z4,yL,List.foldl_cons,List.foldl_nil];have h0:0≤n % 18446744073709551616∧n % 18446744073709551616<18446744073709551616:=by omega
  generalize n % 18446744073709551616=u at h0;omega
theorem tA {n:Int}(h:Fr n):zG (AM n)=n:=by
  rw [zG,sZ];have e:E5 (n % 18446744073709551616) % 18446744073709551616=n % 18446744073709551616:=by rw [pB];omega
  have:=fZ (n % 18446744073709551616);unfold Fr at h;omega
theorem Oa (L:List Int):(X2 L).size=L.length:=by unfold X2 ByteArray.size;simp
theorem CQ (L:List Int):(X2 L).data.toList=L.map fun n=>UInt8.ofNat n.toNat:=by simp [X2]
theorem Xa {L:List Int}(h:GG L):Ky (X2 L)=L:=by
  unfold Ky;rw [CQ,List.map_map]
  conv=>rhs;rw [← List.map_id L]
  refine List.map_congr_left fun b hb=> ?_;have:=h b hb;simp only [Function.comp,UInt8.toNat_ofNat',id];omega
theorem SV {a b:ByteArray}(h:a.data.toList=b.data.toList):a=b:=by
  cases a;cases b;congr;exact Array.toList_inj.1 h
theorem PT (L:List Int)(i j:Nat):(X2 L).extract i j=X2 ((L.take j).drop i):=by
  refine SV ?_;rw [ByteArray.data_extract,Array.toList_extract,CQ,CQ,List.extract_eq_take_drop,List.map_drop,List.map_take,List.drop_take]
theorem cU {L M:List Int}(h1:GG L)(h2:GG M)(h:X2 L=X2 M):L=M:=by rw [← Xa h1,← Xa h2,h]
theorem pC {L:List Int}(h:GG L)(i:Int):aJ (X2 L) i=C4 L i:=by
  unfold aJ C4;split
  ·have:((X2 L).data.toList[i.toNat]?).map (fun b=>(b.toNat:Int))=(Ky (X2 L))[i.toNat]?:=by unfold Ky;rw [lK]
   rw [this,Xa h]
  ·rfl
theorem PU {L:List Int}{i j:Int}(h:0≤i∧i≤j∧j≤L.length):UD (X2 L) i j=some (X2 ((L.take j.toNat).drop i.toNat)):=by
  unfold UD;rw [bO (by rw [Oa];exact h),PT]
theorem toList_eq {L M:List Int}(h1:GG L)(h2:GG M):((X2 L).toList==(X2 M).toList)=(L==M):=by
  have e: ∀a b:ByteArray,(a.toList==b.toList)=(a.data.toList==b.data.toList):=fun a b=>by rw [ByteArray.toList_eq,ByteArray.toList_eq]
  rw [e,Bool.eq_iff_iff,bZ,bZ];constructor
  ·intro h;exact cU h1 h2 (SV h)
  ·rintro rfl;rfl
end Go.Abs
namespace Go.Abs
open Go
def Kt (ns:List Int):List Int:=ns.flatMap AM
theorem CR:Kt []= []:=rfl
theorem Ob (n:Int)(r:List Int):Kt (n::r)=AM n++Kt r:=rfl
theorem Oc (a b:List Int):Kt (a++b)=Kt a++Kt b:=List.flatMap_append
theorem Iv: ∀(ns:List Int),(Kt ns).length=8*ns.length
  | []=>rfl
  |n::r=>by rw [Ob,lM,Iv r,UX,lL];omega
theorem PV: ∀(ns:List Int),GG (Kt ns)
  | []=>DO
  |n::r=>isB_append.2 ⟨eV n,PV r⟩
theorem Zr {α:Type}(l:List α)(f:α→List Int):Kt (l.flatMap f)=l.flatMap fun a=>Kt (f a):=by
  induction l with
  |nil=>rfl
  |cons a r ih=>rw [bE,bE,Oc,ih]
theorem eW {α σ τ:Type}(l:List α)(enc:α→List Int)(mk:Int→List Int→σ)(fin:List Int→τ)(F:σ→Option (Stp σ τ))
    (hF: ∀(i:Nat) a b,l[i]? =some a→b.length+ (enc a).length≤1000000000→F (mk i b)=some (.go (mk ((i+1:Nat):Int) (b++enc a)))) (h0: ∀b,F (mk l.length b)=some (.out (fin b)))
    (b:List Int) (hb:b.length+ (l.flatMap enc).length≤1000000000):loop F (mk 0 b)=some (fin (b++l.flatMap enc)):=by
  have key: ∀(r:List α) (i:Nat) (b:List Int),l.drop i=r→i≤l.length→b.length+ (r.flatMap enc).length≤1000000000→loop F (mk i b)=some (fin (b++r.flatMap enc)):=by
    intro r
    induction r with
    |nil=>
     intro i b hd hi _;have:i=l.length:=by have:=P3 hd;omega
     rw [this,D3 (h0 b),List.flatMap_nil,lP]
    |cons a r ih=>
     intro i b hd hi hb;rw [bE,lM]at hb;have hlt:=O3 hd;have ha:l[i]? =some a:=by have:=congrArg (fun z=>z[0]?) hd;simpa using this
     rw [K1 (hF i a b ha (by omega)),ih (i+1) _ (L4 hd) hlt (by rw [lM];omega),lO,bE]
  exact key l 0 b rfl (wI _) hb
theorem CS (n:Int):IntKind.wrap .u64 n=n % 18446744073709551616:=by
  unfold IntKind.wrap;simp only [IntKind.bits,IntKind.signed,bR,Bool.false_eq_true,if_false];rfl
theorem tB (n:Int):IntKind.wrap .u8 n=n % 256:=by
  unfold IntKind.wrap;simp only [IntKind.bits,IntKind.signed,bR,Bool.false_eq_true,if_false];rfl
theorem pD (n:Int)(k:Nat)(hk:k<64): ∃v,NY .u64 (IntKind.wrap .u64 n) (IntKind.wrap .u64 (k:Int))=some v∧IntKind.wrap .u8 v=Z4 n k:=by
  have e:IntKind.wrap .u64 (k:Int)=(k:Int):=by rw [CS];omega
  refine ⟨_,by unfold NY;rw [e,bP (by omega)],?_⟩;rw [tB,CS];unfold Z4;simp only [wF,IntKind.bits,Nat.min_eq_left (Nat.le_of_lt hk)];rw [Int.fdiv_eq_ediv_of_nonneg _ (by exact Int.le_of_lt (Int.pow_pos (by omega)))]
theorem iQ {σ τ:Type}(n:Int)(mk:Int→List Int→σ)(fin:List Int→τ)(F:σ→Option (Stp σ τ))(c:Int)(d:Nat)
    (hF: ∀(k:Nat) b,k<8→b.length<1000000000→F (mk (c* (k:Int)) b)=some (.go (mk (c* ((k:Int) - 1)) (b++ [Z4 n (8*k)])))) (h0: ∀b,F (mk (c* (-1)) b)=some (.out (fin b))) (b:List Int) (hb:b.length+8≤1000000000):
    loop F (mk (c*7) b)=some (fin (b++AM n)):=by
  have s: ∀(k:Nat) (b:List Int),k<8→b.length<1000000000→loop F (mk (c* (k:Int)) b)=loop F (mk (c* ((k:Int) - 1)) (b++ [Z4 n (8*k)])):=fun k b h1 h2=>K1 (hF k b h1 h2);have l1: ∀(b:List Int) x,(b++ [x]).length=b.length+1:=fun b x=>by simp
  have a7:=s 7 b (by omega) (by omega);have a6:=s 6 (b++ [Z4 n 56]) (by omega) (by rw [l1];omega);have a5:=s 5 (b++ [Z4 n 56]++ [Z4 n 48]) (by omega) (by rw [l1,l1];omega);have a4:=s 4 (b++ [Z4 n 56]++ [Z4 n 48]++ [Z4 n 40]) (by omega) (by rw [l1,l1,l1];omega);have a3:=s 3 (b++ [Z4 n 56]++ [Z4 n 48]++ [Z4 n 40]++ [Z4 n 32]) (by omega) (by rw [l1,l1,l1,l1];omega);have a2:=s 2 (b++ [Z4 n 56]++ [Z4 n 48]++ [Z4 n 40]++ [Z4 n 32]++ [Z4 n 24]) (by omega) (by rw [l1,l1,l1,l1,l1];omega);have a1:=s 1 (b++ [Z4 n 56]++ [Z4 n 48]++ [Z4 n 40]++ [Z4 n 32]++ [Z4 n 24]++ [Z4 n 16]) (by omega) (by rw [l1,l1,l1,l1,l1,l1];omega);have a0:=s 0 (b++ [Z4 n 56]++ [Z4 n 48]++ [Z4 n 40]++ [Z4 n 32]++ [Z4 n 24]++ [Z4 n 16]++ [Z4 n 8]) (by omega) (by rw [l1,l1,l1,l1,l1,l1,l1];omega);refine a7.trans (a6.trans (a5.trans (a4.trans (a3.trans (a2.trans (a1.trans (a0.trans ?_)))))));have e:((0:Nat):Int) - 1= -1:=by omega
  rw [e,D3 (h0 _)];simp [AM]
theorem pE {a b:Int}(ha:0≤a∧a<72057594037927936)(hb:0≤b∧b<256):
    IntKind.wrap .u64 (((BitVec.ofInt (IntKind.bits .u64) (IntKind.wrap .u64 (a*2^ (min (8:Int).toNat (IntKind.bits .u64))))|||(BitVec.ofInt (IntKind.bits .u64) (IntKind.wrap .u64 b))).toNat:Nat):Int)=a*256+b:=by
  obtain ⟨x,rfl⟩:=Int.eq_ofNat_of_zero_le ha.1;obtain ⟨y,rfl⟩:=Int.eq_ofNat_of_zero_le hb.1
  have e1:IntKind.wrap .u64 ((x:Int)*2^ (min (8:Int).toNat (IntKind.bits .u64)))=((x*256:Nat):Int):=by
    rw [CS,show (2:Int)^ (min (8:Int).toNat (IntKind.bits .u64))=256 from rfl];omega
  have e2:IntKind.wrap .u64 (y:Int)=(y:Int):=by rw [CS];omega
  rw [e1,e2,BitVec.ofInt_natCast,BitVec.ofInt_natCast,BitVec.toNat_or,BitVec.toNat_ofNat,BitVec.toNat_ofNat];have h64:2^IntKind.bits .u64=18446744073709551616:=rfl;rw [h64,Nat.mod_eq_of_lt (by omega),Nat.mod_eq_of_lt (by omega)];have:=Nat.two_pow_add_eq_or_of_lt (i:=8) (b:=y) (by omega) x;rw [show x*256=2^8*x by omega,← this,CS];omega
theorem pF {L:List Int}(h8:L.length=8)(hB:GG L)(F:Int×Int→Option (Stp (Int×Int) Int))
    (hF: ∀(i:Nat) a b,i<8→L[i]? =some b→0≤b∧b<256→0≤a∧a<72057594037927936→F (a,i)=some (.go (a*256+b,((i+1:Nat):Int)))) (h0: ∀a,F (a,8)=some (.out a)):loop F (0,0)=some (yL L):=by
  obtain ⟨b0,b1,b2,b3,b4,b5,b6,b7,rfl⟩:=yM h8;simp only [oZ]at hB;obtain ⟨g0,g1,g2,g3,g4,g5,g6,g7,_⟩:=hB;have s: ∀(i:Nat) a b,i<8→ [b0,b1,b2,b3,b4,b5,b6,b7][i]? =some b→0≤b∧b<256→0≤a∧a<72057594037927936→loop F (a,(i:Int))=loop F (a*256+b,((i+1:Nat):Int)):=fun i a b h1 h2 h3 h4=>K1 (hF i a b h1 h2 h3 h4)
  refine (s 0 0 b0 (by omega) rfl g0 (by omega)).trans ((s 1 _ b1 (by omega) rfl g1 (by omega)).trans ((s 2 _ b2 (by omega) rfl g2 (by omega)).trans ((s 3 _ b3 (by omega) rfl g3 (by omega)).trans ((s 4 _ b4 (by omega) rfl g4 (by omega)).trans ((s 5 _ b5 (by omega) rfl g5 (by omega)).trans
    ((s 6 _ b6 (by omega) rfl g6 (by omega)).trans ((s 7 _ b7 (by omega) rfl g7 (by omega)).trans ?_)))))))
  exact D3 (h0 _)
end Go.Abs
namespace Go.Abs
open Go
def FW {R α:Type}(rs:List Int→Bool→R)(f:R→Option (α×R))(enc:α→List Int)(ok:α→Prop):Prop:= ∀a L,ok a→GG L→f (rs (Kt (enc a)++L) false)=some (a,rs L false)
section
variable {R α β:Type}{rs:List Int→Bool→R}
def cV (f:R→Option (α×R)):Nat→R→Option (List α×R)
  |0,r=>some ([],r)
  |n+1,r=>(f r).bind fun v=>(cV f n v.2).bind fun w=>some (v.1::w.1,w.2)
theorem IJ {ns L:List Int}(h:GG L):GG (Kt ns++L):=isB_append.2 ⟨PV _,h⟩
theorem eX {f:R→Option (α×R)}{ef:α→List Int}{ok:α→Prop}(h:FW rs f ef ok): ∀(l:List α) (L:List Int),(∀a∈l,ok a)→GG L→cV f l.length (rs (Kt (l.flatMap ef)++L) false)=some (l,rs L false)
  | [],L,_,_=>rfl
  |a::r,L,ho,hB=>by
   rw [lL,cV,bE,Oc,lO,h a _ (ho a (List.mem_cons_self ..)) (IJ hB),lB]
   try dsimp only
   rw [eX h r L (fun x hx=>ho x (List.mem_cons_of_mem _ hx)) hB];rfl
theorem iR {σ τ:Type}{f:R→Option (α×R)}(n:Nat)(hn:n≤1000000)(mk:Int→R→List α→σ)(fin:R→List α→τ)(F:σ→Option (Stp σ τ))
    (hF: ∀i r out,F (mk i r out)=cond (decide (i< (n:Int))) ((f r).bind fun v=>(X3 out [v.1]).bind fun o=>some (.go (mk (E5 (i+1)) v.2 o))) (some (.out (fin r out)))):
    ∀(k:Nat) (i:Nat) (r:R) (out:List α),i+k=n→out.length+k≤1000000000→loop F (mk i r out)=(cV f k r).bind fun w=>some (fin w.2 (out++w.1)):=by
  intro k
  induction k with
  |zero=>
   intro i r out hi _;rw [D3 (by rw [hF,bI (by omega)];rfl),cV,lB,lP]
  |succ k ih=>
   intro i r out hi hk;rw [DD,hF,bH (by omega),bM,cV];cases f r with
   |none=>rfl
   |some v=>
    rw [lB,Ia (by simp;omega),lB,lB];dsimp only;rw [H4 (by omega),show (i:Int)+1=((i+1:Nat):Int) by omega,ih (i+1) v.2 _ (by omega) (by simp;omega)];cases cV f k v.2 with
    |none=>rfl
    |some w=>simp
theorem UY {σ τ:Type}{c:R→Option (Int×R)}{f:R→Option (α×R)}{ef:α→List Int}{ok:α→Prop}(cap:Nat)(hcap:cap≤1000000)(hc:FW rs c (fun n=> [n]) fun n=>0≤n∧n≤(cap:Int))(h:FW rs f ef ok)(mk:Int→R→List α→σ)(fin:R→List α→τ)(F:Int×R→σ→Option (Stp σ τ))
    (hF: ∀w i r out,F w (mk i r out)=cond (decide (i<w.1)) ((f r).bind fun v=>(X3 out [v.1]).bind fun o=>some (.go (mk (E5 (i+1)) v.2 o))) (some (.out (fin r out))))
    {γ:Type} (K:τ→Option γ) (l:List α) (L:List Int) (hl:l.length≤cap) (ho: ∀a∈l,ok a) (hB:GG L):(c (rs (Kt ((l.length:Int)::l.flatMap ef)++L) false)).bind (fun v=>(loop (F v) (mk 0 v.2 [])).bind K)=K (fin (rs L false) l):=by
  have e:=hc (l.length:Int) (Kt (l.flatMap ef)++L) ⟨by omega,by omega⟩ (IJ hB);rw [Ob,CR,lP]at e;rw [Ob,lO,e,lB];have:=iR (f:=f) l.length (by omega) mk fin (F ((l.length:Int),rs (Kt (l.flatMap ef)++L) false)) (fun i r out=>hF _ i r out) l.length 0 (rs (Kt (l.flatMap ef)++L) false) [] (by omega) (by simp;omega);rw [show ((0:Nat):Int)=0 from rfl]at this;rw [this,eX h l L ho hB];rfl
end
end Go.Abs
namespace Go.Abs.World
open Go Go.Abs
noncomputable def yS (v:Int)(x:List Int×Int):Option (Stp (List Int×Int) (List Int)):=
  cond (decide (x.2≥0)) ((NY .u64 (IntKind.wrap .u64 v) (IntKind.wrap .u64 x.2)).bind fun v2=>(X3 x.1 [(IntKind.wrap .u8 v2)]).bind fun v3=>some (.go (v3,(E5 (x.2 - 8))))) (some (.out x.1))
noncomputable def yT (ns:List Int)(x:List Int×Int):Option (Stp (List Int×Int) (List Int)):=
  cond (decide (x.2< (ns.length:Int))) ((C4 ns x.2).bind fun v=>(loop (yS v) (x.1,56)).bind fun y=>some (.go (y,(E5 (x.2+1))))) (some (.out x.1))
noncomputable def tY (ns:List Int)(b:List Int):Option (List Int):=(loop (yT ns) (b,0)).bind fun y=>some y
theorem wY (v:Int)(b:List Int)(hb:b.length+8≤1000000000):loop (yS v) (b,56)=some (b++AM v):=
  iQ v (fun k b=>(b,k)) (fun b=>b) (yS v) 8 1 (fun k b hk hb=>by
   obtain ⟨x,e1,e2⟩:=pD v (8*k) (by omega);unfold yS;rw [bH (show (8:Int)* (k:Int)≥0 by omega),bM,show (8:Int)* (k:Int)=((8*k:Nat):Int) by omega,e1,lB,e2,Ia (by simp;omega),lB,H4 (by omega)]
   congr 4;omega) (fun b=>rfl) b hb
theorem JZ {ns:List Int}{b:List Int}(hn:ns.length≤1000000)(hb:b.length+8*ns.length≤1000000000):tY ns b=some (b++Kt ns):=by
  have:=eW ns AM (fun i b=>(b,i)) (fun b=>b) (yT ns) (fun i a b ha hb=>by
    unfold yT
    rw [J8 (G1 ha),bM,C8 ha,lB,wY a b (by rw [UX]at hb;exact hb),lB,G4 (G1 ha) (by omega)]) (fun b=>by unfold yT;rw [H9];rfl) b (by rw [show ns.flatMap AM=Kt ns from rfl,Iv];exact hb)
  unfold tY;rw [this];rfl
def LW (b:Bool):Int:=if b then 1 else 0
theorem pG (b:Bool):Xr b=some (LW b):=by cases b<;>rfl
def Pl (a:Agent):List Int:= [(a.Route.length:Int)]++ (a.Route++ [a.S,a.V,a.Len,a.Begin,LW a.Obey,LW a.Gone])
def AG (x:Stay):List Int:= [x.Agent_,x.Zone_,x.Since,x.Rank]
def Zs (s:State):List Int:= [s.Tick,(s.Agents.length:Int)]++ (s.Agents.flatMap Pl++ ([(s.In.length:Int)]++s.In.flatMap AG))
def mark4:List Int:= [107,98,119,49]
def CT (s:State):List Int:=mark4++Kt (Zs s)
theorem KX (l:List Int):l.flatMap (fun n=>Kt [n])=Kt l:=by rw [show (fun n:Int=>Kt [n])=AM from funext fun n=>lP _];rfl
theorem yN {α:Type}(l:List α)(f:α→List Int):(l.flatMap fun a=>Kt (f a)).length=8* (l.flatMap f).length:=by rw [← Zr,Iv]
theorem pH (g:Agent)(b:List Int)(hl:g.Route.length≤1000000)(hb:b.length+8*g.Route.length≤1000000000):loop (Fa g) (b,0)=some (b++Kt g.Route):=by
  rw [← KX]
  exact eW g.Route (fun p=>Kt [p]) (fun i b=>(b,i)) (fun b=>b) (Fa g) (fun i a b ha hb=>by
    rw [Iv]at hb;unfold Fa
    rw [J8 (G1 ha),bM,C8 ha,lB,show Uv (b,(i:Int)) a=tY [a] b from rfl,JZ (by simp) hb,lB,G4 (G1 ha) (by omega)]) (fun b=>by unfold Fa;rw [H9];rfl) b (by rw [KX,Iv];exact hb)
theorem iS (s:State)(S:SizeS s)(b:List Int)(hb:b.length+8* (s.Agents.flatMap Pl).length≤1000000000):loop (Fb s) (b,0)=some (b++Kt (s.Agents.flatMap Pl)):=by
  rw [Zr];refine eW s.Agents (fun p=>Kt (Pl p)) (fun i b=>(b,i)) (fun b=>b) (Fb s) (fun i a b ha hb=> ?_) (fun b=>by unfold Fb;rw [H9];rfl) b (by rw [yN];exact hb);have hn:=S.routes a (lG ha);have hlen:=S.agents;rw [Iv]at hb;simp only [Pl,lM,lL,lN]at hb;unfold Fb
  rw [J8 (G1 ha),bM,C8 ha,lB,show Uy (b,(i:Int)) a=tY [(a.Route.length:Int)] b from rfl,JZ (by simp) (by simp;omega),lB,
   pH a _ (by omega) (by simp only [lM,Iv,lL,lN];omega),lB,pG,pG,lB,lB,
   show Sx a _ (LW a.Obey) (LW a.Gone)=tY [a.S,a.V,a.Len,a.Begin,LW a.Obey,LW a.Gone] _ from rfl,JZ (by simp) (by simp only [lM,Iv,lL,lN];omega),lB,G4 (G1 ha) (by omega)]
  simp only [Pl,Oc,lO]
theorem pI (s:State)(S:SizeS s)(b:List Int)(hb:b.length+8* (s.In.flatMap AG).length≤1000000000):loop (Dp s) (b,0)=some (b++Kt (s.In.flatMap AG)):=by
  have hlen:=S.ins;rw [Zr]
  exact eW s.In (fun p=>Kt (AG p)) (fun i b=>(b,i)) (fun b=>b) (Dp s) (fun i a b ha hb=>by
    rw [Iv]at hb;unfold Dp
    rw [J8 (G1 ha),bM,C8 ha,lB,show Sq (b,(i:Int)) a=tY (AG a) b from rfl,JZ (by simp [AG]) hb,lB,G4 (G1 ha) (by omega)]) (fun b=>by unfold Dp;rw [H9];rfl) b (by rw [yN];exact hb)
theorem YP {α:Type}(f:α→List Int)(c:Nat): ∀(l:List α),(∀a∈l,(f a).length≤c)→(l.flatMap f).length≤l.length*c
  | [],_=>by simp
  |a::r,h=>by
   rw [bE,lM,lL,wJ];have:=YP f c r fun x hx=>h x (List.mem_cons_of_mem _ hx);have:=h a (List.mem_cons_self ..);omega
theorem pJ {s:State}(S:SizeS s):(Zs s).length≤10000000:=by
  have a:=YP Pl 1010 s.Agents fun g hg=>by
    have:=S.routes g hg;simp only [Pl,lM,lL,lN];omega
  have b:=YP AG 4 s.In fun x _=>wH 4;have:=S.agents;have:=S.ins;simp only [Zs,lM,lL,lN];omega
theorem SW {s:State}(S:SizeS s):Lv s=some (X2 (CT s)):=by
  have hs:=pJ S;simp only [Zs,lM,lL,lN]at hs;unfold Lv
  rw [show Vb s=tY [s.Tick,(s.Agents.length:Int)] mark4 from rfl,JZ (by simp) (by simp [mark4]),lB,
   iS s S _ (by simp only [lM,Iv,lL,lN,mark4];omega),lB,
   show Su s _=tY [(s.In.length:Int)] _ from rfl,JZ (by simp) (by simp only [lM,Iv,lL,lN,mark4];omega),lB,
   pI s S _ (by simp only [lM,Iv,lL,lN,mark4];omega),lB]
  simp only [CT,Zs,Oc,lO]
theorem YQ:GG mark4:=by intro b hb;simp only [mark4,lU,List.not_mem_nil,or_false]at hb;omega
theorem cW (s:State):GG (CT s):=isB_append.2 ⟨YQ,PV _⟩
abbrev tC (L:List Int)(b:Bool):WorldReader:=⟨X2 L,b⟩
theorem yO {L:List Int}(h:8≤L.length):(L.take 8).length=8:=by rw [lV];omega
def eY (a:Agent):Prop:=(a.Route.length≤8∧∀n∈a.Route,Fr n)∧Fr a.S∧Fr a.V∧Fr a.Len∧Fr a.Begin
def pK (x:Stay):Prop:=Fr x.Agent_∧Fr x.Zone_∧Fr x.Since∧Fr x.Rank
def UZ (s:State):Prop:=Fr s.Tick∧(s.Agents.length≤8∧∀a∈s.Agents,eY a)∧(s.In.length≤96∧∀x∈s.In,pK x)
theorem Bw {n:Int}{L:List Int}(h:GG L):GG (AM n++L):=isB_append.2 ⟨eV n,h⟩
theorem MD {n:Int}{L:List Int}(hn:Fr n)(hL:GG L):K8 (tC (AM n++L) false)=some (n,tC L false):=by
  have hB:GG (AM n++L):=Bw hL;have h:8≤(AM n++L).length:=by rw [lM,UX];omega
  have e1:(AM n++L).take 8=AM n:=List.take_left' rfl;have e2:(AM n++L).drop 8=L:=List.drop_left' rfl;generalize AM n++L=M at*;have hB8:=YO hB 8;have h8:=yO h;unfold K8
  rw [Oa,bI (show ¬((M.length:Int)<8) by omega),bN,
   pF h8 hB8 (Z1 (tC M false)) (fun i a x hi hx hb ha=>by
    unfold Z1;rw [bH (show (a,(i:Int)).2<8 by dsimp only;omega),bM,pC hB,C8 (show M[i]? =some x by rw [bA,bO hi]at hx;exact hx),lB];dsimp only
    rw [pE ha hb,G4 (n:=8) hi (by omega)]) (fun a=>by unfold Z1;rfl),lB,PU (i:=8) (j:=(M.length:Int)) (by omega),lB,
   show ((M.take (M.length:Int).toNat).drop (8:Int).toNat)=M.drop 8 by rw [wF,List.take_length];rfl,e2,e1,show E5 (yL (AM n))=zG (AM n) from rfl,tA hn]
theorem zH {n:Int}{L:List Int}(c:Int)(hn:0≤n∧n≤c)(hc:c≤1000)(hL:GG L):O1 (tC (AM n++L) false) c=some (n,tC L false):=by
  unfold O1;rw [MD (by unfold Fr;omega) hL,lB]
  try dsimp only
  rw [bI (show ¬(n<0) by omega),bI (show ¬(n>c) by omega)];rfl
theorem cX (c:Nat)(hc:c≤1000):FW tC (fun r=>O1 r (c:Int)) (fun n=> [n]) (fun n=>0≤n∧n≤(c:Int)):=fun n L hn hL=>by
  rw [Ob,CR,lP];exact zH (c:Int) hn (by omega) hL
theorem wZ:FW tC K8 (fun n=> [n]) Fr:=fun n L hn hL=>by
  rw [Ob,CR,lP];exact MD hn hL
theorem pL (b:Bool):(LW b==1)=b:=by cases b<;>rfl
theorem pM (b:Bool):0≤LW b∧LW b≤1:=by cases b<;>decide
theorem pN:FW tC Am Pl eY:=fun a L h hL=>by
  have e:Kt (Pl a)++L=Kt ((a.Route.length:Int)::a.Route.flatMap fun n=> [n])++ (AM a.S++ (AM a.V++ (AM a.Len++ (AM a.Begin++ (AM (LW a.Obey)++ (AM (LW a.Gone)++L)))))):=by
    simp [Pl,Oc,Ob,CR]
  unfold Am;rw [e];refine (UY (c:=fun r=>O1 r ((8:Nat):Int)) (f:=K8) 8 (by omega) (cX 8 (by omega)) wZ (fun i r out=>(i,r,out)) (fun r out=>(r,out)) Dg (fun _ _ _ _=>rfl) _ a.Route _ h.1.1 h.1.2 (Bw<|Bw<|Bw<|Bw<|Bw<|Bw hL)).trans ?_;dsimp only
  rw [MD h.2.1 (Bw<|Bw<|Bw<|Bw<|Bw hL),lB,MD h.2.2.1 (Bw<|Bw<|Bw<|Bw hL),lB,MD h.2.2.2.1 (Bw<|Bw<|Bw hL),lB,MD h.2.2.2.2 (Bw<|Bw hL),lB,
   zH 1 (pM _) (by omega) (Bw hL),lB,zH 1 (pM _) (by omega) hL,lB,pL,pL]
theorem tD:FW tC Bl AG pK:=fun x L h hL=>by
  have e:Kt (AG x)++L=AM x.Agent_++ (AM x.Zone_++ (AM x.Since++ (AM x.Rank++L))):=by simp [AG,Ob,CR]
  unfold Bl;rw [e,MD h.1 (Bw<|Bw<|Bw hL),lB,MD h.2.1 (Bw<|Bw hL),lB,MD h.2.2.1 (Bw hL),lB,MD h.2.2.2 hL,lB]
theorem iT:ByteArray.empty=X2 []:=rfl
theorem tE {L:List Int}(hB:GG L):((X2 L).toList==ByteArray.empty.toList)=(L== []):=by rw [iT,toList_eq hB DO]
theorem xA {L:List Int}(hB:GG L)(hl:L.length≤1000000):Gr (X2 L) (ByteArray.mk #[107,98,119,49])=some (if L.take 4=mark4 then (X2 (L.drop 4),true)else (X2 L,false)):=by
  have hm:=YQ;have e0:ByteArray.mk #[107,98,119,49]=X2 mark4:=rfl
  have hp:V0 (X2 L) (X2 mark4)=some (decide (L.take 4=mark4)):=by
    unfold V0;rw [Oa,Oa];by_cases h4:4≤L.length
    ·rw [show decide ((L.length:Int)≥(mark4.length:Int))=true by rw [bJ];simp [mark4];omega,bM,PU (i:=0) (j:=(mark4.length:Int)) (by simp [mark4];omega),lB,bQ,
     show ((L.take ((mark4.length:Nat):Int).toNat).drop (0:Int).toNat)=L.take 4 from rfl,toList_eq (YO hB 4) hm]
     congr 1;rw [Bool.eq_iff_iff,bZ,bJ]
    ·rw [show decide ((L.length:Int)≥(mark4.length:Int))=false by rw [wA];simp [mark4];omega,bN,lB,bR];congr 1
     symm
     rw [wA];intro h;have:=congrArg List.length h;rw [lV]at this;simp [mark4]at this;omega
  unfold Gr Z0;rw [e0,hp,lB];by_cases h:L.take 4=mark4
  ·have h4:4≤L.length:=by
     have:=congrArg List.length h;rw [lV]at this;simp [mark4]at this;omega
   rw [bH h,bO h,bU,bN,Oa,Oa,PU (by simp [mark4];omega),lB,lB,
    show ((L.take ((L.length:Nat):Int).toNat).drop ((mark4.length:Nat):Int).toNat)=L.drop 4 by rw [wF,wF,List.take_length];rfl]
  ·rw [bI h,bP h];rfl
theorem cY {s:State}(hn: ∀x∈s.In,0≤x.Agent_∧x.Agent_<8∧0≤x.Zone_∧x.Zone_<12)(hs: ∀(i:Nat) x y,s.In[i]? =some x→s.In[i+1]? =some y→Fm x y=true):s.In.length≤96:=by
  have key: ∀(i:Nat) x,s.In[i]? =some x→(i:Int)≤12*x.Agent_+x.Zone_:=by
    intro i
    induction i with
    |zero=>intro x hx;have:=hn x (lG hx);omega
    |succ i ih=>
     intro y hy;have hlt:=G1 hy;obtain ⟨x,hx⟩: ∃x,s.In[i]? =some x:=⟨_,lH (by omega)⟩;have h1:=ih x hx;have h2:=hs i x y hx hy;have h3:=hn x (lG hx);have h4:=hn y (lG hy);unfold Fm at h2;simp only [bT,bS,bJ,bZ]at h2;omega
  by_cases q:s.In.length≤96
  ·exact q
  ·exfalso;have e:=lH (l:=s.In) (i:=96) (by omega);have h1:=key 96 _ e;have h2:=hn _ (lG e);omega
theorem iU {m:Map}(K:KitM m){s:State}(O:StateOK m s):UZ s:=by
  have V:=K.val;have hz:=V.zones;have hl:=V.lanes;have ht:=O.tick;have hn:=O.num
  have hI: ∀x∈s.In,0≤x.Agent_∧x.Agent_<8∧0≤x.Zone_∧x.Zone_<12:=fun x hx=>by
    obtain ⟨i,hi⟩:=bF hx;have:=O.ins i x hi;unfold Yc at this;simp only [bY,wA]at this;omega
  refine ⟨by unfold Fr;omega,⟨hn.2,fun g hg=> ?_⟩,⟨cY hI O.sorted,fun x hx=> ?_⟩⟩
  ·obtain ⟨i,hi⟩:=bF hg;have A:=O.agent i g hi;obtain ⟨a,t,hR,R⟩:=A.route;have hL:=Pi R;have h1:=A.len;have h2:=A.begin;have h3:=A.S;have h4:=A.V;have h5:=Zn (Dr m (Ht m g).1);have h6:=R.most;rw [hR]at h3;unfold Zm at h4;refine ⟨⟨by rw [hR,lL];omega,fun n hn=> ?_⟩,by unfold Fr;omega,by unfold Fr;omega,by unfold Fr;omega,by unfold Fr;omega⟩;rw [hR]at hn;have:=R.mem hn;unfold Fr;omega
  ·have h:=hI x hx;have:=O.rank x hx;unfold Vp at this;simp only [bY,wA]at this;exact ⟨by unfold Fr;omega,by unfold Fr;omega,by unfold Fr;omega,by unfold Fr;omega⟩
theorem tF {s:State}(h:UZ s):(CT s).length≤100000:=by
  have a:=YP Pl 15 s.Agents fun g hg=>by
    have:=(h.2.1.2 g hg).1.1;simp only [Pl,lM,lL,lN];omega
  have b:=YP AG 4 s.In fun x _=>wH 4;have:=h.2.1.1;have:=h.2.2.1;unfold CT;rw [lM,Iv];simp only [Zs,lM,lL,lN,mark4];omega
theorem iV {s:State}(h:UZ s):Vd (X2 (CT s))=some (s,0):=by
  have e:Kt (Zs s)=AM s.Tick++ (Kt ((s.Agents.length:Int)::s.Agents.flatMap Pl)++ (Kt ((s.In.length:Int)::s.In.flatMap AG)++ [])):=by
    simp [Zs,Oc,Ob]
  unfold Vd;rw [xA (cW s) (by have:=tF h;omega),lB,bO (show (CT s).take 4=mark4 from List.take_left' rfl),show (CT s).drop 4=Kt (Zs s) from List.drop_left' rfl,e];dsimp only;rw [bU,MD h.1 (IJ<|IJ DO),lB];dsimp only;refine (UY (c:=fun r=>O1 r ((8:Nat):Int)) (f:=Am) 8 (by omega) (cX 8 (by omega)) pN (fun i r out=>(i,r,State.mk s.Tick out [])) (fun r out=>(r,State.mk s.Tick out [])) Re (fun _ _ _ _=>rfl) _ s.Agents _ h.2.1.1 h.2.1.2 (IJ DO)).trans ?_;dsimp only;refine (UY (c:=fun r=>O1 r ((96:Nat):Int)) (f:=Bl) 96 (by omega) (cX 96 (by omega)) tD (fun i r out=>(i,r,State.mk s.Tick s.Agents out)) (fun r out=>(r,State.mk s.Tick s.Agents out)) Rc (fun _ _ _ _=>rfl) _ s.In _ h.2.2.1 h.2.2.2 DO).trans ?_;dsimp only;rw [tE DO];rfl
theorem VA (n:Nat)(hn:n≤1000000)(F:Int→Option (Stp Int (Sum Unit Bool)))(hF: ∀i:Nat,i<n→F (i:Int)=some (.go (E5 ((i:Int)+1))))(h0:F (n:Int)=some (.out (.inl ()))):cond ((n:Int) !=(n:Int)) (some false) (thenS (loop F 0) (fun _=>some true) (fun r=>some r))=some true:=by
  have:=Z7 (List.range n) F (fun _ _=>(none:Option Bool)) (fun i x hx=>by
    have:=G1 hx;rw [List.length_range]at this
    rw [hF i this,G4 this (by omega)]) (by rw [List.length_range];exact h0)
  rw [this,firstE_none.2 fun _ _ _=>rfl,show ((n:Int) !=(n:Int))=false by simp];rfl
theorem iW {l:List Int}(h:l.length≤1000000):Gs l l=some true:=VA l.length h _ (fun i hi=>by
  unfold An
  rw [J8 hi,bM,C8 (lH hi),lB,lB,show (l[i] !=l[i])=false by simp,bN]) (by unfold An;rw [H9];rfl)
theorem cZ {l:List Stay}(h:l.length≤1000000):Ea l l=some true:=VA l.length h _ (fun i hi=>by
  unfold Z2;rw [J8 hi,bM,C8 (lH hi),lB,lB]
  simp) (by unfold Z2;rw [H9];rfl)
theorem YR {l:List Agent}(h:l.length≤1000000)(hr: ∀a∈l,a.Route.length≤1000):M3 l l=some true:=VA l.length h _ (fun i hi=>by
  unfold J3
  have e:Kg l[i] l[i]=some true:=by
    unfold Kg;rw [iW (by have:=hr _ (List.getElem_mem hi);omega),lB];simp
  rw [J8 hi,bM,C8 (lH hi),lB,lB,e];rfl) (by unfold J3;rw [H9];rfl)
theorem SX {s:State}(S:SizeS s):Qr s s=some true:=by
  unfold Qr;rw [YR (by have:=S.agents;omega) S.routes,cZ S.ins,beq_self_eq_true];rfl
theorem eZ {m:Map}(K:KitM m)(ps:List (List Int))(hp:ps.length≤1000): ∀(n k:Nat) (s:State),k+n=ps.length→StateOK m s→s.Tick=(k:Int)→s.In.length≤1000000→loop (Y1 ps m) ((k:Int),s,s)=some (.inl ())
  |0,k,s,hk,_,_,_=>by
   obtain rfl:k=ps.length:=by omega
   exact D3 (by unfold Y1;dsimp only;rw [H9];rfl)
  |n+1,k,s,hk,O,ht,hI=>by
   have hkl:k<ps.length:=by omega
   obtain ⟨acts,ha⟩: ∃acts,ps[k]? =some acts:=⟨_,lH hkl⟩;have S:=O.size K hI;obtain ⟨e1,O',e3,_⟩:=sX K O (by omega) acts;obtain ⟨S',c1,c2⟩:=iN K S acts
   have key:Y1 ps m ((k:Int),s,s)=some (.go (((k+1:Nat):Int),(Wl m s acts).1,(Wl m s acts).1)):=by
     unfold Y1;dsimp only;rw [J8 hkl,bM,C8 ha,lB,YK K S (eU O) acts,lB,lB,YK K S (eU O) acts,lB,e1,SX S',JV _ c1 c2,SW S'];simp only [bne_self_eq_false,Bool.or_false,bV,bM,lB,bU,beq_self_eq_true,bN];rw [G4 hkl (by omega)]
   rw [K1 key];refine eZ K ps hp n (k+1) _ (by omega) O' ?_ S'.ins;rw [e3];dsimp only;omega
theorem AL (n:Int)(ps:List KitActor)(acts:List (List Int)):Ng n ps acts=some true:=by
  obtain ⟨m,hm,K,_⟩:=sQ n;unfold Ng;rw [nP];by_cases q:7<ps.length∨6<acts.length
  ·rw [show (decide ((ps.length:Int)>7)||decide ((acts.length:Int)>6))=true by simp only [bT,bJ];omega];rfl
  ·rw [show (decide ((ps.length:Int)>7)||decide ((acts.length:Int)>6))=false by simp only [bY,wA];omega,bN,hm,lB];obtain ⟨A,e,h0,L⟩:=oY K ps (by omega);obtain ⟨n1,O⟩:=oX K h0;have S:=oR K L.size;have h:=eZ K acts (by omega) acts.length 0 (Pq m A).1 (by omega) O (by rw [n1];rfl) S.ins;have h:loop (Y1 acts m) (0,(Pq m A).1,(Pq m A).1)=some (.inl ()):=h;rw [e,lB,SW S,lB,iV (iU K O),lB];dsimp only;rw [SX S,h];rfl
end Go.Abs.World
