/-
  An abstract layer over the machine, second part: calls, regions in any order, code, contracts.
-/
import Derived.Test.YtgjdiioennhoeaaGreatCoreA
import Derived.Lib.ConvBytes
import Derived.Orders
import Derived.RangeFuncNested
namespace Go.Abs
open Go
/-! ### Calls of functions that only read what they are handed -/
/-- A contract: called with values that stand for 'args', the function returns a value that stands for 'r'; nothing that was there has changed. -/
structure PTr (w:World)(I:Nat→Prop)(w':World)(I':Nat→Prop):Prop where
  os:w'.os=w.os
  tape:w'.tape=w.tape
  output:w'.output=w.output
  size:w.heap.size≤w'.heap.size
  frame: ∀b,b<w.heap.size→w'.heap[b]? =w.heap[b]?
  imm: ∀b,I b→I' b
  immBack: ∀b,I' b→b<w.heap.size→I b
  ilt: ∀b,I' b→b<w'.heap.size
def Zs (P:Program)(f:FuncId):Prop:= ∀(vs:Array Value) (w:World),(callFunc f vs).run P w= .ok (.enter f vs) w
def PCall (P:Program)(f:FuncId)(args:List D)(r:D):Prop:=
  Zs P f∧∀(w:World) (I:Nat→Prop) (vs:List Value),(∀b,I b→b<w.heap.size)→args.length=vs.length→(∀(i:Nat) d,args[i]? =some d→RepD w I d (vs.getD i undef))→
   Calls P f vs.toArray w fun e w'=> ∃v I',e= .returned v∧RepD w' I' r v∧PTr w I w' I'
/-- What needs no memory. -/
def GN:D→Bool
  | .v _| .nilS| .list []=>true
  |_=>false
def QW:D→Bool
  | .agg cs=>cs.all GN
  |d=>GN d
def GO:D→Bool
  | .tup cs=>cs.all QW
  |d=>QW d
theorem CX {w w':World}{I I':Nat→Prop}{d:D}{x:Value}(h:RepD w I d x)(hd:GN d=true):RepD w' I' d x:=by
  cases h with
  |v x=>exact .v x
  |nilS A=>exact .nilS A
  |lnil A c=>exact .lnil A c
  |list es A cap sz X hne=>cases es<;>first|exact absurd rfl hne|(simp [GN]at hd)
  |_=>simp [GN]at hd
theorem CY {w w':World}{I I':Nat→Prop}{d:D}{x:Value}(h:RepD w I d x)(hd:QW d=true):RepD w' I' d x:=by
  cases d with
  |agg cs=>
   cases h with
   |agg _ vs hl hone hr=>exact .agg cs vs hl hone fun i d hi=>CX (hr i d hi) (lX.1 hd d (lF hi))
  |_=>exact CX h hd
theorem QX {w w':World}{I I':Nat→Prop}{d:D}{x:Value}(h:RepD w I d x)(hd:GO d=true):RepD w' I' d x:=by
  cases d with
  |tup cs=>
   cases h with
   |tup _ vs hl hr=>exact .tup cs vs hl fun i d hi=>CY (hr i d hi) (lX.1 hd d (lF hi))
  |_=>exact CY h hd
/-- What a value with parts of the run's own is to a callee that only reads: data. -/
def M7 (f:AV→Option D):List AV→Option (List D)
  | []=>some []
  |x::r=>match f x,M7 f r with
   |some d,some ds=>some (d::ds)
   |_,_=>none
def L8 (h:D2):Nat→AV→Option D
  |0,x=>match x with
   | .d x=>some x
   |_=>none
  |n+1,x=>match x with
   | .d x=>some x
   | .sl k=>match h k with
     |some (.arr _ _ es)=>some (.list es)
     |_=>none
   | .ptr k off=>match h k with
     |some (.box _ cs)=>(M7 (L8 h n) cs).map fun ds=> .bp ds off
     |_=>none
   | .agg cs=>(M7 (L8 h n) cs).map .agg
   | .fn f fs cs=>match M7 (L8 h n) fs,M7 (L8 h n) cs with
     |some a,some b=>some (.fn f a b)
     |_,_=>none
   |_=>none
/-- The keys that this reads. -/
def O6 (h:D2):Nat→AV→List D6
  |0,_=> []
  |n+1,x=>match x with
   | .sl k=> [k]
   | .ptr k _=>k::(match h k with
     |some (.box _ cs)=>cs.flatMap (O6 h n)
     |_=> [])
   | .agg cs=>cs.flatMap (O6 h n)
   | .fn _ fs cs=>fs.flatMap (O6 h n)++cs.flatMap (O6 h n)
   |_=> []
theorem Cg {f:AV→Option D}: ∀{xs:List AV} {ds:List D},M7 f xs=some ds→ds.length=xs.length∧∀(i:Nat) d,ds[i]? =some d→∃x,xs[i]? =some x∧f x=some d:=by
  intro xs
  induction xs with
  |nil=>intro ds h;simp [M7]at h;subst h;simp
  |cons x r ih=>
   intro ds h
   simp only [M7]at h
   split at h
   ·rename_i d ds' h1 h2
    cases h
    obtain ⟨g1,g2⟩:=ih h2
    refine ⟨by simp [g1],fun i e he=> ?_⟩
    cases i with
    |zero=>simp at he;subst he;exact ⟨x,rfl,h1⟩
    |succ i=>simp at he;simpa using g2 i e he
   ·cases h
theorem Fs {w:World}{I:Nat→Prop}{ρ:Rho}{h:D2}(H:HeapOK w I ρ h): ∀(n:Nat) (x:AV) (d:D) (v:Value),RepV w I ρ x v→L8 h n x=some d→RepD w (fun b=>I b∨own ρ h b) d v:=by
  intro n
  induction n with
  |zero=>
   intro x d v hx hd
   cases x<;>simp only [L8]at hd<;>cases hd
   cases hx with|d _ _ hx=>exact hx.keep (fun _ _=>rfl) (fun _ h=> .inl h)
  |succ n ih=>
   intro x d v hx hd
   cases x with
   |d y=>
    simp only [L8,Option.some.injEq]at hd
    subst hd
    cases hx with|d _ _ hx=>exact hx.keep (fun _ _=>rfl) (fun _ h=> .inl h)
   |sl k=>
    simp only [L8]at hd
    split at hd
    ·rename_i ty sz es hb
     cases hd
     have hel:W4 h sz (.sl k)=some es:=by simp [W4,hb]
     obtain ⟨A,c,us,rfl,hul,had,hsz,hrep⟩:=CW H hx hel
     cases hx with
     |sl _ _ hρ=>
      obtain ⟨x0,xs,g1,g2,g3,g4⟩:=H.blk _ _ hb
      rw [hρ]at g1
      cases g1
      by_cases he:es= []
      ·subst he;exact .lnil _ _
      ·obtain ⟨ad,rfl,hc⟩:=had he
       have hcap:es.length≤c:=by
         rcases g2.2 with ⟨_,hz⟩|⟨g,cap,cur,fz,hv,_,_,hnc,_⟩
         ·exact absurd (lY hz) he
         ·cases hv;exact hnc
       refine .list es ad c sz (fun i j=>us.getD (i*sz+j) undef) he hcap hsz (.inr ⟨k,_,hb,by simp [L9,hρ,Value.ownBlock]⟩) (fun i j d hd=>(hrep i j d hd).1) (fun i j d hd=> ?_) (fun i j d hd=>(hrep i j d hd).2.keep (fun _ _=>rfl) (fun _ h=> .inl h))
       have hi:i<es.length:=by
         unfold Kw at hd
         cases hq:es[i]? with
         |none=>simp [hq]at hd
         |some q=>exact (lH.1 hq).1
       have hj:j<sz:=by
         unfold Kw at hd
         cases hq:es[i]? with
         |none=>simp [hq]at hd
         |some q=>
          simp only [hq,lA]at hd
          rw [← hsz q (lF hq)]
          exact (lH.1 hd).1
       have hlt:i*sz+j<us.length:=by rw [hul];exact EC hi hj
       refine hc _ _ ?_
       rw [List.getD,lG hlt];rfl
    ·cases hd
   |ptr k off=>
    simp only [L8]at hd
    split at hd
    ·rename_i ty cs hb
     simp only [lD]at hd
     obtain ⟨ds,hds,rfl⟩:=hd
     obtain ⟨g,vs,g1,g2,g3,g4,g5⟩:=H.blk _ _ hb
     cases hx with
     |ptr _ _ g' hρ=>
      rw [hρ]at g1
      cases g1
      obtain ⟨l1,l2⟩:=Cg hds
      have hr: ∀(i:Nat) d,ds[i]? =some d→RepD w (fun b=>I b∨own ρ h b) d (vs.getD i undef):=by
        intro i d hi
        obtain ⟨x,hx,hf⟩:=l2 i d hi
        exact ih x d _ (g5 i x hx) hf
      refine .bp ds off g vs ty (0,0) (.inr ⟨k,_,hb,by simp [L9,hρ,Dy]⟩) g2 (by omega) (fun i d hi=>(hr i d hi).one_of (g4 i ?_)) hr
      have:=(lH.1 hi).1
      omega
    ·cases hd
   |agg cs=>
    simp only [L8,lD]at hd
    obtain ⟨ds,hds,rfl⟩:=hd
    cases hx with
    |agg _ vs hl hone hr=>
     obtain ⟨l1,l2⟩:=Cg hds
     have hr': ∀(i:Nat) d,ds[i]? =some d→RepD w (fun b=>I b∨own ρ h b) d (vs.getD i undef):=by
       intro i d hi
       obtain ⟨x,hx,hf⟩:=l2 i d hi
       exact ih x d _ (hr i x hx) hf
     refine .agg ds vs (by omega) (fun i d hi=>(hr' i d hi).one_of (hone i ?_)) hr'
     have:=(lH.1 hi).1
     omega
   |fn f fs cs=>
    simp only [L8]at hd
    split at hd
    ·rename_i a b ha hb
     cases hd
     cases hx with
     |fn _ _ _ vfs vcs hl hl' hr hr'=>
      obtain ⟨l1,l2⟩:=Cg ha
      obtain ⟨m1,m2⟩:=Cg hb
      refine .fn f a b vfs vcs (by omega) (by omega) (fun i d hi=> ?_) (fun i d hi=> ?_)
      ·obtain ⟨x,hx,hf⟩:=l2 i d hi
       exact ih x d _ (hr i x hx) hf
      ·obtain ⟨x,hx,hf⟩:=m2 i d hi
       exact ih x d _ (hr' i x hx) hf
    ·cases hd
   |_=>simp [L8]at hd
/-- The function and the arguments of a call, as data; whether all were data before. -/
def Q5 (t:Nat→AV)(f:Opd)(args:List Opd):Option (FuncId×List AV):=
  match ev t f with
  | .d (.fn (.func f) fs cs)=>some (f,fs.map .d++args.map (ev t)++cs.map .d)
  | .fn (.func f) fs cs=>some (f,fs++args.map (ev t)++cs)
  |_=>none
def Xq (P:Program)(t:Nat→AV)(h:D2)(k:AK)(v:AV):Prop:=match k with
  | .call f args=>match Q5 t f args with
    |some (fid,avs)=> ∃ds r,M7 (L8 h 6) avs=some ds∧PCall P fid ds r∧(Fa avs=some ds∨GO r=true)∧v= .d r
    |none=>False
  |_=>False
/-- The part of a heap at some keys. -/
def O7 (h:D2)(ks:List D6):D2:=fun q=>if q∈ks then h q else none
/-- A call of a function that may alter what is handed to it of the run's own, and hands out what is the run's own from then on: its new keys are (S + j, u). -/
def FCall (P:Program)(u S:Nat)(f:FuncId)(avs:List AV)(pre:D2)(v:AV)(ups:List (D6×Option Blk)):Prop:=
  Zs P f∧∀(w:World) (I:Nat→Prop) (ρ:Rho) (h:D2) (vs:List Value),HeapOK w I ρ h→(∀q b,pre q=some b→h q=some b)→avs.length=vs.length→
   (∀(i:Nat) c,avs[i]? =some c→RepV w I ρ c (vs.getD i undef))→(∀j,j<6→ρ (S+j,u)=none)→
   Calls P f vs.toArray w fun e w'=> ∃x I' ρ',e= .returned x∧RepV w' I' ρ' v x∧HeapOK w' I' ρ' (N3 h ups)∧Tr w I ρ h w' I' ρ' (N3 h ups)∧∀k',(∀j,j<6→k'≠(S+j,u))→ρ' k'=ρ k'
def Uq (P:Program)(u:Nat)(t:Nat→AV)(h:D2)(k:AK)(v:AV)(ups:List (D6×Option Blk)):Prop:=match k with
  | .ocall S f args=>match Q5 t f args with
    |some (fid,avs)=>(∀q∈ups.map (·.1),q∈avs.flatMap (O6 h 6)∨∃j,j<6∧q=(S+j,u))∧(∀q∈avs.flatMap (O6 h 6),h q≠none)∧FCall P u S fid avs (O7 h (avs.flatMap (O6 h 6))) v ups
    |none=>False
  |_=>False
theorem GP {h:D2}{n:Nat}: ∀{xs:List AV} {ds:List D},Fa xs=some ds→M7 (L8 h n) xs=some ds:=by
  intro xs
  induction xs with
  |nil=>intro ds hd;simp [Fa]at hd;subst hd;rfl
  |cons x r ih=>
   intro ds hd
   cases x<;>simp only [Fa]at hd<;>try cases hd
   simp only [lD]at hd
   obtain ⟨q,hq,rfl⟩:=hd
   simp only [M7,ih hq]
   cases n<;>rfl
section
variable {P:Program}{w:World}{I:Nat→Prop}{ρ:Rho}{N:Nat}{s:St}{a:Act}{h:D2}
/-- A call, as the operation has it. -/
theorem Zt {o:Oper}{k:AK}{f:Opd}{args:List Opd}(hk:M3 P o.op=some k)(hkk:k= .call f args)(hs:Sim w I ρ N s a){fid:FuncId}{avs:List AV}(hc:Q5 s.t f args=some (fid,avs))(he:Zs P fid):
    ∃vs:List Value,(execOp a.eval o).run P w= .ok (.enter fid vs.toArray) w∧avs.length=vs.length∧∀(i:Nat) c,avs[i]? =some c→RepV w I ρ c (vs.getD i undef):=by
  subst hkk
  have ht:=Ib hk
  obtain ⟨c,hop⟩: ∃c,o.op= .call c:=by
    cases hq:o.op<;>rw [hq]at ht<;>simp [U1,Qd]at ht
    exact ⟨_,rfl⟩
  rw [hop]at hk
  obtain ⟨cal,as,tys⟩:=c
  rw [hop]at ht
  simp only [U1,Qd]at ht
  cases cal with
  |value fo=>
   simp only [M3,lB]at hk
   obtain ⟨of_,hof,hk⟩:=bind_some hk
   obtain ⟨oas,hoas,hk⟩:=bind_some hk
   cases hk
   have hfr:=M6 hs hof
   obtain ⟨l1,l2⟩:=Vj hs hoas
   have main: ∀(vfs vcs:List Value) (fs cs:List AV),a.eval fo= .func (.func fid) vfs.toArray vcs.toArray→fs.length=vfs.length→cs.length=vcs.length→(∀(i:Nat) c,fs[i]? =some c→RepV w I ρ c (vfs.getD i undef))→
    (∀(i:Nat) c,cs[i]? =some c→RepV w I ρ c (vcs.getD i undef))→avs=fs++args.map (ev s.t)++cs→
    ∃vs:List Value,(execOp a.eval o).run P w= .ok (.enter fid vs.toArray) w∧avs.length=vs.length∧∀(i:Nat) c,avs[i]? =some c→RepV w I ρ c (vs.getD i undef):=by
     intro vfs vcs fs cs hf hl hl' hr hr' hav
     subst hav
     refine ⟨vfs++as.toList.map a.eval++vcs,?_,by simp [hl,hl',l1],fun i c hi=> ?_⟩
     ·unfold execOp
      rw [hop]
      have hm:(Array.map a.eval as)=(as.toList.map a.eval).toArray:=by apply Array.ext';simp
      simp [resolve,Deferred.ofValue,hf,invoke,hm,he _ _]
     ·simp only [List.getElem?_append,lK,lQ]at hi
      simp only [List.getD,List.getElem?_append,lK,lQ]
      rw [← hl,show as.toList.length=args.length by simpa using l1.symm]
      split
      ·rename_i h1
       rw [bB h1]at hi
       split
       ·rename_i h2
        rw [bB h2]at hi
        have:=hr i c hi
        rwa [List.getD]at this
       ·rename_i h2
        rw [bC h2]at hi
        rw [lI]at hi
        cases hq:args[i - fs.length]? with
        |none=>rw [hq]at hi;cases hi
        |some q=>
         rw [hq]at hi;cases hi
         have:=l2 _ q hq
         rwa [List.getD]at this
      ·rename_i h1
       rw [bC h1]at hi
       have:=hr' _ c hi
       rwa [List.getD]at this
   unfold Q5 at hc
   split at hc
   ·rename_i f' fs cs hfe
    cases hc
    rw [hfe]at hfr
    generalize hy:a.eval fo=y at hfr main
    cases hfr with
    |d _ _ hd=>
     cases hd with
     |fn _ _ _ vfs vcs hl hl' hr hr'=>
      refine main vfs vcs (fs.map .d) (cs.map .d) rfl (by simpa using hl) (by simpa using hl') (fun i c hi=> ?_) (fun i c hi=> ?_) rfl
      ·rw [lI]at hi
       cases hq:fs[i]? with
       |none=>rw [hq]at hi;cases hi
       |some q=>rw [hq]at hi;cases hi;exact .d _ _ (hr i q hq)
      ·rw [lI]at hi
       cases hq:cs[i]? with
       |none=>rw [hq]at hi;cases hi
       |some q=>rw [hq]at hi;cases hi;exact .d _ _ (hr' i q hq)
   ·rename_i f' fs cs hfe
    cases hc
    rw [hfe]at hfr
    generalize hy:a.eval fo=y at hfr main
    cases hfr with
    |fn _ _ _ vfs vcs hl hl' hr hr'=>exact main vfs vcs fs cs rfl hl hl' hr hr' rfl
   ·cases hc
  |builtin b=>cases b<;>simp [Wr]at ht
  |invoke r m=>simp [Wr]at ht
theorem GQ {o:Oper}{k:AK}{v:AV}(hk:M3 P o.op=some k)(hs:Sim w I ρ N s a)(H:HeapOK w I ρ h)(hv:Xq P s.t h k v){K:Act→World→Prop}
    (hK: ∀x w' I',RepV w' I' ρ v x→HeapOK w' I' ρ s.h→Tr w I ρ s.h w' I' ρ s.h→K (a.put o.dst x) w'):YP P o a w K:=by
  unfold Xq at hv
  split at hv
  ·rename_i f args
   split at hv
   ·rename_i fid avs hc
    obtain ⟨ds,r,hds,hP,hsc,rfl⟩:=hv
    obtain ⟨vs,hrun,hlen,hrep⟩:=Zt hk rfl hs hc hP.1
    have hdef:Mf o.op=false:=by
      have ht:=Ib hk
      cases hq:o.op<;>rw [hq]at ht<;>simp [U1,Qd]at ht<;>rfl
    refine ⟨hdef,?_⟩
    rw [hrun]
    dsimp only
    obtain ⟨l1,l2⟩:=Cg hds
    have Hs:=hs.heap
    -- the two ways: all was data; or the answer needs no memory
    by_cases hall:Fa avs=some ds
    ·have e:=Ml hall
     have:=hP.2 w I vs Hs.ilt (by rw [e]at hlen;simpa using hlen) (fun i d hi=>by
       have:=hrep i (.d d) (by rw [e];simp [hi])
       cases this with|d _ _ h=>exact h)
     refine this.mono ?_
     rintro e' w' ⟨x,I',rfl,hr,tr⟩
     refine ⟨x,rfl,hK x w' I' (.d _ _ hr) ?_ ?_⟩
     ·exact Hs.keep (fun g ho=>tr.frame g (Hs.own_lt ho)) (fun b hb=>tr.frame b (Hs.ilt b hb)) tr.imm (fun g ho hi=>Hs.own_notI ho (tr.immBack g hi (Hs.own_lt ho))) tr.ilt (fun _ _ hv=>hv) tr.size Hs.fresh Hs.rone
     ·exact ⟨tr.os,tr.tape,tr.output,tr.size,fun b hb _=>tr.frame b hb,tr.imm,fun b hb hl=> .inl (tr.immBack b hb hl),fun _ hb _=>hb,fun _ _ hv=>hv⟩
    ·have hscal:GO r=true:=by
       rcases hsc with h|h
       ·exact absurd h hall
       ·exact h
     have:=hP.2 w (fun b=>I b∨own ρ h b) vs (fun b hb=>by rcases hb with h|h;exact Hs.ilt b h;exact H.own_lt h) (by omega) (fun i d hi=>by
       obtain ⟨x,hx,hf⟩:=l2 i d hi
       exact Fs H 6 x d _ (hrep i x hx) hf)
     refine this.mono ?_
     rintro e' w' ⟨x,I',rfl,hr,tr⟩
     refine ⟨x,rfl,hK x w' I (.d _ _ (QX hr hscal)) ?_ ?_⟩
     ·exact Hs.keep (fun g ho=>tr.frame g (Hs.own_lt ho)) (fun b hb=>tr.frame b (Hs.ilt b hb)) (fun _ hb=>hb) (fun g ho=>Hs.own_notI ho) (fun b hb=>bO (Hs.ilt b hb) tr.size) (fun _ _ hv=>hv) tr.size Hs.fresh Hs.rone
     ·exact ⟨tr.os,tr.tape,tr.output,tr.size,fun b hb _=>tr.frame b hb,fun _ hb=>hb,fun b hb _=> .inl hb,fun _ hb _=>hb,fun _ _ hv=>hv⟩
   ·exact hv.elim
  ·exact hv.elim
end
end Go.Abs
namespace Go.Abs
open Go
/-! ### One operation's effect: its value and the changes of the heap -/
def Yh (P:Program)(u:Nat)(o:AOp)(t:Nat→AV)(h:D2)(v:AV)(ups:List (D6×Option Blk)):Prop:=match U1 o.k with
  |0=>G7 t h o.k=some v∧ups= []
  |1=> ∃d b,o.dst=some d∧Kj u d t o.k=some (v,b)∧ups= [((d,u),some b)]
  |2=> ∃d b,o.dst=some d∧Kj u d t o.k=some (v,b)∧ups= [((d,u),some b)]
  |3=> ∃d b,o.dst=some d∧Kj u d t o.k=some (v,b)∧ups= [((d,u),some b)]
  |4=>Dz u (o.dst.getD 0) t h o.k=some (v,ups)
  |5=>Dz u (o.dst.getD 0) t h o.k=some (v,ups)
  |6=>Xq P t h o.k v∧ups= []
  |8=>Uq P u t h o.k v ups
  |9=> ∃d,o.dst=some d∧Dz u d t h o.k=some (v,ups)
  |_=>False
/-- With the guard. -/
def Ob (P:Program)(u:Nat)(o:AOp)(t:Nat→AV)(h:D2)(v:AV)(ups:List (D6×Option Blk)):Prop:=match o.g with
  |none=>Yh P u o t h v ups
  |some (g,b)=>match t g with
   | .d (.v (.bool c))=>if c=b then Yh P u o t h v ups else v= .d (.tup [])∧ups= []
   | .d (.tup [])=>v= .d (.tup [])∧ups= []
   |_=>False
def Mg (t:Nat→AV):Option Nat→AV→Nat→AV
  |some d,v=>V1 t d v
  |none,_=>t
def after (s:St)(o:AOp)(v:AV)(ups:List (D6×Option Blk)):St:=⟨Mg s.t o.dst v,N3 s.h ups⟩
def eG (P:Program)(u:Nat)(o:AOp)(s s':St):Prop:= ∃v ups,Ob P u o s.t s.h v ups∧s'=after s o v ups
/-- Does it make a key of its own? -/
def Pl (k:AK):Bool:=match U1 k with
  |1|2|3|5=>true
  |n=>Nat.beq n 9
/-- The slots of the keys that it may make. -/
def JS (o:AOp):List Nat:=match o.k with
  | .ocall S _ _=>(List.range 6).map (S+ ·)
  |k=>if Pl k then o.dst.toList else []
theorem Qe {o:AOp}{d:Nat}(hm:Pl o.k=true)(hd:o.dst=some d):d∈JS o:=by
  unfold JS
  split
  ·rename_i hk;rw [hk]at hm;simp [Pl,U1]at hm
  ·rw [bB hm,hd];simp
section
variable {P:Program}{w:World}{I:Nat→Prop}{ρ:Rho}{N:Nat}{s:St}{a:Act}{u:Nat}
theorem Sim.sett (hs:Sim w I ρ N s a)(d:Option Nat)(hd: ∀i,d=some i→i<N){v:AV}{x:Value}(h:RepV w I ρ v x):Sim w I ρ N ⟨Mg s.t d v,s.h⟩ (a.put d x):=by
  have:=hs.set d hd h
  cases d<;>exact this
theorem Rl {ops:Array Oper}{o:Oper}{ao:AOp}(h:GB P N ops o=some ao):
    M3 P o.op=some ao.k∧ao.dst=o.dst∧(∀i,o.dst=some i→i<N)∧
    (match o.guard with|none=>ao.g=none|some (j,b)=> ∃d,(ops[j]?).bind (·.dst)=some d∧ao.g=some (d,b)):=by
  simp only [GB,lB]at h
  obtain ⟨k,hk,h⟩:=bind_some h
  obtain ⟨g,hg,h⟩:=bind_some h
  split at h
  ·rename_i hd
   cases h
   refine ⟨hk,rfl,fun i hi=>by rw [hi]at hd;simpa [XL] using hd,?_⟩
   cases hgu:o.guard with
   |none=>rw [hgu]at hg;cases hg;rfl
   |some jb=>
    obtain ⟨j,b⟩:=jb
    rw [hgu]at hg
    simp only [XK,lD]at hg
    obtain ⟨d,hd',rfl⟩:=hg
    exact ⟨d,hd',rfl⟩
  ·cases h
theorem Mm {o:Oper}{k:AK}(hk:M3 P o.op=some k):Mf o.op=false:=by
  cases hq:o.op<;>first|rfl|(rw [hq]at hk;simp [M3]at hk)
/-- The operation itself. -/
theorem NW {ops:Array Oper}{o:Oper}{ao:AOp}{v:AV}{ups:List (D6×Option Blk)}(ho:GB P N ops o=some ao)(hs:Sim w I ρ N s a)
    (hfresh: ∀d,ao.dst=some d→Pl ao.k=true→ρ (d,u)=none) (hdst:U1 ao.k=5→ao.dst≠none) (he:Yh P u ao s.t s.h v ups) {K:Act→World→Prop}
    (hK: ∀a' w' ρ' I',Sim w' I' ρ' N (after s ao v ups) a'→Tr w I ρ s.h w' I' ρ' (after s ao v ups).h→(∀k',(∀d,ao.dst=some d→Pl ao.k=true→k'≠(d,u))→ρ' k'=ρ k')→K a' w'):
    YP P o a w K:=by
  obtain ⟨hk,hd,hdN,hg⟩:=Rl ho
  have hdN': ∀i,ao.dst=some i→i<N:=by rw [hd];exact hdN
  have htag:=Ib hk
  unfold Yh at he
  split at he
  ·obtain ⟨hv,rfl⟩:=he
   obtain ⟨x,hrun,hr⟩:=JO hk hs hs.heap hv
   refine ⟨Mm hk,?_⟩
   rw [hrun]
   have:=hs.sett ao.dst hdN' hr
   rw [hd]at this
   exact hK _ _ ρ I (by rw [after,hd];exact this) (Tr.refl _ _ _ _) (fun _ _=>rfl)
  all_goals try (
    rename_i ht
    obtain ⟨d,b,hdd,hv,rfl⟩:=he
    have hmk:Pl ao.k=true:=by simp [Pl,ht]
    obtain ⟨x,w',ρ',hrun,H',T',hr,hother⟩:=Zr hk hs hs.heap (hfresh d hdd hmk) hv
    refine ⟨Mm hk,?_⟩
    rw [hrun]
    have:=(hs.step H' T').sett ao.dst hdN' hr
    rw [hd]at this
    exact hK _ _ ρ' I (by rw [after,hd];exact this) T' (fun k' hk'=>hother k' (hk' d hdd hmk)))
  ·rename_i ht
   obtain ⟨t,p,x,hop⟩|⟨t,m,x,y,hop⟩:(∃t p x,o.op= .store t p x)∨∃t m x y,o.op= .insert t m x y∨o.op= .mapUpdate t m x y:=by
     cases hq:o.op with
     |store t p x=>exact .inl ⟨t,p,x,rfl⟩
     |insert t m x y=>exact .inr ⟨t,m,x,y, .inl rfl⟩
     |mapUpdate t m x y=>exact .inr ⟨t,m,x,y, .inr rfl⟩
     |call c=>rw [hq]at htag;simp only [Qd]at htag;rw [ht]at htag;unfold Wr at htag;split at htag<;>simp at htag
     |_=>rw [hq,ht]at htag;simp [Qd]at htag
   all_goals
     have hw:Up P w I ρ s.h a o (fun _=>True) v (N3 s.h ups):=by first|exact GL (u:=u) (d:=ao.dst.getD 0) hop hk hs hs.heap he|exact JR (u:=u) (d:=ao.dst.getD 0) hop hk hs hs.heap he
     obtain ⟨r,w',ρ',hrun,⟨x',hx',hr⟩,H',T',hother⟩:=hw
     refine ⟨Mm hk,?_⟩
     rw [hrun]
     have h2:=(hs.step H' T').sett ao.dst hdN' hr
     rw [hd]at h2
     rcases hx' with rfl|⟨rfl,rfl⟩
     ·exact hK _ _ ρ' I (by rw [after,hd];exact h2) T' (fun k' _=>hother k' trivial)
     ·exact hK _ _ ρ' I (by rw [after,hd];exact h2) T' (fun k' _=>hother k' trivial)
  ·rename_i ht
   obtain ⟨c,hop,hcal⟩: ∃c,o.op= .call c∧c.callee= .builtin .append:=by
     cases hq:o.op with
     |call c=>
      rw [hq]at htag;simp only [Qd]at htag;rw [ht]at htag
      unfold Wr at htag
      split at htag
      ·exact ⟨c,rfl,‹_›⟩
      ·simp at htag
      ·simp at htag
     |_=>rw [hq,ht]at htag;simp [Qd]at htag
   have hmk:Pl ao.k=true:=by simp [Pl,ht]
   cases hdd:ao.dst with
   |none=>exact absurd hdd (hdst ht)
   |some d=>
    rw [hdd]at he
    obtain ⟨r,w',ρ',hrun,⟨x',hx',hr⟩,H',T',hother⟩:=EF (u:=u) (d:=d) hop hcal hk hs hs.heap (hfresh d hdd hmk) he
    refine ⟨Mm hk,?_⟩
    rw [hrun]
    have h2:=(hs.step H' T').sett ao.dst hdN' hr
    rw [hd]at h2
    rcases hx' with rfl|⟨rfl,rfl⟩
    ·exact hK _ _ ρ' I (by rw [after,hd];exact h2) T' (fun k' hk'=>hother k' (hk' d hdd hmk))
    ·exact hK _ _ ρ' I (by rw [after,hd];exact h2) T' (fun k' hk'=>hother k' (hk' d hdd hmk))
  ·rename_i ht
   obtain ⟨hv,rfl⟩:=he
   refine GQ hk hs hs.heap hv fun x w' I' hr H' T'=> ?_
   have h2:=(hs.step H' T').sett ao.dst hdN' hr
   rw [hd]at h2
   exact hK _ _ ρ I' (by rw [after,hd];exact h2) T' (fun _ _=>rfl)
  ·rename_i ht
   exfalso
   rw [ht]at htag
   cases hq:o.op<;>rw [hq]at htag<;>simp [Qd]at htag
   rename_i c
   cases hc:c.callee<;>rw [hc]at htag<;>simp [Wr]at htag
   rename_i b
   cases b<;>simp at htag
  ·rename_i ht
   exfalso
   rw [ht]at htag
   cases hq:o.op<;>rw [hq]at htag<;>simp [Qd]at htag
   rename_i c
   cases hc:c.callee<;>rw [hc]at htag<;>simp [Wr]at htag
   rename_i b
   cases b<;>simp at htag
  ·exact he.elim
end
end Go.Abs
namespace Go.Abs
open Go
/-! ### What an operation looks at -/
def P2:AK→List Opd
  | .mv x=> [x]
  | .pick c a b=> [c,a,b]
  | .alloc _ _=> []
  | .box _ _ x=> [x]
  | .build _ ps=>ps.map (·.2.2)
  | .bslice _ _ _ _ ps=>ps.map (·.2.2)
  | .load _ _ p=> [p]
  | .store _ p x=> [p,x]
  | .bin _ x y=> [x,y]
  | .eqB _ x y=> [x,y]
  | .eqA _ _ x y=> [x,y]
  | .un _ x=> [x]
  | .conv _ x=> [x]
  | .mkfn _ fs cs=>fs++cs
  | .slice _ x lo hi mx=>x::(lo.toList++hi.toList++mx.toList)
  | .fieldA _ x=> [x]
  | .field _ _ _ x=> [x]
  | .idxS _ x i=> [x,i]
  | .idxP _ _ x i=> [x,i]
  | .idxA _ _ _ x i=> [x,i]
  | .ext x _=> [x]
  | .nilck x=> [x]
  | .len x=> [x]
  | .mm _ x r=>x::r
  | .append _ _ _ x y=> [x,y]
  | .call f args=>f::args
  | .icall f args=>f::args
  | .ocall _ f args=>f::args
  | .dslice _ _ _ _ ps=>ps.map (·.2.2)
  | .isnil _ x=> [x]
  | .mkmap=> []
  | .mins m x=> [m,x]
  | .mlook m x=> [m,x]
  | .str _ xs=>xs
  | .oslice _ x lo hi mx=>x::(lo.toList++hi.toList++mx.toList)
  | .dbytes x=> [x]
  | .bmark x=> [x]
def XO:Opd→Option Nat
  | .t n=>some n
  | .c _=>none
def JT (o:AOp):List Nat:=(P2 o.k).filterMap XO++ (match o.g with|some (g,_)=> [g]|none=> [])
def Ea:AV→List D6
  | .ptr k _=> [k]
  | .sl k=> [k]
  | .aptr k _ _ _=> [k]
  |_=> []
/-- The keys at which an operation looks. -/
def W2 (t:Nat→AV)(h:D2):AK→List D6
  | .load _ _ p=>Ea (ev t p)
  | .len x=>Ea (ev t x)
  | .idxS _ x _=>Ea (ev t x)
  | .store _ p _=>Ea (ev t p)
  | .mins m _=>Ea (ev t m)
  | .mlook m _=>Ea (ev t m)
  | .append _ _ _ x y=>Ea (ev t x)++Ea (ev t y)
  | .oslice _ x _ _ _=>Ea (ev t x)
  | .bmark x=>Ea (ev t x)
  | .call f args=>match Q5 t f args with
    |some (_,avs)=>avs.flatMap (O6 h 6)
    |none=> []
  | .ocall _ f args=>match Q5 t f args with
    |some (_,avs)=>avs.flatMap (O6 h 6)
    |none=> []
  |_=> []
theorem QY {t t':Nat→AV}{x:Opd}(h: ∀i,XO x=some i→t' i=t i):ev t' x=ev t x:=by
  cases x with
  |t n=>exact h n rfl
  |c d=>rfl
theorem Oe {t t':Nat→AV}: ∀(ps:List (Nat×Nat×Opd)) (cs:List AV),(∀x∈ps.map (·.2.2),ev t' x=ev t x)→Ma t' cs ps=Ma t cs ps
  | [],_,_=>rfl
  |(off,n,x)::ps,cs,h=>by
   have h1:ev t' x=ev t x:=h x (by simp)
   simp only [Ma,h1]
   split
   ·split
    ·exact Oe ps _ (fun y hy=>h y (by simp at hy ⊢;exact .inr hy))
    ·rfl
   ·rfl
theorem CZ {t t':Nat→AV}(b:Bool)(k:IntKind): ∀(r:List Opd) (n:Int),(∀x∈r,ev t' x=ev t x)→XM b k t' n r=XM b k t n r
  | [],_,_=>rfl
  |x::r,n,h=>by
   simp only [XM,h x (by simp)]
   split
   ·split
    ·exact CZ b k r _ (fun y hy=>h y (by simp [hy]))
    ·rfl
   ·rfl
theorem Of {t t':Nat→AV}(d:Nat)(x:Option Opd)(h: ∀y∈x.toList,ev t' y=ev t y):An t' d x=An t d x:=by
  cases x with
  |none=>rfl
  |some x=>simp only [An,h x (by simp)]
theorem BZ {h h':D2}{p:AV}(hk: ∀k∈Ea p,h' k=h k):R6 h' p=R6 h p:=by
  cases p with
  |d x=>cases x<;>rfl
  |ptr k o=>simp only [R6,hk k (by simp [Ea])]
  |aptr k s i o=>simp only [R6,hk k (by simp [Ea])]
  |_=>rfl
theorem CA {h h':D2}{x:AV}{sz:Nat}(hk: ∀k∈Ea x,h' k=h k):W4 h' sz x=W4 h sz x:=by
  cases x with
  |sl k=>simp only [W4];rw [hk _ (by simp [Ea])]
  |d y=>cases y<;>first|rfl|(rename_i x;cases x<;>first|rfl|(rename_i a n c;cases n<;>rfl))
  |_=>rfl
theorem JU {t t':Nat→AV}{h h':D2}{k:AK}(ht: ∀x∈P2 k,ev t' x=ev t x)(hh: ∀q∈W2 t h k,h' q=h q):G7 t' h' k=G7 t h k:=by
  cases k with
  |mv x=>simp only [G7,ht x (by simp [P2])]
  |pick c a b=>simp only [G7,ht c (by simp [P2]),ht a (by simp [P2]),ht b (by simp [P2])]
  |build z ps=>simp only [G7,Oe ps _ (by simpa [P2] using ht)]
  |isnil n x=>simp only [G7,ht x (by simp [P2])]
  |dbytes x=>simp only [G7,ht x (by simp [P2])]
  |bmark x=>
   have h1:=ht x (by simp [P2])
   simp only [W2]at hh
   simp only [G7,h1]
   generalize ev t x=X at hh
   cases X with
   |sl k=>simp only [hh k (by simp [Ea])]
   |_=>rfl
  |dslice e sz n z ps=>simp only [G7,Oe ps _ (by simpa [P2] using ht)]
  |load n ag p=>simp only [G7,ht p (by simp [P2]),BZ (h':=h') (h:=h) (p:=ev t p) hh]
  |bin op x y=>simp only [G7,ht x (by simp [P2]),ht y (by simp [P2])]
  |eqB n x y=>simp only [G7,ht x (by simp [P2]),ht y (by simp [P2])]
  |eqA n ks x y=>simp only [G7,ht x (by simp [P2]),ht y (by simp [P2])]
  |un op x=>simp only [G7,ht x (by simp [P2])]
  |conv k x=>simp only [G7,ht x (by simp [P2])]
  |mkfn f fs cs=>
   have h1:fs.map (ev t')=fs.map (ev t):=List.map_congr_left fun x hx=>ht x (by simp [P2,hx])
   have h2:cs.map (ev t')=cs.map (ev t):=List.map_congr_left fun x hx=>ht x (by simp [P2,hx])
   simp only [G7,h1,h2]
  |slice sz x lo hi mx=>
   have h1:=ht x (by simp [P2])
   have h2: ∀d,An t' d lo=An t d lo:=fun d=>Of d lo fun y hy=>ht y (by simp only [P2,lS,lR];exact .inr (.inl (.inl hy)))
   have h3: ∀d,An t' d hi=An t d hi:=fun d=>Of d hi fun y hy=>ht y (by simp only [P2,lS,lR];exact .inr (.inl (.inr hy)))
   have h4: ∀d,An t' d mx=An t d mx:=fun d=>Of d mx fun y hy=>ht y (by simp only [P2,lS,lR];exact .inr (.inr hy))
   cases hi<;>cases mx<;>simp only [G7,h1,h2,h3,h4]
  |str op xs=>simp only [G7];rw [List.map_congr_left fun x hx=>ht x (by simpa [P2] using hx)]
  |fieldA off x=>simp only [G7,ht x (by simp [P2])]
  |field off n ag x=>simp only [G7,ht x (by simp [P2])]
  |idxS sz x i=>
   have h1:=ht x (by simp [P2])
   have h2:=ht i (by simp [P2])
   simp only [G7,h1,h2]
   simp only [W2]at hh
   generalize ev t x=X at hh
   generalize ev t i=Y
   cases X with
   |sl k=>
    simp only [Ea,l5,forall_eq]at hh
    cases Y with
    |d z=>cases z<;>first|rfl|(rename_i v;cases v<;>first|rfl|simp only [hh])
    |_=>rfl
   |d y=>
    cases Y with
    |d z=>cases y<;>cases z<;>first|rfl|(rename_i v;cases v<;>rfl)
    |_=>cases y<;>rfl
   |_=>
    cases Y with
    |d z=>cases z<;>first|rfl|(rename_i v;cases v<;>rfl)
    |_=>rfl
  |idxP l sz x i=>simp only [G7,ht x (by simp [P2]),ht i (by simp [P2])]
  |idxA l sz ag x i=>simp only [G7,ht x (by simp [P2]),ht i (by simp [P2])]
  |ext x i=>simp only [G7,ht x (by simp [P2])]
  |nilck x=>simp only [G7,ht x (by simp [P2])]
  |len x=>
   have h1:=ht x (by simp [P2])
   simp only [G7,h1]
   simp only [W2]at hh
   generalize ev t x=X at hh
   cases X with
   |sl k=>simp only [Ea,l5,forall_eq]at hh;simp only [hh]
   |d y=>cases y<;>rfl
   |_=>rfl
  |mlook m x=>
   have h1:=ht m (by simp [P2])
   have h2:=ht x (by simp [P2])
   simp only [G7,h1,h2]
   simp only [W2]at hh
   generalize ev t m=X at hh
   generalize ev t x=Y
   cases X with
   |sl k=>
    simp only [Ea,l5,forall_eq]at hh
    cases Y with
    |d z=>cases z<;>first|rfl|(rename_i v;cases v<;>first|rfl|(rename_i kk n;cases kk<;>first|rfl|simp only [hh]))
    |_=>rfl
   |_=>rfl
  |mm b x r=>simp only [G7,ht x (by simp [P2]),CZ b _ r _ (fun y hy=>ht y (by simp [P2,hy]))]
  |_=>rfl
theorem JV {u d:Nat}{t t':Nat→AV}{k:AK}(ht: ∀x∈P2 k,ev t' x=ev t x):Kj u d t' k=Kj u d t k:=by
  cases k with
  |box ty ag x=>simp only [Kj,ht x (by simp [P2])]
  |bslice e sz n z ps=>simp only [Kj,Oe ps _ (by simpa [P2] using ht)]
  |_=>rfl
theorem Zu {u d:Nat}{t t':Nat→AV}{h h':D2}{k:AK}(ht: ∀x∈P2 k,ev t' x=ev t x)(hh: ∀q∈W2 t h k,h' q=h q):Dz u d t' h' k=Dz u d t h k:=by
  cases k with
  |store n p x=>
   have h1:=ht p (by simp [P2])
   have h2:=ht x (by simp [P2])
   simp only [Dz,h1,h2]
   simp only [W2]at hh
   generalize ev t p=X at hh
   cases X with
   |ptr k o=>simp only [Ea,l5,forall_eq]at hh;simp only [hh]
   |aptr k s i o=>simp only [Ea,l5,forall_eq]at hh;simp only [hh]
   |_=>rfl
  |mins m x=>
   have h1:=ht m (by simp [P2])
   have h2:=ht x (by simp [P2])
   simp only [Dz,h1,h2]
   simp only [W2]at hh
   generalize ev t m=X at hh
   generalize ev t x=Y
   cases X with
   |sl k=>
    simp only [Ea,l5,forall_eq]at hh
    cases Y with
    |d z=>cases z<;>first|rfl|(rename_i v;cases v<;>first|rfl|(rename_i kk n;cases kk<;>first|rfl|simp only [hh]))
    |_=>rfl
   |_=>rfl
  |append ty e sz x y=>
   have h1:=ht x (by simp [P2])
   have h2:=ht y (by simp [P2])
   simp only [W2]at hh
   simp only [Dz,h1,h2,CA (h:=h) (h':=h') (x:=ev t y) (sz:=sz) (fun k hk=>hh k (by simp [hk]))]
   generalize ev t x=X at hh
   generalize W4 h sz (ev t y)=E
   cases E with
   |none=>rfl
   |some ys=>
    cases X with
    |sl k=>have:=hh k (by simp [Ea]);simp only [this]
    |d y=>cases y<;>rfl
    |_=>rfl
  |oslice sz x lo hi mx=>
   cases lo with
   |some _=>rfl
   |none=>
    cases mx with
    |some _=>rfl
    |none=>
     have h1:=ht x (by simp [P2])
     have h3: ∀d,An t' d hi=An t d hi:=fun d=>Of d hi fun y hy=>ht y (by simp only [P2,lS,lR];exact .inr (.inl (.inr hy)))
     simp only [W2]at hh
     simp only [Dz,h1,h3]
     generalize ev t x=X at hh
     cases X with
     |sl k=>have:=hh k (by simp [Ea]);simp only [this]
     |d y=>cases y<;>rfl
     |_=>rfl
  |_=>rfl
theorem Xr {h h':D2}: ∀(n:Nat) (x:AV),(∀q∈O6 h n x,h' q=h q)→L8 h' n x=L8 h n x∧O6 h' n x=O6 h n x:=by
  intro n
  induction n with
  |zero=>intro x _;cases x<;>exact ⟨rfl,rfl⟩
  |succ n ih=>
   have ihl: ∀xs:List AV,(∀q∈xs.flatMap (O6 h n),h' q=h q)→M7 (L8 h' n) xs=M7 (L8 h n) xs∧xs.flatMap (O6 h' n)=xs.flatMap (O6 h n):=by
     intro xs
     induction xs with
     |nil=>intro _;exact ⟨rfl,rfl⟩
     |cons x r ihr=>
      intro hq
      simp only [l4,lR]at hq
      obtain ⟨a1,a2⟩:=ih x (fun q h=>hq q (.inl h))
      obtain ⟨b1,b2⟩:=ihr (fun q h=>hq q (.inr h))
      exact ⟨by simp only [M7,a1,b1],by simp only [l4,a2,b2]⟩
   intro x hq
   cases x with
   |sl k=>
    have:=hq k (by simp [O6])
    exact ⟨by simp only [L8,this],rfl⟩
   |ptr k off=>
    have h1:=hq k (by simp [O6])
    simp only [L8,O6,h1]
    simp only [O6]at hq
    cases hb:h k with
    |none=>exact ⟨rfl,rfl⟩
    |some b=>
     cases b with
     |arr=>exact ⟨rfl,rfl⟩
     |obj=>exact ⟨rfl,rfl⟩
     |mp=>exact ⟨rfl,rfl⟩
     |box ty cs=>
      simp only [hb]at hq
      obtain ⟨a1,a2⟩:=ihl cs (fun q h=>hq q (by simp only [lS];exact .inr h))
      exact ⟨by simp only [a1],by simp only [a2]⟩
   |agg cs=>
    simp only [O6]at hq
    obtain ⟨a1,a2⟩:=ihl cs hq
    exact ⟨by simp only [L8,a1],by simp only [O6,a2]⟩
   |fn f fs cs=>
    simp only [O6,lR]at hq
    obtain ⟨a1,a2⟩:=ihl fs (fun q h=>hq q (.inl h))
    obtain ⟨b1,b2⟩:=ihl cs (fun q h=>hq q (.inr h))
    exact ⟨by simp only [L8,a1,b1],by simp only [O6,a2,b2]⟩
   |_=>exact ⟨rfl,rfl⟩
theorem Ir {h h':D2}{n:Nat}: ∀(xs:List AV),(∀q∈xs.flatMap (O6 h n),h' q=h q)→M7 (L8 h' n) xs=M7 (L8 h n) xs:=by
  intro xs
  induction xs with
  |nil=>intro _;rfl
  |cons x r ihr=>
   intro hq
   simp only [l4,lR]at hq
   obtain ⟨a1,_⟩:=Xr n x (fun q h=>hq q (.inl h))
   simp only [M7,a1,ihr (fun q h=>hq q (.inr h))]
theorem Rm {t t':Nat→AV}{f:Opd}{args:List Opd}(ht: ∀x∈f::args,ev t' x=ev t x):Q5 t' f args=Q5 t f args:=by
  have h1:=ht f (by simp)
  have h2:args.map (ev t')=args.map (ev t):=List.map_congr_left fun x hx=>ht x (by simp [hx])
  simp only [Q5,h1,h2]
theorem GR {P:Program}{t t':Nat→AV}{h h':D2}{k:AK}{v:AV}(ht: ∀x∈P2 k,ev t' x=ev t x)(hh: ∀q∈W2 t h k,h' q=h q)(hv:Xq P t h k v):Xq P t' h' k v:=by
  cases k with
  |call f args=>
   have h1:=Rm (t:=t) (t':=t') (f:=f) (args:=args) ht
   simp only [Xq,h1]at hv ⊢
   simp only [W2]at hh
   cases hc:Q5 t f args with
   |none=>simp [hc]at hv
   |some p=>
    obtain ⟨fid,avs⟩:=p
    simp only [hc]at hv hh ⊢
    obtain ⟨ds,r,q1,q2⟩:=hv
    exact ⟨ds,r,by rw [Ir avs hh];exact q1,q2⟩
  |_=>exact hv
theorem Rn {h h':D2}{n:Nat}: ∀(xs:List AV),(∀q∈xs.flatMap (O6 h n),h' q=h q)→xs.flatMap (O6 h' n)=xs.flatMap (O6 h n):=by
  intro xs
  induction xs with
  |nil=>intro _;rfl
  |cons x r ihr=>
   intro hq
   simp only [l4,lR]at hq
   obtain ⟨_,a2⟩:=Xr n x (fun q h=>hq q (.inl h))
   simp only [l4,a2,ihr (fun q h=>hq q (.inr h))]
theorem EG {P:Program}{u:Nat}{t t':Nat→AV}{h h':D2}{k:AK}{v:AV}{ups:List (D6×Option Blk)}(ht: ∀x∈P2 k,ev t' x=ev t x)(hh: ∀q∈W2 t h k,h' q=h q)(hv:Uq P u t h k v ups):Uq P u t' h' k v ups:=by
  cases k with
  |ocall S f args=>
   have h1:=Rm (t:=t) (t':=t') (f:=f) (args:=args) ht
   simp only [Uq,h1]at hv ⊢
   simp only [W2]at hh
   cases hc:Q5 t f args with
   |none=>simp [hc]at hv
   |some p=>
    obtain ⟨fid,avs⟩:=p
    simp only [hc]at hv hh ⊢
    have e:=Rn avs hh
    have e2:O7 h' (avs.flatMap (O6 h 6))=O7 h (avs.flatMap (O6 h 6)):=by
      funext q
      unfold O7
      split
      ·exact hh q ‹_›
      ·rfl
    rw [e,e2]
    exact ⟨hv.1,fun q hq=>by rw [hh q hq];exact hv.2.1 q hq,hv.2.2⟩
  |_=>exact hv
theorem JW {P:Program}{u:Nat}{o:AOp}{t t':Nat→AV}{h h':D2}{v:AV}{ups:List (D6×Option Blk)}(ht: ∀i∈JT o,t' i=t i)(hh: ∀q∈W2 t h o.k,h' q=h q)
    (he:Ob P u o t h v ups):Ob P u o t' h' v ups:=by
  have hx: ∀x∈P2 o.k,ev t' x=ev t x:=fun x hx=>QY fun i hi=>ht i (by unfold JT;exact List.mem_append_left _ (List.mem_filterMap.2 ⟨x,hx,hi⟩))
  have main:Yh P u o t h v ups→Yh P u o t' h' v ups:=by
    intro he
    unfold Yh at he ⊢
    split at he<;>first
      |exact ⟨by rw [JU hx hh];exact he.1,he.2⟩
      |(obtain ⟨d,b,h1,h2,h3⟩:=he;exact ⟨d,b,h1,by rw [JV hx];exact h2,h3⟩)
      |exact ⟨GR hx hh he.1,he.2⟩
      |exact EG hx hh he
      |(rw [Zu hx hh];exact he)
      |(obtain ⟨d,h1,h2⟩:=he;exact ⟨d,h1,by rw [Zu hx hh];exact h2⟩)
      |exact he.elim
  unfold Ob at he ⊢
  cases hg:o.g with
  |none=>rw [hg]at he;exact main he
  |some gb=>
   obtain ⟨g,b⟩:=gb
   rw [hg]at he
   have hgt:t' g=t g:=ht g (by unfold JT;rw [hg];simp)
   simp only [hgt]at he ⊢
   split at he
   ·rename_i c hc
    split at he
    ·rename_i hcb;simp only [hcb,if_true];exact main he
    ·rename_i hcb;simp only [hcb,if_false];exact he
   ·exact he
   ·exact he.elim
end Go.Abs
namespace Go.Abs
open Go
/-! ### A slice expression on an own slice -/
def VF:AK→Bool
  | .slice .. =>true
  |_=>false
def LU (x:Option AK):Prop:= ∀k,x=some k→VF k=false
theorem Gw {α:Type}{x:Option α}{f:α→Option AK}(h: ∀a,LU (f a)):LU (x.bind f):=by
  intro k hk
  obtain ⟨a,_,h2⟩:=bind_some hk
  exact h a k h2
theorem Pm:LU none:=fun _ h=>by cases h
theorem Kk {k:AK}(h:VF k=false):LU (some k):=fun _ e=>by cases e;exact h
theorem YR (op:BinOp)(x y:Operand):LU (Zf op x y):=by
  cases op<;>simp only [Zf,lB]<;>first|exact Pm|(refine Gw fun _=>Gw fun _=>Kk rfl)
theorem YS (x i:Operand):LU (Zh x i):=by
  simp only [Zh,lB]
  exact Gw fun _=>Gw fun _=>Kk rfl
theorem YT (x:Operand):LU (EB x):=by
  simp only [EB,lB]
  exact Gw fun _=>Kk rfl
theorem YU (x:Operand):LU (FZ x):=by
  simp only [FZ,lB]
  exact Gw fun _=>Kk rfl
theorem YV (P:Program)(s d e:TypeId)(x:Operand):LU (GA P s d e x):=by
  unfold GA
  split
  ·split
   ·exact Gw fun _=>Kk rfl
   ·exact Pm
  ·exact Pm
theorem YW (x:Operand):LU (Zi x):=by
  simp only [Zi,lB]
  exact Gw fun _=>Kk rfl
theorem YX (x:Operand)(lo hi mx:Option Operand):LU (Zg x lo hi mx):=by
  unfold Zg
  cases mx<;>cases lo<;>cases hi<;>simp only [lB]<;>first|exact Pm|(repeat' first|exact Kk rfl|refine Gw fun _=> ?_)
theorem VG (P:Program)(o:Op)(ho: ∀t x lo hi mx,o≠ .slice t x lo hi mx):LU (M3 P o):=by
  cases o<;>first|exact (ho _ _ _ _ _ rfl).elim|skip
  all_goals simp only [M3,XJ,lB]
  all_goals first
    |exact Pm
    |(repeat' (first|exact Pm|exact Kk rfl|exact YR _ _ _|exact YS _ _|exact YW _|exact YT _|exact YU _|exact YV _ _ _ _ _|refine Gw fun _=> ?_|split))
  all_goals (exfalso;simp_all)
theorem GS {P:Program}{o:Op}{sz:Nat}{x:Opd}{lo hi mx:Option Opd}(h:M3 P o=some (.slice sz x lo hi mx)): ∃t y l' h' m',o= .slice t y l' h' m':=by
  by_cases q: ∃t y l' h' m',o= .slice t y l' h' m'
  ·exact q
  ·have:=VG P o (fun t x lo hi mx e=>q ⟨t,x,lo,hi,mx,e⟩) _ h
   simp [VF]at this
section
variable {P:Program}{w:World}{I:Nat→Prop}{ρ:Rho}{N:Nat}{s:St}{a:Act}{h:D2}
/-- A key that takes the place of another one. -/
theorem NX (H:HeapOK w I ρ h){k q:D6}{b b':Blk}{x:Value}(hk:h k=some b)(hq:ρ q=none)(hx:x.oneCell'=true)(hl: ∀ρ':Rho,ρ' q=some x→L9 ρ' q b'=L9 ρ k b)
    (hb: ∀ρ':Rho,ρ.le ρ'→ρ' q=some x→BlkOK w I ρ' q b'):
    HeapOK w I (V1 ρ q (some x)) (V1 (V1 h k none) q (some b'))∧Tr w I ρ h w I (V1 ρ q (some x)) (V1 (V1 h k none) q (some b')):=by
  have hle:ρ.le (V1 ρ q (some x)):=by
    intro k' v hv
    have:k'≠q:=by rintro rfl;rw [hq]at hv;cases hv
    rw [J3 _ _ _ _ this];exact hv
  have hqs:V1 ρ q (some x) q=some x:=D9 _ _ _
  have hget: ∀k' c,V1 (V1 h k none) q (some b') k'=some c→(k'=q∧c=b')∨(k'≠q∧k'≠k∧h k'=some c):=by
    intro k' c hc
    by_cases e:k'=q
    ·subst e;rw [D9]at hc;cases hc;exact .inl ⟨rfl,rfl⟩
    ·rw [J3 _ _ _ _ e]at hc
     by_cases e2:k'=k
     ·subst e2;rw [D9]at hc;cases hc
     ·rw [J3 _ _ _ _ e2]at hc;exact .inr ⟨e,e2,hc⟩
  have hloc: ∀k' c,h k'=some c→L9 (V1 ρ q (some x)) k' c=L9 ρ k' c:=by
    intro k' c hc
    obtain ⟨y,hy⟩:=(H.blk k' c hc).rho
    exact Mv c ((hle _ _ hy).trans hy.symm)
  have hlq:L9 (V1 ρ q (some x)) q b'=L9 ρ k b:=hl _ hqs
  refine ⟨⟨fun k' c hc=> ?_,fun k1 k2 c1 c2 g h1 h2 l1 l2=> ?_,fun k' c g hc hg=> ?_,fun k' c g hc hg=> ?_,H.ilt,?_,fun k' y hy=> ?_⟩,⟨rfl,rfl,rfl,bK _,fun _ _ _=>rfl,fun _ hb=>hb,fun _ hb _=> .inl hb,fun g hg _=> ?_,hle⟩⟩
  ·rcases hget k' c hc with ⟨rfl,rfl⟩|⟨_,_,h3⟩
   ·exact hb _ hle hqs
   ·exact (H.blk k' c h3).keep (fun _ _=>rfl) (fun _ _=>rfl) (fun _ hb=>hb) hle
  ·rcases hget k1 c1 h1 with ⟨rfl,rfl⟩|⟨e1,e2,h3⟩
   ·rcases hget k2 c2 h2 with ⟨rfl,rfl⟩|⟨e3,e4,h4⟩
    ·rfl
    ·rw [hlq]at l1;rw [hloc _ _ h4]at l2
     exact absurd (H.sep k k2 b c2 g hk h4 l1 l2).symm e4
   ·rcases hget k2 c2 h2 with ⟨rfl,rfl⟩|⟨e3,e4,h4⟩
    ·rw [hlq]at l2;rw [hloc _ _ h3]at l1
     exact absurd (H.sep k1 k c1 b g h3 hk l1 l2) e2
    ·rw [hloc _ _ h3]at l1;rw [hloc _ _ h4]at l2
     exact H.sep k1 k2 c1 c2 g h3 h4 l1 l2
  ·rcases hget k' c hc with ⟨rfl,rfl⟩|⟨_,_,h3⟩
   ·rw [hlq]at hg;exact H.notI k b g hk hg
   ·rw [hloc _ _ h3]at hg;exact H.notI k' c g h3 hg
  ·rcases hget k' c hc with ⟨rfl,rfl⟩|⟨_,_,h3⟩
   ·rw [hlq]at hg;exact H.lt k b g hk hg
   ·rw [hloc _ _ h3]at hg;exact H.lt k' c g h3 hg
  ·obtain ⟨u0,hu⟩:=H.fresh
   refine ⟨max u0 (q.2+1),fun d u hd=> ?_⟩
   rw [J3 _ _ _ _ (by intro e;have:=congrArg Prod.snd e;dsimp only at this;omega)]
   exact hu d u (by omega)
  ·by_cases e:k'=q
   ·subst e;rw [D9]at hy;cases hy;exact hx
   ·rw [J3 _ _ _ _ e]at hy;exact H.rone k' y hy
  ·obtain ⟨k',c,hc,hg⟩:=hg
   rcases hget k' c hc with ⟨rfl,rfl⟩|⟨_,_,h3⟩
   ·rw [hlq]at hg;exact ⟨k,b,hk,hg⟩
   ·rw [hloc _ _ h3]at hg;exact ⟨k',c,h3,hg⟩
theorem EH {o:Oper}{sz:Nat}{x:Opd}{lo hi mx:Option Opd}{v:AV}{ups:List (D6×Option Blk)}{u d:Nat}(hk:M3 P o.op=some (.slice sz x lo hi mx))(hs:Sim w I ρ N s a)(H:HeapOK w I ρ h)(hρ:ρ (d,u)=none)
    (hv:Dz u d s.t h (.oslice sz x lo hi mx)=some (v,ups)):Mf o.op=false∧Up P w I ρ h a o (fun k'=>k'≠(d,u)) v (N3 h ups):=by
  obtain ⟨t,xo,lo',hi',mx',hop⟩:=GS hk
  refine ⟨by rw [hop];rfl,?_⟩
  rw [hop]at hk
  simp only [M3]at hk
  split at hk
  ·rename_i e hu
   simp only [lB]at hk
   obtain ⟨sz',hsz,hk⟩:=bind_some hk
   obtain ⟨ox,hox,hk⟩:=bind_some hk
   obtain ⟨olo,holo,hk⟩:=bind_some hk
   obtain ⟨ohi,hohi,hk⟩:=bind_some hk
   obtain ⟨omx,homx,hk⟩:=bind_some hk
   cases hk
   have fin: ∀y,(Instr.sliceAt t (a.eval xo) (lo'.map a.eval) (hi'.map a.eval) (mx'.map a.eval)).run P w= .ok y w→(execOp a.eval o).run P w= .ok (.value y) w:=by
     intro y hy
     unfold execOp
     rw [hop]
     simp [hy]
   have h1:=M6 hs hox
   cases lo with
   |some _=>simp [Dz]at hv
   |none=>
    cases mx with
    |some _=>simp [Dz]at hv
    |none=>
     have r1:=Tc holo
     have r3:=Tc homx
     subst r1 r3
     simp only [Dz]at hv
     split at hv
     ·rename_i k hx
      split at hv
      ·rename_i e' sz2 es hb
       split at hv
       ·rename_i j hj
        split at hv
        ·rename_i hc
         obtain ⟨rfl,hjl⟩:=hc
         cases hv
         rw [hx]at h1
         obtain ⟨y,xs,hy,hown,hes,hat⟩:=H.blk k _ hb
         have hyx:a.eval xo=y:=by
           generalize a.eval xo=q at h1
           cases h1 with|sl _ _ hq=>rw [hy]at hq;cases hq;rfl
         obtain ⟨hlen,hcase⟩:=hown
         have hrow: ∀y':Value,rowM w e' sz2 y' j (xs.take (j*sz2))→∀ρ':Rho,ρ.le ρ'→ρ' (d,u)=some y'→BlkOK w I ρ' (d,u) (.arr e' sz2 (es.take j)):=by
           intro y' ho ρ' _ hy'
           have hlj:(es.take j).length=j:=by rw [lT];omega
           refine ⟨y',xs.take (j*sz2),hy',by rw [hlj];exact ho,fun e he=>hes e (List.mem_of_mem_take he),fun i l dd hd=> ?_⟩
           unfold Kw at hd
           rw [l3]at hd
           split at hd
           ·rename_i hij
            obtain ⟨o1,o2⟩:=hat i l dd hd
            refine ⟨o1,?_⟩
            obtain ⟨ei,he1,he2⟩:=bind_some hd
            have hl1:l<sz2:=by
              have:=hes ei (lF he1)
              have:=(lH.1 he2).1
              omega
            have hlt:i*sz2+l<j*sz2:=by
              have:(i+1)*sz2≤j*sz2:=Nat.mul_le_mul_right _ hij
              rw [bM]at this;omega
            have e:(xs.take (j*sz2)).getD (i*sz2+l) undef=xs.getD (i*sz2+l) undef:=by
              simp only [List.getD,l3,bB hlt]
            rw [e];exact o2
           ·cases hd
         have hfin: ∀y':Value,y'.oneCell'=true→y'.ownBlock=y.ownBlock→rowM w e' sz2 y' j (xs.take (j*sz2))→(Instr.sliceAt t (a.eval xo) none (hi'.map a.eval) none).run P w= .ok y' w→
          Up P w I ρ h a o (fun k'=>k'≠(d,u)) (.sl (d,u)) (N3 h [(k,none),((d,u),some (.arr e' sz2 (es.take j)))]):=by
           intro y' hone hblk ho hrun
           obtain ⟨H',T'⟩:=NX H (b':= .arr e' sz2 (es.take j)) hb hρ hone (fun ρ' hρ'=>by simp only [L9,hρ',hy,lA,hblk]) (hrow y' ho)
           exact ⟨_,w,V1 ρ (d,u) (some y'),fin y' hrun,⟨y', .inl rfl, .sl _ _ (D9 _ _ _)⟩,H',T',fun k' hk'=>J3 _ _ _ _ hk'⟩
         rcases hcase with ⟨rfl,h0⟩|⟨g,cap,cur,fz,rfl,hcell,hfz,hcap,hmax,hcur,htake⟩
         ·have hj0:j=0:=by omega
          subst hj0
          have hb2:=Ki (P:=P) (w:=w) (len:=0) (cap:=0) (lo:=none) (i:=0) rfl (by rw [h0]at hj;exact Ct hs hohi hj) (bK _) (bK _)
          refine hfin (.slice none 0 0) rfl rfl ⟨by simp, .inl ⟨rfl,rfl⟩⟩ ?_
          rw [hyx,Ji hu hsz hb2];rfl
         ·have hb2:=Ki (P:=P) (w:=w) (len:=es.length) (cap:=cap) (lo:=none) (i:=0) rfl (Ct hs hohi hj) (bL _) (by omega)
          refine hfin (.slice (some ⟨g,0,none⟩) j cap) rfl rfl ⟨by rw [lT,hlen];have:=Nat.mul_le_mul_right sz2 hjl;omega, .inr ⟨g,cap,cur,fz,rfl,hcell,hfz,by omega,hmax,hcur,?_⟩⟩ ?_
          ·rw [← htake,List.take_take,Nat.min_eq_left (Nat.mul_le_mul_right _ hjl)]
          ·rw [hyx,Ji hu hsz hb2]
           congr 2
           split
           ·rfl
           ·simp [Addr.add]
        ·cases hv
       ·cases hv
      ·cases hv
     ·rename_i hx
      split at hv
      ·rename_i hj
       cases hv
       rw [hx]at h1
       have hyx: ∃A,a.eval xo= .slice A 0 0:=by
         generalize a.eval xo=q at h1
         cases h1 with|d _ _ hd=>cases hd with|nilS A=>exact ⟨A,rfl⟩
       obtain ⟨A,hyx⟩:=hyx
       have hb2:=Ki (P:=P) (w:=w) (len:=0) (cap:=0) (lo:=none) (i:=0) rfl (Ct hs hohi hj) (bK _) (bK _)
       refine ⟨_,w,ρ,fin (.slice A 0 0) ?_,⟨_, .inl rfl, .d _ _ (.nilS _)⟩,H,Tr.refl _ _ _ _,fun _ _=>rfl⟩
       simp only [Option.map_none]
       rw [hyx,Ji hu hsz hb2];rfl
      ·cases hv
     ·cases hv
  ·have:=YX _ _ _ _ _ hk
   simp [VF]at this
  ·cases hk
end
end Go.Abs
namespace Go.Abs
open Go
/-! ### The bytes of a string, as a slice that no one writes -/
def YY:AK→Bool
  | .str .tob _=>true
  |_=>false
def EI (x:Option AK):Prop:= ∀k,x=some k→YY k=false
theorem Jj {α:Type}{x:Option α}{f:α→Option AK}(h: ∀a,EI (f a)):EI (x.bind f):=by
  intro k hk
  obtain ⟨a,_,h2⟩:=bind_some hk
  exact h a k h2
theorem Te:EI none:=fun _ h=>by cases h
theorem Pn {k:AK}(h:YY k=false):EI (some k):=fun _ e=>by cases e;exact h
theorem YZ (op:BinOp)(x y:Operand):EI (Zf op x y):=by
  cases op<;>simp only [Zf,lB]<;>first|exact Te|(refine Jj fun _=>Jj fun _=>Pn rfl)
theorem ZA (x i:Operand):EI (Zh x i):=by
  simp only [Zh,lB]
  exact Jj fun _=>Jj fun _=>Pn rfl
theorem ZB (x:Operand):EI (Zi x):=by
  simp only [Zi,lB]
  exact Jj fun _=>Pn rfl
theorem ZC (x:Operand)(lo hi mx:Option Operand):EI (Zg x lo hi mx):=by
  unfold Zg
  cases mx<;>cases lo<;>cases hi<;>simp only [lB]<;>first|exact Te|(repeat' first|exact Pn rfl|refine Jj fun _=> ?_)
theorem VH (P:Program)(o:Op)(ho: ∀s d x,o≠ .convert s d x):EI (M3 P o):=by
  cases o<;>first|exact (ho _ _ _ rfl).elim|skip
  all_goals simp only [M3,XJ,lB]
  all_goals first
    |exact Te
    |(repeat' (first|exact Te|exact Pn rfl|exact YZ _ _ _|exact ZA _ _|exact ZB _|exact ZC _ _ _ _|refine Jj fun _=> ?_|split))
  all_goals (exfalso;simp_all)
theorem NY {P:Program}{o:Op}{x:Opd}(h:M3 P o=some (.str .tob [x])): ∃s d y e,o= .convert s d y∧K8 y=some x∧P.underlying s=some .string∧P.underlying d=some (.slice e)∧P.underlying e=some (.int .u8):=by
  by_cases q: ∃s d y,o= .convert s d y
  ·obtain ⟨s,d,y,rfl⟩:=q
   simp only [M3]at h
   split at h
   ·simp only [lB]at h
    obtain ⟨_,_,h⟩:=bind_some h
    cases h
   ·split at h
    ·simp only [EB,lB]at h
     obtain ⟨_,_,h⟩:=bind_some h
     cases h
    ·cases h
   ·rename_i e h1 h2
    split at h
    ·rename_i h3
     simp only [FZ,lB]at h
     obtain ⟨ox,hox,h⟩:=bind_some h
     cases h
     exact ⟨s,d,y,e,rfl,hox,h1,h2,h3⟩
    ·cases h
   ·unfold GA at h
    split at h
    ·split at h
     ·obtain ⟨_,_,h⟩:=bind_some h
      cases h
     ·cases h
    ·cases h
   ·cases h
  ·have:=VH P o (fun s d y e=>q ⟨s,d,y,e⟩) _ h
   simp [YY]at this
section
variable {P:Program}{w:World}{I:Nat→Prop}{ρ:Rho}{N:Nat}{s:St}{a:Act}{h:D2}
theorem JX {s:ByteArray}{j:Nat}{n:Int}(h:(Bc s)[j]? =some n):j<s.size∧n=((s.data.toList.getD j 0).toNat:Int):=by
  unfold Bc at h
  rw [lI,lD]at h
  obtain ⟨b,hb,rfl⟩:=h
  refine ⟨?_,by rw [List.getD,hb];rfl⟩
  have:=(lH.1 hb).1
  rw [Array.length_toList]at this
  exact this
theorem Ur (s:ByteArray):(Bc s).length=s.size:=by unfold Bc;rw [lQ,Array.length_toList];rfl
theorem EJ {o:Oper}{x:Opd}{v:AV}(hk:M3 P o.op=some (.str .tob [x]))(hs:Sim w I ρ N s a)(hv:G7 s.t s.h (.dbytes x)=some v):
    Mf o.op=false∧∃y w' I',(execOp a.eval o).run P w= .ok (.value y) w'∧RepV w' I' ρ v y∧HeapOK w' I' ρ s.h∧Tr w I ρ s.h w' I' ρ s.h:=by
  obtain ⟨sT,dT,xo,e,hop,hox,hu1,hu2,hu3⟩:=NY hk
  refine ⟨by rw [hop];rfl,?_⟩
  have h1:=M6 hs hox
  simp only [G7]at hv
  split at hv
  ·rename_i b hx
   cases hv
   rw [hx]at h1
   have hxe:=Wq h1
   have H:=hs.heap
   have hnew: ∀g,own ρ s.h g→g≠w.heap.size:=fun g hg=>Nat.ne_of_lt (H.own_lt hg)
   have hold: ∀j,j<w.heap.size→(Lib.bytesWorld w e b).heap[j]? =w.heap[j]?:=fun j hj=>Lib.bytesWorld_at_old w e b j hj
   have hsz:=Lib.bytesWorld_size w e b
   refine ⟨.slice (some ⟨w.heap.size,0,none⟩) b.size (grownCap w b.size 0 e),Lib.bytesWorld w e b,fun g=>I g∨g=w.heap.size,?_,?_,?_,?_⟩
   ·unfold execOp
    rw [hop]
    simp only [hxe]
    have:=Lib.run_convert_string_bytes (P:=P) w sT dT e b hu1 hu2 hu3
    simp [this]
   ·by_cases hne:Bc b= []
    ·rw [hne]
     have hz:b.size=0:=by rw [← Ur,hne];rfl
     rw [hz]
     exact .d _ _ (.lnil _ _)
    ·have hcap:b.size≤grownCap w b.size 0 e:=grownCap_ge w _ _ _
     have hl:((Bc b).map fun n=> [D.v (.int .u8 n)]).length=b.size:=by rw [lQ,Ur]
     have hget: ∀i j d,Kw ((Bc b).map fun n=> [D.v (.int .u8 n)]) i j=some d→j=0∧∃n,(Bc b)[i]? =some n∧d= .v (.int .u8 n):=by
       intro i j d hd
       unfold Kw at hd
       rw [lI]at hd
       cases q:(Bc b)[i]? with
       |none=>rw [q]at hd;cases hd
       |some n=>
        rw [q]at hd
        cases j with
        |zero=>cases hd;exact ⟨rfl,n,rfl,rfl⟩
        |succ j=>simp at hd
     have:=RepD.list (w:=Lib.bytesWorld w e b) (I:=fun g=>I g∨g=w.heap.size) ((Bc b).map fun n=> [D.v (.int .u8 n)]) ⟨w.heap.size,0,none⟩ (grownCap w b.size 0 e) 1 (fun i _=> .int .u8 ((Bc b).getD i 0)) (by simpa using hne) (by rw [hl];exact hcap)
       (fun q hq=>by obtain ⟨n,_,rfl⟩:=List.mem_map.1 hq;rfl) (.inr rfl) (fun i j d hd=>by obtain ⟨_,n,_,rfl⟩:=hget i j d hd;rfl)
       (fun i j d hd=>by
         obtain ⟨rfl,n,hn,rfl⟩:=hget i j d hd
         obtain ⟨hlt,hn2⟩:=JX hn
         have hadd:(⟨w.heap.size,0,none⟩:Addr).add (i*1+0)=⟨w.heap.size,i,none⟩:=by unfold Addr.add;split<;>simp_all
         rw [hadd,Lib.bytesWorld_cell w e b i hlt]
         simp [List.getD,hn,hn2])
       (fun i j d hd=>by
         obtain ⟨rfl,n,hn,rfl⟩:=hget i j d hd
         have:(Bc b).getD i 0=n:=by simp [List.getD,hn]
         rw [this];exact .v _)
     rw [hl]at this
     exact .d _ _ this
   ·exact H.keep (fun g hg=>hold g (H.own_lt hg)) (fun g hg=>hold g (H.ilt g hg)) (fun _ hb=> .inl hb) (fun g hg hi=>hi.elim (H.own_notI hg) (hnew g hg)) (fun g hg=>by rw [hsz];rcases hg with hg|rfl;have:=H.ilt g hg;omega;omega) (fun _ _ h=>h) (by omega) H.fresh H.rone
   ·refine ⟨rfl,rfl,rfl,by omega,fun g hg _=>hold g hg,fun _ hb=> .inl hb,fun g hg hlt=> ?_,fun _ hg _=>hg,fun _ _ h=>h⟩
    rcases hg with hg|rfl
    ·exact .inl hg
    ·omega
  ·cases hv
end
def ZD:AK→Bool
  | .str .mrk _=>true
  |_=>false
def EK (x:Option AK):Prop:= ∀k,x=some k→ZD k=false
theorem Jk {α:Type}{x:Option α}{f:α→Option AK}(h: ∀a,EK (f a)):EK (x.bind f):=by
  intro k hk
  obtain ⟨a,_,h2⟩:=bind_some hk
  exact h a k h2
theorem Tf:EK none:=fun _ h=>by cases h
theorem Po {k:AK}(h:ZD k=false):EK (some k):=fun _ e=>by cases e;exact h
theorem ZE (op:BinOp)(x y:Operand):EK (Zf op x y):=by
  cases op<;>simp only [Zf,lB]<;>first|exact Tf|(refine Jk fun _=>Jk fun _=>Po rfl)
theorem ZF (x i:Operand):EK (Zh x i):=by
  simp only [Zh,lB]
  exact Jk fun _=>Jk fun _=>Po rfl
theorem ZG (x:Operand):EK (Zi x):=by
  simp only [Zi,lB]
  exact Jk fun _=>Po rfl
theorem ZH (x:Operand)(lo hi mx:Option Operand):EK (Zg x lo hi mx):=by
  unfold Zg
  cases mx<;>cases lo<;>cases hi<;>simp only [lB]<;>first|exact Tf|(repeat' first|exact Po rfl|refine Jk fun _=> ?_)
theorem VI (P:Program)(o:Op)(ho: ∀s d x,o≠ .convert s d x):EK (M3 P o):=by
  cases o<;>first|exact (ho _ _ _ rfl).elim|skip
  all_goals simp only [M3,XJ,lB]
  all_goals first
    |exact Tf
    |(repeat' (first|exact Tf|exact Po rfl|exact ZE _ _ _|exact ZF _ _|exact ZG _|exact ZH _ _ _ _|refine Jk fun _=> ?_|split))
  all_goals (exfalso;simp_all)
theorem NZ {P:Program}{o:Op}{x:Opd}(h:M3 P o=some (.str .mrk [x])): ∃s y e,o= .convert s s y∧K8 y=some x∧P.underlying s=some (.slice e)∧P.underlying e=some (.int .u8):=by
  by_cases q: ∃s d y,o= .convert s d y
  ·obtain ⟨s,d,y,rfl⟩:=q
   simp only [M3]at h
   split at h
   ·simp only [lB]at h
    obtain ⟨_,_,h⟩:=bind_some h
    cases h
   ·split at h
    ·simp only [EB,lB]at h
     obtain ⟨_,_,h⟩:=bind_some h
     cases h
    ·cases h
   ·split at h
    ·simp only [FZ,lB]at h
     obtain ⟨_,_,h⟩:=bind_some h
     cases h
    ·cases h
   ·rename_i e0 e h1 h2
    unfold GA at h
    split at h
    ·rename_i hsd
     subst hsd
     split at h
     ·rename_i h3
      obtain ⟨ox,hox,h⟩:=bind_some h
      cases h
      exact ⟨s,y,e,rfl,hox,h2,h3⟩
     ·cases h
    ·cases h
   ·cases h
  ·have:=VI P o (fun s d y e=>q ⟨s,d,y,e⟩) _ h
   simp [ZD]at this
section
variable {P:Program}{w:World}{I:Nat→Prop}{ρ:Rho}{N:Nat}{s:St}{a:Act}{h:D2}
theorem GU {o:Oper}{x:Opd}{v:AV}(hk:M3 P o.op=some (.str .mrk [x]))(hs:Sim w I ρ N s a)(hv:G7 s.t s.h (.bmark x)=some v):
    Mf o.op=false∧∃y w' I',(execOp a.eval o).run P w= .ok (.value y) w'∧RepV w' I' ρ v y∧HeapOK w' I' ρ s.h∧Tr w I ρ s.h w' I' ρ s.h:=by
  obtain ⟨sT,xo,e,hop,hox,hu1,hu2⟩:=NZ hk
  refine ⟨by rw [hop];rfl,?_⟩
  have h1:=M6 hs hox
  have H:=hs.heap
  simp only [G7]at hv
  split at hv
  ·rename_i k hx
   split at hv
   ·rename_i ty sz d0 ds hb
    split at hv
    ·rename_i he
     subst he
     cases hv
     rw [hx]at h1
     generalize hxv:a.eval xo=xv at h1
     cases h1 with
     |sl _ _ hρk=>
      obtain ⟨x0,xs,q1,q2,q3,q4⟩:=H.blk _ _ hb
      rw [hρk]at q1
      cases q1
      obtain ⟨hlen,hcase⟩:=q2
      rcases hcase with ⟨_,h0⟩|⟨g,cap,cur,fz,rfl,hcell,hfz,hcap,hmax,hcur,htake⟩
      ·simp at h0
      ·have hsh:w.shape? g=some (5,cur.size):=by unfold World.shape?;rw [hcell]
       let w':=w.freeze ⟨g,cur.size,none⟩ 1
       have hrun:(execOp a.eval o).run P w= .ok (.value (.slice (some ⟨g,0,none⟩) (d0::ds).length cap)) w':=by
         unfold execOp
         rw [hop]
         simp only [hxv]
         simp [convert,run_underlying hu1,run_underlying hu2,markStringish,hsh,w']
       have hnew: ∃fz',(fz'=(0,0)∨(5:TypeId)=5∧cur.size≤fz'.1)∧w'.heap[g]? =some (.cells cur 5 fz'):=by
         obtain ⟨lo,hi⟩:=fz
         refine ⟨if lo==hi then (cur.size,cur.size+1)else (min lo cur.size,max hi (cur.size+1)), .inr ⟨rfl,?_⟩,?_⟩
         ·split
          ·exact bK _
          ·rename_i hne
           rcases hfz with hz|⟨_,hz⟩
           ·cases hz;simp at hne
           ·exact Nat.le_min.2 ⟨hz,bK _⟩
         ·show (w.heap.modify g _)[g]? =_
          rw [Array.getElem?_modify,bB rfl,hcell]
          rfl
       obtain ⟨fz',hfz',hcell'⟩:=hnew
       have hold: ∀i,i≠g→w'.heap[i]? =w.heap[i]?:=by
         intro i hi
         show (w.heap.modify g _)[i]? =_
         rw [Array.getElem?_modify,bC (Ne.symm hi)]
       have hsz:w'.heap.size=w.heap.size:=by show (w.heap.modify g _).size=_;simp
       have hl:L9 ρ k (.arr 5 sz (d0::ds))=some g:=by simp [L9,hρk,Value.ownBlock]
       have hIk: ∀i,I i→w'.heap[i]? =w.heap[i]?:=fun i hi=>hold i (fun e=>H.notI k _ g hb hl (e▸hi))
       have:=Rg H k _ (.arr 5 sz (d0::ds)) g hb hl hl (w':=w') rfl rfl rfl hsz hold
         ⟨_,xs,hρk,⟨hlen, .inr ⟨g,cap,cur,fz',rfl,hcell',hfz',hcap,hmax,hcur,htake⟩⟩,q3,fun i j d hd=>⟨(q4 i j d hd).1,(q4 i j d hd).2.keep hIk (fun _ hb=>hb)⟩⟩
       have e:V1 s.h k (some (.arr 5 sz (d0::ds)))=s.h:=by
         funext q
         by_cases hq:q=k
         ·subst hq;rw [D9,hb]
         ·rw [J3 _ _ _ _ hq]
       rw [e]at this
       exact ⟨_,w',I,hrun, .sl _ _ hρk,this.1,this.2⟩
    ·cases hv
   ·cases hv
  ·cases hv
end
end Go.Abs
namespace Go.Abs
open Go
def Eb:AOp:=⟨none, .mv (.c .nilS),none⟩
/-- A call of a function that only reads, or one that may alter what is the run's own. -/
theorem Ws {α β:Type}(f:α→β)(sz:Nat): ∀(n:Nat) (l:List α),Ia sz n (l.map f)=(Ia sz n l).map (·.map f)
  |0,_=>rfl
  |n+1,l=>by simp only [Ia,lP,← List.map_take,← List.map_drop,Ws f sz n]
theorem EL {f:D→D}{es:List (List D)}{i j:Nat}{d:D}(h:Kw (es.map (·.map f)) i j=some d): ∃e,Kw es i j=some e∧d=f e:=by
  unfold Kw at h ⊢
  rw [lI]at h
  cases h1:es[i]? with
  |none=>rw [h1]at h;cases h
  |some x=>
   rw [h1]at h
   simp only [lE,lA,lI,lD]at h
   obtain ⟨e,h2,h3⟩:=h
   exact ⟨e,h2,h3.symm⟩
theorem VJ {w:World}{I:Nat→Prop}{d:D}{v:Value}(h:RepD w I d v):RepD w I (nrm d) v:=by
  unfold nrm
  split
  ·cases h with|nilS A=>exact .lnil A 0
  ·exact h
theorem VK {d:D}(h:d.one=true):(nrm d).one=true:=by
  unfold nrm
  split
  ·rfl
  ·exact h
theorem QZ {w:World}{I:Nat→Prop}{es:List (List D)}{v:Value}(h:RepD w I (.list es) v):RepD w I (.list (es.map (·.map nrm))) v:=by
  cases h with
  |lnil A cap=>exact .lnil A cap
  |list es A cap sz X hne hcap hsz hI hone hc hr=>
   have:=RepD.list (w:=w) (I:=I) (es.map (·.map nrm)) A cap sz X (by simpa using hne) (by simpa using hcap) (fun e he=>by
     obtain ⟨q,h1,rfl⟩:=List.mem_map.1 he
     rw [lQ];exact hsz q h1) hI (fun i j d hd=>by
     obtain ⟨e,h1,rfl⟩:=EL hd;exact VK (hone i j e h1)) (fun i j d hd=>by
     obtain ⟨e,h1,rfl⟩:=EL hd;exact hc i j e h1) (fun i j d hd=>by
     obtain ⟨e,h1,rfl⟩:=EL hd;exact VJ (hr i j e h1))
   rw [lQ]at this
   exact this
def dW (ao ao':AOp):Prop:=ao'=ao∨(∃f args,ao.k= .call f args∧ao'=⟨ao.dst, .icall f args,ao.g⟩)∨(∃e sz n z ps,ao.k= .bslice e sz n z ps∧ao'=⟨ao.dst, .dslice e sz n z ps,ao.g⟩)∨(∃sz x lo hi mx,ao.k= .slice sz x lo hi mx∧ao'=⟨ao.dst, .oslice sz x lo hi mx,ao.g⟩)∨(∃x,ao.k= .str .tob [x]∧ao'=⟨ao.dst, .dbytes x,ao.g⟩)∨(∃x,ao.k= .str .mrk [x]∧ao'=⟨ao.dst, .bmark x,ao.g⟩)∨∃S f args,ao.k= .call f args∧ao'=⟨ao.dst, .ocall S f args,ao.g⟩
/-- What is the run's own becomes data. -/
theorem GV {w:World}{I:Nat→Prop}{ρ:Rho}{h:D2}{k:D6}{ty:TypeId}{sz:Nat}{es:List (List D)}(H:HeapOK w I ρ (V1 h k (some (.arr ty sz es))))(hk:h k=none):
    ∃I':Nat→Prop,(∀b,I b→I' b)∧(∀b,I' b→I b∨own ρ (V1 h k (some (.arr ty sz es))) b)∧HeapOK w I' ρ h∧∀v,ρ k=some v→RepD w I' (.list es) v:=by
  have hs: ∀q b,h q=some b→V1 h k (some (.arr ty sz es)) q=some b:=by
    intro q b hq
    have:q≠k:=by rintro rfl;rw [hk]at hq;cases hq
    rw [J3 _ _ _ _ this];exact hq
  let h1:D2:=fun q=>if q=k then some (.arr ty sz es)else none
  have hs1: ∀q b,h1 q=some b→V1 h k (some (.arr ty sz es)) q=some b:=by
    intro q b hq
    by_cases e:q=k
    ·subst e;simp only [h1,if_true]at hq;rw [D9];exact hq
    ·simp [h1,e]at hq
  have H1:HeapOK w I ρ h1:=⟨fun q b hb=>H.blk q b (hs1 _ _ hb),fun q q' b b' g a c=>H.sep q q' b b' g (hs1 _ _ a) (hs1 _ _ c),fun q b g a=>H.notI q b g (hs1 _ _ a),fun q b g a=>H.lt q b g (hs1 _ _ a),H.ilt,H.fresh,H.rone⟩
  refine ⟨fun b=>I b∨own ρ h1 b,fun b hb=> .inl hb,fun b hb=>hb.imp id fun ⟨q,x,a,c⟩=>⟨q,x,hs1 _ _ a,c⟩,?_,fun v hv=>Fs H1 1 (.sl k) (.list es) v (.sl k v hv) (by simp [L8,h1])⟩
  have H2:HeapOK w I ρ h:=⟨fun q b hb=>H.blk q b (hs _ _ hb),fun q q' b b' g a c=>H.sep q q' b b' g (hs _ _ a) (hs _ _ c),fun q b g a=>H.notI q b g (hs _ _ a),fun q b g a=>H.lt q b g (hs _ _ a),H.ilt,H.fresh,H.rone⟩
  refine H2.keep (fun _ _=>rfl) (fun _ _=>rfl) (fun b hb=> .inl hb) (fun g hg hi=> ?_) (fun b hb=> ?_) (fun _ _ h=>h) (bK _) H.fresh H.rone
  ·rcases hi with hi|⟨q,x,a,c⟩
   ·exact H2.own_notI hg hi
   ·obtain ⟨q',x',a',c'⟩:=hg
    have:=H.sep q q' x x' g (hs1 _ _ a) (hs _ _ a') c c'
    subst this
    by_cases e:q=k
    ·subst e;rw [hk]at a';cases a'
    ·simp [h1,e]at a
  ·rcases hb with hb|hb
   ·exact H.ilt b hb
   ·exact H1.own_lt hb
structure Conv (P:Program)(N:Nat)(ops:Array Oper)(aops:List AOp):Prop where
  len:aops.length≤ops.size
  get: ∀i o,i<aops.length→ops[i]? =some o→∃ao,GB P N ops o=some ao∧dW ao (aops.getD i Eb)
  clash: ∀i j d,i<aops.length→j<aops.length→i≠j→d∈JS (aops.getD i Eb)→d∉JS (aops.getD j Eb)
  app: ∀i,i<aops.length→U1 (aops.getD i Eb).k=5→(aops.getD i Eb).dst≠none
section
variable {P:Program}{N:Nat}{ops:Array Oper}{aops:List AOp}{u:Nat}
/-- The keys that the operations of a list still have to make are free. -/
def Free (u:Nat)(ρ:Rho)(aops:List AOp)(l:List Nat):Prop:= ∀i∈l,∀d∈JS (aops.getD i Eb),ρ (d,u)=none
theorem GW (C:Conv P N ops aops){K:Act→World→Prop}{i:Nat}{rest L L':List Nat}{w:World}{I:Nat→Prop}{ρ:Rho}{s:St}{a:Act}(hi:i<aops.length)(hiL:i∈L)(hL: ∀j∈L',j∈L∧j≠i∧j<aops.length)
    (hs:Sim w I ρ N s a) (hfr:Free u ρ aops L) {v:AV} {ups:List (D6×Option Blk)} (he:Ob P u (aops.getD i Eb) s.t s.h v ups)
    (hrest: ∀a' w' ρ' I',Sim w' I' ρ' N (after s (aops.getD i Eb) v ups) a'→Tr w I ρ s.h w' I' ρ' (after s (aops.getD i Eb) v ups).h→Free u ρ' aops L'→Im P ops K rest a' w'):Im P ops K (i::rest) a w:=by
  have hiA:=hi
  have his:i<ops.size:=bO hi C.len
  have hoi:ops[i]? =some ops[i]:=Array.getElem?_eq_getElem his
  obtain ⟨ao,hco,hisI⟩:=C.get i _ hi hoi
  have hfree: ∀ρ',(∀k',(∀d∈JS (aops.getD i Eb),k'≠(d,u))→ρ' k'=ρ k')→Free u ρ' aops L':=by
    intro ρ' hρ j hj d hdj
    obtain ⟨hjL,hne,hjs⟩:=hL j hj
    rw [hρ (d,u) (fun d' hd' e=>by cases e;exact C.clash i j d hiA hjs hne.symm hd' hdj)]
    exact hfr j hjL d hdj
  have hfacts:(aops.getD i Eb).dst=ao.dst∧(aops.getD i Eb).g=ao.g:=by
    rcases hisI with h|⟨f,args,h1,h2⟩|⟨_,_,_,_,_,h1,h2⟩|⟨_,_,_,_,_,h1,h2⟩|⟨_,h1,h2⟩|⟨_,h1,h2⟩|⟨_,_,_,h1,h2⟩
    ·rw [h];exact ⟨rfl,rfl⟩
    ·rw [h2];exact ⟨rfl,rfl⟩
    ·rw [h2];exact ⟨rfl,rfl⟩
    ·rw [h2];exact ⟨rfl,rfl⟩
    ·rw [h2];exact ⟨rfl,rfl⟩
    ·rw [h2];exact ⟨rfl,rfl⟩
    ·rw [h2];exact ⟨rfl,rfl⟩
  obtain ⟨hk,hd,hdN,hg⟩:=Rl hco
  simp only [Im,hoi]
  have main:Yh P u (aops.getD i Eb) s.t s.h v ups→YP P ops[i] a w (Im P ops K rest):=fun he=>by
    rcases hisI with h|⟨f,args,h1,h2⟩|⟨e,sz,n,z,ps,h1,h2⟩|⟨sz,x,lo,hi,mx,h1,h2⟩|⟨x,h1,h2⟩|⟨x,h1,h2⟩|⟨S,f,args,h1,h2⟩
    ·rw [h]at he hrest hfree
     exact NW hco hs (by have:=hfr i hiL;rw [h]at this;exact fun d hd hm=>this d (Qe hm hd)) (by have:=C.app i hiA;rw [h]at this;exact this) he fun a' w' ρ' I' h1 h2 h3=>hrest a' w' ρ' I' h1 h2 (hfree ρ' fun k' hk'=>h3 k' fun d hd hm=>hk' d (Qe hm hd))
    ·rw [h2]at he;exact he.elim
    ·rw [h2]at he hrest hfree
     obtain ⟨hv,rfl⟩:=he
     simp only [G7]at hv
     obtain ⟨cs,hcs,hv⟩:=bind_some hv
     simp only [lD]at hv
     obtain ⟨ds,hds,rfl⟩:=hv
     rw [h1]at hk
     obtain ⟨ub,hub⟩:=hs.heap.fresh
     have hρ0:ρ (0,max ub (u+1))=none:=hub 0 _ (Nat.le_max_left _ _)
     have hav:Kj (max ub (u+1)) 0 s.t (.bslice e sz n z ps)=some (.sl (0,max ub (u+1)), .arr e sz (Ia sz n ds)):=by simp only [Kj,hcs,hds,lA,lE]
     obtain ⟨x,w',ρ',hrun,H',T',hr,hother⟩:=Zr hk hs hs.heap hρ0 hav
     have hh0:s.h (0,max ub (u+1))=none:=by
       cases hb:s.h (0,max ub (u+1))with
       |none=>rfl
       |some b=>
        obtain ⟨y,hy⟩:=(hs.heap.blk _ b hb).rho
        rw [hρ0]at hy;cases hy
     obtain ⟨I',i1,i2,H2,hrep⟩:=GV H' hh0
     have T2:Tr w I ρ s.h w' I' ρ' s.h:=⟨T'.os,T'.tape,T'.output,T'.size,T'.frame,fun b hb=>i1 b (T'.imm b hb),fun b hb hl=>by
       rcases i2 b hb with q|q
       ·exact T'.immBack b q hl
       ·exact .inr (T'.ownBack b q hl),fun b hb hl=>by
       obtain ⟨q,y,a1,a2⟩:=hb
       refine T'.ownBack b ⟨q,y,?_,a2⟩ hl
       have:q≠(0,max ub (u+1)):=by rintro rfl;rw [hh0]at a1;cases a1
       rw [J3 _ _ _ _ this];exact a1,T'.rho⟩
     have hx:RepV w' I' ρ' (.d (.list (Ia sz n (ds.map nrm)))) x:=by
       cases hr with|sl _ _ hr=>rw [Ws];exact .d _ _ (QZ (hrep x hr))
     refine ⟨Mm hk,?_⟩
     rw [hrun]
     have:=(hs.step H2 T2).sett ao.dst (by rw [hd];exact hdN) hx
     rw [hd]at this
     refine hrest _ _ ρ' I' (by rw [after,hd];exact this) T2 ?_
     intro j hj d hdj
     obtain ⟨hjL,hne,hjs⟩:=hL j hj
     rw [hother (d,u) (by intro e;have:=congrArg Prod.snd e;dsimp only at this;omega)]
     exact hfr j hjL d hdj
    ·rw [h2]at he hrest hfree
     obtain ⟨d,hdd,hv⟩:=he
     rw [h1]at hk
     have hmk:Pl (AK.oslice sz x lo hi mx)=true:=rfl
     have hfr0:ρ (d,u)=none:=by
       have:=hfr i hiL
       rw [h2]at this
       exact this d (Qe hmk hdd)
     obtain ⟨g1,r,w',ρ',hrun,⟨x',hx',hr⟩,H',T',hother⟩:=EH hk hs hs.heap hfr0 hv
     refine ⟨g1,?_⟩
     rw [hrun]
     have h3:=(hs.step H' T').sett ao.dst (by rw [hd];exact hdN) hr
     rw [hd]at h3
     have hfin:=hfree ρ' fun k' hk'=>hother k' (hk' d (Qe hmk hdd))
     rcases hx' with rfl|⟨rfl,rfl⟩
     ·exact hrest _ _ ρ' I (by rw [after,hd];exact h3) T' hfin
     ·exact hrest _ _ ρ' I (by rw [after,hd];exact h3) T' hfin
    ·rw [h2]at he hrest hfree
     obtain ⟨hv,rfl⟩:=he
     rw [h1]at hk
     obtain ⟨g1,y,w',I',hrun,hr,H',T'⟩:=EJ hk hs hv
     refine ⟨g1,?_⟩
     rw [hrun]
     have h3:=(hs.step H' T').sett ao.dst (by rw [hd];exact hdN) hr
     rw [hd]at h3
     exact hrest _ _ ρ I' (by rw [after,hd];exact h3) T' (hfree ρ fun _ _=>rfl)
    ·rw [h2]at he hrest hfree
     obtain ⟨hv,rfl⟩:=he
     rw [h1]at hk
     obtain ⟨g1,y,w',I',hrun,hr,H',T'⟩:=GU hk hs hv
     refine ⟨g1,?_⟩
     rw [hrun]
     have h3:=(hs.step H' T').sett ao.dst (by rw [hd];exact hdN) hr
     rw [hd]at h3
     exact hrest _ _ ρ I' (by rw [after,hd];exact h3) T' (hfree ρ fun _ _=>rfl)
    ·rw [h2]at he hrest hfree
     simp only [Yh,U1,Uq]at he
     rw [h1]at hk
     cases hc:Q5 s.t f args with
     |none=>simp [hc]at he
     |some p=>
      obtain ⟨fid,avs⟩:=p
      simp only [hc]at he
      obtain ⟨_,_,hF⟩:=he
      obtain ⟨vs,hrun,hlen,hrep⟩:=Zt hk rfl hs hc hF.1
      refine ⟨Mm hk,?_⟩
      rw [hrun]
      have hfr0: ∀j,j<6→ρ (S+j,u)=none:=by
        have:=hfr i hiL
        rw [h2]at this
        exact fun j hj=>this (S+j) (by simp only [JS,List.mem_map,List.mem_range];exact ⟨j,hj,rfl⟩)
      refine (hF.2 w I ρ s.h vs hs.heap (fun q b hq=>by unfold O7 at hq;split at hq;exact hq;cases hq) hlen hrep hfr0).mono ?_
      rintro e w' ⟨x,I',ρ',rfl,hr,H',T',hρ'⟩
      refine ⟨x,rfl,?_⟩
      have h3:=(hs.step H' T').sett ao.dst (by rw [hd];exact hdN) hr
      rw [hd]at h3
      refine hrest _ _ ρ' I' (by rw [after,hd];exact h3) T' (hfree ρ' fun k' hk'=>hρ' k' fun j hj e=>hk' (S+j) (by simp only [JS,List.mem_map,List.mem_range];exact ⟨j,hj,rfl⟩) e)
  rw [← hfacts.1]at hd
  rw [← hfacts.2]at hg
  unfold Ob at he
  cases hgu:ops[i].guard with
  |none=>
   rw [hgu]at hg
   rw [hg]at he
   have hw:Region.wanted ops[i] (yielded ops a.tmps)=true:=by simp [Region.wanted,hgu]
   rw [bB hw]
   exact main he
  |some jb=>
   obtain ⟨j,b⟩:=jb
   rw [hgu]at hg
   obtain ⟨g,hg1,hg2⟩:=hg
   rw [hg2]at he
   dsimp only at he
   split at he
   ·rename_i c hc
    have hr:=hs.tmp g
    rw [hc]at hr
    have hb:=Jh hr
    have htm:a.tmps[g]? =some (.bool c):=by
      rw [Array.getD_eq_getD_getElem?]at hb
      cases hq:a.tmps[g]? with
      |none=>rw [hq]at hb;simp [undef]at hb
      |some q=>rw [hq]at hb;simp at hb;rw [hb]
    have hy:yielded ops a.tmps j=some c:=by simp [yielded,hg1,htm]
    split at he
    ·rename_i hcb
     have hw:Region.wanted ops[i] (yielded ops a.tmps)=true:=by simp [Region.wanted,hgu,hy,hcb]
     rw [bB hw]
     exact main he
    ·rename_i hcb
     have hw: ¬Region.wanted ops[i] (yielded ops a.tmps)=true:=by simp [Region.wanted,hgu,hy,hcb]
     rw [bC hw]
     obtain ⟨rfl,rfl⟩:=he
     have:=hs.sett (aops.getD i Eb).dst (fun d hd'=>hdN d (hd▸hd')) (show RepV w I ρ (.d (.tup [])) undef from .d _ _ (.tup [] [] rfl (by simp)))
     rw [← hd]
     exact hrest _ _ ρ I this (Tr.refl _ _ _ _) (hfree ρ fun _ _=>rfl)
   ·rename_i hc
    have hr:=hs.tmp g
    rw [hc]at hr
    have hb:a.tmps.getD g undef= .tuple #[]:=by
      generalize a.tmps.getD g undef=q at hr
      cases hr with|d _ _ hr=>cases hr with|tup _ vs hl _=>cases vs<;>first|rfl|(simp at hl)
    have hy:yielded ops a.tmps j=none:=by
      simp only [yielded,hg1,lA]
      rw [Array.getD_eq_getD_getElem?]at hb
      cases hq:a.tmps[g]? with
      |none=>rfl
      |some q=>rw [hq]at hb;simp at hb;rw [hb]
    have hw: ¬Region.wanted ops[i] (yielded ops a.tmps)=true:=by simp [Region.wanted,hgu,hy]
    rw [bC hw]
    obtain ⟨rfl,rfl⟩:=he
    have:=hs.sett (aops.getD i Eb).dst (fun d hd'=>hdN d (hd▸hd')) (show RepV w I ρ (.d (.tup [])) undef from .d _ _ (.tup [] [] rfl (by simp)))
    rw [← hd]
    exact hrest _ _ ρ I this (Tr.refl _ _ _ _) (hfree ρ fun _ _=>rfl)
   ·exact he.elim
end
end Go.Abs
namespace Go.Abs
open Go
/-! ### A region that draws its order -/
/-- Who stands before whom, by the edges that bind. -/
def W5 (o:Oper):List Nat:=(o.after.toList.filter (Region.binds .any)).map (·.on)
def Vp:List (List Nat)→List Oper→List (List Nat)
  |acc,[]=>acc
  |acc,o::r=>Vp (acc++ [((W5 o).flatMap fun p=>p::acc.getD p []).eraseDups]) r
def Mh (ops:Array Oper):List (List Nat):=Vp [] ops.toList
theorem Wt: ∀(l:List Oper) (acc:List (List Nat)) (j:Nat),j<acc.length→(Vp acc l).getD j []=acc.getD j []
  | [],_,_,_=>rfl
  |o::r,acc,j,h=>by
   rw [Vp,Wt r _ j (by simp;omega)]
   simp [List.getD,lW h]
theorem Zv: ∀(l:List Oper) (acc:List (List Nat)) (j:Nat) (o:Oper),l[j]? =some o→(∀o∈l,True)→(∀i o,l[i]? =some o→∀e∈W5 o,e<acc.length+i)→
    ∀a∈(Vp acc l).getD (acc.length+j) [],∃e∈W5 o,a=e∨a∈(Vp acc l).getD e []
  | [],acc,j,o,h,_,_=>by simp at h
  |o0::r,acc,j,o,h,_,hb=>by
   cases j with
   |zero=>
    simp at h;subst h
    intro a ha
    rw [Vp,Wt r _ _ (by simp)]at ha
    simp only [Nat.add_zero,List.getD,lV (bK _),Nat.sub_self,List.getElem?_cons_zero,Option.getD_some,List.mem_eraseDups,List.mem_flatMap,lS]at ha
    obtain ⟨e,he,ha⟩:=ha
    refine ⟨e,he,?_⟩
    rcases ha with rfl|ha
    ·exact .inl rfl
    ·right
     have hlt:=hb 0 o0 rfl e he
     rw [Vp,Wt r _ _ (by simp;omega)]
     simpa [List.getD,lW (show e<acc.length by omega)] using ha
   |succ j=>
    intro a ha
    rw [Vp]at ha ⊢
    have:=Zv r (acc++ [((W5 o0).flatMap fun p=>p::acc.getD p []).eraseDups]) j o (by simpa using h) (fun _ _=>trivial) (fun i o' hi e he=>by have:=hb (i+1) o' (by simpa using hi) e he;simp;omega) a
      (by simp only [lK,List.length_singleton];rw [show acc.length+1+j=acc.length+ (j+1) by omega];exact ha)
    exact this
def Ro (o o':AOp):Bool:=
  (match o.dst with|some d=>(JT o').contains d||o'.dst==some d|none=>false)||(match o'.dst with|some d=>(JT o).contains d|none=>false)
def Tg (k:AK):Bool:=match k with
  | .load .. | .len .. | .idxS .. | .store .. | .append .. | .call .. | .icall .. | .ocall .. | .mins .. | .mlook .. | .oslice .. | .bmark .. =>true
  |_=>false
def Be (k:AK):Bool:=match U1 k with
  |1|2|3|4|5|7|8=>true
  |n=>Nat.beq n 9
def Mw (k:AK):Bool:=match U1 k with
  |1|2|3=>true
  |_=>false
def Kc (o o':AOp):Bool:=(Be o.k&& (Tg o'.k||Be o'.k)||Tg o.k&&Be o'.k)&& !(Mw o.k&&Mw o'.k&&o.dst !=o'.dst)
/-- One that only reads, ahead of one that makes memory of its own. -/
def DA (o o':AOp):Bool:=Mw o'.k&& !Be o.k&&o.g.isNone
structure DrawOK (ops:Array Oper)(aops:List AOp)(pairs:List (Nat×Nat)):Prop where
  back: ∀i o,ops[i]? =some o→∀e∈W5 o,e<i
  slots: ∀a b,a<b→b<aops.length→Ro (aops.getD a Eb) (aops.getD b Eb)=true→a∈(Mh ops).getD b []
  keys: ∀a b,a<b→b<aops.length→Kc (aops.getD a Eb) (aops.getD b Eb)=true→a∈(Mh ops).getD b []∨(a,b)∈pairs∨DA (aops.getD a Eb) (aops.getD b Eb)=true
theorem OA {ops:Array Oper}(hb: ∀i o,ops[i]? =some o→∀e∈W5 o,e<i){j:Nat}{o:Oper}(h:ops[j]? =some o): ∀a∈(Mh ops).getD j [],∃e∈W5 o,a=e∨a∈(Mh ops).getD e []:=by
  have:=Zv ops.toList [] j o (by simpa using h) (fun _ _=>trivial) (fun i o' hi e he=>by have:=hb i o' (by simpa using hi) e he;simpa using this)
  simpa [Mh] using this
/-! What has been carried out is closed downwards. -/
section
variable {ops:Array Oper}
def Qh (ops:Array Oper)(S:Nat→Bool):Prop:= ∀i o,ops[i]? =some o→S i=true→∀e∈W5 o,S e=true
theorem Qi (hb: ∀i o,ops[i]? =some o→∀e∈W5 o,e<i){S:Nat→Bool}(hS:Qh ops S): ∀(j:Nat) (o:Oper),ops[j]? =some o→(∀e∈W5 o,S e=true)→∀a∈(Mh ops).getD j [],S a=true:=by
  intro j
  induction j using Nat.strongRecOn with
  |_ j ih=>
   intro o ho he a ha
   obtain ⟨e,hed,h⟩:=OA hb ho a ha
   rcases h with rfl|h
   ·exact he _ hed
   ·have hlt:=hb j o ho e hed
    have hjs:j<ops.size:=(Array.getElem?_eq_some_iff.1 ho).1
    have hoe:ops[e]? =some ops[e]:=Array.getElem?_eq_getElem (by omega)
    exact ih e hlt _ hoe (hS e _ hoe (he e hed)) a h
theorem GX (hb: ∀i o,ops[i]? =some o→∀e∈W5 o,e<i){S:Nat→Bool}(hS:Qh ops S){j:Nat}(hj:j<ops.size)(h:S j=true): ∀a∈(Mh ops).getD j [],S a=true:=
  Qi hb hS j ops[j] (Array.getElem?_eq_getElem hj) (hS j _ (Array.getElem?_eq_getElem hj) h)
end
theorem Mx: ∀(ups:List (D6×Option Blk)) (h h':D2) (q:D6),q∈ups.map (·.1)→N3 h ups q=N3 h' ups q
  | [],_,_,_,hq=>by simp at hq
  |(k,b)::r,h,h',q,hq=>by
   simp only [N3]
   by_cases hr:q∈r.map (·.1)
   ·exact Mx r _ _ q hr
   ·have hk:q=k:=by simp at hq hr;rcases hq with rfl|h;rfl;exact absurd h (by simpa using hr)
    subst hk
    have: ∀(r:List (D6×Option Blk)) (f g:D2),q∉r.map (·.1)→f q=g q→N3 f r q=N3 g r q:=by
      intro r
      induction r with
      |nil=>intro f g _ e;exact e
      |cons p r ih=>
       obtain ⟨k',b'⟩:=p
       intro f g hn e
       simp only [N3]
       refine ih _ _ (by simp at hn ⊢;exact hn.2) ?_
       have:q≠k':=by simp at hn;exact hn.1
       rw [J3 _ _ _ _ this,J3 _ _ _ _ this,e]
    exact this r _ _ hr (by rw [D9,D9])
theorem Ao: ∀(ups:List (D6×Option Blk)) (h:D2) (q:D6),q∉ups.map (·.1)→N3 h ups q=h q
  | [],_,_,_=>rfl
  |(k,b)::r,h,q,hq=>by
   simp only [N3]
   rw [Ao r _ q (by simp at hq ⊢;exact hq.2),J3 _ _ _ _ (by simp at hq;exact hq.1)]
/-- A run in the order of the text, with all its states; and what each operation looks at and alters. -/
structure Run (P:Program)(u:Nat)(aops:List AOp) where
  σ:Nat→St
  v:Nat→AV
  up:Nat→List (D6×Option Blk)
  eff: ∀i,i<aops.length→Ob P u (aops.getD i Eb) (σ i).t (σ i).h (v i) (up i)
  next: ∀i,i<aops.length→σ (i+1)=after (σ i) (aops.getD i Eb) (v i) (up i)
def Run.K {P:Program}{u:Nat}{aops:List AOp}(R:Run P u aops)(i:Nat):List D6:=W2 (R.σ i).t (R.σ i).h (aops.getD i Eb).k
def Run.W {P:Program}{u:Nat}{aops:List AOp}(R:Run P u aops)(i:Nat):List D6:=(R.up i).map (·.1)
/-- Those in S, in the order of the text. -/
def Run.τ {P:Program}{u:Nat}{aops:List AOp}(R:Run P u aops)(S:Nat→Bool):Nat→St
  |0=>R.σ 0
  |m+1=>if S m=true then after (R.τ S m) (aops.getD m Eb) (R.v m) (R.up m)else R.τ S m
section
variable {P:Program}{u:Nat}{aops:List AOp}(R:Run P u aops)
theorem Ft {s:St}{o:AOp}{v:AV}{ups:List (D6×Option Blk)}{x:Nat}(h:o.dst=some x):(after s o v ups).t x=v:=by simp [after,Mg,h,D9]
theorem Fb {s:St}{o:AOp}{v:AV}{ups:List (D6×Option Blk)}{x:Nat}(h:o.dst≠some x):(after s o v ups).t x=s.t x:=by
  cases hd:o.dst with
  |none=>simp [after,Mg,hd]
  |some d=>simp only [after,Mg,hd];exact J3 _ _ _ _ (fun e=>h (by rw [hd,e]))
theorem XP (S:Nat→Bool)(x i:Nat)(hS: ∀j,j<aops.length→(aops.getD j Eb).dst=some x→(S j=true↔j<i)): ∀m,m≤aops.length→(R.τ S m).t x=(R.σ (min m i)).t x:=by
  intro m
  induction m with
  |zero=>intro _;simp [Run.τ]
  |succ m ih=>
   intro hm
   have ihm:=ih (by omega)
   simp only [Run.τ]
   by_cases hd:(aops.getD m Eb).dst=some x
   ·have hiff:=hS m (by omega) hd
    by_cases hmi:m<i
    ·rw [bB (hiff.2 hmi),Ft hd,show min (m+1) i=m+1 by omega,R.next m (by omega),Ft hd]
    ·rw [bC (fun h=>hmi (hiff.1 h)),ihm,show min (m+1) i=min m i by omega]
   ·have e1:(if S m=true then after (R.τ S m) (aops.getD m Eb) (R.v m) (R.up m)else R.τ S m).t x=(R.τ S m).t x:=by
      split
      ·exact Fb hd
      ·rfl
    rw [e1,ihm]
    by_cases hmi:m<i
    ·rw [show min m i=m by omega,show min (m+1) i=m+1 by omega,R.next m (by omega),Fb hd]
    ·rw [show min (m+1) i=min m i by omega]
theorem XQ (S:Nat→Bool)(q:D6)(i:Nat)(hS: ∀j,j<aops.length→q∈R.W j→(S j=true↔j<i)): ∀m,m≤aops.length→(R.τ S m).h q=(R.σ (min m i)).h q:=by
  intro m
  induction m with
  |zero=>intro _;simp [Run.τ]
  |succ m ih=>
   intro hm
   have ihm:=ih (by omega)
   simp only [Run.τ]
   by_cases hd:q∈R.W m
   ·have hiff:=hS m (by omega) hd
    by_cases hmi:m<i
    ·rw [bB (hiff.2 hmi),show min (m+1) i=m+1 by omega,R.next m (by omega)]
     exact Mx _ _ _ q hd
    ·rw [bC (fun h=>hmi (hiff.1 h)),ihm,show min (m+1) i=min m i by omega]
   ·have e1:(if S m=true then after (R.τ S m) (aops.getD m Eb) (R.v m) (R.up m)else R.τ S m).h q=(R.τ S m).h q:=by
      split
      ·exact Ao _ _ q hd
      ·rfl
    rw [e1,ihm]
    by_cases hmi:m<i
    ·rw [show min m i=m by omega,show min (m+1) i=m+1 by omega,R.next m (by omega)]
     exact (Ao _ _ q hd).symm
    ·rw [show min (m+1) i=min m i by omega]
/-- One more. -/
theorem JY (S S':Nat→Bool)(i x:Nat)(hS: ∀j,j≠i→S' j=S j)(hd:(aops.getD i Eb).dst≠some x): ∀m,(R.τ S' m).t x=(R.τ S m).t x:=by
  intro m
  induction m with
  |zero=>rfl
  |succ m ih=>
   simp only [Run.τ]
   by_cases e:m=i
   ·subst e
    split<;>split<;>first|exact ih|(rw [Fb hd];exact ih)|(rw [Fb hd,Fb hd];exact ih)
   ·rw [hS m e]
    split
    ·by_cases hx:(aops.getD m Eb).dst=some x
     ·rw [Ft hx,Ft hx]
     ·rw [Fb hx,Fb hx];exact ih
    ·exact ih
theorem JZ (S S':Nat→Bool)(i:Nat)(q:D6)(hS: ∀j,j≠i→S' j=S j)(hd:q∉R.W i): ∀m,(R.τ S' m).h q=(R.τ S m).h q:=by
  intro m
  induction m with
  |zero=>rfl
  |succ m ih=>
   simp only [Run.τ]
   by_cases e:m=i
   ·subst e
    have h1: ∀s,(after s (aops.getD m Eb) (R.v m) (R.up m)).h q=s.h q:=fun s=>Ao _ _ q hd
    split<;>split<;>simp only [h1,ih]
   ·rw [hS m e]
    split
    ·by_cases hx:q∈R.W m
     ·exact Mx _ _ _ q hx
     ·have h1: ∀s,(after s (aops.getD m Eb) (R.v m) (R.up m)).h q=s.h q:=fun s=>Ao _ _ q hx
      rw [h1,h1];exact ih
    ·exact ih
end
end Go.Abs
namespace Go.Abs
open Go
theorem Tx {t:Nat→AV}{h:D2}{k:AK}{q:D6}(hq:q∈W2 t h k):Tg k=true:=by
  cases k<;>first|rfl|simp [W2]at hq
theorem EM {k:AK}(h:Tg k=true):Mw k=false:=by
  cases k<;>first|rfl|simp [Tg]at h
theorem Pp {P:Program}{u:Nat}{o:AOp}{t:Nat→AV}{h:D2}{v:AV}{ups:List (D6×Option Blk)}(he:Ob P u o t h v ups){q:D6}(hq:q∈ups.map (·.1)):
    Be o.k=true∧(Mw o.k=true→∃d,o.dst=some d∧q=(d,u)):=by
  have main:Yh P u o t h v ups→Be o.k=true∧(Mw o.k=true→∃d,o.dst=some d∧q=(d,u)):=by
    intro he
    unfold Yh at he
    split at he
    ·rw [he.2]at hq;simp at hq
    ·rename_i ht
     obtain ⟨d,b,h1,_,rfl⟩:=he
     exact ⟨by simp [Be,ht],fun _=>⟨d,h1,by simpa using hq⟩⟩
    ·rename_i ht
     obtain ⟨d,b,h1,_,rfl⟩:=he
     exact ⟨by simp [Be,ht],fun _=>⟨d,h1,by simpa using hq⟩⟩
    ·rename_i ht
     obtain ⟨d,b,h1,_,rfl⟩:=he
     exact ⟨by simp [Be,ht],fun _=>⟨d,h1,by simpa using hq⟩⟩
    ·rename_i ht
     exact ⟨by simp [Be,ht],fun hb=>by simp [Mw,ht]at hb⟩
    ·rename_i ht
     exact ⟨by simp [Be,ht],fun hb=>by simp [Mw,ht]at hb⟩
    ·rw [he.2]at hq;simp at hq
    ·rename_i ht
     exact ⟨by simp [Be,ht],fun hb=>by simp [Mw,ht]at hb⟩
    ·rename_i ht
     exact ⟨by simp [Be,ht],fun hb=>by simp [Mw,ht]at hb⟩
    ·exact he.elim
  unfold Ob at he
  split at he
  ·exact main he
  ·split at he
   ·split at he
    ·exact main he
    ·rw [he.2]at hq;simp at hq
   ·rw [he.2]at hq;simp at hq
   ·exact he.elim
theorem dX {a b:AOp}(h1:Be a.k=true)(h2:Tg b.k=true):Kc a b=true∧Kc b a=true:=by
  have h3:=EM h2
  simp [Kc,h1,h2,h3]
theorem eH {a b:AOp}(h1:Be a.k=true)(h2:Be b.k=true)(h3: ¬(Mw a.k=true∧Mw b.k=true∧a.dst≠b.dst)):Kc a b=true∧Kc b a=true:=by
  cases b1:Mw a.k<;>cases b2:Mw b.k<;>simp [Kc,h1,h2,b1,b2]
  have:a.dst=b.dst:=Classical.byContradiction fun h=>h3 ⟨b1,b2,h⟩
  exact ⟨this,this.symm⟩
theorem eI {a b:AOp}{x:Nat}(h:a.dst=some x)(h':x∈JT b∨b.dst=some x):Ro a b=true∧Ro b a=true:=by
  rcases h' with h'|h'<;>simp [Ro,h,h']
theorem OB {α:Type}{p p':α→Bool}{x:α}: ∀{l:List α},(∀y∈l,p' y=true→p y=true)→x∈l→p x=true→p' x=false→(l.filter p').length< (l.filter p).length:=by
  have le: ∀{l:List α},(∀y∈l,p' y=true→p y=true)→(l.filter p').length≤(l.filter p).length:=by
    intro l
    induction l with
    |nil=>intro _;simp
    |cons y r ih=>
     intro h
     have:=ih fun z hz=>h z (List.mem_cons_of_mem _ hz)
     cases h1:p' y
     ·cases h2:p y<;>simp [List.filter,h1,h2]<;>omega
     ·have h2:=h y (by simp) h1
      simp [List.filter,h1,h2];omega
  intro l
  induction l with
  |nil=>intro _ h;simp at h
  |cons y r ih=>
   intro h hx hp hp'
   have hr:=le fun z hz=>h z (List.mem_cons_of_mem (l:=r) _ hz)
   by_cases e:x=y
   ·subst e
    simp [List.filter,hp,hp'];omega
   ·have hx':x∈r:=by simpa [e] using hx
    have:=ih (fun z hz=>h z (List.mem_cons_of_mem _ hz)) hx' hp hp'
    cases h1:p' y
    ·cases h2:p y<;>simp [List.filter,h1,h2]<;>omega
    ·have h2:=h y (by simp) h1
     simp [List.filter,h1,h2];omega
theorem KA {h:D2}: ∀(n:Nat) (x:AV) (d:D),L8 h n x=some d→∀q∈O6 h n x,h q≠none:=by
  intro n
  induction n with
  |zero=>intro x d _ q hq;simp [O6]at hq
  |succ n ih=>
   have ihl: ∀(xs:List AV) (ds:List D),M7 (L8 h n) xs=some ds→∀q∈xs.flatMap (O6 h n),h q≠none:=by
     intro xs
     induction xs with
     |nil=>intro ds _ q hq;simp at hq
     |cons x r ihr=>
      intro ds hd q hq
      simp only [M7]at hd
      split at hd
      ·rename_i d ds' h1 h2
       simp only [l4,lR]at hq
       rcases hq with hq|hq
       ·exact ih x d h1 q hq
       ·exact ihr ds' h2 q hq
      ·cases hd
   intro x d hd q hq
   cases x with
   |sl k=>
    simp only [O6,l5]at hq
    subst hq
    intro e
    simp [L8,e]at hd
   |ptr k off=>
    simp only [L8]at hd
    simp only [O6]at hq
    cases hb:h k with
    |none=>simp [hb]at hd
    |some b=>
     cases b with
     |box ty cs=>
      simp only [hb,lD]at hd
      obtain ⟨ds,hds,_⟩:=hd
      simp only [hb,lS]at hq
      rcases hq with rfl|hq
      ·simp [hb]
      ·exact ihl cs ds hds q hq
     |_=>simp [hb]at hd
   |agg cs=>
    simp only [L8,lD]at hd
    obtain ⟨ds,hds,_⟩:=hd
    exact ihl cs ds hds q hq
   |fn f fs cs=>
    simp only [L8]at hd
    split at hd
    ·rename_i a b ha hb
     simp only [O6,lR]at hq
     rcases hq with hq|hq
     ·exact ihl fs a ha q hq
     ·exact ihl cs b hb q hq
    ·cases hd
   |_=>simp [O6]at hq
theorem Kl {h:D2}{n:Nat}: ∀(xs:List AV) (ds:List D),M7 (L8 h n) xs=some ds→∀q∈xs.flatMap (O6 h n),h q≠none:=by
  intro xs
  induction xs with
  |nil=>intro ds _ q hq;simp at hq
  |cons x r ihr=>
   intro ds hd q hq
   simp only [M7]at hd
   split at hd
   ·rename_i d ds' h1 h2
    simp only [l4,lR]at hq
    rcases hq with hq|hq
    ·exact KA n x d h1 q hq
    ·exact ihr ds' h2 q hq
   ·cases hd
theorem EN {h:D2}{p:AV}{cs:List AV}(hc:R6 h p=some cs): ∀q∈Ea p,h q≠none:=by
  intro q hq e
  cases p<;>simp [Ea]at hq<;>subst hq<;>simp [R6,e]at hc
/-- What is read is there. -/
theorem RA {P:Program}{u:Nat}{o:AOp}{t:Nat→AV}{h:D2}{v:AV}{ups:List (D6×Option Blk)}(ha:Be o.k=false)(hg:o.g=none)(he:Ob P u o t h v ups): ∀q∈W2 t h o.k,h q≠none:=by
  unfold Ob at he
  rw [hg]at he
  intro q hq e
  obtain ⟨dst,k,g⟩:=o
  dsimp only at*
  cases k with
  |load n ag p=>
   simp only [Yh,U1,G7]at he
   cases hc:R6 h (ev t p)with
   |none=>simp [hc]at he
   |some cs=>exact EN hc q hq e
  |len x=>
   simp only [Yh,U1,G7]at he
   simp only [W2]at hq
   generalize ev t x=X at he hq
   cases X with
   |sl k=>simp only [Ea,l5]at hq;subst hq;simp [e]at he
   |d y=>simp [Ea]at hq
   |ptr=>simp at he
   |aptr=>simp at he
   |_=>simp [Ea]at hq
  |idxS sz x i=>
   simp only [Yh,U1,G7]at he
   simp only [W2]at hq
   generalize ev t x=X at he hq
   generalize ev t i=Y at he
   cases X with
   |sl k=>
    simp only [Ea,l5]at hq;subst hq
    cases Y with
    |d z=>cases z<;>first|(simp at he;done)|(rename_i v;cases v<;>simp [e]at he)
    |_=>simp at he
   |d y=>simp [Ea]at hq
   |ptr=>simp at he
   |aptr=>simp at he
   |_=>simp [Ea]at hq
  |call f args=>
   simp only [Yh,U1,Xq]at he
   simp only [W2]at hq
   cases hc:Q5 t f args with
   |none=>simp [hc]at hq
   |some p=>
    obtain ⟨fid,avs⟩:=p
    simp only [hc]at hq he
    obtain ⟨⟨ds,r,h1,_⟩,_⟩:=he
    exact Kl avs ds h1 q hq e
  |mlook m x=>
   simp only [Yh,U1,G7]at he
   simp only [W2]at hq
   generalize ev t m=X at he hq
   generalize ev t x=Y at he
   cases X with
   |sl k=>
    simp only [Ea,l5]at hq;subst hq
    cases Y with
    |d z=>cases z<;>first|(simp at he;done)|(rename_i v;cases v<;>first|(simp at he;done)|(rename_i kk n;cases kk<;>simp [e]at he))
    |_=>simp at he
   |d y=>simp [Ea]at hq
   |ptr=>simp at he
   |aptr=>simp at he
   |_=>simp [Ea]at hq
  |bmark x=>
   simp only [Yh,U1,G7]at he
   simp only [W2]at hq
   generalize ev t x=X at he hq
   cases X with
   |sl k=>simp only [Ea,l5]at hq;subst hq;simp [e]at he
   |d y=>simp [Ea]at hq
   |ptr=>simp at he
   |aptr=>simp at he
   |_=>simp [Ea]at hq
  |mins=>simp [Be,U1]at ha
  |store=>simp [Be,U1]at ha
  |append=>simp [Be,U1]at ha
  |ocall=>simp [Be,U1]at ha
  |oslice=>simp [Be,U1]at ha
  |_=>simp [W2]at hq
/-- A key that is written was there, or is the operation's own. -/
theorem RB {P:Program}{u:Nat}{o:AOp}{t:Nat→AV}{h:D2}{v:AV}{ups:List (D6×Option Blk)}(happ:U1 o.k=5→o.dst≠none)(he:Ob P u o t h v ups){q:D6}(hq:q∈ups.map (·.1)):
    h q≠none∨∃d,d∈JS o∧q=(d,u):=by
  have main:Yh P u o t h v ups→h q≠none∨∃d,d∈JS o∧q=(d,u):=by
    intro he
    obtain ⟨dst,k,g⟩:=o
    dsimp only at*
    have hbare:(∃d b,dst=some d∧Kj u d t k=some (v,b)∧ups= [((d,u),some b)])→Pl k=true→h q≠none∨∃d,d∈JS ⟨dst,k,g⟩∧q=(d,u):=by
      rintro ⟨d,b,h1,_,rfl⟩ hm
      exact .inr ⟨d,Qe hm h1,by simpa using hq⟩
    cases k with
    |alloc=>exact hbare he rfl
    |mkmap=>exact hbare he rfl
    |box=>exact hbare he rfl
    |bslice=>exact hbare he rfl
    |store n p x=>
     simp only [Yh,U1,Dz]at he
     left
     intro e
     split at he
     ·split at he
      ·split at he
       ·rename_i k off hp
        split at he
        ·split at he
         ·cases he;simp at hq;subst hq;simp_all
         ·cases he
        ·cases he
       ·rename_i k sz i off hp
        split at he
        ·split at he
         ·split at he
          ·cases he;simp at hq;subst hq;simp_all
          ·cases he
         ·cases he
        ·cases he
       ·cases he
      ·cases he
     ·cases he
    |mins m x=>
     simp only [Yh,U1,Dz]at he
     left
     intro e
     split at he
     ·split at he
      ·cases he;simp at hq;subst hq;simp_all
      ·cases he
     ·cases he
    |append ty e sz x y=>
     simp only [Yh,U1,Dz]at he
     cases hd:dst with
     |none=>exact absurd hd (happ rfl)
     |some d=>
      subst hd
      simp only [Option.getD_some]at he
      split at he
      ·split at he
       ·split at he
        ·split at he
         ·cases he
          simp at hq
          rcases hq with rfl|rfl
          ·left;simp_all
          ·exact .inr ⟨d,Qe rfl rfl,rfl⟩
         ·cases he
        ·cases he
       ·split at he
        ·cases he;simp at hq
        ·split at he
         ·cases he;simp at hq;subst hq;exact .inr ⟨d,Qe rfl rfl,rfl⟩
         ·cases he
       ·cases he
      ·cases he
    |oslice sz x lo hi mx=>
     obtain ⟨d,rfl,he⟩:=he
     cases lo with
     |some _=>simp [Dz]at he
     |none=>
      cases mx with
      |some _=>simp [Dz]at he
      |none=>
       simp only [Dz]at he
       split at he
       ·split at he
        ·split at he
         ·split at he
          ·cases he
           simp at hq
           rcases hq with rfl|rfl
           ·left;simp_all
           ·exact .inr ⟨d,Qe rfl rfl,rfl⟩
          ·cases he
         ·cases he
        ·cases he
       ·split at he
        ·cases he;simp at hq
        ·cases he
       ·cases he
    |call=>rw [he.2]at hq;simp at hq
    |icall=>exact he.elim
    |ocall S f args=>
     simp only [Yh,U1,Uq]at he
     cases hc:Q5 t f args with
     |none=>simp [hc]at he
     |some p=>
      obtain ⟨fid,avs⟩:=p
      simp only [hc]at he
      rcases he.1 q hq with h1|⟨j,hj,rfl⟩
      ·exact .inl (he.2.1 q h1)
      ·exact .inr ⟨S+j,by simp only [JS,List.mem_map,List.mem_range];exact ⟨j,hj,rfl⟩,rfl⟩
    |_=>rw [he.2]at hq;simp at hq
  unfold Ob at he
  split at he
  ·exact main he
  ·split at he
   ·split at he
    ·exact main he
    ·rw [he.2]at hq;simp at hq
   ·rw [he.2]at hq;simp at hq
   ·exact he.elim
section
variable {P:Program}{u N:Nat}{ops:Array Oper}{aops:List AOp}{pairs:List (Nat×Nat)}
/-- The pairs that the text does not part look at and alter different keys. -/
def LV (R:Run P u aops)(pairs:List (Nat×Nat)):Prop:=
  ∀p∈pairs,∀q,¬(q∈R.W p.1∧q∈R.K p.2)∧¬(q∈R.K p.1∧q∈R.W p.2)∧¬(q∈R.W p.1∧q∈R.W p.2)
theorem absent (C:Conv P N ops aops)(R:Run P u aops)(hfr0: ∀d,(R.σ 0).h (d,u)=none){j d:Nat}(hj:j<aops.length)(hd:d∈JS (aops.getD j Eb)): ∀i,i≤j→(R.σ i).h (d,u)=none:=by
  intro i
  induction i with
  |zero=>intro _;exact hfr0 d
  |succ i ih=>
   intro hi
   have ihi:=ih (by omega)
   rw [R.next i (by omega)]
   show N3 (R.σ i).h (R.up i) (d,u)=none
   rw [Ao]
   ·exact ihi
   ·intro hq
    rcases RB (C.app i (by omega)) (R.eff i (by omega)) hq with h|⟨d',h1,h2⟩
    ·exact h ihi
    ·cases h2
     exact C.clash i j d (by omega) hj (by omega) h1 hd
theorem GY (C:Conv P N ops aops)(R:Run P u aops)(hfr0: ∀d,(R.σ 0).h (d,u)=none){a b:Nat}(hab:a<b)(hb:b<aops.length)(he:DA (aops.getD a Eb) (aops.getD b Eb)=true)(q:D6):
    ¬(q∈R.W a∧q∈R.K b)∧¬(q∈R.K a∧q∈R.W b)∧¬(q∈R.W a∧q∈R.W b):=by
  simp only [DA,bD,Bool.not_eq_true',Option.isNone_iff_eq_none]at he
  obtain ⟨⟨h1,h2⟩,h3⟩:=he
  have hW: ¬q∈R.W a:=fun h=>by
    have:=(Pp (R.eff a (by omega)) h).1
    rw [h2]at this;cases this
  refine ⟨fun ⟨h,_⟩=>hW h,fun ⟨hk,hw⟩=> ?_,fun ⟨h,_⟩=>hW h⟩
  obtain ⟨d,g1,rfl⟩:=(Pp (R.eff b hb) hw).2 h1
  have hm:Pl (aops.getD b Eb).k=true:=by
    unfold Mw at h1;unfold Pl
    split at h1<;>simp_all
  exact RA h2 h3 (R.eff a (by omega)) _ hk (absent C R hfr0 hb (Qe hm g1) a (by omega))
theorem RC (C:Conv P N ops aops)(D:DrawOK ops aops pairs)(R:Run P u aops)(hfr0: ∀d,(R.σ 0).h (d,u)=none)(hap:LV R pairs){S:Nat→Bool}(hS:Qh ops S){i:Nat}(hi:i<aops.length)(hn:S i=false)
    (hd: ∀o,ops[i]? =some o→∀e∈W5 o,S e=true):
    Ob P u (aops.getD i Eb) (R.τ S aops.length).t (R.τ S aops.length).h (R.v i) (R.up i)∧
    R.τ (fun j=>S j||j==i) aops.length=after (R.τ S aops.length) (aops.getD i Eb) (R.v i) (R.up i):=by
  have hlen:=C.len
  have hoi:ops[i]? =some ops[i]:=Array.getElem?_eq_getElem (by omega)
  have hanc: ∀a∈(Mh ops).getD i [],S a=true:=Qi D.back hS i _ hoi (hd _ hoi)
  have hdown: ∀j,j<aops.length→i∈(Mh ops).getD j []→S j=false:=by
    intro j hj hij
    cases h:S j with
    |false=>rfl
    |true=>rw [GX D.back hS (by omega) h i hij]at hn;cases hn
  -- the keys
  have hkey: ∀j,j<aops.length→j≠i→∀q,(q∈R.W j∧q∈R.K i∨q∈R.K j∧q∈R.W i∨q∈R.W j∧q∈R.W i)→(S j=true↔j<i):=by
    intro j hj hji q hq
    have hc:Kc (aops.getD j Eb) (aops.getD i Eb)=true∧Kc (aops.getD i Eb) (aops.getD j Eb)=true:=by
      rcases hq with ⟨h1,h2⟩|⟨h1,h2⟩|⟨h1,h2⟩
      ·exact dX (Pp (R.eff j hj) h1).1 (Tx h2)
      ·exact (dX (Pp (R.eff i hi) h2).1 (Tx h1)).symm
      ·obtain ⟨e1,f1⟩:=Pp (R.eff j hj) h1
       obtain ⟨e2,f2⟩:=Pp (R.eff i hi) h2
       refine eH e1 e2 ?_
       rintro ⟨b1,b2,b3⟩
       obtain ⟨d1,g1,rfl⟩:=f1 b1
       obtain ⟨d2,g2,g3⟩:=f2 b2
       cases g3
       exact b3 (by rw [g1,g2])
    by_cases hlt:j<i
    ·rcases D.keys j i hlt hi hc.1 with h|h
     ·exact ⟨fun _=>hlt,fun _=>hanc j h⟩
     ·obtain ⟨a,b,c⟩: ¬(q∈R.W j∧q∈R.K i)∧¬(q∈R.K j∧q∈R.W i)∧¬(q∈R.W j∧q∈R.W i):=by
        rcases h with h|h
        ·exact hap _ h q
        ·exact GY C R hfr0 hlt hi h q
      rcases hq with hq|hq|hq
      ·exact absurd hq a
      ·exact absurd hq b
      ·exact absurd hq c
    ·have hij:i<j:=by omega
     rcases D.keys i j hij hj hc.2 with h|h
     ·have:=hdown j hj h
      rw [this]
      simp;omega
     ·obtain ⟨a,b,c⟩: ¬(q∈R.W i∧q∈R.K j)∧¬(q∈R.K i∧q∈R.W j)∧¬(q∈R.W i∧q∈R.W j):=by
        rcases h with h|h
        ·exact hap _ h q
        ·exact GY C R hfr0 hij hj h q
      rcases hq with hq|hq|hq
      ·exact absurd hq.symm b
      ·exact absurd hq.symm a
      ·exact absurd hq.symm c
  have hslot: ∀j x,j<aops.length→j≠i→(aops.getD j Eb).dst=some x→(x∈JT (aops.getD i Eb)∨(aops.getD i Eb).dst=some x)→(S j=true↔j<i):=by
    intro j x hj hji hx hor
    have hsc:=eI hx hor
    by_cases hlt:j<i
    ·exact ⟨fun _=>hlt,fun _=>hanc j (D.slots j i hlt hi hsc.1)⟩
    ·have hij:i<j:=by omega
     have:=hdown j hj (D.slots i j hij hj hsc.2)
     rw [this];simp;omega
  have hmin:min aops.length i=i:=by omega
  have hmin1:min aops.length (i+1)=i+1:=by omega
  have hne: ∀j,j≠i→(S j||j==i)=S j:=by intro j hj;simp [hj]
  constructor
  ·refine JW (t:=(R.σ i).t) (h:=(R.σ i).h) (fun x hx=> ?_) (fun q hq=> ?_) (R.eff i hi)
   ·have:=XP R S x i (fun j hj hjx=> ?_) aops.length (bK _)
    ·rw [this,hmin]
    ·by_cases e:j=i
     ·subst e;rw [hn];simp
     ·exact hslot j x hj e hjx (.inl hx)
   ·have:=XQ R S q i (fun j hj hjq=> ?_) aops.length (bK _)
    ·rw [this,hmin]
    ·by_cases e:j=i
     ·subst e;rw [hn];simp
     ·exact hkey j hj e q (.inl ⟨hjq,hq⟩)
  ·have h1:(R.τ (fun j=>S j||j==i) aops.length).t=(after (R.τ S aops.length) (aops.getD i Eb) (R.v i) (R.up i)).t:=by
     funext x
     by_cases hx:(aops.getD i Eb).dst=some x
     ·rw [Ft hx,XP R _ x (i+1) (fun j hj hjx=> ?_) aops.length (bK _),hmin1,R.next i hi,Ft hx]
      by_cases e:j=i
      ·subst e;simp
      ·rw [hne j e,hslot j x hj e hjx (.inr hx)];omega
     ·rw [Fb hx,JY R S _ i x hne hx]
   have h2:(R.τ (fun j=>S j||j==i) aops.length).h=(after (R.τ S aops.length) (aops.getD i Eb) (R.v i) (R.up i)).h:=by
     funext q
     by_cases hq:q∈R.W i
     ·rw [XQ R _ q (i+1) (fun j hj hjq=> ?_) aops.length (bK _),hmin1,R.next i hi]
      ·exact Mx _ _ _ q hq
      ·by_cases e:j=i
       ·subst e;simp
       ·rw [hne j e,hkey j hj e q (.inr (.inr ⟨hjq,hq⟩))];omega
     ·rw [JZ R S _ i q hne hq]
      exact (Ao _ _ q hq).symm
   have ext: ∀a b:St,a.t=b.t→a.h=b.h→a=b:=by rintro ⟨_,_⟩ ⟨_,_⟩ h1 h2;cases h1;cases h2;rfl
   exact ext _ _ h1 h2
theorem VL (R:Run P u aops){S:Nat→Bool}(hS: ∀i,i<aops.length→S i=true): ∀m,m≤aops.length→R.τ S m=R.σ m:=by
  intro m
  induction m with
  |zero=>intro _;rfl
  |succ m ih=>intro hm;rw [Run.τ,bB (hS m (by omega)),ih (by omega),R.next m (by omega)]
theorem GZ (R:Run P u aops){S:Nat→Bool}: ∀m,(∀i,i<m→S i=false)→R.τ S m=R.σ 0:=by
  intro m
  induction m with
  |zero=>intro _;rfl
  |succ m ih=>intro hS;rw [Run.τ,bC (by rw [hS m (by omega)];simp),ih (fun i hi=>hS i (by omega))]
/-- A list in whose order each finds carried out what must stand before it. -/
def Ord (ops:Array Oper):(Nat→Bool)→List Nat→Prop
  |_,[]=>True
  |S,i::r=>i<ops.size∧S i=false∧(∀o,ops[i]? =some o→∀e∈W5 o,S e=true)∧Ord ops (fun j=>S j||j==i) r
def Og (n:Nat)(S:Nat→Bool):List Nat:=(List.range n).filter fun i=> !S i
theorem Rp {S:Nat→Bool}(hcl:Qh ops S){i:Nat}(h3: ∀o,ops[i]? =some o→∀e∈W5 o,S e=true):Qh ops (fun j=>S j||j==i):=by
  intro j o hj hSj e he
  simp only [bE,bF]at hSj ⊢
  rcases hSj with h|rfl
  ·exact .inl (hcl j o hj h e he)
  ·exact .inl (h3 o hj e he)
theorem RD (C:Conv P N ops aops)(D:DrawOK ops aops pairs)(R:Run P u aops)(hfr0: ∀d,(R.σ 0).h (d,u)=none)(hap:LV R pairs){K:Act→World→Prop}: ∀(L:List Nat) (S:Nat→Bool) {w:World} {I:Nat→Prop} {ρ:Rho} {a:Act},
    Ord ops S L→(∀i∈L,i<aops.length)→(∀i,i<aops.length→S i=true∨i∈L)→Qh ops S→Sim w I ρ N (R.τ S aops.length) a→Free u ρ aops (Og aops.length S)→
    (∀a' w' ρ' I',Sim w' I' ρ' N (R.σ aops.length) a'→Tr w I ρ (R.τ S aops.length).h w' I' ρ' (R.σ aops.length).h→K a' w')→
    Im P ops K L a w:=by
  intro L
  induction L with
  |nil=>
   intro S w I ρ a _ _ hall hcl hs hfr hK
   have e:R.τ S aops.length=R.σ aops.length:=VL R (fun i hi=>by rcases hall i hi with h|h;exact h;simp at h) _ (bK _)
   rw [e]at hs hK
   exact hK a w ρ I hs (Tr.refl _ _ _ _)
  |cons i r ih=>
   intro S w I ρ a hord hlt hall hcl hs hfr hK
   obtain ⟨h1,h2,h3,h4⟩:=hord
   have hi:i<aops.length:=hlt i (by simp)
   obtain ⟨e1,e2⟩:=RC C D R hfr0 hap hcl hi h2 h3
   have hin:i∈Og aops.length S:=by unfold Og;rw [List.mem_filter];exact ⟨by simpa using hi,by rw [h2];rfl⟩
   refine GW C hi (L:=Og aops.length S) (L':=Og aops.length (fun j=>S j||j==i)) hin (fun j hj=> ?_) hs hfr e1 ?_
   ·unfold Og at hj ⊢
    rw [List.mem_filter]at hj ⊢
    obtain ⟨q1,q2⟩:=hj
    simp only [Bool.not_eq_true',Bool.or_eq_false_iff,beq_eq_false_iff_ne]at q2
    exact ⟨⟨q1,by rw [q2.1];rfl⟩,q2.2,by simpa using q1⟩
   ·intro a' w' ρ' I' g1 g2 g3
    rw [← e2]at g1 g2
    refine ih _ h4 (fun j hj=>hlt j (by simp [hj])) (fun j hj=> ?_) (Rp hcl h3) g1 g3 fun a2 w2 ρ2 I2 k1 k2=>hK a2 w2 ρ2 I2 k1 (g2.trans k2)
    rcases hall j hj with h|h
    ·exact .inl (by simp [h])
    ·rw [lS]at h
     rcases h with rfl|h
     ·exact .inl (by simp)
     ·exact .inr h
theorem KB {listed:Array Bool}{i:Nat}(h:i∈Region.ready .any ops listed):i<ops.size∧listed.getD i true=false∧∀o,ops[i]? =some o→∀e∈W5 o,listed.getD e false=true:=by
  unfold Region.ready at h
  rw [List.mem_filter]at h
  obtain ⟨h1,h2⟩:=h
  have hi:i<ops.size:=by simpa using h1
  have ho:ops[i]? =some ops[i]:=Array.getElem?_eq_getElem hi
  simp only [bD,Bool.not_eq_true']at h2
  refine ⟨hi,h2.1,fun o hoo e he=> ?_⟩
  rw [ho]at hoo h2
  cases hoo
  have h3:=h2.2
  simp only [lE,Option.getD_some,Array.all_eq_true]at h3
  unfold W5 at he
  simp only [List.mem_map,List.mem_filter,Array.mem_toList_iff]at he
  obtain ⟨x,⟨hx,hbx⟩,rfl⟩:=he
  obtain ⟨j,hj,rfl⟩:=Array.mem_iff_getElem.1 hx
  have:=h3 j hj
  rw [hbx]at this
  simpa using this
theorem DB {a:Array Bool}{i:Nat}{d d':Bool}(h:i<a.size):a.getD i d=a.getD i d':=by simp [Array.getD,h]
theorem RE (hback: ∀i o,ops[i]? =some o→∀e∈W5 o,e<i){listed:Array Bool}(hsz:listed.size=ops.size)(h:Region.ready .any ops listed= []): ∀i,i<ops.size→listed.getD i false=true:=by
  intro i
  induction i using Nat.strongRecOn with
  |_ i ih=>
   intro hi
   have ho:ops[i]? =some ops[i]:=Array.getElem?_eq_getElem hi
   have hnot:i∉Region.ready .any ops listed:=by rw [h];simp
   unfold Region.ready at hnot
   rw [List.mem_filter]at hnot
   cases hl:listed.getD i false with
   |true=>rfl
   |false=>
    exfalso
    apply hnot
    refine ⟨by simpa using hi,?_⟩
    rw [DB (d:=true) (d':=false) (by omega),hl,ho]
    simp only [Bool.not_false,Bool.true_and,lE,Option.getD_some,Array.all_eq_true]
    intro j hj
    cases hb:Region.binds .any (ops[i].after[j])with
    |false=>rfl
    |true=>
     have hm:(ops[i].after[j]).on∈W5 ops[i]:=by
       unfold W5
       simp only [List.mem_map,List.mem_filter,Array.mem_toList_iff]
       exact ⟨_,⟨Array.getElem_mem hj,hb⟩,rfl⟩
     have:=hback i _ ho _ hm
     rw [ih _ this (by omega)];simp
/-- The drawn list is one. -/
theorem Ty (hback: ∀i o,ops[i]? =some o→∀e∈W5 o,e<i): ∀(fuel t:Nat) (listed:Array Bool),listed.size=ops.size→(Og ops.size fun i=>listed.getD i false).length≤fuel→
    Ord ops (fun i=>listed.getD i false) (Region.linearise.go .any ops fuel t listed [])∧∀i,i<ops.size→listed.getD i false=true∨i∈Region.linearise.go .any ops fuel t listed []:=by
  intro fuel
  induction fuel with
  |zero=>
   intro t listed hsz hf
   refine ⟨by simp [Region.linearise.go,Ord],fun i hi=> .inl ?_⟩
   cases hl:listed.getD i false with
   |true=>rfl
   |false=>
    have:i∈Og ops.size fun i=>listed.getD i false:=by unfold Og;rw [List.mem_filter];exact ⟨by simpa using hi,by dsimp only;rw [hl];rfl⟩
    rw [lY (Nat.le_zero.1 hf)]at this;simp at this
  |succ fuel ih=>
   intro t listed hsz hf
   have e0:Region.linearise.go .any ops (fuel+1) t listed []=(match (Region.ready .any ops listed)[t % (Region.ready .any ops listed).length]? with
     |some i=>Region.linearise.go .any ops fuel (t / (Region.ready .any ops listed).length) (listed.setIfInBounds i true) [i]
     |none=> [].reverse):=rfl
   rw [e0]
   cases hi:(Region.ready .any ops listed)[t % (Region.ready .any ops listed).length]? with
   |none=>
    have hnil:Region.ready .any ops listed= []:=by
      cases hr:Region.ready .any ops listed with
      |nil=>rfl
      |cons x xs=>
       rw [hr]at hi
       have hlt:t % (x::xs).length< (x::xs).length:=Nat.mod_lt _ (by simp)
       simp at hi
       simp at hlt
       omega
    exact ⟨by simp [Ord],fun i hi=> .inl (RE hback hsz hnil i hi)⟩
   |some i=>
    obtain ⟨h1,h2,h3⟩:=KB (lF hi)
    dsimp only
    rw [linearise_go_acc,List.reverse_singleton,List.singleton_append]
    have hn:listed.getD i false=false:=by rw [DB (d:=false) (d':=true) (by omega)];exact h2
    have hget: ∀j,(listed.setIfInBounds i true).getD j false=(listed.getD j false||j==i):=by
      intro j
      simp only [Array.getD_eq_getD_getElem?,Array.getElem?_setIfInBounds]
      by_cases hji:i=j
      ·subst hji;simp [show i<listed.size by omega]
      ·rw [bC hji];simp [Ne.symm hji]
    have hfun:(fun j=>(listed.setIfInBounds i true).getD j false)=fun j=>listed.getD j false||j==i:=funext hget
    obtain ⟨g1,g2⟩:=ih (t / (Region.ready .any ops listed).length) (listed.setIfInBounds i true) (by simpa using hsz) (by
      have:(Og ops.size fun j=>(listed.setIfInBounds i true).getD j false).length< (Og ops.size fun j=>listed.getD j false).length:=by
        unfold Og
        refine OB (fun j _ hj=> ?_) (x:=i) (by simpa using h1) (by dsimp only;rw [hn];rfl) (by dsimp only;rw [hget];simp)
        dsimp only at hj ⊢
        rw [hget]at hj
        cases hq:listed.getD j false<;>simp_all
      omega)
    rw [hfun]at g1
    refine ⟨⟨h1,hn,h3,g1⟩,fun j hj=> ?_⟩
    rcases g2 j hj with h|h
    ·rw [hget]at h
     simp only [bE,bF]at h
     rcases h with h|h
     ·exact .inl h
     ·exact .inr (by simp [h])
    ·exact .inr (by simp [h])
end
end Go.Abs
namespace Go.Abs
open Go
/-! ### Weaker values -/
def DLe (x y:D):Prop:= ∀w I v,RepD w I x v→RepD w I y v
def AVle (x y:AV):Prop:= ∀w I ρ v,RepV w I ρ x v→RepV w I ρ y v
theorem DLe.refl (x:D):DLe x x:=fun _ _ _ h=>h
theorem DLe.of {x y:D}(h:x=y):DLe x y:=h▸DLe.refl x
theorem DLe.nil:DLe .nilS (.list []):=by
  intro w I v h
  cases h with|nilS A=>exact .lnil A 0
theorem DLe.d {x y:D}(h:DLe x y):AVle (.d x) (.d y):=by
  intro w I ρ v hv
  cases hv with|d _ _ hx=>exact .d _ _ (h _ _ _ hx)
theorem AVle.refl (x:AV):AVle x x:=fun _ _ _ _ h=>h
theorem AVle.of {x y:AV}(h:x=y):AVle x y:=h▸AVle.refl x
theorem AVle.any (x:AV):AVle x .any:=fun _ _ _ _ _=> .any _
inductive All2 {α β:Type}(R:α→β→Prop):List α→List β→Prop
  |nil:All2 R [] []
  |cons {a:α} {b:β} {l:List α} {m:List β} (h:R a b) (t:All2 R l m):All2 R (a::l) (b::m)
theorem All2.length {α β:Type}{R:α→β→Prop}{l:List α}{m:List β}(h:All2 R l m):l.length=m.length:=by
  induction h with
  |nil=>rfl
  |cons _ _ ih=>simp [ih]
theorem All2.get {α β:Type}{R:α→β→Prop}{l:List α}{m:List β}(h:All2 R l m): ∀{i:Nat} {b:β},m[i]? =some b→∃a,l[i]? =some a∧R a b:=by
  induction h with
  |nil=>intro i b hb;simp at hb
  |cons h t ih=>
   intro i b hb
   cases i with
   |zero=>simp at hb;subst hb;exact ⟨_,rfl,h⟩
   |succ i=>simpa using ih (by simpa using hb)
theorem DLe.agg {xs ys:List D}(h:All2 (fun x y=>DLe x y∧y.one=true) xs ys):DLe (.agg xs) (.agg ys):=by
  intro w I v hv
  cases hv with
  |agg _ vs hl hone hr=>
   refine .agg ys vs (by rw [← h.length];exact hl) (fun i d hi=> ?_) (fun i d hi=> ?_)
   ·obtain ⟨a,_,h2⟩:=h.get hi;exact h2.2
   ·obtain ⟨a,h1,h2⟩:=h.get hi;exact h2.1 _ _ _ (hr i a h1)
theorem DLe.tup {xs ys:List D}(h:All2 DLe xs ys):DLe (.tup xs) (.tup ys):=by
  intro w I v hv
  cases hv with
  |tup _ vs hl hr=>
   refine .tup ys vs (by rw [← h.length];exact hl) (fun i d hi=> ?_)
   obtain ⟨a,h1,h2⟩:=h.get hi;exact h2 _ _ _ (hr i a h1)
inductive BlkLe:Blk→Blk→Prop
  |refl (b:Blk):BlkLe b b
  |box {ty:TypeId} {xs ys:List AV} (h:All2 AVle xs ys):BlkLe (.box ty xs) (.box ty ys)
theorem BlkLe.of {b b':Blk}(h:b=b'):BlkLe b b':=h▸BlkLe.refl b
theorem BlkLe.ok {b b':Blk}(h:BlkLe b b'){w:World}{I:Nat→Prop}{ρ:Rho}{k:D6}(hb:BlkOK w I ρ k b):BlkOK w I ρ k b':=by
  cases h with
  |refl=>exact hb
  |box h=>
   obtain ⟨g,vs,h1,h2,h3,h4,h5⟩:=hb
   exact ⟨g,vs,h1,h2,by rw [← h.length];exact h3,h4,fun i c hi=>by obtain ⟨a,e1,e2⟩:=h.get hi;exact e2 _ _ _ _ (h5 i a e1)⟩
theorem BlkLe.loc {b b':Blk}(h:BlkLe b b')(ρ:Rho)(k:D6):L9 ρ k b'=L9 ρ k b:=by cases h<;>rfl
theorem BlkLe.obj {b:Blk}{t:Nat→AV}{r:Loop}(h:BlkLe b (.obj t r)):b= .obj t r:=by cases h;rfl
theorem All2.trans {xs ys zs:List AV}(h:All2 AVle xs ys):All2 AVle ys zs→All2 AVle xs zs:=by
  induction h generalizing zs with
  |nil=>intro h';cases h';exact .nil
  |cons q _ ih=>intro h';cases h' with|cons q' t'=>exact .cons (fun w I ρ v hv=>q' _ _ _ _ (q _ _ _ _ hv)) (ih t')
theorem BlkLe.trans {a b c:Blk}(h:BlkLe a b)(h':BlkLe b c):BlkLe a c:=by
  cases h with
  |refl=>exact h'
  |box h=>
   cases h' with
   |refl=>exact .box h
   |box h'=>exact .box (h.trans h')
/-- A state of which less is known. -/
structure Sb (s0 s:St):Prop where
  t: ∀i,AVle (s.t i) (s0.t i)
  h: ∀k b0,s0.h k=some b0→∃b,s.h k=some b∧BlkLe b b0
theorem Sb.trans {a b c:St}(h:Sb a b)(h':Sb b c):Sb a c:=
  ⟨fun i _ _ _ _ hv=>h.t i _ _ _ _ (h'.t i _ _ _ _ hv),fun k b0 hb=>by obtain ⟨b1,e1,l1⟩:=h.h k b0 hb;obtain ⟨b2,e2,l2⟩:=h'.h k b1 e1;exact ⟨b2,e2,l2.trans l1⟩⟩
theorem Sb.refl (s:St):Sb s s:=⟨fun _=> .refl _,fun _ b h=>⟨b,h, .refl b⟩⟩
section
variable {N:Nat}{s:St}
theorem Sb.heapOK {w:World}{I:Nat→Prop}{ρ:Rho}{s0:St}(S:Sb s0 s)(H:HeapOK w I ρ s.h):HeapOK w I ρ s0.h where
  blk k b h:=by obtain ⟨b1,h1,h2⟩:=S.h k b h;exact h2.ok (H.blk k b1 h1)
  sep k k' b b' g h1 h2 h3 h4:=by
    obtain ⟨b1,q1,q2⟩:=S.h k b h1
    obtain ⟨b2,r1,r2⟩:=S.h k' b' h2
    exact H.sep k k' b1 b2 g q1 r1 (by rw [← q2.loc];exact h3) (by rw [← r2.loc];exact h4)
  notI k b g h1 h2:=by obtain ⟨b1,q1,q2⟩:=S.h k b h1;exact H.notI k b1 g q1 (by rw [← q2.loc];exact h2)
  lt k b g h1 h2:=by obtain ⟨b1,q1,q2⟩:=S.h k b h1;exact H.lt k b1 g q1 (by rw [← q2.loc];exact h2)
  ilt:=H.ilt
  fresh:=H.fresh
  rone:=H.rone
theorem Sb.own {ρ:Rho}{s0:St}(S:Sb s0 s){g:Nat}(h:own ρ s0.h g):Abs.own ρ s.h g:=by
  obtain ⟨k,b,h1,h2⟩:=h
  obtain ⟨b1,q1,q2⟩:=S.h k b h1
  exact ⟨k,b1,q1,by rw [← q2.loc];exact h2⟩
theorem Sb.sim {w:World}{I:Nat→Prop}{ρ:Rho}{a:Act}{s0:St}(S:Sb s0 s)(hs:Sim w I ρ N s a):Sim w I ρ N s0 a:=
  ⟨hs.size,⟨hs.defers.nd,fun x hx=>by obtain ⟨r,h1,h2,h3,h4⟩:=hs.defers.each x hx;exact ⟨r,h1,h2,h3,fun ho=>h4 (S.own ho)⟩⟩,fun i=>S.t i _ _ _ _ (hs.tmp i),S.heapOK hs.heap⟩
theorem Sb.tr {w w':World}{I I':Nat→Prop}{ρ ρ':Rho}{s0:St}{h2:D2}(S:Sb s0 s)(t:Tr w I ρ s0.h w' I' ρ' h2):Tr w I ρ s.h w' I' ρ' h2:=
  ⟨t.os,t.tape,t.output,t.size,fun b hb hn=>t.frame b hb (fun ho=>hn (S.own ho)),t.imm,fun b hb hl=>(t.immBack b hb hl).imp id S.own,fun b hb hl=>S.own (t.ownBack b hb hl),t.rho⟩
theorem Sb.fresh {s0:St}(S:Sb s0 s){u:Nat}(h: ∀q,s.h q≠none→q.2≠u): ∀q,s0.h q≠none→q.2≠u:=by
  intro q hq
  cases e:s0.h q with
  |none=>exact absurd e hq
  |some b0=>obtain ⟨b,hb,_⟩:=S.h q b0 e;exact h q (by rw [hb];simp)
end
end Go.Abs
namespace Go.Abs
open Go
/-! ### Regions, carried out on abstract states -/
def DC (P:Program)(t:Nat→AV)(h:D2)(f:Opd)(args:List Opd)(K:AV→Prop):Prop:=match Q5 t f args with
  |some (fid,avs)=>match M7 (L8 h 6) avs with
   |some ds=> ∃r,PCall P fid ds r∧(Fa avs=some ds∨GO r=true)∧K (.d r)
   |none=>False
  |none=>False
def Rr (P:Program)(u:Nat)(t:Nat→AV)(h:D2)(S:Nat)(f:Opd)(args:List Opd)(K:AV→List (D6×Option Blk)→Prop):Prop:=match Q5 t f args with
  |some (fid,avs)=> ∃v ups,(∀q∈ups.map (·.1),q∈avs.flatMap (O6 h 6)∨∃j,j<6∧q=(S+j,u))∧(∀q∈avs.flatMap (O6 h 6),h q≠none)∧FCall P u S fid avs (O7 h (avs.flatMap (O6 h 6))) v ups∧K v ups
  |none=>False
theorem Xs {P:Program}{u S:Nat}{t:Nat→AV}{h:D2}{f:Opd}{args:List Opd}{A B:AV→List (D6×Option Blk)→Prop}(hAB: ∀v ups,A v ups→B v ups)(ho:Rr P u t h S f args A):Rr P u t h S f args B:=by
  unfold Rr at ho ⊢
  split at ho
  ·obtain ⟨v,ups,h1,h2,h3,h4⟩:=ho
   exact ⟨v,ups,h1,h2,h3,hAB _ _ h4⟩
  ·exact ho.elim
def Ve (P:Program)(u:Nat)(dst:Option Nat)(t:Nat→AV)(h:D2)(k:AK)(K:AV→List (D6×Option Blk)→Prop):Prop:=match k with
  | .alloc ty z=>match dst with
    |some d=>match Kj u d t (.alloc ty z)with|some (v,b)=>K v [((d,u),some b)]|none=>False
    |none=>False
  | .box ty ag x=>match dst with
    |some d=>match Kj u d t (.box ty ag x)with|some (v,b)=>K v [((d,u),some b)]|none=>False
    |none=>False
  | .bslice e sz n z ps=>match dst with
    |some d=>match Kj u d t (.bslice e sz n z ps)with|some (v,b)=>K v [((d,u),some b)]|none=>False
    |none=>False
  | .mkmap=>match dst with
    |some d=>match Kj u d t .mkmap with|some (v,b)=>K v [((d,u),some b)]|none=>False
    |none=>False
  | .mins m x=>match Dz u (dst.getD 0) t h (.mins m x)with|some (v,ups)=>K v ups|none=>False
  | .store n p x=>match Dz u (dst.getD 0) t h (.store n p x)with|some (v,ups)=>K v ups|none=>False
  | .append ty e sz x y=>match Dz u (dst.getD 0) t h (.append ty e sz x y)with|some (v,ups)=>K v ups|none=>False
  | .call f args=>DC P t h f args fun v=>K v []
  | .icall _ _=>False
  | .ocall S f args=>Rr P u t h S f args K
  | .oslice sz x lo hi mx=>match dst with
    |some d=>match Dz u d t h (.oslice sz x lo hi mx)with|some (v,ups)=>K v ups|none=>False
    |none=>False
  |k=>match G7 t h k with|some v=>K v []|none=>False
def gW (g:Option (Nat×Bool))(t:Nat→AV)(K:AV→List (D6×Option Blk)→Prop)(body:Prop):Prop:=match g with
  |none=>body
  |some (g,b)=>match t g with
   | .d (.v (.bool c))=>if c=b then body else K (.d (.tup [])) []
   | .d (.tup [])=>K (.d (.tup [])) []
   |_=>False
/-- A call of a function that may alter what is the run's own. -/
def ICall (P:Program)(f:FuncId)(avs:List AV)(h:D2)(K:AV→D2→Prop):Prop:=
  Zs P f∧∀(w:World) (I:Nat→Prop) (ρ:Rho) (vs:List Value),HeapOK w I ρ h→avs.length=vs.length→(∀(i:Nat) c,avs[i]? =some c→RepV w I ρ c (vs.getD i undef))→
   Calls P f vs.toArray w fun e w'=> ∃x v I' ρ' h',e= .returned x∧RepV w' I' ρ' v x∧HeapOK w' I' ρ' h'∧Tr w I ρ h w' I' ρ' h'∧K v h'
/-- A loop's body, called by the function over which the loop ranges. -/
def YCall (P:Program)(k:D6)(avs:List AV)(h:D2)(K:AV→D2→Prop):Prop:=
  ∀(w:World) (I:Nat→Prop) (ρ:Rho) (l:Nat) (vs:List Value),HeapOK w I ρ h→ρ k=some (.pointer (some ⟨l,0,none⟩))→avs.length=vs.length→(∀(i:Nat) c,avs[i]? =some c→RepV w I ρ c (vs.getD i undef))→
   ∃f tmps as bd,(Instr.yield l vs.toArray).run P w= .ok (.round l f tmps as bd) w∧
    PX P l f tmps as bd w fun x w'=> ∃v I' ρ' h',RepV w' I' ρ' v x∧HeapOK w' I' ρ' h'∧Tr w I ρ h w' I' ρ' h'∧K v h'
def Us (P:Program)(t:Nat→AV)(h:D2)(f:Opd)(args:List Opd)(K:AV→D2→Prop):Prop:=match ev t f with
  | .yld k=>YCall P k (args.map (ev t)) h K
  |_=>match Q5 t f args with
   |some (fid,avs)=>ICall P fid avs h K
   |none=>False
def K1 (P:Program):Nat→List AOp→(Nat→AV)→D2→((Nat→AV)→D2→Prop)→Prop
  |_,[],t,h,K=>K t h
  |u,⟨dst,k,g⟩::r,t,h,K=>match k with
   | .icall f args=>gW g t (fun v ups=>K1 P u r (Mg t dst v) (N3 h ups) K)<|Us P t h f args fun v h'=> ∀u',(∀q,h' q≠none→q.2≠u')→∃s0,Sb s0 ⟨Mg t dst v,h'⟩∧K1 P u' r s0.t s0.h K
   |k=>gW g t (fun v ups=>K1 P u r (Mg t dst v) (N3 h ups) K) (Ve P u dst t h k fun v ups=>K1 P u r (Mg t dst v) (N3 h ups) K)
/-- With what is looked at and altered. -/
def Di (P:Program)(u:Nat):List AOp→(Nat→AV)→D2→((Nat→AV)→D2→List (List D6×List D6)→Prop)→Prop
  | [],t,h,K=>K t h []
  |⟨dst,k,g⟩::r,t,h,K=>
   gW g t (fun v ups=>Di P u r (Mg t dst v) (N3 h ups) fun t' h' tr=>K t' h' ((W2 t h k,ups.map (·.1))::tr))
    (Ve P u dst t h k fun v ups=>Di P u r (Mg t dst v) (N3 h ups) fun t' h' tr=>K t' h' ((W2 t h k,ups.map (·.1))::tr))
section
variable {P:Program}{u N:Nat}{ops:Array Oper}{aops:List AOp}{pairs:List (Nat×Nat)}
theorem LW {dst:Option Nat}{k:AK}{g:Option (Nat×Bool)}{t:Nat→AV}{h:D2}{K:AV→List (D6×Option Blk)→Prop}(hw:Ve P u dst t h k K): ∃v ups,Yh P u ⟨dst,k,g⟩ t h v ups∧K v ups:=by
  unfold Ve at hw
  split at hw
  ·split at hw
   ·split at hw
    ·exact ⟨_,_,⟨_,_,rfl,‹_›,rfl⟩,hw⟩
    ·exact hw.elim
   ·exact hw.elim
  ·split at hw
   ·split at hw
    ·exact ⟨_,_,⟨_,_,rfl,‹_›,rfl⟩,hw⟩
    ·exact hw.elim
   ·exact hw.elim
  ·split at hw
   ·split at hw
    ·exact ⟨_,_,⟨_,_,rfl,‹_›,rfl⟩,hw⟩
    ·exact hw.elim
   ·exact hw.elim
  ·split at hw
   ·split at hw
    ·exact ⟨_,_,⟨_,_,rfl,‹_›,rfl⟩,hw⟩
    ·exact hw.elim
   ·exact hw.elim
  ·split at hw
   ·exact ⟨_,_,‹_›,hw⟩
   ·exact hw.elim
  ·split at hw
   ·exact ⟨_,_,‹_›,hw⟩
   ·exact hw.elim
  ·split at hw
   ·exact ⟨_,_,‹_›,hw⟩
   ·exact hw.elim
  ·rename_i f args
   unfold DC at hw
   split at hw
   ·rename_i fid avs hc
    split at hw
    ·rename_i ds hds
     obtain ⟨r,h1,h2,h3⟩:=hw
     refine ⟨.d r,[],⟨?_,rfl⟩,h3⟩
     simp only [Xq,hc]
     exact ⟨ds,r,hds,h1,h2,rfl⟩
    ·exact hw.elim
   ·exact hw.elim
  ·exact hw.elim
  ·unfold Rr at hw
   split at hw
   ·rename_i fid avs hc
    obtain ⟨v,ups,h1,h2,h3,h4⟩:=hw
    exact ⟨v,ups,by simp only [Yh,U1,Uq,hc];exact ⟨h1,h2,h3⟩,h4⟩
   ·exact hw.elim
  ·split at hw
   ·split at hw
    ·exact ⟨_,_,⟨_,rfl,‹_›⟩,hw⟩
    ·exact hw.elim
   ·exact hw.elim
  ·rename_i n1 n2 n3 n4 n5 n6 n7 n8 n9 n10 n11
   split at hw
   ·rename_i v hv
    refine ⟨v,[],?_,hw⟩
    have:U1 k=0:=by
      cases k<;>first|rfl|exact (n1 _ _ rfl).elim|exact (n2 _ _ _ rfl).elim|exact (n3 _ _ _ _ _ rfl).elim|exact (n4 _ _ _ rfl).elim|exact (n5 _ _ _ _ _ rfl).elim|exact (n6 _ _ rfl).elim|exact (n7 _ _ rfl).elim|exact (n8 _ _ _ rfl).elim|exact (n9 _ _ rfl).elim|exact (n10 _ _ _ rfl).elim|exact (n4 rfl).elim|exact (n5 _ _ rfl).elim|exact (n6 _ _ _ rfl).elim|exact (n7 _ _ _ _ _ rfl).elim|exact (n8 _ _ rfl).elim|exact (n11 _ _ _ _ _ rfl).elim
    unfold Yh
    dsimp only
    rw [this]
    exact ⟨hv,rfl⟩
   ·exact hw.elim
theorem RF {dst:Option Nat}{k:AK}{g:Option (Nat×Bool)}{t:Nat→AV}{h:D2}{K:AV→List (D6×Option Blk)→Prop}(hw:gW g t K (Ve P u dst t h k K)): ∃v ups,Ob P u ⟨dst,k,g⟩ t h v ups∧K v ups:=by
  unfold gW at hw
  split at hw
  ·obtain ⟨v,ups,h1,h2⟩:=LW (g:=none) hw
   exact ⟨v,ups,h1,h2⟩
  ·rename_i g b
   split at hw
   ·rename_i c hc
    split at hw
    ·rename_i hcb
     obtain ⟨v,ups,h1,h2⟩:=LW (g:=some (g,b)) hw
     exact ⟨v,ups,by simp only [Ob,hc,hcb,if_true];exact h1,h2⟩
    ·rename_i hcb
     exact ⟨.d (.tup []),[],by simp [Ob,hc,hcb],hw⟩
   ·rename_i hc
    exact ⟨.d (.tup []),[],by simp [Ob,hc],hw⟩
   ·exact hw.elim
/-- A run, as lists. -/
def RT (P:Program)(u:Nat):List AOp→St→St→List (List D6×List D6)→Prop
  | [],s,s',tr=>s'=s∧tr= []
  |o::r,s,s'',tr=> ∃v ups tr',Ob P u o s.t s.h v ups∧tr=(W2 s.t s.h o.k,ups.map (·.1))::tr'∧RT P u r (after s o v ups) s'' tr'
theorem EO: ∀{aops:List AOp} {s:St} {K:(Nat→AV)→D2→List (List D6×List D6)→Prop},Di P u aops s.t s.h K→∃s' tr,RT P u aops s s' tr∧K s'.t s'.h tr
  | [],s,K,h=>⟨s,[],by simp [RT],h⟩
  |⟨dst,k,g⟩::r,s,K,h=>by
   obtain ⟨v,ups,h1,h2⟩:=RF h
   obtain ⟨s',tr,h3,h4⟩:=EO (s:=after s ⟨dst,k,g⟩ v ups) h2
   exact ⟨s',_,⟨v,ups,tr,h1,rfl,h3⟩,h4⟩
def shift {α:Type}(x:α)(f:Nat→α):Nat→α
  |0=>x
  |n+1=>f n
theorem RT.run: ∀{aops:List AOp} {s s':St} {tr:List (List D6×List D6)},RT P u aops s s' tr→∃R:Run P u aops,R.σ 0=s∧R.σ aops.length=s'∧tr.length=aops.length∧∀i,i<aops.length→tr[i]? =some (R.K i,R.W i)
  | [],s,s',tr,h=>⟨⟨fun _=>s,fun _=> .any,fun _=> [],fun i hi=>by simp at hi,fun i hi=>by simp at hi⟩,rfl,h.1.symm,by simp [h.2],fun i hi=>by simp at hi⟩
  |o::r,s,s'',tr,⟨v,ups,tr',h1,h2,h3⟩=>by
   obtain ⟨R,g0,g1,g2,g3⟩:=h3.run
   refine ⟨⟨shift s R.σ,shift v R.v,shift ups R.up,fun i hi=> ?_,fun i hi=> ?_⟩,rfl,g1,by simp [h2,g2],fun i hi=> ?_⟩
   ·cases i with
    |zero=>exact h1
    |succ i=>exact R.eff i (by simpa using hi)
   ·cases i with
    |zero=>exact g0
    |succ i=>exact R.next i (by simpa using hi)
   ·subst h2
    cases i with
    |zero=>rfl
    |succ i=>exact g3 i (by simpa using hi)
def EP (tr:List (List D6×List D6))(pairs:List (Nat×Nat)):Bool:=
  pairs.all fun p=>match tr[p.1]?,tr[p.2]? with
    |some (k1,w1),some (k2,w2)=>(w1.all fun q=> !k2.contains q&& !w2.contains q)&&k1.all fun q=> !w2.contains q
    |_,_=>true
theorem RG {R:Run P u aops}{tr:List (List D6×List D6)}(htr: ∀i,i<aops.length→tr[i]? =some (R.K i,R.W i))(hlt: ∀p∈pairs,p.1<aops.length∧p.2<aops.length)(h:EP tr pairs=true):LV R pairs:=by
  intro p hp q
  have:=lX.1 h p hp
  rw [htr _ (hlt p hp).1,htr _ (hlt p hp).2]at this
  simp only [bD,lX,Bool.not_eq_true',List.contains_eq_mem,bG]at this
  exact ⟨fun ⟨a,b⟩=>(this.1 q a).1 b,fun ⟨a,b⟩=>this.2 q a b,fun ⟨a,b⟩=>(this.1 q a).2 b⟩
theorem Sim.fresh_u {w:World}{I:Nat→Prop}{ρ:Rho}{s:St}{a:Act}(hs:Sim w I ρ N s a): ∃u,(∀d,ρ (d,u)=none)∧∀k,s.h k≠none→k.2≠u:=by
  obtain ⟨u0,hu⟩:=hs.heap.fresh
  refine ⟨u0,fun d=>hu d u0 (bK _),fun k hk e=> ?_⟩
  cases hb:s.h k with
  |none=>exact hk hb
  |some b=>
   obtain ⟨x,hx⟩:=(hs.heap.blk k b hb).rho
   obtain ⟨k1,k2⟩:=k
   subst e
   rw [hu k1 _ (bK _)]at hx;cases hx
theorem Free.of {ρ:Rho}{l:List Nat}(h: ∀d,ρ (d,u)=none):Free u ρ aops l:=fun _ _ d _=>h d
theorem KC (C:Conv P N ops aops)(D:DrawOK ops aops pairs)(hlen:aops.length=ops.size){s s':St}(R:Run P u aops)(hfr0: ∀d,s.h (d,u)=none)(h0:R.σ 0=s)(h1:R.σ aops.length=s')(hap:LV R pairs){K:Act→World→Prop}(t:Nat){w:World}{I:Nat→Prop}{ρ:Rho}{a:Act}
    (hm:P.follows .mixedOrders=true) (hs:Sim w I ρ N s a) (hfr: ∀d,ρ (d,u)=none) (hK: ∀a' w' ρ' I',Sim w' I' ρ' N s' a'→Tr w I ρ s.h w' I' ρ' s'.h→K a' w'):
    Im P ops K (Region.schedule (P.follows .mixedOrders) ops t) a w:=by
  simp only [Region.schedule,hm,Bool.true_or,if_true,Region.linearise]
  have hn: ∀i,(fun i=>(Array.replicate ops.size false).getD i false) i=false:=by
    intro i
    simp [Array.getD_eq_getD_getElem?,Array.getElem?_replicate]
    split<;>rfl
  have e0:R.τ (fun i=>(Array.replicate ops.size false).getD i false) aops.length=s:=by rw [GZ R _ (fun i _=>hn i),h0]
  obtain ⟨o1,o2⟩:=Ty D.back ops.size t (Array.replicate ops.size false) (by simp) (by
    unfold Og
    exact Nat.le_trans (List.length_filter_le _ _) (by simp))
  have olt: ∀(L:List Nat) (S:Nat→Bool),Ord ops S L→∀i∈L,i<ops.size:=by
    intro L
    induction L with
    |nil=>intro S _ i hi;simp at hi
    |cons j r ih=>
     intro S h i hi
     rcases lS.1 hi with rfl|hi
     ·exact h.1
     ·exact ih _ h.2.2.2 i hi
  refine RD C D R (by rw [h0];exact hfr0) hap _ _ o1 (fun i hi=>by rw [hlen];exact olt _ _ o1 i hi) (fun i hi=>o2 i (by omega)) (fun i o hi h=> ?_) (by rw [e0];exact hs) (Free.of hfr) ?_
  ·have:=hn i;dsimp only at this h;rw [this]at h;cases h
  ·rw [e0,h1];exact hK
theorem OD {w:World}{I:Nat→Prop}{ρ:Rho}{s:St}{a:Act}{o:Oper}{f:Opd}{args:List Opd}(hk:M3 P o.op=some (.call f args))(hs:Sim w I ρ N s a){q:D6}(hf:ev s.t f= .yld q):
    ∃(l:Nat) (vs:List Value),ρ q=some (.pointer (some ⟨l,0,none⟩))∧(execOp a.eval o).run P w=(Instr.yield l vs.toArray).run P w∧(args.map (ev s.t)).length=vs.length∧∀(i:Nat) c,(args.map (ev s.t))[i]? =some c→RepV w I ρ c (vs.getD i undef):=by
  have ht:=Ib hk
  obtain ⟨c,hop⟩: ∃c,o.op= .call c:=by
    cases hq:o.op<;>rw [hq]at ht<;>simp [U1,Qd]at ht
    exact ⟨_,rfl⟩
  rw [hop]at hk
  obtain ⟨cal,as,tys⟩:=c
  rw [hop]at ht
  simp only [U1,Qd]at ht
  cases cal with
  |value fo=>
   simp only [M3,lB]at hk
   obtain ⟨of_,hof,hk⟩:=bind_some hk
   obtain ⟨oas,hoas,hk⟩:=bind_some hk
   cases hk
   have hfr:=M6 hs hof
   rw [hf]at hfr
   obtain ⟨l1,l2⟩:=Vj hs hoas
   generalize hy:a.eval fo=y at hfr
   cases hfr with
   |yld _ l hl=>
    refine ⟨l,as.toList.map a.eval,hl,?_,by simpa using l1,fun i c hi=> ?_⟩
    ·unfold execOp
     rw [hop]
     have hm:(Array.map a.eval as)=(as.toList.map a.eval).toArray:=by apply Array.ext';simp
     simp [resolve,Deferred.ofValue,hy,invoke,hm]
    ·rw [lI]at hi
     cases hq:args[i]? with
     |none=>rw [hq]at hi;cases hi
     |some q=>
      rw [hq]at hi;cases hi
      have:=l2 _ q hq
      rwa [List.getD]at this
  |builtin b=>cases b<;>simp [Wr]at ht
  |invoke r m=>simp [Wr]at ht
theorem HA {w:World}{I:Nat→Prop}{ρ:Rho}{s:St}{a:Act}{o:Oper}{f:Opd}{args:List Opd}{KK:AV→D2→Prop}(hk:M3 P o.op=some (.call f args))(hs:Sim w I ρ N s a)(hv:Us P s.t s.h f args KK){K:Act→World→Prop}
    (hK: ∀x v w' I' ρ' h',RepV w' I' ρ' v x→HeapOK w' I' ρ' h'→Tr w I ρ s.h w' I' ρ' h'→KK v h'→K (a.put o.dst x) w'):YP P o a w K:=by
  have hdef:Mf o.op=false:=by
    have ht:=Ib hk
    cases hq:o.op<;>rw [hq]at ht<;>simp [U1,Qd]at ht<;>rfl
  refine ⟨hdef,?_⟩
  unfold Us at hv
  split at hv
  ·rename_i q hq
   obtain ⟨l,vs,h1,h2,h3,h4⟩:=OD hk hs hq
   obtain ⟨fn,tmps,as,bd,g1,g2⟩:=hv w I ρ l vs hs.heap h1 h3 h4
   rw [h2,g1]
   intro c cs
   obtain ⟨x,w',⟨v,I',ρ',h',r1,r2,r3,r4⟩,st⟩:=g2 c cs
   exact ⟨x,w',hK x v w' I' ρ' h' r1 r2 r3 r4,st⟩
  ·split at hv
   ·rename_i fid avs hc
    obtain ⟨vs,h1,h2,h3⟩:=Zt hk rfl hs hc hv.1
    rw [h1]
    refine (hv.2 w I ρ vs hs.heap h2 h3).mono ?_
    rintro e w' ⟨x,v,I',ρ',h',rfl,r1,r2,r3,r4⟩
    exact ⟨x,rfl,hK x v w' I' ρ' h' r1 r2 r3 r4⟩
   ·exact hv.elim
/-- The operations in the order of the text. -/
theorem Zw (C:Conv P N ops aops){K:Act→World→Prop}{K':(Nat→AV)→D2→Prop}: ∀(n m u:Nat) {w:World} {I:Nat→Prop} {ρ:Rho} {s:St} {a:Act},m+n=aops.length→Sim w I ρ N s a→Free u ρ aops (List.range' m n)→
    K1 P u (aops.drop m) s.t s.h K'→
    (∀s' a' w' ρ' I',K' s'.t s'.h→Sim w' I' ρ' N s' a'→Tr w I ρ s.h w' I' ρ' s'.h→K a' w')→Im P ops K (List.range' m n) a w:=by
  intro n
  induction n with
  |zero=>
   intro m u w I ρ s a hmn hs hfr hr hK
   have:aops.drop m= []:=List.drop_of_length_le (by omega)
   rw [this]at hr
   exact hK s a w ρ I (by simpa [K1] using hr) hs (Tr.refl _ _ _ _)
  |succ n ih=>
   intro m u w I ρ s a hmn hs hfr hr hK
   have hm:m<aops.length:=by omega
   have hget:aops.getD m Eb=aops[m]:=by simp [List.getD,hm]
   rw [List.drop_eq_getElem_cons hm,← hget]at hr
   rw [List.range'_succ]at hfr ⊢
   have hpure:(∃v ups,Ob P u (aops.getD m Eb) s.t s.h v ups∧K1 P u (aops.drop (m+1)) (Mg s.t (aops.getD m Eb).dst v) (N3 s.h ups) K')→Im P ops K (m::List.range' (m+1) n) a w:=by
     rintro ⟨v,ups,he,hr⟩
     refine GW C (u:=u) (L:=m::List.range' (m+1) n) (L':=List.range' (m+1) n) hm (by simp) (fun j hj=>⟨by simp [hj],by simp at hj;omega,by simp at hj;omega⟩) hs hfr he ?_
     intro a' w' ρ' I' h1 h2 h3
     exact ih (m+1) u (by omega) h1 h3 hr fun s2 a2 w2 ρ2 I2 q g1 g2=>hK s2 a2 w2 ρ2 I2 q g1 (h2.trans g2)
   have hgd:aops.getD m Eb=⟨(aops.getD m Eb).dst,(aops.getD m Eb).k,(aops.getD m Eb).g⟩:=rfl
   generalize hdst:(aops.getD m Eb).dst=dst at*
   generalize hk:(aops.getD m Eb).k=k at*
   generalize hg:(aops.getD m Eb).g=g at*
   rw [hgd]at hr hpure
   unfold K1 at hr
   split at hr
   ·rename_i f args
    have his:m<ops.size:=bO hm C.len
    have hoi:ops[m]? =some ops[m]:=Array.getElem?_eq_getElem his
    obtain ⟨ao,hco,hisI⟩:=C.get m _ hm hoi
    obtain ⟨hk1,hd1,hdN,hg1⟩:=Rl hco
    have hno: ∀{x:AK},M3 P ops[m].op=some x→x≠ .icall f args:=by
      intro x hx e
      subst e
      have:=Ib hx
      cases hq:ops[m].op<;>rw [hq]at this<;>simp [U1,Qd]at this
      rename_i c
      cases hc:c.callee<;>rw [hc]at this<;>simp [Wr]at this
      rename_i b
      cases b<;>simp at this
    rcases hisI with h|⟨f',args',q1,q2⟩|⟨e1,e2,e3,e4,e5,q1,q2⟩|⟨e1,e2,e3,e4,e5,q1,q2⟩|⟨e1,q1,q2⟩|⟨e1,q1,q2⟩|⟨e1,e2,e3,q1,q2⟩
    ·exact absurd (by rw [← h,hk]) (hno hk1)
    ·rw [hgd]at q2
     simp only [AOp.mk.injEq,AK.icall.injEq]at q2
     obtain ⟨rfl,⟨rfl,rfl⟩,q3⟩:=q2
     rw [← q3]at hg1
     have hcall:Region.wanted ops[m] (yielded ops a.tmps)=true→Us P s.t s.h f args (fun v h'=> ∀u',(∀q,h' q≠none→q.2≠u')→∃s0,Sb s0 ⟨Mg s.t ao.dst v,h'⟩∧K1 P u' (aops.drop (m+1)) s0.t s0.h K')→Im P ops K (m::List.range' (m+1) n) a w:=by
       intro hw hr
       simp only [Im,hoi]
       rw [bB hw]
       rw [q1]at hk1
       refine HA hk1 hs hr ?_
       intro x v w' I' ρ' h' r1 r2 r3 r4
       have hs1:=(hs.step r2 r3).sett ao.dst (by rw [hd1];exact hdN) r1
       rw [hd1]at hs1
       obtain ⟨u',hu,hfk⟩:=hs1.fresh_u
       obtain ⟨s0,S,this⟩:=r4 u' hfk
       rw [hd1]at S
       exact ih (m+1) u' (s:=s0) (by omega) (S.sim hs1) (Free.of hu) this fun s2 a2 w2 ρ2 I2 q g1 g2=>hK s2 a2 w2 ρ2 I2 q g1 (r3.trans (S.tr g2))
     unfold gW at hr
     split at hr
     ·refine hcall ?_ hr
      cases hgu:ops[m].guard with
      |none=>simp [Region.wanted,hgu]
      |some jb=>rw [hgu]at hg1;obtain ⟨_,_,h⟩:=hg1;cases h
     ·rename_i g b
      cases hgu:ops[m].guard with
      |none=>rw [hgu]at hg1;cases hg1
      |some jb=>
       obtain ⟨j,b'⟩:=jb
       rw [hgu]at hg1
       obtain ⟨g',hg2,hg3⟩:=hg1
       cases hg3
       split at hr
       ·rename_i c hc
        split at hr
        ·rename_i hcb
         refine hcall ?_ hr
         have hrp:=hs.tmp g
         rw [hc]at hrp
         have hb:=Jh hrp
         have htm:a.tmps[g]? =some (.bool c):=by
           rw [Array.getD_eq_getD_getElem?]at hb
           cases hq:a.tmps[g]? with
           |none=>rw [hq]at hb;simp [undef]at hb
           |some q=>rw [hq]at hb;simp at hb;rw [hb]
         have hy:yielded ops a.tmps j=some c:=by simp [yielded,hg2,htm]
         simp [Region.wanted,hgu,hy,hcb]
        ·rename_i hcb
         refine hpure ⟨_,_,?_,hr⟩
         simp [Ob,hc,bC hcb]
       ·rename_i hc
        refine hpure ⟨_,_,?_,hr⟩
        simp [Ob,hc]
       ·exact hr.elim
    ·rw [hgd]at q2;simp at q2
    ·rw [hgd]at q2;simp at q2
    ·rw [hgd]at q2;simp at q2
    ·rw [hgd]at q2;simp at q2
    ·rw [hgd]at q2;simp at q2
   ·exact hpure (RF hr)
end
end Go.Abs
namespace Go.Abs
open Go
/-! ### Code, resolved -/
inductive AC where
  |skip
  |reg (ops:List AOp)
  |draw (ops:List AOp) (pairs:List (Nat×Nat))
  |drawB (ops:List AOp) (b:Nat) (pairs:List (Nat×Nat))
  |seq (a b:AC)
  |cond (c:Opd) (a b:AC)
  |block (id:Nat) (a:AC)
  |loop (a:AC)
  |exit (id:Nat)
  |ret
  |rangeF (f:Opd) (params:List Nat) (assign body:AC)
  |scope (a:AC)
def Zx (n:Nat)(f:Nat→Bool):Bool:=(List.range n).all f
theorem Is {n:Nat}{f:Nat→Bool}(h:Zx n f=true){i:Nat}(hi:i<n):f i=true:=lX.1 h i (by simpa using hi)
def ZI (aops:List AOp):Bool:=
  Zx aops.length fun i=>Zx aops.length fun j=>i==j||(JS (aops.getD i Eb)).all fun d=> !(JS (aops.getD j Eb)).contains d
def dC (aops:List AOp):Bool:=Zx aops.length fun i=>U1 (aops.getD i Eb).k !=5||(aops.getD i Eb).dst.isSome
def LX (ops:Array Oper):Bool:=Zx ops.size fun i=>match ops[i]? with|some o=>(W5 o).all (decide<| · <i)|none=>true
def Ut (an:List (List Nat))(aops:List AOp):Bool:=Zx aops.length fun b=>Zx b fun a=> !Ro (aops.getD a Eb) (aops.getD b Eb)||(an.getD b []).contains a
def Km (an:List (List Nat))(aops:List AOp):List (Nat×Nat):=
  (List.range aops.length).flatMap fun b=>((List.range b).filter fun a=>Kc (aops.getD a Eb) (aops.getD b Eb)&& !(an.getD b []).contains a&& !DA (aops.getD a Eb) (aops.getD b Eb)).map fun a=>(a,b)
/-- Every operation ahead of the one, and every one behind it, stands there in each order; those behind it are a chain. -/
def VM (an:List (List Nat))(n b:Nat):Bool:=
  decide (b<n)&& (Zx b fun j=>(an.getD b []).contains j)&&Zx n fun i=>decide (i≤b)||Zx i fun j=>decide (j<b)||(an.getD i []).contains j
/-- Which calls may alter memory. -/
def EQ (m:List Nat)(i:Nat)(o:AOp):AOp:=match o.k with
  | .call f args=>if m.contains i then ⟨o.dst, .icall f args,o.g⟩else match m.find? (fun n=>decide (1000000≤n)&&n % 1000==i)with
    |some n=>⟨o.dst, .ocall (n*10) f args,o.g⟩
    |none=>o
  | .bslice e sz n z ps=>if m.contains (1000+i)then ⟨o.dst, .dslice e sz n z ps,o.g⟩else o
  | .str .tob [x]=>if m.contains (1000+i)then ⟨o.dst, .dbytes x,o.g⟩else o
  | .str .mrk [x]=>if m.contains (1000+i)then ⟨o.dst, .bmark x,o.g⟩else o
  | .slice sz x lo hi mx=>if m.contains (1000+i)then ⟨o.dst, .oslice sz x lo hi mx,o.g⟩else o
  |_=>o
def Mi (m:List Nat):Nat→List AOp→List AOp
  |_,[]=> []
  |i,o::r=>EQ m i o::Mi m (i+1) r
def Qj (P:Program)(N:Nat)(ops:Array Oper)(m:List Nat):Option (List AOp):=do
  let aops ← ops.toList.mapM (GB P N ops)
  let aops:=Mi m 0 aops
  if ZI aops&&dC aops then some aops else none
/-- The marks: for a region (by its number) those of its operations that may alter memory. -/
abbrev Zy:=Nat→List Nat
def W3 (P:Program)(N:Nat)(M:Zy):Code→Option AC
  | .skip=>some .skip
  | .region id ops false=>(Qj P N ops (M id)).map .reg
  | .region id ops true=>match Qj P N ops (M id)with
    |some aops=>if P.follows .mixedOrders&&LX ops&&Ut (Mh ops) aops then
       (match (M id).filter (decide<| · <1000)with
       | []=>some (.draw aops (Km (Mh ops) aops))
       | [b]=>if VM (Mh ops) aops.length b then some (.drawB aops b (Km (Mh ops) (aops.take b)))else none
       |_=>none)else none
    |none=>none
  | .seq a b=>match W3 P N M a,W3 P N M b with
    |some a,some b=>some (.seq a b)
    |_,_=>none
  | .cond c a b=>match K8 c,W3 P N M a,W3 P N M b with
    |some c,some a,some b=>some (.cond c a b)
    |_,_,_=>none
  | .block id a=>(W3 P N M a).map (.block id)
  | .scope a=>(W3 P N M a).map .scope
  | .label _=>some .skip
  | .loop a=>(W3 P N M a).map .loop
  | .exit id=>some (.exit id)
  | .ret=>some .ret
  | .rangeFunc f ps as bd=>match K8 f,W3 P N M as,W3 P N M bd with
    |some f,some a,some b=>if ps.toList.all (decide<| · <N)then some (.rangeF f ps.toList a b)else none
    |_,_,_=>none
  |_=>none
theorem Xt (m:List Nat): ∀(l:List AOp) (n i:Nat),(Mi m n l)[i]? =(l[i]?).map (EQ m (n+i))
  | [],n,i=>by simp [Mi]
  |o::r,n,i=>by
   cases i with
   |zero=>simp [Mi]
   |succ i=>simp only [Mi,List.getElem?_cons_succ];rw [Xt m r (n+1) i,show n+1+i=n+ (i+1) by omega]
theorem Rs (m:List Nat): ∀(l:List AOp) (n:Nat),(Mi m n l).length=l.length
  | [],_=>rfl
  |_::r,n=>by simp [Mi,Rs m r]
theorem KD (m:List Nat)(i:Nat)(o:AOp):dW o (EQ m i o):=by
  unfold EQ
  split
  ·rename_i f args hk
   split
   ·exact .inr (.inl ⟨f,args,hk,rfl⟩)
   ·split
    ·exact .inr (.inr (.inr (.inr (.inr (.inr ⟨_,f,args,hk,rfl⟩)))))
    ·exact .inl rfl
  ·rename_i e sz n z ps hk
   split
   ·exact .inr (.inr (.inl ⟨e,sz,n,z,ps,hk,rfl⟩))
   ·exact .inl rfl
  ·rename_i x hk
   split
   ·exact .inr (.inr (.inr (.inr (.inl ⟨x,hk,rfl⟩))))
   ·exact .inl rfl
  ·rename_i x hk
   split
   ·exact .inr (.inr (.inr (.inr (.inr (.inl ⟨x,hk,rfl⟩)))))
   ·exact .inl rfl
  ·rename_i sz x lo hi mx hk
   split
   ·exact .inr (.inr (.inr (.inl ⟨sz,x,lo,hi,mx,hk,rfl⟩)))
   ·exact .inl rfl
  ·exact .inl rfl
theorem RH {α β:Type}{f:α→Option β}: ∀{xs:List α} {ys:List β},xs.mapM f=some ys→ys.length=xs.length∧∀(i:Nat) x,xs[i]? =some x→∃y,f x=some y∧ys[i]? =some y:=by
  intro xs
  induction xs with
  |nil=>intro ys h;simp at h;subst h;simp
  |cons x r ih=>
   intro ys h
   simp only [List.mapM_cons,Option.pure_def,lB,Option.bind_eq_some_iff,Option.some.injEq]at h
   obtain ⟨y,h1,z,h2,rfl⟩:=h
   obtain ⟨l,g⟩:=ih h2
   refine ⟨by simp [l],fun i q hq=> ?_⟩
   cases i with
   |zero=>simp at hq;subst hq;exact ⟨y,h1,rfl⟩
   |succ i=>simpa using g i q (by simpa using hq)
section
variable {P:Program}{N:Nat}{ops:Array Oper}{aops:List AOp}
theorem ER {m:List Nat}(h:Qj P N ops m=some aops):Conv P N ops aops∧aops.length=ops.size:=by
  simp only [Qj,lB]at h
  obtain ⟨a,ha,h⟩:=bind_some h
  split at h
  ·rename_i hb
   cases h
   rw [bD]at hb
   obtain ⟨l,g⟩:=RH ha
   have hlen:(Mi m 0 a).length=ops.size:=by rw [Rs];simpa using l
   refine ⟨⟨by omega,fun i o hi ho=> ?_,fun i j d hi hj hij h1 h2=> ?_,fun i hi ht hd=> ?_⟩,hlen⟩
   ·obtain ⟨y,hy,hi⟩:=g i o (by simpa using ho)
    refine ⟨y,hy,?_⟩
    rw [List.getD,Xt,hi,bN]
    exact KD m i y
   ·have:=Is (Is hb.1 hi) hj
    simp only [bE,bF,lX,Bool.not_eq_true',List.contains_eq_mem,bG]at this
    rcases this with h|h
    ·exact hij h
    ·exact h d h1 h2
   ·have:=Is hb.2 hi
    rw [ht,hd]at this;simp at this
  ·cases h
theorem Conv.take (C:Conv P N ops aops)(b:Nat):Conv P N ops (aops.take b):=by
  have hg: ∀i,i< (aops.take b).length→(aops.take b).getD i Eb=aops.getD i Eb:=by
    intro i hi
    simp only [List.getD]
    rw [l3]
    rw [lT]at hi
    rw [bB (by omega)]
  have hl: ∀i,i< (aops.take b).length→i<aops.length:=by intro i hi;rw [lT]at hi;omega
  refine ⟨?_,fun i o hi ho=> ?_,fun i j d hi hj hij h1=> ?_,fun i hi=> ?_⟩
  ·have:=C.len;simp;omega
  ·rw [hg i hi];exact C.get i o (hl i hi) ho
  ·rw [hg i hi]at h1;rw [hg j hj];exact C.clash i j d (hl i hi) (hl j hj) hij h1
  ·rw [hg i hi];exact C.app i (hl i hi)
theorem HB {an:List (List Nat)}(b:Nat)(h:Ut an aops=true):Ut an (aops.take b)=true:=by
  have hg: ∀i,i< (aops.take b).length→(aops.take b).getD i Eb=aops.getD i Eb:=by
    intro i hi
    simp only [List.getD]
    rw [l3]
    rw [lT]at hi
    rw [bB (by omega)]
  unfold Ut Zx
  simp only [lX,List.mem_range]
  intro j hj i hi
  rw [hg j hj,hg i (by omega)]
  exact Is (Is h (by simp at hj;omega)) hi
theorem LY (h1:LX ops=true)(h2:Ut (Mh ops) aops=true):DrawOK ops aops (Km (Mh ops) aops) where
  back i o ho e he:=by
    have hi:=(Array.getElem?_eq_some_iff.1 ho).1
    have:=Is h1 hi
    rw [ho]at this
    simpa using lX.1 this e he
  slots a b hab hb hc:=by
    have:=Is (Is h2 hb) hab
    rw [hc]at this
    simpa using this
  keys a b hab hb hc:=by
    by_cases hin:a∈(Mh ops).getD b []
    ·exact .inl hin
    ·by_cases he:DA (aops.getD a Eb) (aops.getD b Eb)=true
     ·exact .inr (.inr he)
     ·refine .inr (.inl ?_)
      unfold Km
      simp only [List.mem_flatMap,List.mem_range,List.mem_map,List.mem_filter,Prod.mk.injEq]
      exact ⟨b,hb,a,⟨hab,by rw [hc,show DA (aops.getD a Eb) (aops.getD b Eb)=false by simpa using he];simpa using hin⟩,rfl,rfl⟩
theorem HC (an:List (List Nat)): ∀p∈Km an aops,p.1<aops.length∧p.2<aops.length:=by
  intro p hp
  unfold Km at hp
  simp only [List.mem_flatMap,List.mem_range,List.mem_map,List.mem_filter]at hp
  obtain ⟨b,hb,a,⟨ha,_⟩,rfl⟩:=hp
  exact ⟨by simp;omega,hb⟩
/-! ### The weakest precondition of resolved code -/
def AW (P:Program)(N:Nat)(rk:Option D6)(ac:AC)(s:St)(Q:Ex→St→Prop):Prop:= ∀M c,W3 P N M c=some ac→AWc P N rk c s Q
variable {rk:Option D6}{s:St}{Q:Ex→St→Prop}
theorem AW.mono {ac:AC}{Q':Ex→St→Prop}(h:AW P N rk ac s Q)(hq: ∀e s',Q e s'→Q' e s'):AW P N rk ac s Q':=fun M c hc=>(h M c hc).mono hq
theorem Ah {M:Zy}{c:Code}{ac:AC}(h:W3 P N M c=some ac):match ac with
    | .skip=>c= .skip∨∃l,c= .label l
    | .reg aops=> ∃id ops,c= .region id ops false∧Qj P N ops (M id)=some aops
    | .draw aops pairs=> ∃id ops,c= .region id ops true∧Qj P N ops (M id)=some aops∧P.follows .mixedOrders=true∧LX ops=true∧Ut (Mh ops) aops=true∧pairs=Km (Mh ops) aops
    | .drawB aops b pairs=> ∃id ops,c= .region id ops true∧Qj P N ops (M id)=some aops∧P.follows .mixedOrders=true∧LX ops=true∧Ut (Mh ops) aops=true∧VM (Mh ops) aops.length b=true∧pairs=Km (Mh ops) (aops.take b)
    | .seq a b=> ∃x y,c= .seq x y∧W3 P N M x=some a∧W3 P N M y=some b
    | .cond o a b=> ∃q x y,c= .cond q x y∧K8 q=some o∧W3 P N M x=some a∧W3 P N M y=some b
    | .block id a=> ∃x,c= .block id x∧W3 P N M x=some a
    | .scope a=> ∃x,c= .scope x∧W3 P N M x=some a
    | .loop a=> ∃x,c= .loop x∧W3 P N M x=some a
    | .exit id=>c= .exit id
    | .ret=>c= .ret
    | .rangeF f ps a b=> ∃g qs x y,c= .rangeFunc g qs x y∧K8 g=some f∧qs.toList=ps∧(∀p∈ps,p<N)∧W3 P N M x=some a∧W3 P N M y=some b:=by
  cases c with
  |skip=>simp only [W3]at h;cases h;exact .inl rfl
  |label l=>simp only [W3]at h;cases h;exact .inr ⟨l,rfl⟩
  |ret=>simp only [W3]at h;cases h;rfl
  |exit id=>simp only [W3]at h;cases h;rfl
  |region id ops dr=>
   cases dr with
   |false=>simp only [W3,lD]at h;obtain ⟨a,ha,rfl⟩:=h;exact ⟨_,_,rfl,ha⟩
   |true=>
    simp only [W3]at h
    split at h
    ·rename_i a ha
     split at h
     ·rename_i hb
      simp only [bD]at hb
      split at h
      ·cases h;exact ⟨_,_,rfl,ha,hb.1.1,hb.1.2,hb.2,rfl⟩
      ·split at h
       ·rename_i hbar;cases h;exact ⟨_,_,rfl,ha,hb.1.1,hb.1.2,hb.2,hbar,rfl⟩
       ·cases h
      ·cases h
     ·cases h
    ·cases h
  |seq x y=>
   simp only [W3]at h
   split at h
   ·cases h;exact ⟨_,_,rfl,‹_›,‹_›⟩
   ·cases h
  |cond q x y=>
   simp only [W3]at h
   split at h
   ·cases h;exact ⟨_,_,_,rfl,‹_›,‹_›,‹_›⟩
   ·cases h
  |block id x=>simp only [W3,lD]at h;obtain ⟨a,ha,rfl⟩:=h;exact ⟨_,rfl,ha⟩
  |loop x=>simp only [W3,lD]at h;obtain ⟨a,ha,rfl⟩:=h;exact ⟨_,rfl,ha⟩
  |scope x=>simp only [W3,lD]at h;obtain ⟨a,ha,rfl⟩:=h;exact ⟨_,rfl,ha⟩
  |rangeFunc f ps as bd=>
   simp only [W3]at h
   split at h
   ·split at h
    ·rename_i hp
     cases h
     exact ⟨_,_,_,_,rfl,‹_›,rfl,fun p hp'=>by simpa using lX.1 hp p hp',‹_›,‹_›⟩
    ·cases h
   ·cases h
  |_=>simp [W3]at h
theorem RI {ro:Option Nat}{x:Code}{R:Ex→Act→World→Prop}{a:Act}{w:World}(h:Wp P ro x R a w):Wp P ro (.scope x) R a w:=by
  intro b k cs hro
  obtain ⟨e,a',w',hq,hr⟩:=h b (.inScope x::k) cs hro
  cases e with
  |nrm=>exact ⟨.nrm,a',w',hq, .head Za (Steps.trans hr (.one JD))⟩
  |ext i=>
   obtain ⟨k',hs,he⟩:=hr
   exact ⟨.ext i,a',w',hq,k', .head Za hs,by rw [he];rfl⟩
  |ret=>
   obtain ⟨k',hs⟩:=hr
   exact ⟨.ret,a',w',hq,k', .head Za hs⟩
theorem RJ {ro:Option Nat}{l:Nat}{R:Ex→Act→World→Prop}{a:Act}{w:World}(h:R .nrm a w):Wp P ro (.label l) R a w:=fun _ _ _ _=>⟨.nrm,a,w,h, .one PV⟩
theorem ES (h:Q .nrm s):AW P N rk .skip s Q:=fun M c hc=>by
  rcases (Ah hc:c= .skip∨∃l,c= .label l)with rfl|⟨l,rfl⟩
  ·exact PY h
  ·exact fun _ I ρ _ hs _ _=>RJ ⟨s,I,ρ,h,hs,Tr.refl _ _ _ _,NewD.refl _ _⟩
theorem RK {a:AC}(h:AW P N rk a s Q):AW P N rk (.scope a) s Q:=fun M c hc=>by
  obtain ⟨x,rfl,h1⟩:=Ah hc
  exact fun w I ρ a hs ro hro=>RI (h M x h1 w I ρ a hs ro hro)
theorem KE (h:Q .ret s):AW P N rk .ret s Q:=fun M c hc=>by obtain rfl:c= .ret:=Ah hc;exact UP h
theorem ET {id:Nat}(h:Q (.ext id) s):AW P N rk (.exit id) s Q:=fun M c hc=>by obtain rfl:c= .exit id:=Ah hc;exact PZ h
theorem Jl {a b:AC}(h:AW P N rk a s (fun e s'=>match e with| .nrm=>AW P N rk b s' Q|e=>Q e s')):AW P N rk (.seq a b) s Q:=fun M c hc=>by
  obtain ⟨x,y,rfl,h1,h2⟩:=Ah hc
  refine UQ ((h M x h1).mono ?_)
  intro e s' hq
  cases e<;>first|exact hq M y h2|exact hq
theorem EU {o:Opd}{a b:AC}{t:Bool}(ht:ev s.t o= .d (.v (.bool t)))(h:AW P N rk (if t then a else b) s Q):AW P N rk (.cond o a b) s Q:=fun M c hc=>by
  obtain ⟨q,x,y,rfl,h0,h1,h2⟩:=Ah hc
  intro w I ρ act hs ro hro
  have hr:=M6 hs h0
  rw [ht]at hr
  refine UN (t:=t) (Jh hr) ?_
  cases t
  ·exact h M y h2 w I ρ act hs ro hro
  ·exact h M x h1 w I ρ act hs ro hro
theorem Zz {id:Nat}{a:AC}(h:AW P N rk a s (fun e s'=>match e with| .nrm=>Q .nrm s'| .ext i=>if i=id then Q .nrm s' else Q (.ext i) s'| .ret=>Q .ret s')):AW P N rk (.block id a) s Q:=fun M c hc=>by
  obtain ⟨x,rfl,h1⟩:=Ah hc
  exact NT (h M x h1)
theorem LZ {a:AC}(J:Nat→St→Prop)(n:Nat)(h0:J n s)(h: ∀n s,J n s→AW P N rk a s (fun e s'=>match e with| .nrm=> ∃m,m<n∧J m s'|e=>Q e s')):AW P N rk (.loop a) s Q:=fun M c hc=>by
  obtain ⟨x,rfl,h1⟩:=Ah hc
  exact QA J (fun n s hj=>h n s hj M x h1) n h0
theorem VN {ac:AC}{s0:St}(ht: ∀i,s0.t i= .any∨s0.t i=s.t i)(hh: ∀k b,s0.h k=some b→s.h k=some b)(h:AW P N rk ac s0 Q):AW P N rk ac s Q:=fun M c hc=>QB ht hh (h M c hc)
theorem Xu {K:Act→World→Prop}: ∀(l:List Nat) (a:Act) (w:World),Im P ops K l a w→Im P ops (fun a' w'=>K a' w'∧a'.defers=a.defers) l a w
  | [],a,w,h=>⟨h,rfl⟩
  |i::r,a,w,h=>by
   simp only [Im]at h ⊢
   cases ho:ops[i]? with
   |none=>rw [ho]at h;exact h
   |some o=>
    rw [ho]at h
    dsimp only at h ⊢
    have hput: ∀x,(a.put o.dst x).defers=a.defers:=fun x=>by cases o.dst<;>rfl
    have hmono: ∀x w',Im P ops K r (a.put o.dst x) w'→Im P ops (fun a' w'=>K a' w'∧a'.defers=a.defers) r (a.put o.dst x) w':=by
      intro x w' hx
      have:=Xu r (a.put o.dst x) w' hx
      rwa [hput]at this
    split at h
    ·rename_i hw
     rw [bB hw]
     obtain ⟨h1,h2⟩:=h
     refine ⟨h1,?_⟩
     split at h2
     ·exact hmono _ _ h2
     ·exact hmono _ _ h2
     ·exact h2.mono fun e w ⟨v,q1,q2⟩=>⟨v,q1,hmono _ _ q2⟩
     ·intro c cs
      obtain ⟨v,w',q1,q2⟩:=h2 c cs
      exact ⟨v,w',hmono _ _ q1,q2⟩
     ·exact h2.elim
    ·rename_i hw;rw [bC hw];exact hmono _ _ h
theorem Rt {K K':Act→World→Prop}{l:List Nat}{a:Act}{w:World}(h:Im P ops K l a w)(hk: ∀a' w',K a' w'→a'.defers=a.defers→K' a' w'):Im P ops K' l a w:=by
  have mono: ∀(l:List Nat) (K K':Act→World→Prop) (a:Act) (w:World),(∀a' w',K a' w'→K' a' w')→Im P ops K l a w→Im P ops K' l a w:=by
    intro l
    induction l with
    |nil=>intro K K' a w hk h;exact hk _ _ h
    |cons i r ih=>
     intro K K' a w hk h
     simp only [Im]at h ⊢
     cases ho:ops[i]? with
     |none=>rw [ho]at h;exact h
     |some o=>
      rw [ho]at h
      dsimp only at h ⊢
      split at h
      ·rename_i hw
       rw [bB hw]
       obtain ⟨h1,h2⟩:=h
       refine ⟨h1,?_⟩
       split at h2
       ·exact ih _ _ _ _ hk h2
       ·exact ih _ _ _ _ hk h2
       ·exact h2.mono fun e w ⟨v,q1,q2⟩=>⟨v,q1,ih _ _ _ _ hk q2⟩
       ·intro c cs
        obtain ⟨v,w',q1,q2⟩:=h2 c cs
        exact ⟨v,w',ih _ _ _ _ hk q1,q2⟩
       ·exact h2.elim
      ·rename_i hw;rw [bC hw];exact ih _ _ _ _ hk h
  exact mono l _ _ a w (fun a' w' ⟨h1,h2⟩=>hk a' w' h1 h2) (Xu l a w h)
theorem Sim.absent {w:World}{I:Nat→Prop}{ρ:Rho}{a:Act}{u:Nat}(hs:Sim w I ρ N s a)(hu: ∀d,ρ (d,u)=none)(d:Nat):s.h (d,u)=none:=by
  cases hb:s.h (d,u)with
  |none=>rfl
  |some b=>
   obtain ⟨x,hx⟩:=(hs.heap.blk _ b hb).rho
   rw [hu d]at hx;cases hx
theorem My {aops:List AOp}(h: ∀u,(∀k,s.h k≠none→k.2≠u)→K1 P u aops s.t s.h fun t' h'=>Q .nrm ⟨t',h'⟩):AW P N rk (.reg aops) s Q:=fun M c hc=>by
  obtain ⟨id,ops,rfl,h1⟩:=Ah hc
  intro w I ρ a hs ro hro
  obtain ⟨u,hu,hk⟩:=hs.fresh_u
  obtain ⟨C,hlen⟩:=ER h1
  refine NS (Rt (K:=fun a' w'=> ∃s' I' ρ',Q .nrm s'∧Sim w' I' ρ' N s' a'∧Tr w I ρ s.h w' I' ρ' s'.h) ?_ fun a' w' ⟨s',I',ρ',q1,q2,q3⟩ hd=>⟨s',I',ρ',q1,q2,q3,by rw [hd];exact NewD.refl _ _⟩)
  rw [List.range_eq_range']
  exact Zw C ops.size 0 u (by omega) hs (Free.of hu) (by simpa using h u hk) fun s' a' w' ρ' I' hq hs' tr'=>⟨s',I',ρ',hq,hs',tr'⟩
theorem Tr.drawn {w w':World}{I I':Nat→Prop}{ρ ρ':Rho}{h h':D2}{n:Nat}(t:Tr {w with drawn:=n} I ρ h w' I' ρ' h'):Tr w I ρ h w' I' ρ' h':=
  ⟨t.os,t.tape,t.output,t.size,t.frame,t.imm,t.immBack,t.ownBack,t.rho⟩
theorem Sim.drawn {w:World}{I:Nat→Prop}{ρ:Rho}{a:Act}(hs:Sim w I ρ N s a)(n:Nat):Sim {w with drawn:=n} I ρ N s a:=
  ⟨hs.size,⟨hs.defers.nd,hs.defers.each⟩,fun i=>(hs.tmp i).keep (fun _ _=>rfl) (fun _ h=>h) (fun _ _ h=>h),hs.heap.same rfl⟩
theorem HD {aops:List AOp}{pairs:List (Nat×Nat)}(h: ∀u,(∀k,s.h k≠none→k.2≠u)→Di P u aops s.t s.h fun t' h' tr=>EP tr pairs=true∧Q .nrm ⟨t',h'⟩):AW P N rk (.draw aops pairs) s Q:=fun M c hc=>by
  obtain ⟨id,ops,rfl,h1,hm,hb,hsl,rfl⟩:=Ah hc
  intro w I ρ a hs ro hro
  obtain ⟨u,hu,hk⟩:=hs.fresh_u
  obtain ⟨s',tr,hrt,hap,hq⟩:=EO (h u hk)
  obtain ⟨C,hlen⟩:=ER h1
  obtain ⟨R,g0,g1,g2,g3⟩:=hrt.run
  refine Re fun t=>Rt (K:=fun a' w'=> ∃s' I' ρ',Q .nrm s'∧Sim w' I' ρ' N s' a'∧Tr w I ρ s.h w' I' ρ' s'.h) ?_ fun a' w' ⟨s',I',ρ',q1,q2,q3⟩ hd=>⟨s',I',ρ',q1,q2,q3,by rw [hd];exact NewD.refl _ _⟩
  exact KC C (LY hb hsl) hlen R (hs.absent hu) g0 g1 (RG g3 (HC _) hap) t hm (hs.drawn _) hu fun a' w' ρ' I' hs' tr'=>⟨s',I',ρ',hq,hs',tr'.drawn⟩
theorem Wu {u:Nat}: ∀{aops:List AOp} {t:Nat→AV} {h:D2} {K:(Nat→AV)→D2→Prop},(∀o∈aops,U1 o.k≠7)→K1 P u aops t h K→Di P u aops t h fun t' h' _=>K t' h'
  | [],t,h,K,_,hr=>by simpa only [Di,K1] using hr
  |⟨dst,k,g⟩::r,t,h,K,hn,hr=>by
   have hr':=hr
   have hrec: ∀t' h',K1 P u r t' h' K→Di P u r t' h' fun t' h' _=>K t' h':=fun t' h'=>Wu (fun o ho=>hn o (by simp [ho]))
   have hop: ∀(A B:AV→List (D6×Option Blk)→Prop),(∀v ups,A v ups→B v ups)→Ve P u dst t h k A→Ve P u dst t h k B:=by
     intro A B hAB ho
     unfold Ve at ho ⊢
     split at ho<;>(try exact ho.elim)<;>(try (split at ho<;>(try exact ho.elim)<;>(try (split at ho<;>(try exact ho.elim)))<;>exact hAB _ _ ho))<;>(try exact Xs hAB ho)
     ·unfold DC at ho ⊢
      split at ho
      ·split at ho
       ·obtain ⟨r,h1,h2,h3⟩:=ho
        exact ⟨r,h1,h2,hAB _ _ h3⟩
       ·exact ho.elim
      ·exact ho.elim
   unfold K1 at hr
   split at hr
   ·exact (hn _ List.mem_cons_self rfl).elim
   ·simp only [Di]
    unfold gW at hr ⊢
    split at hr
    ·exact hop _ _ (fun v ups=>hrec _ _) hr
    ·split at hr
     ·split at hr
      ·rename_i hcb;simp only [hcb,if_true];exact hop _ _ (fun v ups=>hrec _ _) hr
      ·rename_i hcb;simp only [hcb,if_false];exact hrec _ _ hr
     ·exact hrec _ _ hr
     ·exact hr.elim
end
end Go.Abs
namespace Go.Abs
open Go
section
variable {ops:Array Oper}
theorem Ord.congr {S S':Nat→Bool}(h: ∀i,S i=S' i): ∀{L:List Nat},Ord ops S L→Ord ops S' L:=by
  intro L ho
  have:S=S':=funext h
  rwa [← this]
/-- Behind the one, a chain. -/
theorem KF (hb: ∀i o,ops[i]? =some o→∀e∈W5 o,e<i){n b:Nat}(hn:n=ops.size)(hc: ∀i j,i<n→b≤j→j<i→j∈(Mh ops).getD i []): ∀(k m:Nat) (S:Nat→Bool) (L:List Nat),m+k=n→b≤m→Qh ops S→(∀i,S i=decide (i<m))→Ord ops S L→
    (∀i,i<n→S i=true∨i∈L)→L=List.range' m k:=by
  intro k
  induction k with
  |zero=>
   intro m S L hm hbm hcl hS ho hall
   cases L with
   |nil=>rfl
   |cons i r=>
    have h1:=ho.1
    have h2:=ho.2.1
    rw [hS]at h2
    simp at h2;omega
  |succ k ih=>
   intro m S L hm hbm hcl hS ho hall
   cases L with
   |nil=>
    have:=hall m (by omega)
    rw [hS]at this;simp at this
   |cons i r=>
    obtain ⟨h1,h2,h3,h4⟩:=ho
    rw [hS]at h2
    simp at h2
    have him:i=m:=by
      refine Classical.byContradiction fun hne=> ?_
      have hlt:m<i:=by omega
      have hoi:ops[i]? =some ops[i]:=Array.getElem?_eq_getElem h1
      have:=Qi hb hcl i _ hoi (h3 _ hoi) m (hc i m (by omega) hbm hlt)
      rw [hS]at this;simp at this
    subst him
    rw [List.range'_succ]
    congr 1
    refine ih (i+1) _ r (by omega) (by omega) (Rp hcl h3) (fun j=> ?_) h4 (fun j hj=> ?_)
    ·rw [hS]
     by_cases e:j=i
     ·subst e;simp
     ·rw [show (j==i)=false by simpa using e,Bool.or_false];simp only [decide_eq_decide];omega
    ·rcases hall j hj with h|h
     ·exact .inl (by simp [h])
     ·rcases lS.1 h with rfl|h
      ·exact .inl (by simp)
      ·exact .inr h
/-- Each order falls in two at the one. -/
theorem OE (hb: ∀i o,ops[i]? =some o→∀e∈W5 o,e<i){n b:Nat}(hn:n=ops.size)(hbn:b<n)(h0: ∀j,j<b→j∈(Mh ops).getD b [])(hc: ∀i j,i<n→b≤j→j<i→j∈(Mh ops).getD i []):
    ∀(L:List Nat) (S:Nat→Bool),Qh ops S→(∀i,S i=true→i<b)→Ord ops S L→(∀i,i<n→S i=true∨i∈L)→
    ∃L1,L=L1++List.range' b (n - b)∧Ord ops S L1∧(∀i∈L1,i<b)∧∀i,i<b→S i=true∨i∈L1:=by
  intro L
  induction L with
  |nil=>
   intro S hcl hS ho hall
   rcases hall b hbn with h|h
   ·have:=hS b h;omega
   ·simp at h
  |cons i r ih=>
   intro S hcl hS ho hall
   have ho':=ho
   obtain ⟨h1,h2,h3,h4⟩:=ho
   have hoi:ops[i]? =some ops[i]:=Array.getElem?_eq_getElem h1
   have hanc:=Qi hb hcl i _ hoi (h3 _ hoi)
   by_cases hib:i<b
   ·obtain ⟨L1,e1,e2,e3,e4⟩:=ih _ (Rp hcl h3) (fun j hj=>by
      simp only [bE,bF]at hj
      rcases hj with h|rfl
      ·exact hS j h
      ·exact hib) h4 (fun j hj=>by
      rcases hall j hj with h|h
      ·exact .inl (by simp [h])
      ·rcases lS.1 h with rfl|h
       ·exact .inl (by simp)
       ·exact .inr h)
    refine ⟨i::L1,by rw [e1];rfl,⟨h1,h2,h3,e2⟩,fun j hj=> ?_,fun j hj=> ?_⟩
    ·rcases lS.1 hj with rfl|hj
     ·exact hib
     ·exact e3 j hj
    ·rcases e4 j hj with h|h
     ·simp only [bE,bF]at h
      rcases h with h|rfl
      ·exact .inl h
      ·exact .inr (by simp)
     ·exact .inr (by simp [h])
   ·have hall': ∀j,j<b→S j=true:=by
      intro j hj
      by_cases e:i=b
      ·subst e;exact hanc j (h0 j hj)
      ·have:=hanc b (hc i b (by omega) (bK _) (by omega))
       have:=hS b this;omega
    refine ⟨[],?_,trivial,by simp,fun j hj=> .inl (hall' j hj)⟩
    rw [lO]
    refine KF hb hn hc (n - b) b S (i::r) (by omega) (bK _) hcl (fun j=> ?_) ho' hall
    by_cases e:j<b
    ·rw [hall' j e];simp [e]
    ·cases hq:S j with
     |false=>simp [e]
     |true=>exact absurd (hS j hq) e
theorem Ru {P:Program}{K:Act→World→Prop}: ∀(L1 L2:List Nat) (a:Act) (w:World),Im P ops (Im P ops K L2) L1 a w→Im P ops K (L1++L2) a w
  | [],_,_,_,h=>h
  |i::r,L2,a,w,h=>by
   simp only [List.cons_append,Im]at h ⊢
   cases ho:ops[i]? with
   |none=>rw [ho]at h;exact h
   |some o=>
    rw [ho]at h
    dsimp only at h ⊢
    have e: ∀(K K':Act→World→Prop),(∀a w,K a w→K' a w)→YP P o a w K→YP P o a w K':=by
      intro K K' hk ⟨h1,h2⟩
      refine ⟨h1,?_⟩
      split at h2
      ·exact hk _ _ h2
      ·exact hk _ _ h2
      ·exact h2.mono fun e w ⟨v,q1,q2⟩=>⟨v,q1,hk _ _ q2⟩
      ·intro c cs
       obtain ⟨v,w',q1,q2⟩:=h2 c cs
       exact ⟨v,w',hk _ _ q1,q2⟩
      ·exact h2.elim
    split at h
    ·rename_i hw;rw [bB hw];exact e _ _ (fun a w=>Ru r L2 a w) h
    ·rename_i hw;rw [bC hw];exact Ru r L2 _ _ h
end
section
variable {P:Program}{N:Nat}{rk:Option D6}{s:St}{Q:Ex→St→Prop}
def aW (aops:List AOp):Bool:=aops.all fun o=>U1 o.k !=7
theorem RL {aops:List AOp}(h:aW aops=true): ∀o∈aops,U1 o.k≠7:=fun o ho=>by simpa using lX.1 h o ho
theorem MA {aops:List AOp}(hn:aW aops=true)(h: ∀u,(∀k,s.h k≠none→k.2≠u)→K1 P u aops s.t s.h fun t' h'=>Q .nrm ⟨t',h'⟩):AW P N rk (.draw aops []) s Q:=
  HD fun u hu=>by
   have:=Wu (RL hn) (h u hu)
   simpa [EP] using this
theorem VO {an:List (List Nat)}{n b:Nat}(h:VM an n b=true):b<n∧(∀j,j<b→j∈an.getD b [])∧∀i j,i<n→b≤j→j<i→j∈an.getD i []:=by
  unfold VM at h
  simp only [bD,l8]at h
  refine ⟨h.1.1,fun j hj=>by simpa using Is h.1.2 hj,fun i j hi hj hji=> ?_⟩
  have:=Is h.2 hi
  simp only [bE,l8]at this
  rcases this with h|h
  ·omega
  ·have:=Is h hji
   simp only [bE,l8]at this
   rcases this with h|h
   ·omega
   ·simpa using h
theorem HE {aops:List AOp}{b:Nat}(hn:aW (aops.take b)=true)
    (h: ∀u,(∀k,s.h k≠none→k.2≠u)→K1 P u (aops.take b) s.t s.h fun t' h'=> ∀u',(∀k,h' k≠none→k.2≠u')→K1 P u' (aops.drop b) t' h' fun t' h'=>Q .nrm ⟨t',h'⟩):AW P N rk (.drawB aops b []) s Q:=fun M c hc=>by
  obtain ⟨id,ops,rfl,h1,hm,hbk,hsl,hbar,hp⟩:=Ah hc
  intro w I ρ a hs ro hro
  obtain ⟨u,hu,hk⟩:=hs.fresh_u
  obtain ⟨C,hlen⟩:=ER h1
  obtain ⟨s',tr,hrt,hq⟩:=EO (Wu (RL hn) (h u hk))
  obtain ⟨R,g0,g1,g2,g3⟩:=hrt.run
  have D:DrawOK ops (aops.take b) []:=by rw [hp];exact LY hbk (HB b hsl)
  obtain ⟨b1,b2,b3⟩:=VO hbar
  refine Re fun t=>Rt (K:=fun a' w'=> ∃s' I' ρ',Q .nrm s'∧Sim w' I' ρ' N s' a'∧Tr w I ρ s.h w' I' ρ' s'.h) ?_ fun a' w' ⟨s',I',ρ',q1,q2,q3⟩ hd=>⟨s',I',ρ',q1,q2,q3,by rw [hd];exact NewD.refl _ _⟩
  simp only [Region.schedule,hm,Bool.true_or,if_true,Region.linearise]
  have hrep: ∀i,(Array.replicate ops.size false).getD i false=false:=by
    intro i
    simp [Array.getD_eq_getD_getElem?,Array.getElem?_replicate]
    split<;>rfl
  obtain ⟨o1,o2⟩:=Ty D.back ops.size t (Array.replicate ops.size false) (by simp) (by
    unfold Og
    exact Nat.le_trans (List.length_filter_le _ _) (by simp))
  have hcl:Qh ops (fun i=>(Array.replicate ops.size false).getD i false):=by
    intro i o hi h
    dsimp only at h
    rw [hrep i]at h;cases h
  obtain ⟨L1,e1,e2,e3,e4⟩:=OE D.back hlen b1 b2 b3 _ _ hcl (fun i hi=>by rw [hrep i]at hi;cases hi) o1 (fun i hi=>o2 i (by omega))
  rw [e1]
  refine Ru _ _ _ _ ?_
  have hlt:(aops.take b).length=b:=by rw [lT];omega
  have e0:R.τ (fun i=>(Array.replicate ops.size false).getD i false) (aops.take b).length=s:=by rw [GZ R _ (fun i _=>hrep i),g0]
  refine RD (C.take b) D R (by rw [g0];exact hs.absent hu) (by intro p hp;simp at hp) L1 _ e2 (fun i hi=>by rw [hlt];exact e3 i hi) (fun i hi=>e4 i (by omega)) hcl (by rw [e0];exact hs.drawn _) (Free.of hu) ?_
  rw [e0,g1]
  intro a' w' ρ' I' hs' tr'
  obtain ⟨u',hu',hk'⟩:=hs'.fresh_u
  refine Zw C (aops.length - b) b u' (by omega) hs' (Free.of hu') (hq u' hk') ?_
  exact fun s2 a2 w2 ρ2 I2 q g1 g2=>⟨s2,I2,ρ2,q,g1,(tr'.trans g2).drawn⟩
end
end Go.Abs
namespace Go.Abs
open Go
section
variable {P:Program}{N:Nat}
theorem KG {t:TypeId}{n:Nat}{ag:Bool}{w:World}{I:Nat→Prop}{ρ:Rho}{h:D2}{p v:AV}{x:Value}(H:HeapOK w I ρ h)(hn:BV P t=some n)(hag:Rh P t=some ag)(hx:RepV w I ρ p x)
    (hv:(match R6 h p with
      |some cs=>if ag then (if n≤cs.length then some (W1 (cs.take n))else none)else cs.head?
      |none=>none)=some v): ∃A y,x= .pointer (some A)∧(loadVar t A).run P w= .ok y w∧RepV w I ρ v y:=by
  split at hv
  ·rename_i cs hcs
   obtain ⟨A,hA,hc⟩:=Xo H hx hcs
   cases ag with
   |true=>
    simp only [if_true]at hv
    split at hv
    ·rename_i hl
     cases hv
     obtain ⟨y,hy,hr⟩:=GC hag hn hl hc
     exact ⟨A,y,hA,hy,hr⟩
    ·cases hv
   |false=>
    simp only [Bool.false_eq_true,if_false]at hv
    cases cs with
    |nil=>cases hv
    |cons c cs=>
     obtain rfl:c=v:=by simpa using hv
     obtain ⟨y0,h1,h2,h3⟩:=hc 0 c rfl
     have e0:A.add 0=A:=by simp [Addr.add]
     rw [e0]at h1
     obtain ⟨y,hy,hr⟩:=GD (P:=P) hag h1 h3
     exact ⟨A,y,hA,hy,hr⟩
  ·cases hv
/-- A result variable: a temporary, or a cell. -/
inductive RV where
  |t (n:Nat)
  |cell (a n:Nat) (agg:Bool)
def AA (P:Program):ResultVar→Option RV
  | .tmp t=>some (.t t)
  | .cell a ty=>match BV P ty,Rh P ty with
    |some n,some ag=>some (.cell a n ag)
    |_,_=>none
def Uu (t:Nat→AV)(h:D2):RV→Option AV
  | .t i=>some (t i)
  | .cell a n ag=>match R6 h (t a)with
      |some cs=>if ag then (if n≤cs.length then some (W1 (cs.take n))else none)else cs.head?
      |none=>none
def Yi (t:Nat→AV)(h:D2):List RV→Option (List AV)
  | []=>some []
  |r::rs=>match Uu t h r,Yi t h rs with
   |some v,some vs=>some (v::vs)
   |_,_=>none
/-- What a function hands back. -/
def Vq (t:Nat→AV)(h:D2)(rs:List RV):Option D:=match Yi t h rs with
  |some [v]=>L8 h 6 v
  |some vs=>(M7 (L8 h 6) vs).map .tup
  |none=>none
def DD (a:Act):ResultVar→Sem Value
  | .tmp t=>pure (a.tmps.getD t undef)
  | .cell c t=>do loadVar t (← asAddr (a.tmps.getD c undef))
theorem Mz (fn:Func)(a:Act)(w:World)(xs:List Value)(h:(fn.results.toList.mapM (DD a)).run P w= .ok xs w):(results fn a.tmps).run P w= .ok (if h:xs.length=1 then xs[0]else .tuple xs.toArray) w:=by
  have e:results fn a.tmps=(fn.results.mapM (DD a)>>=fun vs=>pure (if h:vs.size=1 then vs[0]else .tuple vs)):=by
    unfold results
    congr 1
  rw [e,Array.mapM_eq_mapM_toList]
  simp [h]
theorem Rv {w:World}{I:Nat→Prop}{ρ:Rho}{s:St}{a:Act}(hs:Sim w I ρ N s a): ∀{rvs:List ResultVar} {rs:List RV} {vs:List AV},rvs.mapM (AA P)=some rs→Yi s.t s.h rs=some vs→
    ∃xs:List Value,(rvs.mapM (DD a)).run P w= .ok xs w∧xs.length=vs.length∧
     ∀(i:Nat) c,vs[i]? =some c→RepV w I ρ c (xs.getD i undef)
  | [],rs,vs,h1,h2=>by
    simp at h1;subst h1
    simp [Yi]at h2;subst h2
    exact ⟨[],by simp,rfl,by simp⟩
  |rv::rvs,rs,vs,h1,h2=>by
   simp only [List.mapM_cons,Option.pure_def,lB,Option.bind_eq_some_iff,Option.some.injEq]at h1
   obtain ⟨r,hr,rs',hrs,rfl⟩:=h1
   simp only [Yi]at h2
   split at h2
   ·rename_i v vs' hv hvs
    cases h2
    obtain ⟨xs,g1,g2,g3⟩:=Rv hs hrs hvs
    have hone: ∃x,(DD a rv).run P w= .ok x w∧RepV w I ρ v x:=by
      cases rv with
      |tmp t=>
       simp only [AA,Option.some.injEq]at hr
       subst hr
       simp only [Uu,Option.some.injEq]at hv
       subst hv
       exact ⟨_,by simp [DD],hs.tmp t⟩
      |cell c t=>
       simp only [AA]at hr
       split at hr
       ·rename_i n ag hn hag
        cases hr
        obtain ⟨A,y,e1,e2,e3⟩:=KG hs.heap hn hag (hs.tmp c) hv
        exact ⟨y,by simp [DD,e1,asAddr,e2],e3⟩
       ·cases hr
    obtain ⟨x,f1,f2⟩:=hone
    refine ⟨x::xs,?_,by simp [g2],fun i c hi=> ?_⟩
    ·rw [List.mapM_cons]
     simp [f1,g1]
    ·cases i with
     |zero=>simp at hi;subst hi;exact f2
     |succ i=>exact g3 i c (by simpa using hi)
   ·cases h2
def OF (args:List D):Nat→AV:=fun i=>match args[i]? with
  |some d=> .d d
  |none=> .any
structure FnOK (P:Program)(f:FuncId)(N:Nat)(rs:List RV)(ac:AC):Prop where
  ex: ∃fn c,P.funcs[f]? =some fn∧fn.body=some c∧fn.ntmps=N∧fn.results.toList.mapM (AA P)=some rs∧(∃M,W3 P N M c=some ac)∧(fn.name== "runtime.NumGoroutine")=false
theorem FnOK.enters {f:FuncId}{rs:List RV}{ac:AC}(F:FnOK P f N rs ac):Zs P f:=by
  obtain ⟨fn,c,hf,hb,_,_,_,hn⟩:=F.ex
  intro vs w
  have hn': ¬fn.name= "runtime.NumGoroutine" :=by simpa using hn
  simp [callFunc,hf,hb,hn']
theorem EV {cs:List Frame}: ∀(ds:List Deferred) (w:World) (fr:Frame),fr.mode= .returning→fr.defers=ds→ds.Nodup→(∀d∈ds,∃r,d={target:= .collected r,args:= #[]}∧w.heap[r]? =some (.deferred (some [])))→
    ∃w',Steps P (lone fr cs w) (lone {fr with defers:= []} cs w')∧w'.os=w.os∧w'.tape=w.tape∧w'.output=w.output∧w'.heap.size=w.heap.size∧∀b,(∀d∈ds,d≠{target:= .collected b,args:= #[]})→w'.heap[b]? =w.heap[b]?:=by
  intro ds
  induction ds with
  |nil=>
   intro w fr hm hd _ _
   have:({fr with defers:= []}:Frame)=fr:=by cases fr;simp at hd;simp [hd]
   rw [this]
   exact ⟨w, .refl _ _,rfl,rfl,rfl,rfl,fun _ _=>rfl⟩
  |cons d r ih=>
   intro w fr hm hd hnd hall
   obtain ⟨b,rfl,hb⟩:=hall d (by simp)
   have hlt:b<w.heap.size:=(Array.getElem?_eq_some_iff.1 hb).1
   have hst:step P (lone fr cs w)= .next (lone {fr with defers:=r} cs (w.putObj b (.deferred none))):=step_lone_go (by simp [stepG,unwind,hm,hd,run_takeDeferred hb])
   rw [List.nodup_cons]at hnd
   obtain ⟨w',g1,g2,g3,g4,g5,g6⟩:=ih (w.putObj b (.deferred none)) {fr with defers:=r} hm rfl hnd.2 (fun x hx=>by
     obtain ⟨q,rfl,hq⟩:=hall x (by simp [hx])
     refine ⟨q,rfl,?_⟩
     rw [World.putObj_heap_other (fun e=>hnd.1 (by rw [← e];exact hx))]
     exact hq)
   refine ⟨w', .head hst g1,g2,g3,g4,by rw [g5];simp,fun q hq=> ?_⟩
   rw [g6 q (fun x hx=>hq x (by simp [hx]))]
   exact World.putObj_heap_other (fun e=>hq _ (List.mem_cons_self) (by rw [e]))
/-- A function's call, from its body; the loops' marks taken. -/
theorem Kn {f:FuncId}{fn:Func}{c:Code}{args:Array Value}{w:World}{I:Nat→Prop}{ρ:Rho}{s:St}{Q:Ex→St→Prop}{R:Ending→World→Prop}(hf:P.funcs[f]? =some fn)(hb:fn.body=some c)(_hN:fn.ntmps=N)
    (hs:Sim w I ρ N s {tmps:=args++Array.replicate (fn.ntmps - args.size) undef,defers:= []}) (h:AWc P N none c s Q)
    (hR: ∀e s' a' w' I' ρ',Q e s'→Sim w' I' ρ' N s' a'→Tr w I ρ s.h w' I' ρ' s'.h→(e= .nrm∨e= .ret)∧∃v,(results fn a'.tmps).run P w'= .ok v w'∧R (.returned v) w'):Calls P f args w R:=by
  intro cs
  let b:Frame:={fn:=f,tmps:= #[],todo:= [],defers:= [],mode:= .run,kind:= .normal,roundOf:=none}
  have henter:Frame.enter P f args .normal=Am b {tmps:=args++Array.replicate (fn.ntmps - args.size) undef,defers:= []} [.code c]:=by
    simp [Frame.enter,Am,hf,hb,b]
  obtain ⟨e,a',w',⟨s',I',ρ',hq,hs',tr,hnd⟩,harr⟩:=h w I ρ _ hs none rfl b [] cs rfl
  rw [← henter]at harr
  -- where the frame begins to return
  have hret: ∃fr,Steps P (lone (Frame.enter P f args .normal) cs w) (lone fr cs w')∧fr.mode= .returning∧fr.defers=a'.defers∧fr.tmps=a'.tmps∧fr.kind= .normal∧fr.fn=f:=by
    rcases (hR e s' a' w' I' ρ' hq hs' tr).1 with rfl|rfl
    ·exact ⟨{Am b a' []with mode:= .returning},Steps.trans harr (.one (step_lone_go (by simp [stepG,stepG.exec,Am,b]))),rfl,rfl,rfl,rfl,rfl⟩
    ·obtain ⟨k',hst⟩:=harr
     exact ⟨{Am b a' (.code .ret::k')with mode:= .returning},Steps.trans hst (.one (step_lone_go (by simp [stepG,stepG.exec,Am,b]))),rfl,rfl,rfl,rfl,rfl⟩
  obtain ⟨fr,hst,hm,hd,ht,hk,hfn⟩:=hret
  obtain ⟨w2,u1,u2,u3,u4,u5,u6⟩:=EV (P:=P) (cs:=cs) a'.defers w' fr hm hd hs'.defers.nd (fun d hd=>let ⟨r,h1,h2,_,_⟩:=hs'.defers.each d hd;⟨r,h1,h2⟩)
  have hown: ∀g,own ρ' s'.h g→w2.heap[g]? =w'.heap[g]?:=fun g hg=>u6 g fun d hd e=>by
    obtain ⟨r,h1,_,_,h4⟩:=hs'.defers.each d hd
    rw [h1]at e
    simp at e
    exact h4 (e▸hg)
  have hI: ∀g,I' g→w2.heap[g]? =w'.heap[g]?:=fun g hg=>u6 g fun d hd e=>by
    obtain ⟨r,h1,_,h3,_⟩:=hs'.defers.each d hd
    rw [h1]at e
    simp at e
    exact h3 (e▸hg)
  have hH:=hs'.heap
  have H2:HeapOK w2 I' ρ' s'.h:=hH.keep hown hI (fun _ h=>h) (fun g hg=>hH.own_notI hg) (fun b hb=>by rw [u5];exact hH.ilt b hb) (fun _ _ h=>h) (by omega) hH.fresh hH.rone
  have S2:Sim w2 I' ρ' N s' {tmps:=a'.tmps,defers:= []}:=⟨hs'.size,⟨List.nodup_nil,fun d hd=>by simp at hd⟩,fun i=>(hs'.tmp i).keep hI (fun _ h=>h) (fun _ _ h=>h),H2⟩
  have T2:Tr w I ρ s.h w2 I' ρ' s'.h:=by
    refine ⟨u2.trans tr.os,u3.trans tr.tape,u4.trans tr.output,by rw [u5];exact tr.size,fun g hg hn=> ?_,tr.imm,tr.immBack,tr.ownBack,tr.rho⟩
    rw [u6 g (fun d hd e=> ?_)]
    ·exact tr.frame g hg hn
    ·obtain ⟨r,h1,h2,h3,h4⟩:=hs'.defers.each d hd
     rw [h1]at e
     simp at e
     subst e
     rcases hnd d hd with q|⟨r',q1,q2⟩
     ·simp at q
     ·rw [h1]at q1;simp at q1;omega
  obtain ⟨_,v,hr,hRv⟩:=hR e s' _ w2 I' ρ' hq S2 T2
  refine ⟨.returned v,w2,{fr with defers:= []},hRv,Steps.trans hst u1,hfn,hm,rfl,hk,fn,by simpa [hfn] using hf,?_⟩
  simpa [ht] using hr
/-- What a function hands back, as it is. -/
def Uv (t:Nat→AV)(h:D2)(rs:List RV):Option AV:=match Yi t h rs with
  |some [v]=>some v
  |some vs=>some (.tup vs)
  |none=>none
theorem AB {fn:Func}{rs:List RV}{w:World}{I:Nat→Prop}{ρ:Rho}{s:St}{a:Act}{v:AV}(hs:Sim w I ρ N s a)(hrs:fn.results.toList.mapM (AA P)=some rs)(hv:Uv s.t s.h rs=some v):
    ∃x,(results fn a.tmps).run P w= .ok x w∧RepV w I ρ v x:=by
  unfold Uv at hv
  split at hv
  ·rename_i v' hl
   obtain rfl:v'=v:=by simpa using hv
   obtain ⟨xs,g1,g2,g3⟩:=Rv hs hrs hl
   obtain ⟨x,rfl⟩: ∃x,xs= [x]:=by
     cases xs with
     |nil=>simp at g2
     |cons x r=>cases r with
      |nil=>exact ⟨x,rfl⟩
      |cons=>simp at g2
   exact ⟨x,by rw [Mz fn a w _ g1];simp,g3 0 _ rfl⟩
  ·rename_i vs' hne hl
   cases hv
   obtain ⟨xs,g1,g2,g3⟩:=Rv hs hrs hl
   have hx1: ¬xs.length=1:=by
     intro h1
     rw [g2]at h1
     obtain ⟨v,rfl⟩:=List.length_eq_one_iff.1 h1
     exact hne v rfl
   exact ⟨_,by rw [Mz fn a w _ g1,dif_neg hx1], .tup vs' xs (by omega) g3⟩
  ·cases hv
def EW (args:List AV):Nat→AV:=fun i=>args.getD i .any
theorem Rw {w:World}{I:Nat→Prop}{ρ:Rho}{h:D2}{args:List AV}{vs:List Value}{n:Nat}(H:HeapOK w I ρ h)(hl:args.length=vs.length)(hn:vs.length≤n)(hr: ∀(i:Nat) c,args[i]? =some c→RepV w I ρ c (vs.getD i undef)):
    Sim w I ρ n ⟨EW args,h⟩ {tmps:=vs.toArray++Array.replicate (n - vs.toArray.size) undef,defers:= []}:=by
  refine ⟨by simp;omega,⟨List.nodup_nil,fun d hd=>by simp at hd⟩,fun i=> ?_,H⟩
  simp only [EW,List.getD]
  cases hq:args[i]? with
  |none=>exact .any _
  |some c=>
   have hi:=(lH.1 hq).1
   have:=hr i c hq
   rw [Array.getD_eq_getD_getElem?,Array.getElem?_append_left (by simpa using (by omega:i<vs.length))]
   simpa [List.getD] using this
/-- A call that shares what is the run's own. -/
theorem AD {f:FuncId}{rs:List RV}{ac:AC}(F:FnOK P f N rs ac){args:List AV}{h:D2}{K:AV→D2→Prop}(hl:args.length≤N)
    (hw:AW P N none ac ⟨EW args,h⟩ fun e s=>(e= .nrm∨e= .ret)∧∃v,Uv s.t s.h rs=some v∧K v s.h):ICall P f args h K:=by
  refine ⟨F.enters,?_⟩
  obtain ⟨fn,c,hf,hb,hN,hrs,⟨M,hc⟩,hn⟩:=F.ex
  intro w I ρ vs H hlen hrep
  have hsim:=Rw (n:=N) H hlen (by omega) hrep
  rw [← hN]at hsim
  refine Kn (Q:=fun e s=>(e= .nrm∨e= .ret)∧∃v,Uv s.t s.h rs=some v∧K v s.h) hf hb rfl hsim (by rw [hN];exact hw M c hc) ?_
  rintro e s' a' w' I' ρ' ⟨he,v,hv,hk⟩ hs' tr
  obtain ⟨x,hx,hr⟩:=AB hs' hrs hv
  exact ⟨he,x,hx,x,v,I',ρ',s'.h,rfl,hr,hs'.heap,tr,hk⟩
theorem HF {fn:Func}{rs:List RV}{w:World}{I:Nat→Prop}{ρ:Rho}{s:St}{a:Act}{r:D}(hs:Sim w I ρ N s a)(hrs:fn.results.toList.mapM (AA P)=some rs)(hres:Vq s.t s.h rs=some r):
    ∃x,(results fn a.tmps).run P w= .ok x w∧RepD w (fun b=>I b∨own ρ s.h b) r x:=by
  unfold Vq at hres
  split at hres
  ·rename_i v hl
   obtain ⟨x,h1,h2⟩:=AB (v:=v) hs hrs (by unfold Uv;rw [hl])
   exact ⟨x,h1,Fs hs.heap 6 v r x h2 hres⟩
  ·rename_i vs' hne hl
   simp only [lD]at hres
   obtain ⟨ds,hds,rfl⟩:=hres
   obtain ⟨xs,g1,g2,g3⟩:=Rv hs hrs hl
   obtain ⟨l1,l2⟩:=Cg hds
   have hx1: ¬xs.length=1:=by
     intro h1
     rw [g2]at h1
     obtain ⟨v,rfl⟩:=List.length_eq_one_iff.1 h1
     exact hne v rfl
   refine ⟨_,by rw [Mz fn a w _ g1,dif_neg hx1], .tup ds xs (by omega) (fun i d hi=> ?_)⟩
   obtain ⟨x,hx,hf⟩:=l2 i d hi
   exact Fs hs.heap 6 x d _ (g3 i x hx) hf
  ·cases hres
theorem RM {f:FuncId}{rs:List RV}{ac:AC}(F:FnOK P f N rs ac){args:List D}{r:D}(hl:args.length≤N)
    (h:AW P N none ac ⟨OF args,fun _=>none⟩ fun e s=>(e= .nrm∨e= .ret)∧Vq s.t s.h rs=some r):PCall P f args r:=by
  refine ⟨F.enters,?_⟩
  obtain ⟨fn,c,hf,hb,hN,hrs,⟨M,hc⟩,hn⟩:=F.ex
  intro w I vs hI hlen hrep
  have H0:HeapOK w I (fun _=>none) (fun _=>none):=⟨fun k b hb=>(by cases hb),fun k k' b b' g h1=>(by cases h1),fun k b g h1=>(by cases h1),fun k b g h1=>(by cases h1),hI,⟨0,fun _ _ _=>rfl⟩,fun k y hy=>(by cases hy)⟩
  have hsim:=Rw (n:=N) (args:=args.map .d) (h:=fun _=>none) H0 (by simpa using hlen) (by omega) (fun i c hc=>by
    rw [lI]at hc
    cases hq:args[i]? with
    |none=>rw [hq]at hc;cases hc
    |some q=>rw [hq]at hc;cases hc;exact .d _ _ (hrep i q hq))
  have e:EW (args.map .d)=OF args:=by
    funext i
    simp only [EW,OF,List.getD,lI]
    cases args[i]? <;>rfl
  rw [e,← hN]at hsim
  refine Kn (Q:=fun e s=>(e= .nrm∨e= .ret)∧Vq s.t s.h rs=some r) hf hb rfl hsim (by rw [hN];exact h M c hc) ?_
  rintro e s' a' w' I' ρ' ⟨he,hres⟩ hs' tr
  have hownI: ∀b,own ρ' s'.h b→¬b<w.heap.size:=fun b hb hlt=>by
    obtain ⟨k,x,h1,_⟩:=tr.ownBack b hb hlt
    cases h1
  have hptr:PTr w I w' (fun b=>I' b∨own ρ' s'.h b):=by
    refine ⟨tr.os,tr.tape,tr.output,tr.size,fun b hb=>tr.frame b hb (fun ⟨k,x,h1,_⟩=>by cases h1),fun b hb=> .inl (tr.imm b hb),fun b hb hlt=> ?_,fun b hb=> ?_⟩
    ·rcases hb with hb|hb
     ·rcases tr.immBack b hb hlt with h|⟨k,x,h1,_⟩
      ·exact h
      ·cases h1
     ·exact absurd hlt (hownI b hb)
    ·rcases hb with hb|hb
     ·exact hs'.heap.ilt b hb
     ·exact hs'.heap.own_lt hb
  obtain ⟨x,hx,hr⟩:=HF hs' hrs hres
  exact ⟨he,x,hx,x,_,rfl,hr,hptr⟩
end
end Go.Abs
namespace Go.Abs
open Go
/-! ### States as lists, for the simplifier -/
def T:List (Nat×AV)→Nat→AV
  | [],_=> .any
  |(i,v)::l,j=>if j=i then v else T l j
def dD:List (Nat×AV)→Nat→AV→List (Nat×AV)
  | [],d,v=> [(d,v)]
  |(i,x)::l,d,v=>if d=i then (i,v)::l else (i,x)::dD l d v
theorem Ys {α β:Type}[DecidableEq α](f:α→β)(d:α)(a b:β):V1 (V1 f d a) d b=V1 f d b:=by
  funext x;simp only [V1];split<;>rfl
theorem ZJ (i:Nat)(v:AV)(l:List (Nat×AV))(j:Nat):T ((i,v)::l) j=if j=i then v else T l j:=rfl
theorem bR (j:Nat):T [] j= .any:=rfl
def H:List (D6×Blk)→D2
  | [],_=>none
  |(i,v)::l,j=>if j=i then some v else H l j
def dE:List (D6×Blk)→D6→Blk→List (D6×Blk)
  | [],d,v=> [(d,v)]
  |(i,x)::l,d,v=>if d=i then (i,v)::l else (i,x)::dE l d v
def bS:List (D6×Blk)→D6→List (D6×Blk)
  | [],_=> []
  |(i,x)::l,d=>if d=i then bS l d else (i,x)::bS l d
theorem dF (i:D6)(v:Blk)(l:List (D6×Blk))(j:D6):H ((i,v)::l) j=if j=i then some v else H l j:=rfl
def KH:Nat→List D→List (Nat×AV)
  |_,[]=> []
  |n,d::r=>(n, .d d)::KH (n+1) r
theorem RN: ∀(args:List D) (n:Nat) (i:Nat),T (KH n args) (n+i)=match args[i]? with
    |some d=> .d d
    |none=> .any
  | [],n,i=>by simp [KH,T]
  |d::r,n,i=>by
   cases i with
   |zero=>simp [KH,T]
   |succ i=>
    have:=RN r (n+1) i
    simp only [KH,T]
    rw [bC (by omega),show n+ (i+1)=n+1+i by omega,this]
    simp
theorem VP (args:List D):OF args=T (KH 0 args):=by
  funext i
  have:=RN args 0 i
  rw [bN]at this
  rw [this];rfl
section
variable {P:Program}{N:Nat}{rk:Option D6}{s:St}{Q:Ex→St→Prop}{l:List (Nat×AV)}{g:List (D6×Blk)}
theorem RO {u:Nat}{dst:Option Nat}{t:Nat→AV}{h:D2}{k:AK}{A B:AV→List (D6×Option Blk)→Prop}(hAB: ∀v ups,A v ups→B v ups)(ho:Ve P u dst t h k A):Ve P u dst t h k B:=by
  unfold Ve at ho ⊢
  split at ho<;>(try exact ho.elim)<;>(try (split at ho<;>(try exact ho.elim)<;>(try (split at ho<;>(try exact ho.elim)))<;>exact hAB _ _ ho))<;>(try exact Xs hAB ho)
  unfold DC at ho ⊢
  split at ho
  ·split at ho
   ·obtain ⟨r,h1,h2,h3⟩:=ho
    exact ⟨r,h1,h2,hAB _ _ h3⟩
   ·exact ho.elim
  ·exact ho.elim
theorem ICall.mono {f:FuncId}{avs:List AV}{h:D2}{K K':AV→D2→Prop}(hk: ∀v h,K v h→K' v h)(hc:ICall P f avs h K):ICall P f avs h K':=
  ⟨hc.1,fun w I ρ vs H hl hr=>(hc.2 w I ρ vs H hl hr).mono fun _ _ ⟨x,v,I',ρ',h',e,r1,r2,r3,r4⟩=>⟨x,v,I',ρ',h',e,r1,r2,r3,hk _ _ r4⟩⟩
theorem YCall.mono {k:D6}{avs:List AV}{h:D2}{K K':AV→D2→Prop}(hk: ∀v h,K v h→K' v h)(hc:YCall P k avs h K):YCall P k avs h K':=by
  intro w I ρ l vs H hl hn hr
  obtain ⟨f,tmps,as,bd,h1,h2⟩:=hc w I ρ l vs H hl hn hr
  refine ⟨f,tmps,as,bd,h1,fun c cs=> ?_⟩
  obtain ⟨v,w',⟨x,I',ρ',h',r1,r2,r3,r4⟩,st⟩:=h2 c cs
  exact ⟨v,w',⟨x,I',ρ',h',r1,r2,r3,hk _ _ r4⟩,st⟩
theorem VQ {g:Option (Nat×Bool)}{t:Nat→AV}{K K':AV→List (D6×Option Blk)→Prop}{b b':Prop}(hk: ∀v ups,K v ups→K' v ups)(hb:b→b')(h:gW g t K b):gW g t K' b':=by
  unfold gW at h ⊢
  split at h
  ·exact hb h
  ·split at h
   ·split at h
    ·rename_i hcb;simp only [hcb,if_true];exact hb h
    ·rename_i hcb;simp only [hcb,if_false];exact hk _ _ h
   ·exact hk _ _ h
   ·exact h.elim
end
end Go.Abs
namespace Go.Abs
open Go
/-- A state of which less is known. -/
structure Sub (s0 s:St):Prop where
  t: ∀i,s0.t i= .any∨s0.t i=s.t i
  h: ∀k b,s0.h k=some b→s.h k=some b
def ZK (t:Nat→AV):List (Nat×AV)→Prop
  | []=>True
  |(i,v)::r=>t i=v∧ZK t r
def bT (h:D2):List (D6×Blk)→Prop
  | []=>True
  |(k,b)::r=>h k=some b∧bT h r
theorem ZL {l:List (Nat×AV)}{g:List (D6×Blk)}{s:St}(h1:ZK s.t l)(h2:bT s.h g):Sub ⟨T l,H g⟩ s:=by
  constructor
  ·intro i
   show T l i= .any∨T l i=s.t i
   induction l with
   |nil=>exact .inl rfl
   |cons p r ih=>
    obtain ⟨j,v⟩:=p
    rw [ZJ]
    by_cases e:i=j
    ·subst e;rw [bB rfl];exact .inr h1.1.symm
    ·rw [bC e];exact ih h1.2
  ·intro k b
   show H g k=some b→s.h k=some b
   induction g with
   |nil=>intro h;cases h
   |cons p r ih=>
    obtain ⟨j,v⟩:=p
    rw [dF]
    by_cases e:k=j
    ·subst e;rw [bB rfl];intro h;cases h;exact h2.1
    ·rw [bC e];exact ih h2.2
theorem Sub.refl (s:St):Sub s s:=⟨fun _=> .inr rfl,fun _ _ h=>h⟩
section
variable {P:Program}{N:Nat}{rk:Option D6}{s:St}{Q:Ex→St→Prop}
theorem ZM {ac:AC}{s0:St}(hs:Sub s0 s)(h:AW P N rk ac s0 Q):AW P N rk ac s Q:=VN hs.t hs.h h
theorem HG {α:Type}{a:AC}(st:α→St)(μ:α→Nat)(Inv:α→Prop)(x0:α)(h0:Inv x0)(hs0:Sub (st x0) s)
    (h: ∀x,Inv x→AW P N rk a (st x) (fun e s'=>match e with| .nrm=> ∃y,Inv y∧μ y<μ x∧Sub (st y) s'|e=>Q e s')):AW P N rk (.loop a) s Q:=by
  refine LZ (fun n s=> ∃x,n=μ x∧Inv x∧Sub (st x) s) (μ x0) ⟨x0,rfl,h0,hs0⟩ ?_
  rintro n s' ⟨x,rfl,hi,hsub⟩
  refine ZM hsub ((h x hi).mono ?_)
  intro e s2 hq
  cases e with
  |nrm=>obtain ⟨y,h1,h2,h3⟩:=hq;exact ⟨μ y,h2,y,rfl,h1,h3⟩
  |_=>exact hq
theorem Vr {o:Opd}{a b:AC}{t:Bool}(ht:ev s.t o= .d (.v (.bool t)))(h1:t=true→AW P N rk a s Q)(h2:t=false→AW P N rk b s Q):AW P N rk (.cond o a b) s Q:=by
  refine EU ht ?_
  cases t
  ·exact h2 rfl
  ·exact h1 rfl
theorem RP {o:Opd}{a b:AC}{p:Prop}[Decidable p](ht:ev s.t o= .d (.v (.bool (decide p))))(h1:p→AW P N rk a s Q)(h2: ¬p→AW P N rk b s Q):AW P N rk (.cond o a b) s Q:=
  Vr ht (fun h=>h1 (of_decide_eq_true h)) (fun h=>h2 (of_decide_eq_false h))
theorem OG {u:Nat}{K:(Nat→AV)→D2→Prop}{dst:Option Nat}{f:Opd}{args:List Opd}{rest:List AOp}{t:Nat→AV}{h:D2}{fid:FuncId}{avs:List AV}{ds:List D}{r:D}(hc:Q5 t f args=some (fid,avs))(hd:M7 (L8 h 6) avs=some ds)
    (hp:PCall P fid ds r) (ha:Fa avs=some ds∨GO r=true) (hk:K1 P u rest (Mg t dst (.d r)) h K):K1 P u (⟨dst, .call f args,none⟩::rest) t h K:=by
  simp only [K1,gW,Ve,DC,hc,hd]
  exact ⟨r,hp,ha,hk⟩
end
end Go.Abs
namespace Go.Abs
open Go
section
variable {P:Program}{N:Nat}
/-- The loop's record takes another state. -/
theorem Rx {w:World}{I:Nat→Prop}{ρ:Rho}{h:D2}{k:D6}{t:Nat→AV}{r r':Loop}{l:Nat}(H:HeapOK w I ρ h)(hk:h k=some (.obj t r))(hρ:ρ k=some (.pointer (some ⟨l,0,none⟩)))(ht:r'.tmps=r.tmps):
    w.heap[l]? =some (.loop r)∧HeapOK (w.putObj l (.loop r')) I ρ (V1 h k (some (.obj t r')))∧Tr w I ρ h (w.putObj l (.loop r')) I ρ (V1 h k (some (.obj t r'))):=by
  obtain ⟨g,h1,h2,h3⟩:=H.blk k _ hk
  rw [hρ]at h1
  cases h1
  have hlt:l<w.heap.size:=(Array.getElem?_eq_some_iff.1 h2).1
  have hloc: ∀r,L9 ρ k (.obj t r)=some l:=fun r=>by simp [L9,hρ,Dy]
  have hnI: ¬I l:=H.notI k _ l hk (hloc r)
  obtain ⟨q1,q2⟩:=Rg (w':=w.putObj l (.loop r')) H k (.obj t r) (.obj t r') l hk (hloc r) (hloc r') rfl rfl rfl (by simp) (fun i hi=>World.putObj_heap_other hi)
    ⟨l,hρ,World.putObj_heap_same hlt,fun i=>by
      rw [ht]
      exact (h3 i).keep (fun b hb=>World.putObj_heap_other (fun e=>hnI (e▸hb))) (fun _ h=>h) (fun _ _ h=>h)⟩
  exact ⟨h2,q1,q2⟩
def Ot (t:Nat→AV):List Nat→List AV→Nat→AV
  |p::ps,v::vs=>Ot (V1 t p v) ps vs
  |_,_=>t
theorem AE {w:World}{I:Nat→Prop}{ρ:Rho}: ∀(ps:List Nat) (avs:List AV) (vs:List Value) (t:Nat→AV) (tmps:Array Value),(∀p∈ps,p<tmps.size)→avs.length=ps.length→vs.length=ps.length→(∀i,RepV w I ρ (t i) (tmps.getD i undef))→
    (∀(i:Nat) c,avs[i]? =some c→RepV w I ρ c (vs.getD i undef))→
    ((ps.zip vs).foldl (fun tm (p:Nat×Value)=>tm.setIfInBounds p.1 p.2) tmps).size=tmps.size∧∀i,RepV w I ρ (Ot t ps avs i) (((ps.zip vs).foldl (fun tm (p:Nat×Value)=>tm.setIfInBounds p.1 p.2) tmps).getD i undef)
  | [],avs,vs,t,tmps,_,h1,h2,ht,_=>by
    have e1:avs= []:=lY h1
    subst e1
    exact ⟨rfl,ht⟩
  |p::ps,avs,vs,t,tmps,hp,h1,h2,ht,hr=>by
   cases avs with
   |nil=>simp at h1
   |cons a avs=>
    cases vs with
    |nil=>simp at h2
    |cons v vs=>
     have hp0:=hp p (by simp)
     obtain ⟨q1,q2⟩:=AE ps avs vs (V1 t p a) (tmps.setIfInBounds p v) (fun x hx=>by simpa using hp x (by simp [hx])) (by simpa using h1) (by simpa using h2) (fun i=>by
       rw [Array.getD_eq_getD_getElem?,Array.getElem?_setIfInBounds]
       by_cases e:p=i
       ·subst e
        rw [bB rfl,bB hp0,D9]
        exact hr 0 a rfl
       ·rw [bC e,J3 _ _ _ _ (Ne.symm e),← Array.getD_eq_getD_getElem?]
        exact ht i) (fun i c hc=>hr (i+1) c hc)
     exact ⟨by simpa using q1,q2⟩
/-- What comes of a round. -/
def ZN (k:D6)(K:AV→D2→Prop)(e:Ex)(s:St):Prop:= ∃t r,s.h k=some (.obj t r)∧(match e with
  | .nrm=>K (.d (.v (.bool true))) (V1 s.h k (some (.obj t {r with state:= .ready,pending:=none})))
  | .ext id=>K (.d (.v (.bool false))) (V1 s.h k (some (.obj t {r with state:= .done,pending:=some (.exit id)})))
  | .ret=>K (.d (.v (.bool false))) (V1 s.h k (some (.obj t {r with state:= .done,pending:=some .ret}))))
theorem HH {k:D6}{t0:Nat→AV}{r:Loop}{as bd:AC}{M:Zy}{avs:List AV}{h:D2}{K:AV→D2→Prop}(hk:h k=some (.obj t0 r))(hsz:avs.length=r.params.size)(hN:r.tmps.size=N)(hps: ∀p∈r.params.toList,p<N)
    (has:W3 P N M r.assign=some as) (hbd:W3 P N M r.body=some bd)
    (hw:AW P N (some k) as ⟨Ot t0 r.params.toList avs,h⟩ fun e s=>e= .nrm∧∃t1 r1,s.h k=some (.obj t1 r1)∧r1.state= .ready∧
      AW P N (some k) bd ⟨s.t,V1 s.h k (some (.obj t1 {r1 with state:= .busy}))⟩ (ZN k K)):YCall P k avs h K:=by
  intro w I ρ l vs H hρ hlen hrep
  obtain ⟨g,h1,h2,h3⟩:=H.blk k _ hk
  rw [hρ]at h1
  cases h1
  have hvs:vs.toArray.size=r.params.size:=by simp;omega
  refine ⟨r.fn,_,r.assign,r.body,run_yield h2 hvs,fun c cs=> ?_⟩
  let b:Frame:={(default:Frame)with fn:=r.fn,kind:= .normal,roundOf:=some l}
  have hfold:(Array.zip r.params vs.toArray).foldl (fun tmps (x:Tmp×Value)=>tmps.setIfInBounds x.1 x.2) r.tmps=(r.params.toList.zip vs).foldl (fun tm (p:Nat×Value)=>tm.setIfInBounds p.1 p.2) r.tmps:=by
    rw [← Array.foldl_toList]
    simp
  obtain ⟨q1,q2⟩:=AE r.params.toList avs vs t0 r.tmps (by rw [hN];exact hps) (by simpa using hsz) (by simp;omega) h3 hrep
  rw [← hfold]at q1 q2
  generalize htm:(Array.zip r.params vs.toArray).foldl (fun tmps (x:Tmp×Value)=>tmps.setIfInBounds x.1 x.2) r.tmps=tm at q1 q2
  have hsim:Sim w I ρ N ⟨Ot t0 r.params.toList avs,h⟩ {tmps:=tm,defers:= []}:=⟨by rw [q1,hN],⟨List.nodup_nil,fun d hd=>by simp at hd⟩,q2,H⟩
  have hro:RoOK ρ (some k) (some l):=⟨l,rfl,hρ⟩
  obtain ⟨e,a1,w1,⟨s1,I1,ρ1,⟨rfl,t1,r1,g1,g2,g3⟩,hs1,tr1,_⟩,harr⟩:=hw M _ has w I ρ _ hsim (some l) hro b [.beginRound, .code r.body] (c::cs) rfl
  have hb0:Frame.round l r.fn tm r.assign r.body .normal=Am b {tmps:=tm,defers:= []} [.code r.assign, .beginRound, .code r.body]:=by
    simp [Frame.round,Am,b]
  rw [hb0]
  obtain ⟨p1,p2,p3⟩:=Rx (r':={r1 with state:= .busy}) hs1.heap g1 (tr1.rho _ _ hρ) rfl
  have st1:Steps P (lone (Am b a1 [.beginRound, .code r.body]) (c::cs) w1) (lone (Am b a1 [.code r.body]) (c::cs) (w1.putObj l (.loop {r1 with state:= .busy}))):= .one (stepR_beginRound (b:=b) rfl (run_beginRound p1 g2))
  have hs2:=hs1.step p2 p3
  obtain ⟨e2,a2,w2,⟨s2,I2,ρ2,⟨t2,r2,u1,u2⟩,hs3,tr3,_⟩,harr2⟩:=g3 M _ hbd _ _ _ _ hs2 (some l) (hro.mono tr1.rho) b [] (c::cs) rfl
  have trAll:=(tr1.trans p3).trans tr3
  have hρ2:=trAll.rho _ _ hρ
  cases e2 with
  |nrm=>
   obtain ⟨z1,z2,z3⟩:=Rx (r':={r2 with state:= .ready,pending:=none}) hs3.heap u1 hρ2 rfl
   exact ⟨_,_,⟨_,I2,ρ2,_, .d _ _ (.v _),z2,trAll.trans z3,u2⟩,Steps.trans harr (Steps.trans st1 (Steps.trans harr2 (.one (stepR_round_end (b:=b) rfl rfl (run_endRound none z1)))))⟩
  |ext id=>
   obtain ⟨k',st,hx⟩:=harr2
   obtain ⟨z1,z2,z3⟩:=Rx (r':={r2 with state:= .done,pending:=some (.exit id)}) hs3.heap u1 hρ2 rfl
   exact ⟨_,_,⟨_,I2,ρ2,_, .d _ _ (.v _),z2,trAll.trans z3,u2⟩,Steps.trans harr (Steps.trans st1 (Steps.trans st (.one (stepR_round_exit (b:=b) rfl rfl hx (run_endRound (some (.exit id)) z1)))))⟩
  |ret=>
   obtain ⟨k',st⟩:=harr2
   obtain ⟨z1,z2,z3⟩:=Rx (r':={r2 with state:= .done,pending:=some .ret}) hs3.heap u1 hρ2 rfl
   exact ⟨_,_,⟨_,I2,ρ2,_, .d _ _ (.v _),z2,trAll.trans z3,u2⟩,Steps.trans harr (Steps.trans st1 (Steps.trans st (.one (stepR_round_ret (b:=b) rfl rfl (run_endRound (some .ret) z1)))))⟩
end
end Go.Abs
namespace Go.Abs
open Go
section
variable {P:Program}{N:Nat}{rk:Option D6}{s:St}{Q:Ex→St→Prop}
/-- A block that is no one's. -/
theorem OH {w:World}{I:Nat→Prop}{ρ:Rho}{a:Act}(hs:Sim w I ρ N s a)(o:Obj):Sim (w.alloc o) I ρ N s a∧Tr w I ρ s.h (w.alloc o) I ρ s.h:=by
  have T:Tr w I ρ s.h (w.alloc o) I ρ s.h:=⟨rfl,rfl,rfl,by rw [World.size_alloc];omega,fun b hb _=>heap_alloc_old w o hb,fun _ h=>h,fun _ h _=> .inl h,fun _ h _=>h,fun _ _ h=>h⟩
  have H:=hs.heap
  have H':HeapOK (w.alloc o) I ρ s.h:=H.keep (fun g hg=>heap_alloc_old w o (H.own_lt hg)) (fun b hb=>heap_alloc_old w o (H.ilt b hb)) (fun _ h=>h) (fun g hg=>H.own_notI hg) (fun b hb=>bO (H.ilt b hb) T.size) (fun _ _ h=>h) T.size H.fresh H.rone
  exact ⟨hs.step H' T,T⟩
/-- The loop's record is laid. -/
theorem HI {w:World}{I:Nat→Prop}{ρ:Rho}{a:Act}(hs:Sim w I ρ N s a){k:D6}(hk:ρ k=none)(r:Loop)(hr:r.tmps=a.tmps):
    Sim (w.alloc (.loop r)) I (V1 ρ k (some (.pointer (some ⟨w.heap.size,0,none⟩)))) N ⟨s.t,V1 s.h k (some (.obj s.t r))⟩ a∧Tr w I ρ s.h (w.alloc (.loop r)) I (V1 ρ k (some (.pointer (some ⟨w.heap.size,0,none⟩)))) (V1 s.h k (some (.obj s.t r))):=by
  have H:=hs.heap
  have hle:=EE (x:= .pointer (some ⟨w.heap.size,0,none⟩)) hk
  obtain ⟨q1,q2⟩:=Vh H k (.loop r) (.pointer (some ⟨w.heap.size,0,none⟩)) (.obj s.t r) hk rfl (by intro g hg;simp [L9,D9,Dy]at hg;exact hg.symm)
    ⟨w.heap.size,D9 _ _ _,heap_alloc_new w _,fun i=>by rw [hr];exact (hs.tmp i).keep (fun b hb=>heap_alloc_old w _ (H.ilt b hb)) (fun _ h=>h) hle⟩
  exact ⟨hs.step q1 q2,q2⟩
def OI:AV→Option (FuncId×List AV×List AV)
  | .d (.fn (.func g) fs cs)=>some (g,fs.map .d,cs.map .d)
  | .fn (.func g) fs cs=>some (g,fs,cs)
  |_=>none
theorem RQ {w:World}{I:Nat→Prop}{ρ:Rho}{x:AV}{v:Value}{g:FuncId}{fs cs:List AV}(h:RepV w I ρ x v)(hc:OI x=some (g,fs,cs)):
    ∃vfs vcs:List Value,v= .func (.func g) vfs.toArray vcs.toArray∧fs.length=vfs.length∧cs.length=vcs.length∧(∀(i:Nat) c,fs[i]? =some c→RepV w I ρ c (vfs.getD i undef))∧∀(i:Nat) c,cs[i]? =some c→RepV w I ρ c (vcs.getD i undef):=by
  unfold OI at hc
  split at hc
  ·rename_i g' fs0 cs0
   cases hc
   cases h with
   |d _ _ hd=>
    cases hd with
    |fn _ _ _ vfs vcs hl hl' hr hr'=>
     refine ⟨vfs,vcs,rfl,by simpa using hl,by simpa using hl',fun i c hi=> ?_,fun i c hi=> ?_⟩
     ·rw [lI]at hi
      cases hq:fs0[i]? with
      |none=>rw [hq]at hi;cases hi
      |some q=>rw [hq]at hi;cases hi;exact .d _ _ (hr i q hq)
     ·rw [lI]at hi
      cases hq:cs0[i]? with
      |none=>rw [hq]at hi;cases hi
      |some q=>rw [hq]at hi;cases hi;exact .d _ _ (hr' i q hq)
  ·cases hc
   cases h with
   |fn _ _ _ vfs vcs hl hl' hr hr'=>exact ⟨vfs,vcs,rfl,hl,hl',hr,hr'⟩
  ·cases hc
/-- What comes of the loop, when the function over which it ranges has returned. -/
def RR (k:D6)(t:Nat→AV)(Q:Ex→St→Prop)(h':D2):Prop:= ∃t' r',h' k=some (.obj t' r')∧r'.state≠ .busy∧(match r'.pending with
  |none=>Q .nrm ⟨t,V1 h' k none⟩
  |some (.exit id)=>Q (.ext id) ⟨t,V1 h' k none⟩
  |some .ret=>Q .ret ⟨t,V1 h' k none⟩
  |_=>False)
theorem RS {w:World}{I:Nat→Prop}{ρ:Rho}{fs cs:List AV}{y:AV}{vfs vcs:List Value}{vy:Value}(h1:fs.length=vfs.length)(hf: ∀(i:Nat) c,fs[i]? =some c→RepV w I ρ c (vfs.getD i undef))(hy:RepV w I ρ y vy)
    (hc: ∀(i:Nat) c,cs[i]? =some c→RepV w I ρ c (vcs.getD i undef)): ∀(i:Nat) c,(fs++ [y]++cs)[i]? =some c→RepV w I ρ c ((vfs++ [vy]++vcs).getD i undef):=by
  intro i c hi
  simp only [lM,List.getElem?_append,List.length_singleton]at hi
  simp only [List.getD,lM,List.getElem?_append,List.length_singleton]
  rw [← h1]
  split
  ·rename_i h;rw [bB h]at hi
   have:=hf i c hi
   rwa [List.getD]at this
  ·rename_i h;rw [bC h]at hi
   split
   ·rename_i h2;rw [bB h2]at hi
    have e:i - fs.length=0:=by omega
    rw [e]at hi ⊢
    simp at hi ⊢
    subst hi;exact hy
   ·rename_i h2;rw [bC h2]at hi
    have:=hc _ c hi
    rwa [List.getD]at this
theorem DE {f:Opd}{ps:List Nat}{as bd:AC}{gf:FuncId}{fs cs:List AV}(hf:OI (ev s.t f)=some (gf,fs,cs))(hrk: ∀kk,rk=some kk→∃t r,s.h kk=some (.obj t r))
    (h: ∀(u:Nat) (r:Loop) (M:Zy),(∀q,s.h q≠none→q.2≠u)→s.h (1000000,u)=none→rk≠some (1000000,u)→r.state= .ready→r.pending=none→r.params.toList=ps→r.tmps.size=N→(∀p∈ps,p<N)→W3 P N M r.assign=some as→W3 P N M r.body=some bd→
     ICall P gf (fs++ [.yld (1000000,u)]++cs) (V1 s.h (1000000,u) (some (.obj s.t r))) fun _ h'=>RR (1000000,u) s.t Q h'):AW P N rk (.rangeF f ps as bd) s Q:=fun M c hc=>by
  obtain ⟨g,qs,x,y,rfl,hX,hqs,hpN,h1,h2⟩:=Ah hc
  intro w I ρ a hs ro hro b k cs' hbro
  obtain ⟨u,hu,hfk⟩:=hs.fresh_u
  have hkey:s.h (1000000,u)=none:=hs.absent hu 1000000
  -- the record is laid
  obtain ⟨l,mark,w1,r,ρ1,he,hr1,hr2,hr3,hr4,hr5,hr6,hρ1,hs1,tr1,hnd⟩: ∃(l:Nat) (mark:List Deferred) (w1:World) (r:Loop) (ρ1:Rho),(Instr.enterLoop b.fn a.tmps qs x y b.roundOf).run P w= .ok (l,mark) w1∧r.state= .ready∧r.pending=none∧r.params=qs∧r.tmps=a.tmps∧r.assign=x∧r.body=y∧
      ρ1 (1000000,u)=some (.pointer (some ⟨l,0,none⟩))∧Sim w1 I ρ1 N ⟨s.t,V1 s.h (1000000,u) (some (.obj s.t r))⟩ {a with defers:=mark++a.defers}∧Tr w I ρ s.h w1 I ρ1 (V1 s.h (1000000,u) (some (.obj s.t r)))∧NewD w a.defers (mark++a.defers):=by
    cases rk with
    |none=>
     have hro':ro=none:=hro
     rw [hbro,hro']
     obtain ⟨sa,ta⟩:=OH hs (.deferred (some []))
     let r:Loop:={state:= .ready,pending:=none,fn:=b.fn,tmps:=a.tmps,params:=qs,assign:=x,body:=y,defers:=w.heap.size}
     obtain ⟨sb,tb⟩:=HI sa (k:=(1000000,u)) (hu 1000000) r rfl
     have hsz:(w.alloc (.deferred (some []))).heap.size=w.heap.size+1:=by rw [World.size_alloc]
     refine ⟨_,_,_,r,_,run_enterLoop_outer _ _ _ _ _,rfl,rfl,rfl,rfl,rfl,rfl,by rw [D9,hsz],?_,ta.trans tb,fun d hd=> ?_⟩
     ·refine ⟨sb.size,⟨?_,fun d hd=> ?_⟩,sb.tmp,sb.heap⟩
      ·simp only [List.singleton_append,List.nodup_cons]
       refine ⟨fun hm=> ?_,sb.defers.nd⟩
       obtain ⟨r',e1,e2,_⟩:=hs.defers.each _ hm
       simp at e1
       have:=(Array.getElem?_eq_some_iff.1 e2).1
       omega
      ·rcases lS.1 hd with rfl|hd
       ·refine ⟨w.heap.size,rfl,?_,fun hi=> ?_,fun ho=> ?_⟩
        ·rw [heap_alloc_old _ _ (by rw [hsz];omega)];exact heap_alloc_new w _
        ·have:=hs.heap.ilt _ hi;omega
        ·have:=(ta.trans tb).ownBack
         obtain ⟨k',blk,g1,g2⟩:=ho
         by_cases e:k'=(1000000,u)
         ·subst e
          simp only [D9,Option.some.injEq]at g1
          subst g1
          simp [L9,D9,Dy,hsz]at g2
         ·have g1:s.h k'=some blk:=by rw [← g1];exact (J3 _ _ _ _ e).symm
          have:L9 ρ k' blk=some w.heap.size:=by
            rw [← g2]
            exact (Mv blk (J3 _ _ _ _ e)).symm
          have:=hs.heap.lt k' blk _ g1 this
          omega
       ·exact sb.defers.each d hd
     ·rcases lS.1 hd with rfl|hd
      ·exact .inr ⟨_,rfl,bK _⟩
      ·exact .inl hd
    |some kk=>
     obtain ⟨l0,hro1,hro2⟩:=hro
     obtain ⟨t0,r0,hk0⟩:=hrk kk rfl
     obtain ⟨g0,g1,g2,_⟩:=hs.heap.blk kk _ hk0
     rw [hro2]at g1
     cases g1
     rw [hbro,hro1]
     let r:Loop:={state:= .ready,pending:=none,fn:=b.fn,tmps:=a.tmps,params:=qs,assign:=x,body:=y,defers:=r0.defers}
     obtain ⟨sb,tb⟩:=HI hs (k:=(1000000,u)) (hu 1000000) r rfl
     exact ⟨_,_,_,r,_,run_enterLoop_inner g2 _ _ _ _ _,rfl,rfl,rfl,rfl,rfl,rfl,D9 _ _ _,sb,tb,fun d hd=> .inl (by simpa using hd)⟩
  -- the call
  have hne:rk≠some (1000000,u):=by
    intro e
    obtain ⟨t0,r0,hk0⟩:=hrk _ e
    rw [hkey]at hk0;cases hk0
  obtain ⟨hE,hC⟩:=h u r M hfk hkey hne hr1 hr2 (by rw [hr3,hqs]) (by rw [hr4];exact hs.size) hpN (by rw [hr5];exact h1) (by rw [hr6];exact h2)
  have hfr:=M6 hs1 hX
  obtain ⟨vfs,vcs,hv,l1,l2,p1,p2⟩:=RQ hfr hf
  have hv':a.eval g= .func (.func gf) vfs.toArray vcs.toArray:=by
    rw [← hv];cases g<;>rfl
  have hcall:=hC w1 I ρ1 (vfs++ [Value.func (.yield l) #[] #[]]++vcs) hs1.heap (by simp [l1,l2]) (RS l1 p1 (.yld _ l hρ1) p2)
  have hres:(resolve a.eval (rangeCall g l) 0).run P w1= .ok {target:= .fn (.func gf) vcs.toArray,args:=(vfs++ [Value.func (.yield l) #[] #[]]).toArray} w1:=by
    simp [resolve,Deferred.ofValue,hv',show ∀v,a.eval (.const v)=v from fun _=>rfl]
  have hinv:(invoke (.fn (.func gf) vcs.toArray) (vfs++ [Value.func (.yield l) #[] #[]]).toArray).run P w1= .ok (.enter gf (vfs++ [Value.func (.yield l) #[] #[]]++vcs).toArray) w1:=by
    simp [invoke,hE _ _]
  have henter:=stepR_rangeFunc (P:=P) (b:=b) (a:=a) (k:=k) (cs:=cs') (w:=w) he hres hinv
  obtain ⟨e,w2,fr,hR,hsteps,_,hleave⟩:=hcall (Am b {a with defers:=mark++a.defers} (.inRangeFunc l::k)::cs')
  obtain ⟨xv,v,I2,ρ2,h',rfl,q1,q2,q3,t',r',q4,q5,q6⟩:=hR
  have hs2:Sim w2 I2 ρ2 N ⟨s.t,h'⟩ {a with defers:=mark++a.defers}:=hs1.step q2 q3
  have hρ2:=q3.rho _ _ hρ1
  obtain ⟨z1,z2,z3⟩:=Rx (r':={r' with state:= .exhausted}) hs2.heap q4 hρ2 rfl
  have hs3:=hs2.step z2 z3
  have hend:=run_endLoop (P:=P) z1 q5
  have hback:Steps P (lone (Am b a (.code (.rangeFunc g qs x y)::k)) cs' w) (lone (Am b {a with defers:=mark++a.defers} ((r'.pending.map Item.code).toList++k)) cs' (w2.putObj l (.loop {r' with state:= .exhausted}))):=by
    refine .head henter (Steps.trans hsteps (.head ?_ (.one (stepR_endRangeFunc (b:=b) hend))))
    have:=finish_atR_inRangeFunc (b:=b) (a:={a with defers:=mark++a.defers}) (k:=k) l xv
    rw [← this];exact step_leave_returned hleave
  -- the record is forgotten
  have hforget:Sim (w2.putObj l (.loop {r' with state:= .exhausted})) I2 ρ2 N ⟨s.t,V1 h' (1000000,u) none⟩ {a with defers:=mark++a.defers}∧Tr w I ρ s.h (w2.putObj l (.loop {r' with state:= .exhausted})) I2 ρ2 (V1 h' (1000000,u) none):=by
    have hsub: ∀q blk,V1 h' (1000000,u) none q=some blk→V1 h' (1000000,u) (some (.obj t' {r' with state:= .exhausted})) q=some blk:=by
      intro q blk hq
      by_cases e:q=(1000000,u)
      ·subst e;rw [D9]at hq;cases hq
      ·rw [J3 _ _ _ _ e]at hq ⊢;exact hq
    have hown: ∀g,own ρ2 (V1 h' (1000000,u) none) g→own ρ2 (V1 h' (1000000,u) (some (.obj t' {r' with state:= .exhausted}))) g:=fun g ⟨q,blk,e1,e2⟩=>⟨q,blk,hsub _ _ e1,e2⟩
    have Hx:=hs3.heap
    have T:=(tr1.trans q3).trans z3
    refine ⟨⟨hs3.size,⟨hs3.defers.nd,fun d hd=> ?_⟩,hs3.tmp,⟨fun q blk hq=>Hx.blk q blk (hsub _ _ hq),fun q q' blk blk' g e1 e2=>Hx.sep q q' blk blk' g (hsub _ _ e1) (hsub _ _ e2),fun q blk g e1=>Hx.notI q blk g (hsub _ _ e1),fun q blk g e1=>Hx.lt q blk g (hsub _ _ e1),Hx.ilt,Hx.fresh,Hx.rone⟩⟩,
      ⟨T.os,T.tape,T.output,T.size,T.frame,T.imm,T.immBack,fun g hg hl=>T.ownBack g (hown g hg) hl,T.rho⟩⟩
    obtain ⟨r0,d1,d2,d3,d4⟩:=hs3.defers.each d hd
    exact ⟨r0,d1,d2,d3,fun ho=>d4 (hown _ ho)⟩
  generalize w2.putObj l (.loop {r' with state:= .exhausted})=W at hback hforget
  cases hp:r'.pending with
  |none=>
   rw [hp]at q6 hback
   exact ⟨.nrm,_,_,⟨_,I2,ρ2,q6,hforget.1,hforget.2,hnd⟩,hback⟩
  |some c=>
   rw [hp]at q6 hback
   cases c with
   |exit id=>exact ⟨.ext id,_,_,⟨_,I2,ρ2,q6,hforget.1,hforget.2,hnd⟩,k,hback,rfl⟩
   |ret=>exact ⟨.ret,_,_,⟨_,I2,ρ2,q6,hforget.1,hforget.2,hnd⟩,k,hback⟩
   |_=>exact q6.elim
end
end Go.Abs
namespace Go.Abs
open Go
section
variable {P:Program}{N:Nat}{rk:Option D6}{s:St}{Q:Ex→St→Prop}
theorem EX {ρ:Rho}{h h0:D2}(hs: ∀k b,h0 k=some b→h k=some b){g:Nat}(ho:own ρ h0 g):own ρ h g:=by
  obtain ⟨k,b,h1,h2⟩:=ho
  exact ⟨k,b,hs _ _ h1,h2⟩
theorem HeapOK.sub {w:World}{I:Nat→Prop}{ρ:Rho}{h h0:D2}(H:HeapOK w I ρ h)(hs: ∀k b,h0 k=some b→h k=some b):HeapOK w I ρ h0:=
  ⟨fun k b hb=>H.blk k b (hs _ _ hb),fun k k' b b' g h1 h2=>H.sep k k' b b' g (hs _ _ h1) (hs _ _ h2),fun k b g h1=>H.notI k b g (hs _ _ h1),fun k b g h1=>H.lt k b g (hs _ _ h1),H.ilt,H.fresh,H.rone⟩
theorem Tr.sub {w w':World}{I I':Nat→Prop}{ρ ρ':Rho}{h h0 h':D2}(t:Tr w I ρ h0 w' I' ρ' h')(hs: ∀k b,h0 k=some b→h k=some b):Tr w I ρ h w' I' ρ' h':=
  ⟨t.os,t.tape,t.output,t.size,fun b hb hn=>t.frame b hb (fun ho=>hn (EX hs ho)),t.imm,fun b hb hl=>(t.immBack b hb hl).imp id (EX hs),fun b hb hl=>EX hs (t.ownBack b hb hl),t.rho⟩
theorem YCall.weak {k:D6}{avs:List AV}{h h0:D2}{K:AV→D2→Prop}(hs: ∀k b,h0 k=some b→h k=some b)(hc:YCall P k avs h0 K):YCall P k avs h K:=by
  intro w I ρ l vs H hl hn hr
  obtain ⟨f,tmps,as,bd,h1,h2⟩:=hc w I ρ l vs (H.sub hs) hl hn hr
  refine ⟨f,tmps,as,bd,h1,fun c cs=> ?_⟩
  obtain ⟨v,w',⟨x,I',ρ',h',r1,r2,r3,r4⟩,st⟩:=h2 c cs
  exact ⟨v,w',⟨x,I',ρ',h',r1,r2,r3.sub hs,r4⟩,st⟩
theorem ICall.weak {f:FuncId}{avs:List AV}{h h0:D2}{K:AV→D2→Prop}(hs: ∀k b,h0 k=some b→h k=some b)(hc:ICall P f avs h0 K):ICall P f avs h K:=
  ⟨hc.1,fun w I ρ vs H hl hr=>(hc.2 w I ρ vs (H.sub hs) hl hr).mono fun _ _ ⟨x,v,I',ρ',h',e,r1,r2,r3,r4⟩=>⟨x,v,I',ρ',h',e,r1,r2,r3.sub hs,r4⟩⟩
/-! ### An array of the run's own becomes data -/
def fz (k:D6)(es:List (List D)):Nat→AV→AV
  |0,x=>x
  |n+1,x=>match x with
   | .sl k'=>if k'=k then .d (.list es)else .sl k'
   | .agg cs=>W1 (cs.map (fz k es n))
   | .tup cs=>bP (cs.map (fz k es n))
   | .fn f a b=>UT f (a.map (fz k es n)) (b.map (fz k es n))
   |x=>x
def eJ (k:D6)(es:List (List D)):Blk→Blk
  | .box ty cs=> .box ty (cs.map (fz k es 3))
  |b=>b
def fzH (k:D6)(es:List (List D))(h:D2):D2:=fun q=>if q=k then none else (h q).map (eJ k es)
theorem Vs {α β:Type}{f:α→β}{l:List α}{i:Nat}{y:β}(h:(l.map f)[i]? =some y): ∃x,l[i]? =some x∧f x=y:=by
  rw [lI]at h
  cases hq:l[i]? with
  |none=>rw [hq]at h;cases h
  |some x=>rw [hq]at h;cases h;exact ⟨x,rfl,rfl⟩
end
end Go.Abs
namespace Go.Abs
open Go
theorem Ry {l:List (Nat×AV)}{h:D2}{s:St}(h1:ZK s.t l)(h2: ∀k b,h k=some b→s.h k=some b):Sub ⟨T l,h⟩ s:=⟨(ZL (g:= []) h1 trivial).t,h2⟩
section
variable {P:Program}{u:Nat}{r:List AOp}{t:Nat→AV}{h:D2}{K:(Nat→AV)→D2→Prop}
theorem X9 (hk:K t h):K1 P u [] t h K:=by simpa only [K1] using hk
/-- An operation that yields a value and alters nothing. -/
theorem E2 {d:Nat}{k:AK}(v:AV)(h0:U1 k=0)(hv:G7 t h k=some v)(hk:K1 P u r (V1 t d v) h K):K1 P u (⟨some d,k,none⟩::r) t h K:=by
  unfold K1
  split
  ·simp [U1]at h0
  ·simp only [gW]
   unfold Ve
   split<;>first|(simp [U1]at h0;done)|(rw [hv];exact hk)
/-- One that makes memory. -/
theorem KI {d:Nat}{k:AK}(v:AV)(b:Blk)(h0:Mw k=true)(hv:Kj u d t k=some (v,b))(hk:K1 P u r (V1 t d v) (V1 h (d,u) (some b)) K):K1 P u (⟨some d,k,none⟩::r) t h K:=by
  unfold K1
  split
  ·simp [Mw,U1]at h0
  ·simp only [gW]
   unfold Ve
   split<;>first|(simp [Mw,U1]at h0;done)|(dsimp only;rw [hv];exact hk)
/-- A store into a box. -/
theorem HJ {n:Nat}{p x:Opd}(k:D6)(off:Nat)(ty:TypeId)(bs cs:List AV)(hx:Gm (ev t x)=some cs)(hn:cs.length=n)(hp:ev t p= .ptr k off)(hb:h k=some (.box ty bs))(hl:off+n≤bs.length)
    (hk:K1 P u r t (V1 h k (some (.box ty (Gn bs off cs)))) K):K1 P u (⟨none, .store n p x,none⟩::r) t h K:=by
  unfold K1
  simp only [gW,Ve,Dz,hx,hn,if_true,hp,hb,hl]
  exact hk
theorem OJ {n:Nat}{p x:Opd}(k:D6)(sz i off:Nat)(ty:TypeId)(es:List (List D))(e:List D)(cs:List AV)(ds:List D)(hx:Gm (ev t x)=some cs)(hn:cs.length=n)(hp:ev t p= .aptr k sz i off)(hb:h k=some (.arr ty sz es))(he:es[i]? =some e)(hd:Fa cs=some ds)(hl:off+n≤e.length)
    (hk:K1 P u r t (V1 h k (some (.arr ty sz (es.set i (Gn e off ds))))) K):K1 P u (⟨none, .store n p x,none⟩::r) t h K:=by
  unfold K1
  simp only [gW,Ve,Dz,hx,hn,if_true,hp,hb,he,hd,hl,and_self]
  exact hk
theorem AF {d n:Nat}{p:Opd}(k:D6)(off:Nat)(ty:TypeId)(bs:List AV)(v:AV)(hp:ev t p= .ptr k off)(hb:h k=some (.box ty bs))(hn:n≤(bs.drop off).length)(hv:W1 ((bs.drop off).take n)=v)(hk:K1 P u r (V1 t d v) h K):K1 P u (⟨some d, .load n true p,none⟩::r) t h K:=
  E2 v rfl (by simp only [G7,hp,R6,hb,if_true,hn];rw [hv]) hk
theorem Wv {d n:Nat}{p:Opd}(es:List (List D))(i off:Nat)(e ds:List D)(hp:ev t p= .d (.lp es i off))(he:es[i]? =some e)(hn:n≤(e.drop off).length)(hv:(e.drop off).take n=ds)(hk:K1 P u r (V1 t d (.d (.agg ds))) h K):K1 P u (⟨some d, .load n true p,none⟩::r) t h K:=
  E2 (.d (.agg ds)) rfl (by
   simp only [G7,hp,R6,he,lE,if_true,lQ,hn]
   have hall: ∀xs:List D,Fa (xs.map .d)=some xs:=by
     intro xs
     induction xs with
     |nil=>rfl
     |cons x r ih=>simp [Fa,ih]
   rw [← List.map_take,W1,hall,hv]) hk
/-- An element of a slice. -/
theorem KJ {d sz:Nat}{x i:Opd}(es:List (List D))(k:IntKind)(n:Int)(e:List D)(hx:ev t x= .d (.list es))(hi:ev t i= .d (.v (.int k n)))(h1:0≤n)(he:es[n.toNat]? =some e)(hz:e.length=sz)(hk:K1 P u r (V1 t d (.d (.lp es n.toNat 0))) h K):
    K1 P u (⟨some d, .idxS sz x i,none⟩::r) t h K:=
  E2 _ rfl (by simp only [G7,hx,hi,he,h1,hz,and_self,if_true]) hk
theorem OK {d e sz:Nat}{ty:TypeId}{x y:Opd}(k:D6)(es ys:List (List D))(hy:W4 h sz (ev t y)=some ys)(hx:ev t x= .sl k)(hb:h k=some (.arr e sz es))(hl:es.length+ys.length≤1000000000)
    (hk:K1 P u r (V1 t d (.sl (d,u))) (V1 (V1 h k none) (d,u) (some (.arr e sz (es++ys)))) K):K1 P u (⟨some d, .append ty e sz x y,none⟩::r) t h K:=by
  unfold K1
  simp only [gW,Ve,Dz,hy,hx,hb,hl,and_self,if_true,Option.getD_some]
  exact hk
theorem KL {d e sz:Nat}{ty:TypeId}{x y:Opd}(z:List D)(ys:List (List D))(hy:W4 h sz (ev t y)=some (z::ys))(hx:ev t x= .d .nilS)(hl:(z::ys).length≤1000000000)
    (hk:K1 P u r (V1 t d (.sl (d,u))) (V1 h (d,u) (some (.arr e sz (z::ys)))) K):K1 P u (⟨some d, .append ty e sz x y,none⟩::r) t h K:=by
  unfold K1
  simp only [gW,Ve,Dz,hy,hx,hl,if_true,Option.getD_some]
  exact hk
theorem Th {d:Nat}{f:Opd}{args:List Opd}{fid:FuncId}{avs:List AV}{ds:List D}{v:D}(hc:Q5 t f args=some (fid,avs))(hd:M7 (L8 h 6) avs=some ds)
    (hp:PCall P fid ds v) (ha:Fa avs=some ds∨GO v=true) (hk:K1 P u r (V1 t d (.d v)) h K):K1 P u (⟨some d, .call f args,none⟩::r) t h K:=
  OG hc hd hp ha hk
theorem RU {d:Nat}{f:Opd}{args:List Opd}(k:D6)(avs:List AV)(hf:ev t f= .yld k)(hav:args.map (ev t)=avs)(hc:YCall P k avs h fun v h'=> ∀u',(∀q,h' q≠none→q.2≠u')→K1 P u' r (V1 t d v) h' K):K1 P u (⟨some d, .icall f args,none⟩::r) t h K:=by
  unfold K1
  simp only [gW]
  unfold Us
  rw [hf,hav]
  exact hc.mono fun v h' hq u' hu'=>⟨_,Sb.refl _,hq u' hu'⟩
/-- A heap with blocks that are new. -/
theorem MB {h:D2}{u d:Nat}{b:Option Blk}{h':D2}(hu: ∀k,h k≠none→k.2≠u)(hs: ∀k x,h k=some x→h' k=some x): ∀k x,h k=some x→V1 h' (d,u) b k=some x:=by
  intro k x hk
  have:k≠(d,u):=by rintro rfl;exact hu _ (by rw [hk];simp) rfl
  rw [J3 _ _ _ _ this];exact hs k x hk
/-! ### Values as data -/
theorem C6 {n:Nat}{x:D}:L8 h n (.d x)=some x:=by cases n<;>rfl
theorem HK {n:Nat}{k:D6}{ty:TypeId}{sz:Nat}{es:List (List D)}(hb:h k=some (.arr ty sz es)):L8 h (n+1) (.sl k)=some (.list es):=by simp only [L8,hb]
theorem Y0 {n:Nat}{k:D6}{off:Nat}{ty:TypeId}{cs:List AV}{ds:List D}(hb:h k=some (.box ty cs))(hc:M7 (L8 h n) cs=some ds):L8 h (n+1) (.ptr k off)=some (.bp ds off):=by simp only [L8,hb,hc,lE]
theorem ZO {n:Nat}{cs:List AV}{ds:List D}(hc:M7 (L8 h n) cs=some ds):L8 h (n+1) (.agg cs)=some (.agg ds):=by simp only [L8,hc,lE]
theorem Tz {n:Nat}{f:Fn}{fs cs:List AV}{as bs:List D}(hf:M7 (L8 h n) fs=some as)(hc:M7 (L8 h n) cs=some bs):L8 h (n+1) (.fn f fs cs)=some (.fn f as bs):=by simp only [L8,hf,hc]
theorem E4 {f:AV→Option D}:M7 f []=some []:=rfl
theorem D4 {f:AV→Option D}{x:AV}{r:List AV}{d:D}{ds:List D}(h1:f x=some d)(h2:M7 f r=some ds):M7 f (x::r)=some (d::ds):=by simp only [M7,h1,h2]
/-! ### What is handed back -/
theorem B8 {n:Nat}{v:AV}(hv:t n=v):Uu t h (.t n)=some v:=by rw [← hv];rfl
theorem Rz {a n:Nat}{k:D6}{off:Nat}{ty:TypeId}{bs:List AV}{v:AV}(hp:t a= .ptr k off)(hb:h k=some (.box ty bs))(hv:(bs.drop off).head? =some v):Uu t h (.cell a n false)=some v:=by
  simp only [Uu,hp,R6,hb,Bool.false_eq_true,if_false];exact hv
theorem K7 {a n:Nat}{k:D6}{off:Nat}{ty:TypeId}{bs:List AV}{v:AV}(hp:t a= .ptr k off)(hb:h k=some (.box ty bs))(hn:n≤(bs.drop off).length)(hv:W1 ((bs.drop off).take n)=v):Uu t h (.cell a n true)=some v:=by
  simp only [Uu,hp,R6,hb,if_true,hn];rw [hv]
theorem C0 {a:RV}{v:AV}{d:D}(hv:Uu t h a=some v)(hr:L8 h 6 v=some d):Vq t h [a]=some d:=by
  simp only [Vq,Yi,hv];exact hr
theorem Ic {a b:RV}{v w:AV}{d e:D}(hv:Uu t h a=some v)(hw:Uu t h b=some w)(hr:L8 h 6 v=some d)(hs:L8 h 6 w=some e):Vq t h [a,b]=some (.tup [d,e]):=by
  simp only [Vq,Yi,hv,hw,M7,hr,hs,lE]
theorem HL {a b c:RV}{v w x:AV}{d e f:D}(hv:Uu t h a=some v)(hw:Uu t h b=some w)(hx:Uu t h c=some x)(hr:L8 h 6 v=some d)(hs:L8 h 6 w=some e)(hq:L8 h 6 x=some f):Vq t h [a,b,c]=some (.tup [d,e,f]):=by
  simp only [Vq,Yi,hv,hw,hx,M7,hr,hs,hq,lE]
end
end Go.Abs
