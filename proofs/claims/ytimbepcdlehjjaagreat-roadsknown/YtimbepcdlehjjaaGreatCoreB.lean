/-
  An abstract layer over the machine, second part: calls, regions in any order, code, contracts.
-/
import Derived.Test.YtimbepcdlehjjaaGreatCoreA
import Derived.Lib.ConvBytes
import Derived.Orders
import Derived.RangeFuncNested
namespace Go.Abs
open Go
structure PTr (w:World)(I:Nat→Prop)(w':World)(I':Nat→Prop):Prop where
  os:w'.os=w.os
  tape:w'.tape=w.tape
  output:w'.output=w.output
  size:w.heap.size≤w'.heap.size
  frame: ∀b,b<w.heap.size→w'.heap[b]? =w.heap[b]?
  imm: ∀b,I b→I' b
  immBack: ∀b,I' b→b<w.heap.size→I b
  ilt: ∀b,I' b→b<w'.heap.size
def Yd (P:Program)(f:FuncId):Prop:= ∀(vs:Array Value) (w:World),(callFunc f vs).run P w= .ok (.enter f vs) w
def PCall (P:Program)(f:FuncId)(args:List D)(r:D):Prop:=
  Yd P f∧∀(w:World) (I:Nat→Prop) (vs:List Value),(∀b,I b→b<w.heap.size)→args.length=vs.length→(∀(i:Nat) d,args[i]? =some d→RepD w I d (vs.getD i undef))→
   Calls P f vs.toArray w fun e w'=> ∃v I',e= .returned v∧RepD w' I' r v∧PTr w I w' I'
def CT:D→Bool
  | .v _| .nilS| .list []=>true
  |_=>false
def JF:D→Bool
  | .agg cs=>cs.all CT
  |d=>CT d
def CU:D→Bool
  | .tup cs=>cs.all JF
  |d=>JF d
theorem AD {w w':World}{I I':Nat→Prop}{d:D}{x:Value}(h:RepD w I d x)(hd:CT d=true):RepD w' I' d x:=by
  cases h with
  |v x=>exact .v x
  |nilS A=>exact .nilS A
  |lnil A c=>exact .lnil A c
  |list es A cap sz X hne=>cases es<;>first|exact absurd rfl hne|(simp [CT]at hd)
  |_=>simp [CT]at hd
theorem AE {w w':World}{I I':Nat→Prop}{d:D}{x:Value}(h:RepD w I d x)(hd:JF d=true):RepD w' I' d x:=by
  cases d with
  |agg cs=>
   cases h with
   |agg _ vs hl hone hr=>exact .agg cs vs hl hone fun i d hi=>AD (hr i d hi) (lU.1 hd d (lF hi))
  |_=>exact AD h hd
theorem JG {w w':World}{I I':Nat→Prop}{d:D}{x:Value}(h:RepD w I d x)(hd:CU d=true):RepD w' I' d x:=by
  cases d with
  |tup cs=>
   cases h with
   |tup _ vs hl hr=>exact .tup cs vs hl fun i d hi=>AE (hr i d hi) (lU.1 hd d (lF hi))
  |_=>exact AE h hd
def N9 (f:AV→Option D):List AV→Option (List D)
  | []=>some []
  |x::r=>match f x,N9 f r with
   |some d,some ds=>some (d::ds)
   |_,_=>none
def L8 (h:C7):Nat→AV→Option D
  |0,x=>match x with
   | .d x=>some x
   |_=>none
  |n+1,x=>match x with
   | .d x=>some x
   | .sl k=>match h k with
     |some (.arr _ _ es)=>some (.list es)
     |_=>none
   | .ptr k off=>match h k with
     |some (.box _ cs)=>(N9 (L8 h n) cs).map fun ds=> .bp ds off
     |_=>none
   | .bsl k m=>match h k with
     |some (.box _ cs)=>if m≠0∧m* (cs.length / m)=cs.length then (N9 (L8 h n) cs).map fun ds=> .list (Fj (cs.length / m) m ds)else none
     |_=>none
   | .agg cs=>(N9 (L8 h n) cs).map .agg
   | .fn f fs cs=>match N9 (L8 h n) fs,N9 (L8 h n) cs with
     |some a,some b=>some (.fn f a b)
     |_,_=>none
   |_=>none
def O3 (h:C7):Nat→AV→List D7
  |0,_=> []
  |n+1,x=>match x with
   | .sl k=> [k]
   | .ptr k _=>k::(match h k with
     |some (.box _ cs)=>cs.flatMap (O3 h n)
     |_=> [])
   | .bsl k _=>k::(match h k with
     |some (.box _ cs)=>cs.flatMap (O3 h n)
     |_=> [])
   | .agg cs=>cs.flatMap (O3 h n)
   | .fn _ fs cs=>fs.flatMap (O3 h n)++cs.flatMap (O3 h n)
   |_=> []
theorem Cg {f:AV→Option D}: ∀{xs:List AV} {ds:List D},N9 f xs=some ds→ds.length=xs.length∧∀(i:Nat) d,ds[i]? =some d→∃x,xs[i]? =some x∧f x=some d:=by
  intro xs
  induction xs with
  |nil=>intro ds h;simp [N9]at h;subst h;simp
  |cons x r ih=>
   intro ds h;simp only [N9]at h;split at h
   ·rename_i d ds' h1 h2;cases h;obtain ⟨g1,g2⟩:=ih h2;refine ⟨by simp [g1],fun i e he=> ?_⟩;cases i with
    |zero=>simp at he;subst he;exact ⟨x,rfl,h1⟩
    |succ i=>simp at he;simpa using g2 i e he
   ·cases h
theorem Hf {w:World}{I:Nat→Prop}{ρ:Rho}{h:C7}(H:HeapOK w I ρ h): ∀(n:Nat) (x:AV) (d:D) (v:Value),RepV w I ρ x v→L8 h n x=some d→RepD w (fun b=>I b∨own ρ h b) d v:=by
  intro n
  induction n with
  |zero=>
   intro x d v hx hd;cases x<;>simp only [L8]at hd<;>cases hd;cases hx with|d _ _ hx=>exact hx.keep (fun _ _=>rfl) (fun _ h=> .inl h)
  |succ n ih=>
   intro x d v hx hd;cases x with
   |d y=>
    simp only [L8,Option.some.injEq]at hd;subst hd;cases hx with|d _ _ hx=>exact hx.keep (fun _ _=>rfl) (fun _ h=> .inl h)
   |sl k=>
    simp only [L8]at hd;split at hd
    ·rename_i ty sz es hb;cases hd;have hel:Ad h sz (.sl k)=some es:=by simp [Ad,hb]
     obtain ⟨A,c,us,rfl,hul,had,hsz,hrep⟩:=AB H hx hel;cases hx with
     |sl _ _ hρ=>
      obtain ⟨x0,xs,g1,g2,g3,g4⟩:=H.blk _ _ hb;rw [hρ]at g1;cases g1;by_cases he:es= []
      ·subst he;exact .lnil _ _
      ·obtain ⟨ad,rfl,hc⟩:=had he
       have hcap:es.length≤c:=by
         rcases g2.2 with ⟨_,hz⟩|⟨g,cap,cur,fz,hv,_,_,hnc,_⟩
         ·exact absurd (lV hz) he
         ·cases hv;exact hnc
       refine .list es ad c sz (fun i j=>us.getD (i*sz+j) undef) he hcap hsz (.inr ⟨k,_,hb,by simp [M2,hρ,Value.ownBlock]⟩) (fun i j d hd=>(hrep i j d hd).1) (fun i j d hd=> ?_) (fun i j d hd=>(hrep i j d hd).2.keep (fun _ _=>rfl) (fun _ h=> .inl h))
       have hi:i<es.length:=by
         unfold Lf at hd;cases hq:es[i]? with
         |none=>simp [hq]at hd
         |some q=>exact (lH.1 hq).1
       have hj:j<sz:=by
         unfold Lf at hd;cases hq:es[i]? with
         |none=>simp [hq]at hd
         |some q=>
          simp only [hq,lA]at hd;rw [← hsz q (lF hq)];exact (lH.1 hd).1
       have hlt:i*sz+j<us.length:=by rw [hul];exact BA hi hj
       refine hc _ _ ?_;rw [List.getD,lG hlt];rfl
    ·cases hd
   |ptr k off=>
    simp only [L8]at hd;split at hd
    ·rename_i ty cs hb;simp only [lD]at hd;obtain ⟨ds,hds,rfl⟩:=hd;obtain ⟨g,vs,g1,g2,g3,g4,g5⟩:=H.blk _ _ hb;cases hx with
     |ptr _ _ g' hρ=>
      rw [hρ]at g1;cases g1;obtain ⟨l1,l2⟩:=Cg hds
      have hr: ∀(i:Nat) d,ds[i]? =some d→RepD w (fun b=>I b∨own ρ h b) d (vs.getD i undef):=by
        intro i d hi;obtain ⟨x,hx,hf⟩:=l2 i d hi;exact ih x d _ (g5 i x hx) hf
      refine .bp ds off g vs ty (0,0) (.inr ⟨k,_,hb,by simp [M2,hρ,De]⟩) g2 (by omega) (fun i d hi=>(hr i d hi).one_of (g4 i ?_)) hr;have:=(lH.1 hi).1;omega
    ·cases hd
   |bsl k m=>
    simp only [L8]at hd;split at hd
    ·rename_i ty cs hb;split at hd
     ·rename_i hm;simp only [lD]at hd;obtain ⟨ds,hds,rfl⟩:=hd;obtain ⟨g,vs,g1,g2,g3,g4,g5⟩:=H.blk _ _ hb;cases hx with
      |bsl _ _ g' hρ=>
       rw [hρ]at g1;cases g1;obtain ⟨l1,l2⟩:=Cg hds
       have hr: ∀(i:Nat) d,ds[i]? =some d→RepD w (fun b=>I b∨own ρ h b) d (vs.getD i undef):=by
         intro i d hi;obtain ⟨x,hx,hf⟩:=l2 i d hi;exact ih x d _ (g5 i x hx) hf
       generalize hsz:cs.length / m=sz at*;have hcl:(Fj sz m ds).length=m:=Vo sz m ds;have hds:m*sz≤ds.length:=by omega
       have hlt: ∀i j d,Lf (Fj sz m ds) i j=some d→i*sz+j<vs.length:=by
         intro i j d hd;have:=(lH.1 (Qv m ds i j d hd)).1;omega
       have:=RepD.list (w:=w) (I:=fun b=>I b∨own ρ h b) (Fj sz m ds) ⟨g,0,none⟩ m sz (fun i j=>vs.getD (i*sz+j) undef)
         (by intro e;have:=congrArg List.length e;rw [hcl]at this;exact hm.1 this) (by rw [hcl];exact bB _) (Ya sz m ds hds) (.inr ⟨k,_,hb,by simp [M2,hρ,De]⟩)
         (fun i j d hd=>(hr _ d (Qv m ds i j d hd)).one_of (g4 _ (hlt i j d hd)))
         (fun i j d hd=>by
           have hadd:(⟨g,0,none⟩:Addr).add (i*sz+j)=⟨g,i*sz+j,none⟩:=by unfold Addr.add;split<;>simp_all
           rw [hadd,cell_of_row w g _ _ _ _ g2]
           simp [List.getD,lG (hlt i j d hd)])
         (fun i j d hd=>hr _ d (Qv m ds i j d hd))
       rw [hcl]at this;exact this
     ·cases hd
    ·cases hd
   |agg cs=>
    simp only [L8,lD]at hd;obtain ⟨ds,hds,rfl⟩:=hd;cases hx with
    |agg _ vs hl hone hr=>
     obtain ⟨l1,l2⟩:=Cg hds
     have hr': ∀(i:Nat) d,ds[i]? =some d→RepD w (fun b=>I b∨own ρ h b) d (vs.getD i undef):=by
       intro i d hi;obtain ⟨x,hx,hf⟩:=l2 i d hi;exact ih x d _ (hr i x hx) hf
     refine .agg ds vs (by omega) (fun i d hi=>(hr' i d hi).one_of (hone i ?_)) hr';have:=(lH.1 hi).1;omega
   |fn f fs cs=>
    simp only [L8]at hd;split at hd
    ·rename_i a b ha hb;cases hd;cases hx with
     |fn _ _ _ vfs vcs hl hl' hr hr'=>
      obtain ⟨l1,l2⟩:=Cg ha;obtain ⟨m1,m2⟩:=Cg hb;refine .fn f a b vfs vcs (by omega) (by omega) (fun i d hi=> ?_) (fun i d hi=> ?_)
      ·obtain ⟨x,hx,hf⟩:=l2 i d hi;exact ih x d _ (hr i x hx) hf
      ·obtain ⟨x,hx,hf⟩:=m2 i d hi;exact ih x d _ (hr' i x hx) hf
    ·cases hd
   |_=>simp [L8]at hd
def T3 (t:Nat→AV)(f:Opd)(args:List Opd):Option (FuncId×List AV):=
  match ev t f with
  | .d (.fn (.func f) fs cs)=>some (f,fs.map .d++args.map (ev t)++cs.map .d)
  | .fn (.func f) fs cs=>some (f,fs++args.map (ev t)++cs)
  |_=>none
def Wk (P:Program)(t:Nat→AV)(h:C7)(k:AK)(v:AV):Prop:=match k with
  | .call f args=>match T3 t f args with
    |some (fid,avs)=> ∃ds r,N9 (L8 h 6) avs=some ds∧PCall P fid ds r∧(He avs=some ds∨CU r=true)∧v= .d r
    |none=>False
  |_=>False
def R0 (h:C7)(ks:List D7):C7:=fun q=>if q∈ks then h q else none
def FCall (P:Program)(u S:Nat)(f:FuncId)(avs:List AV)(pre:C7)(v:AV)(ups:List (D7×Option Blk)):Prop:=
  Yd P f∧∀(w:World) (I:Nat→Prop) (ρ:Rho) (h:C7) (vs:List Value),HeapOK w I ρ h→(∀q b,pre q=some b→h q=some b)→avs.length=vs.length→
   (∀(i:Nat) c,avs[i]? =some c→RepV w I ρ c (vs.getD i undef))→(∀j,j<6→ρ (S+j,u)=none)→
   Calls P f vs.toArray w fun e w'=> ∃x I' ρ',e= .returned x∧RepV w' I' ρ' v x∧HeapOK w' I' ρ' (Q0 h ups)∧Tr w I ρ h w' I' ρ' (Q0 h ups)∧∀k',(∀j,j<6→k'≠(S+j,u))→ρ' k'=ρ k'
def Ti (P:Program)(u:Nat)(t:Nat→AV)(h:C7)(k:AK)(v:AV)(ups:List (D7×Option Blk)):Prop:=match k with
  | .ocall S f args=>match T3 t f args with
    |some (fid,avs)=>(∀q∈ups.map (·.1),q∈avs.flatMap (O3 h 6)∨∃j,j<6∧q=(S+j,u))∧(∀q∈avs.flatMap (O3 h 6),h q≠none)∧FCall P u S fid avs (R0 h (avs.flatMap (O3 h 6))) v ups
    |none=>False
  |_=>False
theorem CV {h:C7}{n:Nat}: ∀{xs:List AV} {ds:List D},He xs=some ds→N9 (L8 h n) xs=some ds:=by
  intro xs
  induction xs with
  |nil=>intro ds hd;simp [He]at hd;subst hd;rfl
  |cons x r ih=>
   intro ds hd;cases x<;>simp only [He]at hd<;>try cases hd
   simp only [lD]at hd;obtain ⟨q,hq,rfl⟩:=hd;simp only [N9,ih hq];cases n<;>rfl
section
variable {P:Program}{w:World}{I:Nat→Prop}{ρ:Rho}{N:Nat}{s:St}{a:Act}{h:C7}
theorem Ye {o:Oper}{k:AK}{f:Opd}{args:List Opd}(hk:N6 P o.op=some k)(hkk:k= .call f args)(hs:Sim w I ρ N s a){fid:FuncId}{avs:List AV}(hc:T3 s.t f args=some (fid,avs))(he:Yd P fid):
    ∃vs:List Value,(execOp a.eval o).run P w= .ok (.enter fid vs.toArray) w∧avs.length=vs.length∧∀(i:Nat) c,avs[i]? =some c→RepV w I ρ c (vs.getD i undef):=by
  subst hkk;have ht:=Is hk
  obtain ⟨c,hop⟩: ∃c,o.op= .call c:=by
    cases hq:o.op<;>rw [hq]at ht<;>simp [W5,Pm]at ht;exact ⟨_,rfl⟩
  rw [hop]at hk;obtain ⟨cal,as,tys⟩:=c;rw [hop]at ht;simp only [W5,Pm]at ht;cases cal with
  |value fo=>
   simp only [N6,lB]at hk;obtain ⟨of_,hof,hk⟩:=bind_some hk;obtain ⟨oas,hoas,hk⟩:=bind_some hk;cases hk;have hfr:=O2 hs hof;obtain ⟨l1,l2⟩:=Ua hs hoas
   have main: ∀(vfs vcs:List Value) (fs cs:List AV),a.eval fo= .func (.func fid) vfs.toArray vcs.toArray→fs.length=vfs.length→cs.length=vcs.length→(∀(i:Nat) c,fs[i]? =some c→RepV w I ρ c (vfs.getD i undef))→
    (∀(i:Nat) c,cs[i]? =some c→RepV w I ρ c (vcs.getD i undef))→avs=fs++args.map (ev s.t)++cs→
    ∃vs:List Value,(execOp a.eval o).run P w= .ok (.enter fid vs.toArray) w∧avs.length=vs.length∧∀(i:Nat) c,avs[i]? =some c→RepV w I ρ c (vs.getD i undef):=by
     intro vfs vcs fs cs hf hl hl' hr hr' hav;subst hav;refine ⟨vfs++as.toList.map a.eval++vcs,?_,by simp [hl,hl',l1],fun i c hi=> ?_⟩
     ·unfold execOp;rw [hop];have hm:(Array.map a.eval as)=(as.toList.map a.eval).toArray:=by apply Array.ext';simp
      simp [resolve,Deferred.ofValue,hf,invoke,hm,he _ _]
     ·simp only [List.getElem?_append,lK,lO]at hi;simp only [List.getD,List.getElem?_append,lK,lO];rw [← hl,show as.toList.length=args.length by simpa using l1.symm];split
      ·rename_i h1;rw [l4 h1]at hi;split
       ·rename_i h2;rw [l4 h2]at hi;have:=hr i c hi
        rwa [List.getD]at this
       ·rename_i h2;rw [l5 h2]at hi;rw [lI]at hi;cases hq:args[i - fs.length]? with
        |none=>rw [hq]at hi;cases hi
        |some q=>
         rw [hq]at hi;cases hi;have:=l2 _ q hq
         rwa [List.getD]at this
      ·rename_i h1;rw [l5 h1]at hi;have:=hr' _ c hi
       rwa [List.getD]at this
   unfold T3 at hc;split at hc
   ·rename_i f' fs cs hfe;cases hc;rw [hfe]at hfr;generalize hy:a.eval fo=y at hfr main;cases hfr with
    |d _ _ hd=>
     cases hd with
     |fn _ _ _ vfs vcs hl hl' hr hr'=>
      refine main vfs vcs (fs.map .d) (cs.map .d) rfl (by simpa using hl) (by simpa using hl') (fun i c hi=> ?_) (fun i c hi=> ?_) rfl
      ·rw [lI]at hi;cases hq:fs[i]? with
       |none=>rw [hq]at hi;cases hi
       |some q=>rw [hq]at hi;cases hi;exact .d _ _ (hr i q hq)
      ·rw [lI]at hi;cases hq:cs[i]? with
       |none=>rw [hq]at hi;cases hi
       |some q=>rw [hq]at hi;cases hi;exact .d _ _ (hr' i q hq)
   ·rename_i f' fs cs hfe;cases hc;rw [hfe]at hfr;generalize hy:a.eval fo=y at hfr main;cases hfr with
    |fn _ _ _ vfs vcs hl hl' hr hr'=>exact main vfs vcs fs cs rfl hl hl' hr hr' rfl
   ·cases hc
  |builtin b=>cases b<;>simp [Vn]at ht
  |invoke r m=>simp [Vn]at ht
theorem CW {o:Oper}{k:AK}{v:AV}(hk:N6 P o.op=some k)(hs:Sim w I ρ N s a)(H:HeapOK w I ρ h)(hv:Wk P s.t h k v){K:Act→World→Prop}
    (hK: ∀x w' I',RepV w' I' ρ v x→HeapOK w' I' ρ s.h→Tr w I ρ s.h w' I' ρ s.h→K (a.put o.dst x) w'):PA P o a w K:=by
  unfold Wk at hv;split at hv
  ·rename_i f args;split at hv
   ·rename_i fid avs hc;obtain ⟨ds,r,hds,hP,hsc,rfl⟩:=hv;obtain ⟨vs,hrun,hlen,hrep⟩:=Ye hk rfl hs hc hP.1
    have hdef:Ma o.op=false:=by
      have ht:=Is hk;cases hq:o.op<;>rw [hq]at ht<;>simp [W5,Pm]at ht<;>rfl
    refine ⟨hdef,?_⟩;rw [hrun];dsimp only;obtain ⟨l1,l2⟩:=Cg hds;have Hs:=hs.heap;by_cases hall:He avs=some ds
    ·have e:=Ml hall
     have:=hP.2 w I vs Hs.ilt (by rw [e]at hlen;simpa using hlen) (fun i d hi=>by
       have:=hrep i (.d d) (by rw [e];simp [hi])
       cases this with|d _ _ h=>exact h)
     refine this.mono ?_;rintro e' w' ⟨x,I',rfl,hr,tr⟩;refine ⟨x,rfl,hK x w' I' (.d _ _ hr) ?_ ?_⟩
     ·exact Hs.keep (fun g ho=>tr.frame g (Hs.own_lt ho)) (fun b hb=>tr.frame b (Hs.ilt b hb)) tr.imm (fun g ho hi=>Hs.own_notI ho (tr.immBack g hi (Hs.own_lt ho))) tr.ilt (fun _ _ hv=>hv) tr.size Hs.fresh Hs.rone
     ·exact ⟨tr.os,tr.tape,tr.output,tr.size,fun b hb _=>tr.frame b hb,tr.imm,fun b hb hl=> .inl (tr.immBack b hb hl),fun _ hb _=>hb,fun _ _ hv=>hv⟩
    ·have hscal:CU r=true:=by
       rcases hsc with h|h
       ·exact absurd h hall
       ·exact h
     have:=hP.2 w (fun b=>I b∨own ρ h b) vs (fun b hb=>by rcases hb with h|h;exact Hs.ilt b h;exact H.own_lt h) (by omega) (fun i d hi=>by
       obtain ⟨x,hx,hf⟩:=l2 i d hi
       exact Hf H 6 x d _ (hrep i x hx) hf)
     refine this.mono ?_;rintro e' w' ⟨x,I',rfl,hr,tr⟩;refine ⟨x,rfl,hK x w' I (.d _ _ (JG hr hscal)) ?_ ?_⟩
     ·exact Hs.keep (fun g ho=>tr.frame g (Hs.own_lt ho)) (fun b hb=>tr.frame b (Hs.ilt b hb)) (fun _ hb=>hb) (fun g ho=>Hs.own_notI ho) (fun b hb=>bF (Hs.ilt b hb) tr.size) (fun _ _ hv=>hv) tr.size Hs.fresh Hs.rone
     ·exact ⟨tr.os,tr.tape,tr.output,tr.size,fun b hb _=>tr.frame b hb,fun _ hb=>hb,fun b hb _=> .inl hb,fun _ hb _=>hb,fun _ _ hv=>hv⟩
   ·exact hv.elim
  ·exact hv.elim
end
end Go.Abs
namespace Go.Abs
open Go
def Ww (P:Program)(u:Nat)(o:AOp)(t:Nat→AV)(h:C7)(v:AV)(ups:List (D7×Option Blk)):Prop:=match W5 o.k with
  |0=>J1 t h o.k=some v∧ups= []
  |1=> ∃d b,o.dst=some d∧Mb u d t o.k=some (v,b)∧ups= [((d,u),some b)]
  |2=> ∃d b,o.dst=some d∧Mb u d t o.k=some (v,b)∧ups= [((d,u),some b)]
  |3=> ∃d b,o.dst=some d∧Mb u d t o.k=some (v,b)∧ups= [((d,u),some b)]
  |4=>Gm u (o.dst.getD 0) t h o.k=some (v,ups)
  |5=>Gm u (o.dst.getD 0) t h o.k=some (v,ups)
  |6=>Wk P t h o.k v∧ups= []
  |8=>Ti P u t h o.k v ups
  |9=> ∃d,o.dst=some d∧Gm u d t h o.k=some (v,ups)
  |_=>False
def Nq (P:Program)(u:Nat)(o:AOp)(t:Nat→AV)(h:C7)(v:AV)(ups:List (D7×Option Blk)):Prop:=match o.g with
  |none=>Ww P u o t h v ups
  |some (g,b)=>match t g with
   | .d (.v (.bool c))=>if c=b then Ww P u o t h v ups else v= .d (.tup [])∧ups= []
   | .d (.tup [])=>v= .d (.tup [])∧ups= []
   |_=>False
def Sq (t:Nat→AV):Option Nat→AV→Nat→AV
  |some d,v=>W8 t d v
  |none,_=>t
def after (s:St)(o:AOp)(v:AV)(ups:List (D7×Option Blk)):St:=⟨Sq s.t o.dst v,Q0 s.h ups⟩
def SF (P:Program)(u:Nat)(o:AOp)(s s':St):Prop:= ∃v ups,Nq P u o s.t s.h v ups∧s'=after s o v ups
def Ov (k:AK):Bool:=match W5 k with
  |1|2|3|5=>true
  |n=>Nat.beq n 9
def ER (o:AOp):List Nat:=match o.k with
  | .ocall S _ _=>(List.range 6).map (S+ ·)
  |k=>if Ov k then o.dst.toList else []
theorem Pn {o:AOp}{d:Nat}(hm:Ov o.k=true)(hd:o.dst=some d):d∈ER o:=by
  unfold ER;split
  ·rename_i hk;rw [hk]at hm;simp [Ov,W5]at hm
  ·rw [l4 hm,hd];simp
section
variable {P:Program}{w:World}{I:Nat→Prop}{ρ:Rho}{N:Nat}{s:St}{a:Act}{u:Nat}
theorem Sim.sett (hs:Sim w I ρ N s a)(d:Option Nat)(hd: ∀i,d=some i→i<N){v:AV}{x:Value}(h:RepV w I ρ v x):Sim w I ρ N ⟨Sq s.t d v,s.h⟩ (a.put d x):=by
  have:=hs.set d hd h;cases d<;>exact this
theorem Qy {ops:Array Oper}{o:Oper}{ao:AOp}(h:CL P N ops o=some ao):
    N6 P o.op=some ao.k∧ao.dst=o.dst∧(∀i,o.dst=some i→i<N)∧
    (match o.guard with|none=>ao.g=none|some (j,b)=> ∃d,(ops[j]?).bind (·.dst)=some d∧ao.g=some (d,b)):=by
  simp only [CL,lB]at h;obtain ⟨k,hk,h⟩:=bind_some h;obtain ⟨g,hg,h⟩:=bind_some h;split at h
  ·rename_i hd;cases h;refine ⟨hk,rfl,fun i hi=>by rw [hi]at hd;simpa [OL] using hd,?_⟩;cases hgu:o.guard with
   |none=>rw [hgu]at hg;cases hg;rfl
   |some jb=>
    obtain ⟨j,b⟩:=jb;rw [hgu]at hg;simp only [OK,lD]at hg;obtain ⟨d,hd',rfl⟩:=hg;exact ⟨d,hd',rfl⟩
  ·cases h
theorem Mm {o:Oper}{k:AK}(hk:N6 P o.op=some k):Ma o.op=false:=by
  cases hq:o.op<;>first|rfl|(rw [hq]at hk;simp [N6]at hk)
theorem HA {ops:Array Oper}{o:Oper}{ao:AOp}{v:AV}{ups:List (D7×Option Blk)}(ho:CL P N ops o=some ao)(hs:Sim w I ρ N s a)
    (hfresh: ∀d,ao.dst=some d→Ov ao.k=true→ρ (d,u)=none) (hdst:W5 ao.k=5→ao.dst≠none) (he:Ww P u ao s.t s.h v ups) {K:Act→World→Prop}
    (hK: ∀a' w' ρ' I',Sim w' I' ρ' N (after s ao v ups) a'→Tr w I ρ s.h w' I' ρ' (after s ao v ups).h→(∀k',(∀d,ao.dst=some d→Ov ao.k=true→k'≠(d,u))→ρ' k'=ρ k')→K a' w'):
    PA P o a w K:=by
  obtain ⟨hk,hd,hdN,hg⟩:=Qy ho;have hdN': ∀i,ao.dst=some i→i<N:=by rw [hd];exact hdN
  have htag:=Is hk;unfold Ww at he;split at he
  ·obtain ⟨hv,rfl⟩:=he;obtain ⟨x,hrun,hr⟩:=EN hk hs hs.heap hv;refine ⟨Mm hk,?_⟩;rw [hrun];have:=hs.sett ao.dst hdN' hr;rw [hd]at this;exact hK _ _ ρ I (by rw [after,hd];exact this) (Tr.refl _ _ _ _) (fun _ _=>rfl)
  all_goals try (
    rename_i ht;obtain ⟨d,b,hdd,hv,rfl⟩:=he;have hmk:Ov ao.k=true:=by simp [Ov,ht]
    obtain ⟨x,w',ρ',hrun,H',T',hr,hother⟩:=Yc hk hs hs.heap (hfresh d hdd hmk) hv;refine ⟨Mm hk,?_⟩;rw [hrun];have:=(hs.step H' T').sett ao.dst hdN' hr;rw [hd]at this
    exact hK _ _ ρ' I (by rw [after,hd];exact this) T' (fun k' hk'=>hother k' (hk' d hdd hmk)))
  ·rename_i ht
   obtain ⟨t,p,x,hop⟩|⟨t,m,x,y,hop⟩:(∃t p x,o.op= .store t p x)∨∃t m x y,o.op= .insert t m x y∨o.op= .mapUpdate t m x y:=by
     cases hq:o.op with
     |store t p x=>exact .inl ⟨t,p,x,rfl⟩
     |insert t m x y=>exact .inr ⟨t,m,x,y, .inl rfl⟩
     |mapUpdate t m x y=>exact .inr ⟨t,m,x,y, .inr rfl⟩
     |call c=>rw [hq]at htag;simp only [Pm]at htag;rw [ht]at htag;unfold Vn at htag;split at htag<;>simp at htag
     |_=>rw [hq,ht]at htag;simp [Pm]at htag
   all_goals
     have hw:Th P w I ρ s.h a o (fun _=>True) v (Q0 s.h ups):=by first|exact CS (u:=u) (d:=ao.dst.getD 0) hop hk hs hs.heap he|exact EQ (u:=u) (d:=ao.dst.getD 0) hop hk hs hs.heap he
     obtain ⟨r,w',ρ',hrun,⟨x',hx',hr⟩,H',T',hother⟩:=hw;refine ⟨Mm hk,?_⟩;rw [hrun];have h2:=(hs.step H' T').sett ao.dst hdN' hr;rw [hd]at h2;rcases hx' with rfl|⟨rfl,rfl⟩
     ·exact hK _ _ ρ' I (by rw [after,hd];exact h2) T' (fun k' _=>hother k' trivial)
     ·exact hK _ _ ρ' I (by rw [after,hd];exact h2) T' (fun k' _=>hother k' trivial)
  ·rename_i ht
   obtain ⟨c,hop,hcal⟩: ∃c,o.op= .call c∧c.callee= .builtin .append:=by
     cases hq:o.op with
     |call c=>
      rw [hq]at htag;simp only [Pm]at htag;rw [ht]at htag;unfold Vn at htag;split at htag
      ·exact ⟨c,rfl,‹_›⟩
      ·simp at htag
      ·simp at htag
     |_=>rw [hq,ht]at htag;simp [Pm]at htag
   have hmk:Ov ao.k=true:=by simp [Ov,ht]
   cases hdd:ao.dst with
   |none=>exact absurd hdd (hdst ht)
   |some d=>
    rw [hdd]at he;obtain ⟨r,w',ρ',hrun,⟨x',hx',hr⟩,H',T',hother⟩:=BC (u:=u) (d:=d) hop hcal hk hs hs.heap (hfresh d hdd hmk) he;refine ⟨Mm hk,?_⟩;rw [hrun];have h2:=(hs.step H' T').sett ao.dst hdN' hr;rw [hd]at h2;rcases hx' with rfl|⟨rfl,rfl⟩
    ·exact hK _ _ ρ' I (by rw [after,hd];exact h2) T' (fun k' hk'=>hother k' (hk' d hdd hmk))
    ·exact hK _ _ ρ' I (by rw [after,hd];exact h2) T' (fun k' hk'=>hother k' (hk' d hdd hmk))
  ·rename_i ht;obtain ⟨hv,rfl⟩:=he;refine CW hk hs hs.heap hv fun x w' I' hr H' T'=> ?_;have h2:=(hs.step H' T').sett ao.dst hdN' hr;rw [hd]at h2;exact hK _ _ ρ I' (by rw [after,hd];exact h2) T' (fun _ _=>rfl)
  ·rename_i ht;exfalso;rw [ht]at htag;cases hq:o.op<;>rw [hq]at htag<;>simp [Pm]at htag;rename_i c;cases hc:c.callee<;>rw [hc]at htag<;>simp [Vn]at htag;rename_i b;cases b<;>simp at htag
  ·rename_i ht;exfalso;rw [ht]at htag;cases hq:o.op<;>rw [hq]at htag<;>simp [Pm]at htag;rename_i c;cases hc:c.callee<;>rw [hc]at htag<;>simp [Vn]at htag;rename_i b;cases b<;>simp at htag
  ·exact he.elim
end
end Go.Abs
namespace Go.Abs
open Go
def S5:AK→List Opd
  | .mv x=> [x]
  | .pick c a b=> [c,a,b]
  | .alloc _ _=> []
  | .box _ _ x=> [x]
  | .build _ ps=>ps.map (·.2.2)
  | .bslice _ _ _ _ ps=>ps.map (·.2.2)
  | .load _ _ p=> [p]
  | .store _ p x=> [p,x]
  | .bin _ x y=> [x,y]
  | .eqB _ x y=> [x,y]
  | .eqA _ _ x y=> [x,y]
  | .un _ x=> [x]
  | .conv _ x=> [x]
  | .mkfn _ fs cs=>fs++cs
  | .slice _ x lo hi mx=>x::(lo.toList++hi.toList++mx.toList)
  | .fieldA _ x=> [x]
  | .field _ _ _ x=> [x]
  | .idxS _ x i=> [x,i]
  | .idxP _ _ x i=> [x,i]
  | .idxA _ _ _ x i=> [x,i]
  | .ext x _=> [x]
  | .nilck x=> [x]
  | .len x=> [x]
  | .mm _ x r=>x::r
  | .append _ _ _ x y=> [x,y]
  | .call f args=>f::args
  | .icall f args=>f::args
  | .ocall _ f args=>f::args
  | .dslice _ _ _ _ ps=>ps.map (·.2.2)
  | .isnil _ x=> [x]
  | .mkmap=> []
  | .mins m x=> [m,x]
  | .mlook m x=> [m,x]
  | .str _ xs=>xs
  | .oslice _ x lo hi mx=>x::(lo.toList++hi.toList++mx.toList)
  | .dbytes x=> [x]
  | .bmark x=> [x]
def OO:Opd→Option Nat
  | .t n=>some n
  | .c _=>none
def ES (o:AOp):List Nat:=(S5 o.k).filterMap OO++ (match o.g with|some (g,_)=> [g]|none=> [])
def Fk:AV→List D7
  | .ptr k _=> [k]
  | .sl k=> [k]
  | .aptr k _ _ _=> [k]
  |_=> []
def Aw (t:Nat→AV)(h:C7):AK→List D7
  | .load _ _ p=>Fk (ev t p)
  | .len x=>Fk (ev t x)
  | .idxS _ x _=>Fk (ev t x)
  | .store _ p _=>Fk (ev t p)
  | .mins m _=>Fk (ev t m)
  | .mlook m _=>Fk (ev t m)
  | .append _ _ _ x y=>Fk (ev t x)++Fk (ev t y)
  | .oslice _ x _ _ _=>Fk (ev t x)
  | .bmark x=>Fk (ev t x)
  | .call f args=>match T3 t f args with
    |some (_,avs)=>avs.flatMap (O3 h 6)
    |none=> []
  | .ocall _ f args=>match T3 t f args with
    |some (_,avs)=>avs.flatMap (O3 h 6)
    |none=> []
  |_=> []
theorem JH {t t':Nat→AV}{x:Opd}(h: ∀i,OO x=some i→t' i=t i):ev t' x=ev t x:=by
  cases x with
  |t n=>exact h n rfl
  |c d=>rfl
theorem Nz {t t':Nat→AV}: ∀(ps:List (Nat×Nat×Opd)) (cs:List AV),(∀x∈ps.map (·.2.2),ev t' x=ev t x)→Ly t' cs ps=Ly t cs ps
  | [],_,_=>rfl
  |(off,n,x)::ps,cs,h=>by
   have h1:ev t' x=ev t x:=h x (by simp);simp only [Ly,h1];split
   ·split
    ·exact Nz ps _ (fun y hy=>h y (by simp at hy ⊢;exact .inr hy))
    ·rfl
   ·rfl
theorem AF {t t':Nat→AV}(b:Bool)(k:IntKind): ∀(r:List Opd) (n:Int),(∀x∈r,ev t' x=ev t x)→OM b k t' n r=OM b k t n r
  | [],_,_=>rfl
  |x::r,n,h=>by
   simp only [OM,h x (by simp)];split
   ·split
    ·exact AF b k r _ (fun y hy=>h y (by simp [hy]))
    ·rfl
   ·rfl
theorem Oa {t t':Nat→AV}(d:Nat)(x:Option Opd)(h: ∀y∈x.toList,ev t' y=ev t y):Bl t' d x=Bl t d x:=by
  cases x with
  |none=>rfl
  |some x=>simp only [Bl,h x (by simp)]
theorem Zl {h h':C7}{p:AV}(hk: ∀k∈Fk p,h' k=h k):V0 h' p=V0 h p:=by
  cases p with
  |d x=>cases x<;>rfl
  |ptr k o=>simp only [V0,hk k (by simp [Fk])]
  |aptr k s i o=>simp only [V0,hk k (by simp [Fk])]
  |_=>rfl
theorem Zm {h h':C7}{x:AV}{sz:Nat}(hk: ∀k∈Fk x,h' k=h k):Ad h' sz x=Ad h sz x:=by
  cases x with
  |sl k=>simp only [Ad];rw [hk _ (by simp [Fk])]
  |d y=>cases y<;>first|rfl|(rename_i x;cases x<;>first|rfl|(rename_i a n c;cases n<;>rfl))
  |_=>rfl
theorem ET {t t':Nat→AV}{h h':C7}{k:AK}(ht: ∀x∈S5 k,ev t' x=ev t x)(hh: ∀q∈Aw t h k,h' q=h q):J1 t' h' k=J1 t h k:=by
  cases k with
  |mv x=>simp only [J1,ht x (by simp [S5])]
  |pick c a b=>simp only [J1,ht c (by simp [S5]),ht a (by simp [S5]),ht b (by simp [S5])]
  |build z ps=>simp only [J1,Nz ps _ (by simpa [S5] using ht)]
  |isnil n x=>simp only [J1,ht x (by simp [S5])]
  |dbytes x=>simp only [J1,ht x (by simp [S5])]
  |bmark x=>
   have h1:=ht x (by simp [S5]);simp only [Aw]at hh;simp only [J1,h1];generalize ev t x=X at hh;cases X with
   |sl k=>simp only [hh k (by simp [Fk])]
   |_=>rfl
  |dslice e sz n z ps=>simp only [J1,Nz ps _ (by simpa [S5] using ht)]
  |load n ag p=>simp only [J1,ht p (by simp [S5]),Zl (h':=h') (h:=h) (p:=ev t p) hh]
  |bin op x y=>simp only [J1,ht x (by simp [S5]),ht y (by simp [S5])]
  |eqB n x y=>simp only [J1,ht x (by simp [S5]),ht y (by simp [S5])]
  |eqA n ks x y=>simp only [J1,ht x (by simp [S5]),ht y (by simp [S5])]
  |un op x=>simp only [J1,ht x (by simp [S5])]
  |conv k x=>simp only [J1,ht x (by simp [S5])]
  |mkfn f fs cs=>
   have h1:fs.map (ev t')=fs.map (ev t):=List.map_congr_left fun x hx=>ht x (by simp [S5,hx]);have h2:cs.map (ev t')=cs.map (ev t):=List.map_congr_left fun x hx=>ht x (by simp [S5,hx]);simp only [J1,h1,h2]
  |slice sz x lo hi mx=>
   have h1:=ht x (by simp [S5]);have h2: ∀d,Bl t' d lo=Bl t d lo:=fun d=>Oa d lo fun y hy=>ht y (by simp only [S5,lQ,lP];exact .inr (.inl (.inl hy)));have h3: ∀d,Bl t' d hi=Bl t d hi:=fun d=>Oa d hi fun y hy=>ht y (by simp only [S5,lQ,lP];exact .inr (.inl (.inr hy)));have h4: ∀d,Bl t' d mx=Bl t d mx:=fun d=>Oa d mx fun y hy=>ht y (by simp only [S5,lQ,lP];exact .inr (.inr hy));cases hi<;>cases mx<;>simp only [J1,h1,h2,h3,h4]
  |str op xs=>simp only [J1];rw [List.map_congr_left fun x hx=>ht x (by simpa [S5] using hx)]
  |fieldA off x=>simp only [J1,ht x (by simp [S5])]
  |field off n ag x=>simp only [J1,ht x (by simp [S5])]
  |idxS sz x i=>
   have h1:=ht x (by simp [S5]);have h2:=ht i (by simp [S5]);simp only [J1,h1,h2];simp only [Aw]at hh;generalize ev t x=X at hh;generalize ev t i=Y;cases X with
   |sl k=>
    simp only [Fk,l3,forall_eq]at hh;cases Y with
    |d z=>cases z<;>first|rfl|(rename_i v;cases v<;>first|rfl|simp only [hh])
    |_=>rfl
   |d y=>
    cases Y with
    |d z=>cases y<;>cases z<;>first|rfl|(rename_i v;cases v<;>rfl)
    |_=>cases y<;>rfl
   |_=>
    cases Y with
    |d z=>cases z<;>first|rfl|(rename_i v;cases v<;>rfl)
    |_=>rfl
  |idxP l sz x i=>simp only [J1,ht x (by simp [S5]),ht i (by simp [S5])]
  |idxA l sz ag x i=>simp only [J1,ht x (by simp [S5]),ht i (by simp [S5])]
  |ext x i=>simp only [J1,ht x (by simp [S5])]
  |nilck x=>simp only [J1,ht x (by simp [S5])]
  |len x=>
   have h1:=ht x (by simp [S5]);simp only [J1,h1];simp only [Aw]at hh;generalize ev t x=X at hh;cases X with
   |sl k=>simp only [Fk,l3,forall_eq]at hh;simp only [hh]
   |d y=>cases y<;>rfl
   |_=>rfl
  |mlook m x=>
   have h1:=ht m (by simp [S5]);have h2:=ht x (by simp [S5]);simp only [J1,h1,h2];simp only [Aw]at hh;generalize ev t m=X at hh;generalize ev t x=Y;cases X with
   |sl k=>
    simp only [Fk,l3,forall_eq]at hh;cases Y with
    |d z=>cases z<;>first|rfl|(rename_i v;cases v<;>first|rfl|(rename_i kk n;cases kk<;>first|rfl|simp only [hh]))
    |_=>rfl
   |_=>rfl
  |mm b x r=>simp only [J1,ht x (by simp [S5]),AF b _ r _ (fun y hy=>ht y (by simp [S5,hy]))]
  |_=>rfl
theorem EU {u d:Nat}{t t':Nat→AV}{k:AK}(ht: ∀x∈S5 k,ev t' x=ev t x):Mb u d t' k=Mb u d t k:=by
  cases k with
  |box ty ag x=>simp only [Mb,ht x (by simp [S5])]
  |bslice e sz n z ps=>simp only [Mb,Nz ps _ (by simpa [S5] using ht)]
  |_=>rfl
theorem Yf {u d:Nat}{t t':Nat→AV}{h h':C7}{k:AK}(ht: ∀x∈S5 k,ev t' x=ev t x)(hh: ∀q∈Aw t h k,h' q=h q):Gm u d t' h' k=Gm u d t h k:=by
  cases k with
  |store n p x=>
   have h1:=ht p (by simp [S5]);have h2:=ht x (by simp [S5]);simp only [Gm,h1,h2];simp only [Aw]at hh;generalize ev t p=X at hh;cases X with
   |ptr k o=>simp only [Fk,l3,forall_eq]at hh;simp only [hh]
   |aptr k s i o=>simp only [Fk,l3,forall_eq]at hh;simp only [hh]
   |_=>rfl
  |mins m x=>
   have h1:=ht m (by simp [S5]);have h2:=ht x (by simp [S5]);simp only [Gm,h1,h2];simp only [Aw]at hh;generalize ev t m=X at hh;generalize ev t x=Y;cases X with
   |sl k=>
    simp only [Fk,l3,forall_eq]at hh;cases Y with
    |d z=>cases z<;>first|rfl|(rename_i v;cases v<;>first|rfl|(rename_i kk n;cases kk<;>first|rfl|simp only [hh]))
    |_=>rfl
   |_=>rfl
  |append ty e sz x y=>
   have h1:=ht x (by simp [S5]);have h2:=ht y (by simp [S5]);simp only [Aw]at hh;simp only [Gm,h1,h2,Zm (h:=h) (h':=h') (x:=ev t y) (sz:=sz) (fun k hk=>hh k (by simp [hk]))];generalize ev t x=X at hh;generalize Ad h sz (ev t y)=E;cases E with
   |none=>rfl
   |some ys=>
    cases X with
    |sl k=>have:=hh k (by simp [Fk]);simp only [this]
    |d y=>cases y<;>rfl
    |_=>rfl
  |oslice sz x lo hi mx=>
   cases lo with
   |some _=>rfl
   |none=>
    cases mx with
    |some _=>rfl
    |none=>
     have h1:=ht x (by simp [S5]);have h3: ∀d,Bl t' d hi=Bl t d hi:=fun d=>Oa d hi fun y hy=>ht y (by simp only [S5,lQ,lP];exact .inr (.inl (.inr hy)));simp only [Aw]at hh;simp only [Gm,h1,h3];generalize ev t x=X at hh;cases X with
     |sl k=>have:=hh k (by simp [Fk]);simp only [this]
     |d y=>cases y<;>rfl
     |_=>rfl
  |_=>rfl
theorem Wl {h h':C7}: ∀(n:Nat) (x:AV),(∀q∈O3 h n x,h' q=h q)→L8 h' n x=L8 h n x∧O3 h' n x=O3 h n x:=by
  intro n
  induction n with
  |zero=>intro x _;cases x<;>exact ⟨rfl,rfl⟩
  |succ n ih=>
   have ihl: ∀xs:List AV,(∀q∈xs.flatMap (O3 h n),h' q=h q)→N9 (L8 h' n) xs=N9 (L8 h n) xs∧xs.flatMap (O3 h' n)=xs.flatMap (O3 h n):=by
     intro xs
     induction xs with
     |nil=>intro _;exact ⟨rfl,rfl⟩
     |cons x r ihr=>
      intro hq;simp only [lY,lP]at hq;obtain ⟨a1,a2⟩:=ih x (fun q h=>hq q (.inl h));obtain ⟨b1,b2⟩:=ihr (fun q h=>hq q (.inr h));exact ⟨by simp only [N9,a1,b1],by simp only [lY,a2,b2]⟩
   intro x hq;cases x with
   |sl k=>
    have:=hq k (by simp [O3]);exact ⟨by simp only [L8,this],rfl⟩
   |ptr k off=>
    have h1:=hq k (by simp [O3]);simp only [L8,O3,h1];simp only [O3]at hq;cases hb:h k with
    |none=>exact ⟨rfl,rfl⟩
    |some b=>
     cases b with
     |arr=>exact ⟨rfl,rfl⟩
     |obj=>exact ⟨rfl,rfl⟩
     |mp=>exact ⟨rfl,rfl⟩
     |box ty cs=>
      simp only [hb]at hq;obtain ⟨a1,a2⟩:=ihl cs (fun q h=>hq q (by simp only [lQ];exact .inr h));exact ⟨by simp only [a1],by simp only [a2]⟩
   |bsl k m=>
    have h1:=hq k (by simp [O3]);simp only [L8,O3,h1];simp only [O3]at hq;cases hb:h k with
    |none=>exact ⟨rfl,rfl⟩
    |some b=>
     cases b with
     |arr=>exact ⟨rfl,rfl⟩
     |obj=>exact ⟨rfl,rfl⟩
     |mp=>exact ⟨rfl,rfl⟩
     |box ty cs=>
      simp only [hb]at hq;obtain ⟨a1,a2⟩:=ihl cs (fun q h=>hq q (by simp only [lQ];exact .inr h));exact ⟨by simp only [a1],by simp only [a2]⟩
   |agg cs=>
    simp only [O3]at hq;obtain ⟨a1,a2⟩:=ihl cs hq;exact ⟨by simp only [L8,a1],by simp only [O3,a2]⟩
   |fn f fs cs=>
    simp only [O3,lP]at hq;obtain ⟨a1,a2⟩:=ihl fs (fun q h=>hq q (.inl h));obtain ⟨b1,b2⟩:=ihl cs (fun q h=>hq q (.inr h));exact ⟨by simp only [L8,a1,b1],by simp only [O3,a2,b2]⟩
   |_=>exact ⟨rfl,rfl⟩
theorem Jh {h h':C7}{n:Nat}: ∀(xs:List AV),(∀q∈xs.flatMap (O3 h n),h' q=h q)→N9 (L8 h' n) xs=N9 (L8 h n) xs:=by
  intro xs
  induction xs with
  |nil=>intro _;rfl
  |cons x r ihr=>
   intro hq;simp only [lY,lP]at hq;obtain ⟨a1,_⟩:=Wl n x (fun q h=>hq q (.inl h));simp only [N9,a1,ihr (fun q h=>hq q (.inr h))]
theorem Qz {t t':Nat→AV}{f:Opd}{args:List Opd}(ht: ∀x∈f::args,ev t' x=ev t x):T3 t' f args=T3 t f args:=by
  have h1:=ht f (by simp);have h2:args.map (ev t')=args.map (ev t):=List.map_congr_left fun x hx=>ht x (by simp [hx]);simp only [T3,h1,h2]
theorem CX {P:Program}{t t':Nat→AV}{h h':C7}{k:AK}{v:AV}(ht: ∀x∈S5 k,ev t' x=ev t x)(hh: ∀q∈Aw t h k,h' q=h q)(hv:Wk P t h k v):Wk P t' h' k v:=by
  cases k with
  |call f args=>
   have h1:=Qz (t:=t) (t':=t') (f:=f) (args:=args) ht;simp only [Wk,h1]at hv ⊢;simp only [Aw]at hh;cases hc:T3 t f args with
   |none=>simp [hc]at hv
   |some p=>
    obtain ⟨fid,avs⟩:=p;simp only [hc]at hv hh ⊢;obtain ⟨ds,r,q1,q2⟩:=hv;exact ⟨ds,r,by rw [Jh avs hh];exact q1,q2⟩
  |_=>exact hv
theorem Ra {h h':C7}{n:Nat}: ∀(xs:List AV),(∀q∈xs.flatMap (O3 h n),h' q=h q)→xs.flatMap (O3 h' n)=xs.flatMap (O3 h n):=by
  intro xs
  induction xs with
  |nil=>intro _;rfl
  |cons x r ihr=>
   intro hq;simp only [lY,lP]at hq;obtain ⟨_,a2⟩:=Wl n x (fun q h=>hq q (.inl h));simp only [lY,a2,ihr (fun q h=>hq q (.inr h))]
theorem BD {P:Program}{u:Nat}{t t':Nat→AV}{h h':C7}{k:AK}{v:AV}{ups:List (D7×Option Blk)}(ht: ∀x∈S5 k,ev t' x=ev t x)(hh: ∀q∈Aw t h k,h' q=h q)(hv:Ti P u t h k v ups):Ti P u t' h' k v ups:=by
  cases k with
  |ocall S f args=>
   have h1:=Qz (t:=t) (t':=t') (f:=f) (args:=args) ht;simp only [Ti,h1]at hv ⊢;simp only [Aw]at hh;cases hc:T3 t f args with
   |none=>simp [hc]at hv
   |some p=>
    obtain ⟨fid,avs⟩:=p;simp only [hc]at hv hh ⊢;have e:=Ra avs hh
    have e2:R0 h' (avs.flatMap (O3 h 6))=R0 h (avs.flatMap (O3 h 6)):=by
      funext q;unfold R0;split
      ·exact hh q ‹_›
      ·rfl
    rw [e,e2];exact ⟨hv.1,fun q hq=>by rw [hh q hq];exact hv.2.1 q hq,hv.2.2⟩
  |_=>exact hv
theorem EV {P:Program}{u:Nat}{o:AOp}{t t':Nat→AV}{h h':C7}{v:AV}{ups:List (D7×Option Blk)}(ht: ∀i∈ES o,t' i=t i)(hh: ∀q∈Aw t h o.k,h' q=h q)
    (he:Nq P u o t h v ups):Nq P u o t' h' v ups:=by
  have hx: ∀x∈S5 o.k,ev t' x=ev t x:=fun x hx=>JH fun i hi=>ht i (by unfold ES;exact List.mem_append_left _ (List.mem_filterMap.2 ⟨x,hx,hi⟩))
  have main:Ww P u o t h v ups→Ww P u o t' h' v ups:=by
    intro he;unfold Ww at he ⊢
    split at he<;>first
      |exact ⟨by rw [ET hx hh];exact he.1,he.2⟩
      |(obtain ⟨d,b,h1,h2,h3⟩:=he;exact ⟨d,b,h1,by rw [EU hx];exact h2,h3⟩)
      |exact ⟨CX hx hh he.1,he.2⟩
      |exact BD hx hh he
      |(rw [Yf hx hh];exact he)
      |(obtain ⟨d,h1,h2⟩:=he;exact ⟨d,h1,by rw [Yf hx hh];exact h2⟩)
      |exact he.elim
  unfold Nq at he ⊢;cases hg:o.g with
  |none=>rw [hg]at he;exact main he
  |some gb=>
   obtain ⟨g,b⟩:=gb;rw [hg]at he;have hgt:t' g=t g:=ht g (by unfold ES;rw [hg];simp);simp only [hgt]at he ⊢;split at he
   ·rename_i c hc;split at he
    ·rename_i hcb;simp only [hcb,if_true];exact main he
    ·rename_i hcb;simp only [hcb,if_false];exact he
   ·exact he
   ·exact he.elim
end Go.Abs
namespace Go.Abs
open Go
def NB:AK→Bool
  | .slice .. =>true
  |_=>false
def FT (x:Option AK):Prop:= ∀k,x=some k→NB k=false
theorem Ii {α:Type}{x:Option α}{f:α→Option AK}(h: ∀a,FT (f a)):FT (x.bind f):=by
  intro k hk;obtain ⟨a,_,h2⟩:=bind_some hk;exact h a k h2
theorem Ow:FT none:=fun _ h=>by cases h
theorem Ky {k:AK}(h:NB k=false):FT (some k):=fun _ e=>by cases e;exact h
theorem PC (op:BinOp)(x y:Operand):FT (Xo op x y):=by
  cases op<;>simp only [Xo,lB]<;>first|exact Ow|(refine Ii fun _=>Ii fun _=>Ky rfl)
theorem PD (x i:Operand):FT (Xq x i):=by
  simp only [Xq,lB];exact Ii fun _=>Ii fun _=>Ky rfl
theorem PE (x:Operand):FT (AZ x):=by
  simp only [AZ,lB];exact Ii fun _=>Ky rfl
theorem PF (x:Operand):FT (CJ x):=by
  simp only [CJ,lB];exact Ii fun _=>Ky rfl
theorem PG (P:Program)(s d e:TypeId)(x:Operand):FT (CK P s d e x):=by
  unfold CK;split
  ·split
   ·exact Ii fun _=>Ky rfl
   ·exact Ow
  ·exact Ow
theorem PH (x:Operand):FT (Xr x):=by
  simp only [Xr,lB];exact Ii fun _=>Ky rfl
theorem PI (x:Operand)(lo hi mx:Option Operand):FT (Xp x lo hi mx):=by
  unfold Xp;cases mx<;>cases lo<;>cases hi<;>simp only [lB]<;>first|exact Ow|(repeat' first|exact Ky rfl|refine Ii fun _=> ?_)
theorem NC (P:Program)(o:Op)(ho: ∀t x lo hi mx,o≠ .slice t x lo hi mx):FT (N6 P o):=by
  cases o<;>first|exact (ho _ _ _ _ _ rfl).elim|skip
  all_goals simp only [N6,OJ,lB]
  all_goals first
    |exact Ow
    |(repeat' (first|exact Ow|exact Ky rfl|exact PC _ _ _|exact PD _ _|exact PH _|exact PE _|exact PF _|exact PG _ _ _ _ _|refine Ii fun _=> ?_|split))
  all_goals (exfalso;simp_all)
theorem CY {P:Program}{o:Op}{sz:Nat}{x:Opd}{lo hi mx:Option Opd}(h:N6 P o=some (.slice sz x lo hi mx)): ∃t y l' h' m',o= .slice t y l' h' m':=by
  by_cases q: ∃t y l' h' m',o= .slice t y l' h' m'
  ·exact q
  ·have:=NC P o (fun t x lo hi mx e=>q ⟨t,x,lo,hi,mx,e⟩) _ h;simp [NB]at this
section
variable {P:Program}{w:World}{I:Nat→Prop}{ρ:Rho}{N:Nat}{s:St}{a:Act}{h:C7}
theorem AG (H:HeapOK w I ρ h){k q:D7}{b b':Blk}{x:Value}(hk:h k=some b)(hq:ρ q=none)(hx:x.oneCell'=true)(hl: ∀ρ':Rho,ρ' q=some x→M2 ρ' q b'=M2 ρ k b)
    (hb: ∀ρ':Rho,ρ.le ρ'→ρ' q=some x→BlkOK w I ρ' q b'):
    HeapOK w I (W8 ρ q (some x)) (W8 (W8 h k none) q (some b'))∧Tr w I ρ h w I (W8 ρ q (some x)) (W8 (W8 h k none) q (some b')):=by
  have hle:ρ.le (W8 ρ q (some x)):=by
    intro k' v hv;have:k'≠q:=by rintro rfl;rw [hq]at hv;cases hv
    rw [K5 _ _ _ _ this];exact hv
  have hqs:W8 ρ q (some x) q=some x:=C8 _ _ _
  have hget: ∀k' c,W8 (W8 h k none) q (some b') k'=some c→(k'=q∧c=b')∨(k'≠q∧k'≠k∧h k'=some c):=by
    intro k' c hc;by_cases e:k'=q
    ·subst e;rw [C8]at hc;cases hc;exact .inl ⟨rfl,rfl⟩
    ·rw [K5 _ _ _ _ e]at hc;by_cases e2:k'=k
     ·subst e2;rw [C8]at hc;cases hc
     ·rw [K5 _ _ _ _ e2]at hc;exact .inr ⟨e,e2,hc⟩
  have hloc: ∀k' c,h k'=some c→M2 (W8 ρ q (some x)) k' c=M2 ρ k' c:=by
    intro k' c hc;obtain ⟨y,hy⟩:=(H.blk k' c hc).rho;exact Mr c ((hle _ _ hy).trans hy.symm)
  have hlq:M2 (W8 ρ q (some x)) q b'=M2 ρ k b:=hl _ hqs;refine ⟨⟨fun k' c hc=> ?_,fun k1 k2 c1 c2 g h1 h2 l1 l2=> ?_,fun k' c g hc hg=> ?_,fun k' c g hc hg=> ?_,H.ilt,?_,fun k' y hy=> ?_⟩,⟨rfl,rfl,rfl,bB _,fun _ _ _=>rfl,fun _ hb=>hb,fun _ hb _=> .inl hb,fun g hg _=> ?_,hle⟩⟩
  ·rcases hget k' c hc with ⟨rfl,rfl⟩|⟨_,_,h3⟩
   ·exact hb _ hle hqs
   ·exact (H.blk k' c h3).keep (fun _ _=>rfl) (fun _ _=>rfl) (fun _ hb=>hb) hle
  ·rcases hget k1 c1 h1 with ⟨rfl,rfl⟩|⟨e1,e2,h3⟩
   ·rcases hget k2 c2 h2 with ⟨rfl,rfl⟩|⟨e3,e4,h4⟩
    ·rfl
    ·rw [hlq]at l1;rw [hloc _ _ h4]at l2;exact absurd (H.sep k k2 b c2 g hk h4 l1 l2).symm e4
   ·rcases hget k2 c2 h2 with ⟨rfl,rfl⟩|⟨e3,e4,h4⟩
    ·rw [hlq]at l2;rw [hloc _ _ h3]at l1;exact absurd (H.sep k1 k c1 b g h3 hk l1 l2) e2
    ·rw [hloc _ _ h3]at l1;rw [hloc _ _ h4]at l2;exact H.sep k1 k2 c1 c2 g h3 h4 l1 l2
  ·rcases hget k' c hc with ⟨rfl,rfl⟩|⟨_,_,h3⟩
   ·rw [hlq]at hg;exact H.notI k b g hk hg
   ·rw [hloc _ _ h3]at hg;exact H.notI k' c g h3 hg
  ·rcases hget k' c hc with ⟨rfl,rfl⟩|⟨_,_,h3⟩
   ·rw [hlq]at hg;exact H.lt k b g hk hg
   ·rw [hloc _ _ h3]at hg;exact H.lt k' c g h3 hg
  ·obtain ⟨u0,hu⟩:=H.fresh;refine ⟨max u0 (q.2+1),fun d u hd=> ?_⟩;rw [K5 _ _ _ _ (by intro e;have:=congrArg Prod.snd e;dsimp only at this;omega)];exact hu d u (by omega)
  ·by_cases e:k'=q
   ·subst e;rw [C8]at hy;cases hy;exact hx
   ·rw [K5 _ _ _ _ e]at hy;exact H.rone k' y hy
  ·obtain ⟨k',c,hc,hg⟩:=hg;rcases hget k' c hc with ⟨rfl,rfl⟩|⟨_,_,h3⟩
   ·rw [hlq]at hg;exact ⟨k,b,hk,hg⟩
   ·rw [hloc _ _ h3]at hg;exact ⟨k',c,h3,hg⟩
theorem BE {o:Oper}{sz:Nat}{x:Opd}{lo hi mx:Option Opd}{v:AV}{ups:List (D7×Option Blk)}{u d:Nat}(hk:N6 P o.op=some (.slice sz x lo hi mx))(hs:Sim w I ρ N s a)(H:HeapOK w I ρ h)(hρ:ρ (d,u)=none)
    (hv:Gm u d s.t h (.oslice sz x lo hi mx)=some (v,ups)):Ma o.op=false∧Th P w I ρ h a o (fun k'=>k'≠(d,u)) v (Q0 h ups):=by
  obtain ⟨t,xo,lo',hi',mx',hop⟩:=CY hk;refine ⟨by rw [hop];rfl,?_⟩;rw [hop]at hk;simp only [N6]at hk;split at hk
  ·rename_i e hu;simp only [lB]at hk;obtain ⟨sz',hsz,hk⟩:=bind_some hk;obtain ⟨ox,hox,hk⟩:=bind_some hk;obtain ⟨olo,holo,hk⟩:=bind_some hk;obtain ⟨ohi,hohi,hk⟩:=bind_some hk;obtain ⟨omx,homx,hk⟩:=bind_some hk;cases hk
   have fin: ∀y,(Instr.sliceAt t (a.eval xo) (lo'.map a.eval) (hi'.map a.eval) (mx'.map a.eval)).run P w= .ok y w→(execOp a.eval o).run P w= .ok (.value y) w:=by
     intro y hy;unfold execOp;rw [hop];simp [hy]
   have h1:=O2 hs hox;cases lo with
   |some _=>simp [Gm]at hv
   |none=>
    cases mx with
    |some _=>simp [Gm]at hv
    |none=>
     have r1:=Sf holo;have r3:=Sf homx;subst r1 r3;simp only [Gm]at hv;split at hv
     ·rename_i k hx;split at hv
      ·rename_i e' sz2 es hb;split at hv
       ·rename_i j hj;split at hv
        ·rename_i hc;obtain ⟨rfl,hjl⟩:=hc;cases hv;rw [hx]at h1;obtain ⟨y,xs,hy,hown,hes,hat⟩:=H.blk k _ hb
         have hyx:a.eval xo=y:=by
           generalize a.eval xo=q at h1;cases h1 with|sl _ _ hq=>rw [hy]at hq;cases hq;rfl
         obtain ⟨hlen,hcase⟩:=hown
         have hrow: ∀y':Value,rowM w e' sz2 y' j (xs.take (j*sz2))→∀ρ':Rho,ρ.le ρ'→ρ' (d,u)=some y'→BlkOK w I ρ' (d,u) (.arr e' sz2 (es.take j)):=by
           intro y' ho ρ' _ hy';have hlj:(es.take j).length=j:=by rw [lR];omega
           refine ⟨y',xs.take (j*sz2),hy',by rw [hlj];exact ho,fun e he=>hes e (List.mem_of_mem_take he),fun i l dd hd=> ?_⟩;unfold Lf at hd;rw [lX]at hd;split at hd
           ·rename_i hij;obtain ⟨o1,o2⟩:=hat i l dd hd;refine ⟨o1,?_⟩;obtain ⟨ei,he1,he2⟩:=bind_some hd
            have hl1:l<sz2:=by
              have:=hes ei (lF he1);have:=(lH.1 he2).1;omega
            have hlt:i*sz2+l<j*sz2:=by
              have:(i+1)*sz2≤j*sz2:=Nat.mul_le_mul_right _ hij;rw [bD]at this;omega
            have e:(xs.take (j*sz2)).getD (i*sz2+l) undef=xs.getD (i*sz2+l) undef:=by
              simp only [List.getD,lX,l4 hlt]
            rw [e];exact o2
           ·cases hd
         have hfin: ∀y':Value,y'.oneCell'=true→y'.ownBlock=y.ownBlock→rowM w e' sz2 y' j (xs.take (j*sz2))→(Instr.sliceAt t (a.eval xo) none (hi'.map a.eval) none).run P w= .ok y' w→
          Th P w I ρ h a o (fun k'=>k'≠(d,u)) (.sl (d,u)) (Q0 h [(k,none),((d,u),some (.arr e' sz2 (es.take j)))]):=by
           intro y' hone hblk ho hrun;obtain ⟨H',T'⟩:=AG H (b':= .arr e' sz2 (es.take j)) hb hρ hone (fun ρ' hρ'=>by simp only [M2,hρ',hy,lA,hblk]) (hrow y' ho);exact ⟨_,w,W8 ρ (d,u) (some y'),fin y' hrun,⟨y', .inl rfl, .sl _ _ (C8 _ _ _)⟩,H',T',fun k' hk'=>K5 _ _ _ _ hk'⟩
         rcases hcase with ⟨rfl,h0⟩|⟨g,cap,cur,fz,rfl,hcell,hfz,hcap,hmax,hcur,htake⟩
         ·have hj0:j=0:=by omega
          subst hj0;have hb2:=Kx (P:=P) (w:=w) (len:=0) (cap:=0) (lo:=none) (i:=0) rfl (by rw [h0]at hj;exact Dy hs hohi hj) (bB _) (bB _);refine hfin (.slice none 0 0) rfl rfl ⟨by simp, .inl ⟨rfl,rfl⟩⟩ ?_;rw [hyx,Kc hu hsz hb2];rfl
         ·have hb2:=Kx (P:=P) (w:=w) (len:=es.length) (cap:=cap) (lo:=none) (i:=0) rfl (Dy hs hohi hj) (bC _) (by omega);refine hfin (.slice (some ⟨g,0,none⟩) j cap) rfl rfl ⟨by rw [lR,hlen];have:=Nat.mul_le_mul_right sz2 hjl;omega, .inr ⟨g,cap,cur,fz,rfl,hcell,hfz,by omega,hmax,hcur,?_⟩⟩ ?_
          ·rw [← htake,List.take_take,Nat.min_eq_left (Nat.mul_le_mul_right _ hjl)]
          ·rw [hyx,Kc hu hsz hb2];congr 2;split
           ·rfl
           ·simp [Addr.add]
        ·cases hv
       ·cases hv
      ·cases hv
     ·rename_i hx;split at hv
      ·rename_i hj;cases hv;rw [hx]at h1
       have hyx: ∃A,a.eval xo= .slice A 0 0:=by
         generalize a.eval xo=q at h1;cases h1 with|d _ _ hd=>cases hd with|nilS A=>exact ⟨A,rfl⟩
       obtain ⟨A,hyx⟩:=hyx;have hb2:=Kx (P:=P) (w:=w) (len:=0) (cap:=0) (lo:=none) (i:=0) rfl (Dy hs hohi hj) (bB _) (bB _);refine ⟨_,w,ρ,fin (.slice A 0 0) ?_,⟨_, .inl rfl, .d _ _ (.nilS _)⟩,H,Tr.refl _ _ _ _,fun _ _=>rfl⟩;simp only [Option.map_none];rw [hyx,Kc hu hsz hb2];rfl
      ·cases hv
     ·cases hv
  ·have:=PI _ _ _ _ _ hk;simp [NB]at this
  ·cases hk
end
end Go.Abs
namespace Go.Abs
open Go
def PJ:AK→Bool
  | .str .tob _=>true
  |_=>false
def BF (x:Option AK):Prop:= ∀k,x=some k→PJ k=false
theorem Kd {α:Type}{x:Option α}{f:α→Option AK}(h: ∀a,BF (f a)):BF (x.bind f):=by
  intro k hk;obtain ⟨a,_,h2⟩:=bind_some hk;exact h a k h2
theorem Sh:BF none:=fun _ h=>by cases h
theorem Ox {k:AK}(h:PJ k=false):BF (some k):=fun _ e=>by cases e;exact h
theorem PK (op:BinOp)(x y:Operand):BF (Xo op x y):=by
  cases op<;>simp only [Xo,lB]<;>first|exact Sh|(refine Kd fun _=>Kd fun _=>Ox rfl)
theorem PL (x i:Operand):BF (Xq x i):=by
  simp only [Xq,lB];exact Kd fun _=>Kd fun _=>Ox rfl
theorem PM (x:Operand):BF (Xr x):=by
  simp only [Xr,lB];exact Kd fun _=>Ox rfl
theorem PN (x:Operand)(lo hi mx:Option Operand):BF (Xp x lo hi mx):=by
  unfold Xp;cases mx<;>cases lo<;>cases hi<;>simp only [lB]<;>first|exact Sh|(repeat' first|exact Ox rfl|refine Kd fun _=> ?_)
theorem ND (P:Program)(o:Op)(ho: ∀s d x,o≠ .convert s d x):BF (N6 P o):=by
  cases o<;>first|exact (ho _ _ _ rfl).elim|skip
  all_goals simp only [N6,OJ,lB]
  all_goals first
    |exact Sh
    |(repeat' (first|exact Sh|exact Ox rfl|exact PK _ _ _|exact PL _ _|exact PM _|exact PN _ _ _ _|refine Kd fun _=> ?_|split))
  all_goals (exfalso;simp_all)
theorem HB {P:Program}{o:Op}{x:Opd}(h:N6 P o=some (.str .tob [x])): ∃s d y e,o= .convert s d y∧L9 y=some x∧P.underlying s=some .string∧P.underlying d=some (.slice e)∧P.underlying e=some (.int .u8):=by
  by_cases q: ∃s d y,o= .convert s d y
  ·obtain ⟨s,d,y,rfl⟩:=q;simp only [N6]at h;split at h
   ·simp only [lB]at h;obtain ⟨_,_,h⟩:=bind_some h;cases h
   ·split at h
    ·simp only [AZ,lB]at h;obtain ⟨_,_,h⟩:=bind_some h;cases h
    ·cases h
   ·rename_i e h1 h2;split at h
    ·rename_i h3;simp only [CJ,lB]at h;obtain ⟨ox,hox,h⟩:=bind_some h;cases h;exact ⟨s,d,y,e,rfl,hox,h1,h2,h3⟩
    ·cases h
   ·unfold CK at h;split at h
    ·split at h
     ·obtain ⟨_,_,h⟩:=bind_some h;cases h
     ·cases h
    ·cases h
   ·cases h
  ·have:=ND P o (fun s d y e=>q ⟨s,d,y,e⟩) _ h;simp [PJ]at this
section
variable {P:Program}{w:World}{I:Nat→Prop}{ρ:Rho}{N:Nat}{s:St}{a:Act}{h:C7}
theorem EW {s:ByteArray}{j:Nat}{n:Int}(h:(Ka s)[j]? =some n):j<s.size∧n=((s.data.toList.getD j 0).toNat:Int):=by
  unfold Ka at h;rw [lI,lD]at h;obtain ⟨b,hb,rfl⟩:=h;refine ⟨?_,by rw [List.getD,hb];rfl⟩;have:=(lH.1 hb).1;rw [Array.length_toList]at this;exact this
theorem Yg (s:ByteArray):(Ka s).length=s.size:=by unfold Ka;rw [lO,Array.length_toList];rfl
theorem BG {o:Oper}{x:Opd}{v:AV}(hk:N6 P o.op=some (.str .tob [x]))(hs:Sim w I ρ N s a)(hv:J1 s.t s.h (.dbytes x)=some v):
    Ma o.op=false∧∃y w' I',(execOp a.eval o).run P w= .ok (.value y) w'∧RepV w' I' ρ v y∧HeapOK w' I' ρ s.h∧Tr w I ρ s.h w' I' ρ s.h:=by
  obtain ⟨sT,dT,xo,e,hop,hox,hu1,hu2,hu3⟩:=HB hk;refine ⟨by rw [hop];rfl,?_⟩;have h1:=O2 hs hox;simp only [J1]at hv;split at hv
  ·rename_i b hx;cases hv;rw [hx]at h1;have hxe:=Vm h1;have H:=hs.heap;have hnew: ∀g,own ρ s.h g→g≠w.heap.size:=fun g hg=>Nat.ne_of_lt (H.own_lt hg);have hold: ∀j,j<w.heap.size→(Lib.bytesWorld w e b).heap[j]? =w.heap[j]?:=fun j hj=>Lib.bytesWorld_at_old w e b j hj;have hsz:=Lib.bytesWorld_size w e b;refine ⟨.slice (some ⟨w.heap.size,0,none⟩) b.size (grownCap w b.size 0 e),Lib.bytesWorld w e b,fun g=>I g∨g=w.heap.size,?_,?_,?_,?_⟩
   ·unfold execOp;rw [hop];simp only [hxe];have:=Lib.run_convert_string_bytes (P:=P) w sT dT e b hu1 hu2 hu3;simp [this]
   ·by_cases hne:Ka b= []
    ·rw [hne];have hz:b.size=0:=by rw [← Yg,hne];rfl
     rw [hz];exact .d _ _ (.lnil _ _)
    ·have hcap:b.size≤grownCap w b.size 0 e:=grownCap_ge w _ _ _;have hl:((Ka b).map fun n=> [D.v (.int .u8 n)]).length=b.size:=by rw [lO,Yg]
     have hget: ∀i j d,Lf ((Ka b).map fun n=> [D.v (.int .u8 n)]) i j=some d→j=0∧∃n,(Ka b)[i]? =some n∧d= .v (.int .u8 n):=by
       intro i j d hd;unfold Lf at hd;rw [lI]at hd;cases q:(Ka b)[i]? with
       |none=>rw [q]at hd;cases hd
       |some n=>
        rw [q]at hd;cases j with
        |zero=>cases hd;exact ⟨rfl,n,rfl,rfl⟩
        |succ j=>simp at hd
     have:=RepD.list (w:=Lib.bytesWorld w e b) (I:=fun g=>I g∨g=w.heap.size) ((Ka b).map fun n=> [D.v (.int .u8 n)]) ⟨w.heap.size,0,none⟩ (grownCap w b.size 0 e) 1 (fun i _=> .int .u8 ((Ka b).getD i 0)) (by simpa using hne) (by rw [hl];exact hcap)
       (fun q hq=>by obtain ⟨n,_,rfl⟩:=List.mem_map.1 hq;rfl) (.inr rfl) (fun i j d hd=>by obtain ⟨_,n,_,rfl⟩:=hget i j d hd;rfl)
       (fun i j d hd=>by
         obtain ⟨rfl,n,hn,rfl⟩:=hget i j d hd;obtain ⟨hlt,hn2⟩:=EW hn;have hadd:(⟨w.heap.size,0,none⟩:Addr).add (i*1+0)=⟨w.heap.size,i,none⟩:=by unfold Addr.add;split<;>simp_all
         rw [hadd,Lib.bytesWorld_cell w e b i hlt]
         simp [List.getD,hn,hn2])
       (fun i j d hd=>by
         obtain ⟨rfl,n,hn,rfl⟩:=hget i j d hd;have:(Ka b).getD i 0=n:=by simp [List.getD,hn]
         rw [this];exact .v _)
     rw [hl]at this;exact .d _ _ this
   ·exact H.keep (fun g hg=>hold g (H.own_lt hg)) (fun g hg=>hold g (H.ilt g hg)) (fun _ hb=> .inl hb) (fun g hg hi=>hi.elim (H.own_notI hg) (hnew g hg)) (fun g hg=>by rw [hsz];rcases hg with hg|rfl;have:=H.ilt g hg;omega;omega) (fun _ _ h=>h) (by omega) H.fresh H.rone
   ·refine ⟨rfl,rfl,rfl,by omega,fun g hg _=>hold g hg,fun _ hb=> .inl hb,fun g hg hlt=> ?_,fun _ hg _=>hg,fun _ _ h=>h⟩;rcases hg with hg|rfl
    ·exact .inl hg
    ·omega
  ·cases hv
end
def PO:AK→Bool
  | .str .mrk _=>true
  |_=>false
def BH (x:Option AK):Prop:= ∀k,x=some k→PO k=false
theorem Ke {α:Type}{x:Option α}{f:α→Option AK}(h: ∀a,BH (f a)):BH (x.bind f):=by
  intro k hk;obtain ⟨a,_,h2⟩:=bind_some hk;exact h a k h2
theorem Si:BH none:=fun _ h=>by cases h
theorem Oy {k:AK}(h:PO k=false):BH (some k):=fun _ e=>by cases e;exact h
theorem PP (op:BinOp)(x y:Operand):BH (Xo op x y):=by
  cases op<;>simp only [Xo,lB]<;>first|exact Si|(refine Ke fun _=>Ke fun _=>Oy rfl)
theorem PQ (x i:Operand):BH (Xq x i):=by
  simp only [Xq,lB];exact Ke fun _=>Ke fun _=>Oy rfl
theorem PR (x:Operand):BH (Xr x):=by
  simp only [Xr,lB];exact Ke fun _=>Oy rfl
theorem PS (x:Operand)(lo hi mx:Option Operand):BH (Xp x lo hi mx):=by
  unfold Xp;cases mx<;>cases lo<;>cases hi<;>simp only [lB]<;>first|exact Si|(repeat' first|exact Oy rfl|refine Ke fun _=> ?_)
theorem NE (P:Program)(o:Op)(ho: ∀s d x,o≠ .convert s d x):BH (N6 P o):=by
  cases o<;>first|exact (ho _ _ _ rfl).elim|skip
  all_goals simp only [N6,OJ,lB]
  all_goals first
    |exact Si
    |(repeat' (first|exact Si|exact Oy rfl|exact PP _ _ _|exact PQ _ _|exact PR _|exact PS _ _ _ _|refine Ke fun _=> ?_|split))
  all_goals (exfalso;simp_all)
theorem HC {P:Program}{o:Op}{x:Opd}(h:N6 P o=some (.str .mrk [x])): ∃s y e,o= .convert s s y∧L9 y=some x∧P.underlying s=some (.slice e)∧P.underlying e=some (.int .u8):=by
  by_cases q: ∃s d y,o= .convert s d y
  ·obtain ⟨s,d,y,rfl⟩:=q;simp only [N6]at h;split at h
   ·simp only [lB]at h;obtain ⟨_,_,h⟩:=bind_some h;cases h
   ·split at h
    ·simp only [AZ,lB]at h;obtain ⟨_,_,h⟩:=bind_some h;cases h
    ·cases h
   ·split at h
    ·simp only [CJ,lB]at h;obtain ⟨_,_,h⟩:=bind_some h;cases h
    ·cases h
   ·rename_i e0 e h1 h2;unfold CK at h;split at h
    ·rename_i hsd;subst hsd;split at h
     ·rename_i h3;obtain ⟨ox,hox,h⟩:=bind_some h;cases h;exact ⟨s,y,e,rfl,hox,h2,h3⟩
     ·cases h
    ·cases h
   ·cases h
  ·have:=NE P o (fun s d y e=>q ⟨s,d,y,e⟩) _ h;simp [PO]at this
section
variable {P:Program}{w:World}{I:Nat→Prop}{ρ:Rho}{N:Nat}{s:St}{a:Act}{h:C7}
theorem CZ {o:Oper}{x:Opd}{v:AV}(hk:N6 P o.op=some (.str .mrk [x]))(hs:Sim w I ρ N s a)(hv:J1 s.t s.h (.bmark x)=some v):
    Ma o.op=false∧∃y w' I',(execOp a.eval o).run P w= .ok (.value y) w'∧RepV w' I' ρ v y∧HeapOK w' I' ρ s.h∧Tr w I ρ s.h w' I' ρ s.h:=by
  obtain ⟨sT,xo,e,hop,hox,hu1,hu2⟩:=HC hk;refine ⟨by rw [hop];rfl,?_⟩;have h1:=O2 hs hox;have H:=hs.heap;simp only [J1]at hv;split at hv
  ·rename_i k hx;split at hv
   ·rename_i ty sz d0 ds hb;split at hv
    ·rename_i he;subst he;cases hv;rw [hx]at h1;generalize hxv:a.eval xo=xv at h1;cases h1 with
     |sl _ _ hρk=>
      obtain ⟨x0,xs,q1,q2,q3,q4⟩:=H.blk _ _ hb;rw [hρk]at q1;cases q1;obtain ⟨hlen,hcase⟩:=q2;rcases hcase with ⟨_,h0⟩|⟨g,cap,cur,fz,rfl,hcell,hfz,hcap,hmax,hcur,htake⟩
      ·simp at h0
      ·have hsh:w.shape? g=some (5,cur.size):=by unfold World.shape?;rw [hcell]
       let w':=w.freeze ⟨g,cur.size,none⟩ 1
       have hrun:(execOp a.eval o).run P w= .ok (.value (.slice (some ⟨g,0,none⟩) (d0::ds).length cap)) w':=by
         unfold execOp;rw [hop];simp only [hxv];simp [convert,run_underlying hu1,run_underlying hu2,markStringish,hsh,w']
       have hnew: ∃fz',(fz'=(0,0)∨(5:TypeId)=5∧cur.size≤fz'.1)∧w'.heap[g]? =some (.cells cur 5 fz'):=by
         obtain ⟨lo,hi⟩:=fz;refine ⟨if lo==hi then (cur.size,cur.size+1)else (min lo cur.size,max hi (cur.size+1)), .inr ⟨rfl,?_⟩,?_⟩
         ·split
          ·exact bB _
          ·rename_i hne;rcases hfz with hz|⟨_,hz⟩
           ·cases hz;simp at hne
           ·exact Nat.le_min.2 ⟨hz,bB _⟩
         ·show (w.heap.modify g _)[g]? =_;rw [Array.getElem?_modify,l4 rfl,hcell];rfl
       obtain ⟨fz',hfz',hcell'⟩:=hnew
       have hold: ∀i,i≠g→w'.heap[i]? =w.heap[i]?:=by
         intro i hi;show (w.heap.modify g _)[i]? =_;rw [Array.getElem?_modify,l5 (Ne.symm hi)]
       have hsz:w'.heap.size=w.heap.size:=by show (w.heap.modify g _).size=_;simp
       have hl:M2 ρ k (.arr 5 sz (d0::ds))=some g:=by simp [M2,hρk,Value.ownBlock]
       have hIk: ∀i,I i→w'.heap[i]? =w.heap[i]?:=fun i hi=>hold i (fun e=>H.notI k _ g hb hl (e▸hi))
       have:=Qs H k _ (.arr 5 sz (d0::ds)) g hb hl hl (w':=w') rfl rfl rfl hsz hold
         ⟨_,xs,hρk,⟨hlen, .inr ⟨g,cap,cur,fz',rfl,hcell',hfz',hcap,hmax,hcur,htake⟩⟩,q3,fun i j d hd=>⟨(q4 i j d hd).1,(q4 i j d hd).2.keep hIk (fun _ hb=>hb)⟩⟩
       have e:W8 s.h k (some (.arr 5 sz (d0::ds)))=s.h:=by
         funext q;by_cases hq:q=k
         ·subst hq;rw [C8,hb]
         ·rw [K5 _ _ _ _ hq]
       rw [e]at this;exact ⟨_,w',I,hrun, .sl _ _ hρk,this.1,this.2⟩
    ·cases hv
   ·cases hv
  ·cases hv
end
end Go.Abs
namespace Go.Abs
open Go
def Fl:AOp:=⟨none, .mv (.c .nilS),none⟩
theorem Vq {α β:Type}(f:α→β)(sz:Nat): ∀(n:Nat) (l:List α),Fj sz n (l.map f)=(Fj sz n l).map (·.map f)
  |0,_=>rfl
  |n+1,l=>by simp only [Fj,lN,← List.map_take,← List.map_drop,Vq f sz n]
theorem BI {f:D→D}{es:List (List D)}{i j:Nat}{d:D}(h:Lf (es.map (·.map f)) i j=some d): ∃e,Lf es i j=some e∧d=f e:=by
  unfold Lf at h ⊢;rw [lI]at h;cases h1:es[i]? with
  |none=>rw [h1]at h;cases h
  |some x=>
   rw [h1]at h;simp only [lE,lA,lI,lD]at h;obtain ⟨e,h2,h3⟩:=h;exact ⟨e,h2,h3.symm⟩
theorem NF {w:World}{I:Nat→Prop}{d:D}{v:Value}(h:RepD w I d v):RepD w I (nrm d) v:=by
  unfold nrm;split
  ·cases h with|nilS A=>exact .lnil A 0
  ·exact h
theorem NG {d:D}(h:d.one=true):(nrm d).one=true:=by
  unfold nrm;split
  ·rfl
  ·exact h
theorem JI {w:World}{I:Nat→Prop}{es:List (List D)}{v:Value}(h:RepD w I (.list es) v):RepD w I (.list (es.map (·.map nrm))) v:=by
  cases h with
  |lnil A cap=>exact .lnil A cap
  |list es A cap sz X hne hcap hsz hI hone hc hr=>
   have:=RepD.list (w:=w) (I:=I) (es.map (·.map nrm)) A cap sz X (by simpa using hne) (by simpa using hcap) (fun e he=>by
     obtain ⟨q,h1,rfl⟩:=List.mem_map.1 he
     rw [lO];exact hsz q h1) hI (fun i j d hd=>by
     obtain ⟨e,h1,rfl⟩:=BI hd;exact NG (hone i j e h1)) (fun i j d hd=>by
     obtain ⟨e,h1,rfl⟩:=BI hd;exact hc i j e h1) (fun i j d hd=>by
     obtain ⟨e,h1,rfl⟩:=BI hd;exact NF (hr i j e h1))
   rw [lO]at this;exact this
def RZ (ao ao':AOp):Prop:=ao'=ao∨(∃f args,ao.k= .call f args∧ao'=⟨ao.dst, .icall f args,ao.g⟩)∨(∃e sz n z ps,ao.k= .bslice e sz n z ps∧ao'=⟨ao.dst, .dslice e sz n z ps,ao.g⟩)∨(∃sz x lo hi mx,ao.k= .slice sz x lo hi mx∧ao'=⟨ao.dst, .oslice sz x lo hi mx,ao.g⟩)∨(∃x,ao.k= .str .tob [x]∧ao'=⟨ao.dst, .dbytes x,ao.g⟩)∨(∃x,ao.k= .str .mrk [x]∧ao'=⟨ao.dst, .bmark x,ao.g⟩)∨∃S f args,ao.k= .call f args∧ao'=⟨ao.dst, .ocall S f args,ao.g⟩
theorem DA {w:World}{I:Nat→Prop}{ρ:Rho}{h:C7}{k:D7}{ty:TypeId}{sz:Nat}{es:List (List D)}(H:HeapOK w I ρ (W8 h k (some (.arr ty sz es))))(hk:h k=none):
    ∃I':Nat→Prop,(∀b,I b→I' b)∧(∀b,I' b→I b∨own ρ (W8 h k (some (.arr ty sz es))) b)∧HeapOK w I' ρ h∧∀v,ρ k=some v→RepD w I' (.list es) v:=by
  have hs: ∀q b,h q=some b→W8 h k (some (.arr ty sz es)) q=some b:=by
    intro q b hq;have:q≠k:=by rintro rfl;rw [hk]at hq;cases hq
    rw [K5 _ _ _ _ this];exact hq
  let h1:C7:=fun q=>if q=k then some (.arr ty sz es)else none
  have hs1: ∀q b,h1 q=some b→W8 h k (some (.arr ty sz es)) q=some b:=by
    intro q b hq;by_cases e:q=k
    ·subst e;simp only [h1,if_true]at hq;rw [C8];exact hq
    ·simp [h1,e]at hq
  have H1:HeapOK w I ρ h1:=⟨fun q b hb=>H.blk q b (hs1 _ _ hb),fun q q' b b' g a c=>H.sep q q' b b' g (hs1 _ _ a) (hs1 _ _ c),fun q b g a=>H.notI q b g (hs1 _ _ a),fun q b g a=>H.lt q b g (hs1 _ _ a),H.ilt,H.fresh,H.rone⟩;refine ⟨fun b=>I b∨own ρ h1 b,fun b hb=> .inl hb,fun b hb=>hb.imp id fun ⟨q,x,a,c⟩=>⟨q,x,hs1 _ _ a,c⟩,?_,fun v hv=>Hf H1 1 (.sl k) (.list es) v (.sl k v hv) (by simp [L8,h1])⟩;have H2:HeapOK w I ρ h:=⟨fun q b hb=>H.blk q b (hs _ _ hb),fun q q' b b' g a c=>H.sep q q' b b' g (hs _ _ a) (hs _ _ c),fun q b g a=>H.notI q b g (hs _ _ a),fun q b g a=>H.lt q b g (hs _ _ a),H.ilt,H.fresh,H.rone⟩;refine H2.keep (fun _ _=>rfl) (fun _ _=>rfl) (fun b hb=> .inl hb) (fun g hg hi=> ?_) (fun b hb=> ?_) (fun _ _ h=>h) (bB _) H.fresh H.rone
  ·rcases hi with hi|⟨q,x,a,c⟩
   ·exact H2.own_notI hg hi
   ·obtain ⟨q',x',a',c'⟩:=hg;have:=H.sep q q' x x' g (hs1 _ _ a) (hs _ _ a') c c';subst this;by_cases e:q=k
    ·subst e;rw [hk]at a';cases a'
    ·simp [h1,e]at a
  ·rcases hb with hb|hb
   ·exact H.ilt b hb
   ·exact H1.own_lt hb
structure Conv (P:Program)(N:Nat)(ops:Array Oper)(aops:List AOp):Prop where
  len:aops.length≤ops.size
  get: ∀i o,i<aops.length→ops[i]? =some o→∃ao,CL P N ops o=some ao∧RZ ao (aops.getD i Fl)
  clash: ∀i j d,i<aops.length→j<aops.length→i≠j→d∈ER (aops.getD i Fl)→d∉ER (aops.getD j Fl)
  app: ∀i,i<aops.length→W5 (aops.getD i Fl).k=5→(aops.getD i Fl).dst≠none
section
variable {P:Program}{N:Nat}{ops:Array Oper}{aops:List AOp}{u:Nat}
def Free (u:Nat)(ρ:Rho)(aops:List AOp)(l:List Nat):Prop:= ∀i∈l,∀d∈ER (aops.getD i Fl),ρ (d,u)=none
theorem DB (C:Conv P N ops aops){K:Act→World→Prop}{i:Nat}{rest L L':List Nat}{w:World}{I:Nat→Prop}{ρ:Rho}{s:St}{a:Act}(hi:i<aops.length)(hiL:i∈L)(hL: ∀j∈L',j∈L∧j≠i∧j<aops.length)
    (hs:Sim w I ρ N s a) (hfr:Free u ρ aops L) {v:AV} {ups:List (D7×Option Blk)} (he:Nq P u (aops.getD i Fl) s.t s.h v ups)
    (hrest: ∀a' w' ρ' I',Sim w' I' ρ' N (after s (aops.getD i Fl) v ups) a'→Tr w I ρ s.h w' I' ρ' (after s (aops.getD i Fl) v ups).h→Free u ρ' aops L'→Jc P ops K rest a' w'):Jc P ops K (i::rest) a w:=by
  have hiA:=hi;have his:i<ops.size:=bF hi C.len;have hoi:ops[i]? =some ops[i]:=Array.getElem?_eq_getElem his;obtain ⟨ao,hco,hisI⟩:=C.get i _ hi hoi
  have hfree: ∀ρ',(∀k',(∀d∈ER (aops.getD i Fl),k'≠(d,u))→ρ' k'=ρ k')→Free u ρ' aops L':=by
    intro ρ' hρ j hj d hdj;obtain ⟨hjL,hne,hjs⟩:=hL j hj;rw [hρ (d,u) (fun d' hd' e=>by cases e;exact C.clash i j d hiA hjs hne.symm hd' hdj)];exact hfr j hjL d hdj
  have hfacts:(aops.getD i Fl).dst=ao.dst∧(aops.getD i Fl).g=ao.g:=by
    rcases hisI with h|⟨f,args,h1,h2⟩|⟨_,_,_,_,_,h1,h2⟩|⟨_,_,_,_,_,h1,h2⟩|⟨_,h1,h2⟩|⟨_,h1,h2⟩|⟨_,_,_,h1,h2⟩
    ·rw [h];exact ⟨rfl,rfl⟩
    ·rw [h2];exact ⟨rfl,rfl⟩
    ·rw [h2];exact ⟨rfl,rfl⟩
    ·rw [h2];exact ⟨rfl,rfl⟩
    ·rw [h2];exact ⟨rfl,rfl⟩
    ·rw [h2];exact ⟨rfl,rfl⟩
    ·rw [h2];exact ⟨rfl,rfl⟩
  obtain ⟨hk,hd,hdN,hg⟩:=Qy hco;simp only [Jc,hoi]
  have main:Ww P u (aops.getD i Fl) s.t s.h v ups→PA P ops[i] a w (Jc P ops K rest):=fun he=>by
    rcases hisI with h|⟨f,args,h1,h2⟩|⟨e,sz,n,z,ps,h1,h2⟩|⟨sz,x,lo,hi,mx,h1,h2⟩|⟨x,h1,h2⟩|⟨x,h1,h2⟩|⟨S,f,args,h1,h2⟩
    ·rw [h]at he hrest hfree;exact HA hco hs (by have:=hfr i hiL;rw [h]at this;exact fun d hd hm=>this d (Pn hm hd)) (by have:=C.app i hiA;rw [h]at this;exact this) he fun a' w' ρ' I' h1 h2 h3=>hrest a' w' ρ' I' h1 h2 (hfree ρ' fun k' hk'=>h3 k' fun d hd hm=>hk' d (Pn hm hd))
    ·rw [h2]at he;exact he.elim
    ·rw [h2]at he hrest hfree;obtain ⟨hv,rfl⟩:=he;simp only [J1]at hv;obtain ⟨cs,hcs,hv⟩:=bind_some hv;simp only [lD]at hv;obtain ⟨ds,hds,rfl⟩:=hv;rw [h1]at hk;obtain ⟨ub,hub⟩:=hs.heap.fresh;have hρ0:ρ (0,max ub (u+1))=none:=hub 0 _ (Nat.le_max_left _ _);have hav:Mb (max ub (u+1)) 0 s.t (.bslice e sz n z ps)=some (.sl (0,max ub (u+1)), .arr e sz (Fj sz n ds)):=by simp only [Mb,hcs,hds,lE]
     obtain ⟨x,w',ρ',hrun,H',T',hr,hother⟩:=Yc hk hs hs.heap hρ0 hav
     have hh0:s.h (0,max ub (u+1))=none:=by
       cases hb:s.h (0,max ub (u+1))with
       |none=>rfl
       |some b=>
        obtain ⟨y,hy⟩:=(hs.heap.blk _ b hb).rho;rw [hρ0]at hy;cases hy
     obtain ⟨I',i1,i2,H2,hrep⟩:=DA H' hh0
     have T2:Tr w I ρ s.h w' I' ρ' s.h:=⟨T'.os,T'.tape,T'.output,T'.size,T'.frame,fun b hb=>i1 b (T'.imm b hb),fun b hb hl=>by
       rcases i2 b hb with q|q
       ·exact T'.immBack b q hl
       ·exact .inr (T'.ownBack b q hl),fun b hb hl=>by
       obtain ⟨q,y,a1,a2⟩:=hb;refine T'.ownBack b ⟨q,y,?_,a2⟩ hl;have:q≠(0,max ub (u+1)):=by rintro rfl;rw [hh0]at a1;cases a1
       rw [K5 _ _ _ _ this];exact a1,T'.rho⟩
     have hx:RepV w' I' ρ' (.d (.list (Fj sz n (ds.map nrm)))) x:=by
       cases hr with|sl _ _ hr=>rw [Vq];exact .d _ _ (JI (hrep x hr))
     refine ⟨Mm hk,?_⟩;rw [hrun];have:=(hs.step H2 T2).sett ao.dst (by rw [hd];exact hdN) hx;rw [hd]at this;refine hrest _ _ ρ' I' (by rw [after,hd];exact this) T2 ?_;intro j hj d hdj;obtain ⟨hjL,hne,hjs⟩:=hL j hj;rw [hother (d,u) (by intro e;have:=congrArg Prod.snd e;dsimp only at this;omega)];exact hfr j hjL d hdj
    ·rw [h2]at he hrest hfree;obtain ⟨d,hdd,hv⟩:=he;rw [h1]at hk;have hmk:Ov (AK.oslice sz x lo hi mx)=true:=rfl
     have hfr0:ρ (d,u)=none:=by
       have:=hfr i hiL;rw [h2]at this;exact this d (Pn hmk hdd)
     obtain ⟨g1,r,w',ρ',hrun,⟨x',hx',hr⟩,H',T',hother⟩:=BE hk hs hs.heap hfr0 hv;refine ⟨g1,?_⟩;rw [hrun];have h3:=(hs.step H' T').sett ao.dst (by rw [hd];exact hdN) hr;rw [hd]at h3;have hfin:=hfree ρ' fun k' hk'=>hother k' (hk' d (Pn hmk hdd));rcases hx' with rfl|⟨rfl,rfl⟩
     ·exact hrest _ _ ρ' I (by rw [after,hd];exact h3) T' hfin
     ·exact hrest _ _ ρ' I (by rw [after,hd];exact h3) T' hfin
    ·rw [h2]at he hrest hfree;obtain ⟨hv,rfl⟩:=he;rw [h1]at hk;obtain ⟨g1,y,w',I',hrun,hr,H',T'⟩:=BG hk hs hv;refine ⟨g1,?_⟩;rw [hrun];have h3:=(hs.step H' T').sett ao.dst (by rw [hd];exact hdN) hr;rw [hd]at h3;exact hrest _ _ ρ I' (by rw [after,hd];exact h3) T' (hfree ρ fun _ _=>rfl)
    ·rw [h2]at he hrest hfree;obtain ⟨hv,rfl⟩:=he;rw [h1]at hk;obtain ⟨g1,y,w',I',hrun,hr,H',T'⟩:=CZ hk hs hv;refine ⟨g1,?_⟩;rw [hrun];have h3:=(hs.step H' T').sett ao.dst (by rw [hd];exact hdN) hr;rw [hd]at h3;exact hrest _ _ ρ I' (by rw [after,hd];exact h3) T' (hfree ρ fun _ _=>rfl)
    ·rw [h2]at he hrest hfree;simp only [Ww,W5,Ti]at he;rw [h1]at hk;cases hc:T3 s.t f args with
     |none=>simp [hc]at he
     |some p=>
      obtain ⟨fid,avs⟩:=p;simp only [hc]at he;obtain ⟨_,_,hF⟩:=he;obtain ⟨vs,hrun,hlen,hrep⟩:=Ye hk rfl hs hc hF.1;refine ⟨Mm hk,?_⟩;rw [hrun]
      have hfr0: ∀j,j<6→ρ (S+j,u)=none:=by
        have:=hfr i hiL;rw [h2]at this;exact fun j hj=>this (S+j) (by simp only [ER,List.mem_map,List.mem_range];exact ⟨j,hj,rfl⟩)
      refine (hF.2 w I ρ s.h vs hs.heap (fun q b hq=>by unfold R0 at hq;split at hq;exact hq;cases hq) hlen hrep hfr0).mono ?_;rintro e w' ⟨x,I',ρ',rfl,hr,H',T',hρ'⟩;refine ⟨x,rfl,?_⟩;have h3:=(hs.step H' T').sett ao.dst (by rw [hd];exact hdN) hr;rw [hd]at h3;refine hrest _ _ ρ' I' (by rw [after,hd];exact h3) T' (hfree ρ' fun k' hk'=>hρ' k' fun j hj e=>hk' (S+j) (by simp only [ER,List.mem_map,List.mem_range];exact ⟨j,hj,rfl⟩) e)
  rw [← hfacts.1]at hd;rw [← hfacts.2]at hg;unfold Nq at he;cases hgu:ops[i].guard with
  |none=>
   rw [hgu]at hg;rw [hg]at he;have hw:Region.wanted ops[i] (yielded ops a.tmps)=true:=by simp [Region.wanted,hgu]
   rw [l4 hw];exact main he
  |some jb=>
   obtain ⟨j,b⟩:=jb;rw [hgu]at hg;obtain ⟨g,hg1,hg2⟩:=hg;rw [hg2]at he;dsimp only at he;split at he
   ·rename_i c hc;have hr:=hs.tmp g;rw [hc]at hr;have hb:=Kb hr
    have htm:a.tmps[g]? =some (.bool c):=by
      rw [Array.getD_eq_getD_getElem?]at hb;cases hq:a.tmps[g]? with
      |none=>rw [hq]at hb;simp [undef]at hb
      |some q=>rw [hq]at hb;simp at hb;rw [hb]
    have hy:yielded ops a.tmps j=some c:=by simp [yielded,hg1,htm]
    split at he
    ·rename_i hcb;have hw:Region.wanted ops[i] (yielded ops a.tmps)=true:=by simp [Region.wanted,hgu,hy,hcb]
     rw [l4 hw];exact main he
    ·rename_i hcb;have hw: ¬Region.wanted ops[i] (yielded ops a.tmps)=true:=by simp [Region.wanted,hgu,hy,hcb]
     rw [l5 hw];obtain ⟨rfl,rfl⟩:=he;have:=hs.sett (aops.getD i Fl).dst (fun d hd'=>hdN d (hd▸hd')) (show RepV w I ρ (.d (.tup [])) undef from .d _ _ (.tup [] [] rfl (by simp)));rw [← hd];exact hrest _ _ ρ I this (Tr.refl _ _ _ _) (hfree ρ fun _ _=>rfl)
   ·rename_i hc;have hr:=hs.tmp g;rw [hc]at hr
    have hb:a.tmps.getD g undef= .tuple #[]:=by
      generalize a.tmps.getD g undef=q at hr;cases hr with|d _ _ hr=>cases hr with|tup _ vs hl _=>cases vs<;>first|rfl|(simp at hl)
    have hy:yielded ops a.tmps j=none:=by
      simp only [yielded,hg1,lA];rw [Array.getD_eq_getD_getElem?]at hb;cases hq:a.tmps[g]? with
      |none=>rfl
      |some q=>rw [hq]at hb;simp at hb;rw [hb]
    have hw: ¬Region.wanted ops[i] (yielded ops a.tmps)=true:=by simp [Region.wanted,hgu,hy]
    rw [l5 hw];obtain ⟨rfl,rfl⟩:=he;have:=hs.sett (aops.getD i Fl).dst (fun d hd'=>hdN d (hd▸hd')) (show RepV w I ρ (.d (.tup [])) undef from .d _ _ (.tup [] [] rfl (by simp)));rw [← hd];exact hrest _ _ ρ I this (Tr.refl _ _ _ _) (hfree ρ fun _ _=>rfl)
   ·exact he.elim
end
end Go.Abs
namespace Go.Abs
open Go
def Z2 (o:Oper):List Nat:=(o.after.toList.filter (Region.binds .any)).map (·.on)
def Uh:List (List Nat)→List Oper→List (List Nat)
  |acc,[]=>acc
  |acc,o::r=>Uh (acc++ [((Z2 o).flatMap fun p=>p::acc.getD p []).eraseDups]) r
def Mc (ops:Array Oper):List (List Nat):=Uh [] ops.toList
theorem Vr: ∀(l:List Oper) (acc:List (List Nat)) (j:Nat),j<acc.length→(Uh acc l).getD j []=acc.getD j []
  | [],_,_,_=>rfl
  |o::r,acc,j,h=>by
   rw [Uh,Vr r _ j (by simp;omega)];simp [List.getD,lT h]
theorem Yh: ∀(l:List Oper) (acc:List (List Nat)) (j:Nat) (o:Oper),l[j]? =some o→(∀o∈l,True)→(∀i o,l[i]? =some o→∀e∈Z2 o,e<acc.length+i)→
    ∀a∈(Uh acc l).getD (acc.length+j) [],∃e∈Z2 o,a=e∨a∈(Uh acc l).getD e []
  | [],acc,j,o,h,_,_=>by simp at h
  |o0::r,acc,j,o,h,_,hb=>by
   cases j with
   |zero=>
    simp at h;subst h;intro a ha;rw [Uh,Vr r _ _ (by simp)]at ha;simp only [Nat.add_zero,List.getD,lS (bB _),Nat.sub_self,List.getElem?_cons_zero,Option.getD_some,List.mem_eraseDups,List.mem_flatMap,lQ]at ha;obtain ⟨e,he,ha⟩:=ha;refine ⟨e,he,?_⟩;rcases ha with rfl|ha
    ·exact .inl rfl
    ·right;have hlt:=hb 0 o0 rfl e he;rw [Uh,Vr r _ _ (by simp;omega)];simpa [List.getD,lT (show e<acc.length by omega)] using ha
   |succ j=>
    intro a ha;rw [Uh]at ha ⊢
    have:=Yh r (acc++ [((Z2 o0).flatMap fun p=>p::acc.getD p []).eraseDups]) j o (by simpa using h) (fun _ _=>trivial) (fun i o' hi e he=>by have:=hb (i+1) o' (by simpa using hi) e he;simp;omega) a
      (by simp only [lK,List.length_singleton];rw [show acc.length+1+j=acc.length+ (j+1) by omega];exact ha)
    exact this
def Rb (o o':AOp):Bool:=
  (match o.dst with|some d=>(ES o').contains d||o'.dst==some d|none=>false)||(match o'.dst with|some d=>(ES o).contains d|none=>false)
def Sj (k:AK):Bool:=match k with
  | .load .. | .len .. | .idxS .. | .store .. | .append .. | .call .. | .icall .. | .ocall .. | .mins .. | .mlook .. | .oslice .. | .bmark .. =>true
  |_=>false
def Cq (k:AK):Bool:=match W5 k with
  |1|2|3|4|5|7|8=>true
  |n=>Nat.beq n 9
def Ms (k:AK):Bool:=match W5 k with
  |1|2|3=>true
  |_=>false
def Kr (o o':AOp):Bool:=(Cq o.k&& (Sj o'.k||Cq o'.k)||Sj o.k&&Cq o'.k)&& !(Ms o.k&&Ms o'.k&&o.dst !=o'.dst)
def AH (o o':AOp):Bool:=Ms o'.k&& !Cq o.k&&o.g.isNone
structure DrawOK (ops:Array Oper)(aops:List AOp)(pairs:List (Nat×Nat)):Prop where
  back: ∀i o,ops[i]? =some o→∀e∈Z2 o,e<i
  slots: ∀a b,a<b→b<aops.length→Rb (aops.getD a Fl) (aops.getD b Fl)=true→a∈(Mc ops).getD b []
  keys: ∀a b,a<b→b<aops.length→Kr (aops.getD a Fl) (aops.getD b Fl)=true→a∈(Mc ops).getD b []∨(a,b)∈pairs∨AH (aops.getD a Fl) (aops.getD b Fl)=true
theorem HD {ops:Array Oper}(hb: ∀i o,ops[i]? =some o→∀e∈Z2 o,e<i){j:Nat}{o:Oper}(h:ops[j]? =some o): ∀a∈(Mc ops).getD j [],∃e∈Z2 o,a=e∨a∈(Mc ops).getD e []:=by
  have:=Yh ops.toList [] j o (by simpa using h) (fun _ _=>trivial) (fun i o' hi e he=>by have:=hb i o' (by simpa using hi) e he;simpa using this);simpa [Mc] using this
section
variable {ops:Array Oper}
def Po (ops:Array Oper)(S:Nat→Bool):Prop:= ∀i o,ops[i]? =some o→S i=true→∀e∈Z2 o,S e=true
theorem Pp (hb: ∀i o,ops[i]? =some o→∀e∈Z2 o,e<i){S:Nat→Bool}(hS:Po ops S): ∀(j:Nat) (o:Oper),ops[j]? =some o→(∀e∈Z2 o,S e=true)→∀a∈(Mc ops).getD j [],S a=true:=by
  intro j
  induction j using Nat.strongRecOn with
  |_ j ih=>
   intro o ho he a ha;obtain ⟨e,hed,h⟩:=HD hb ho a ha;rcases h with rfl|h
   ·exact he _ hed
   ·have hlt:=hb j o ho e hed;have hjs:j<ops.size:=(Array.getElem?_eq_some_iff.1 ho).1;have hoe:ops[e]? =some ops[e]:=Array.getElem?_eq_getElem (by omega);exact ih e hlt _ hoe (hS e _ hoe (he e hed)) a h
theorem DC (hb: ∀i o,ops[i]? =some o→∀e∈Z2 o,e<i){S:Nat→Bool}(hS:Po ops S){j:Nat}(hj:j<ops.size)(h:S j=true): ∀a∈(Mc ops).getD j [],S a=true:=
  Pp hb hS j ops[j] (Array.getElem?_eq_getElem hj) (hS j _ (Array.getElem?_eq_getElem hj) h)
end
theorem Mt: ∀(ups:List (D7×Option Blk)) (h h':C7) (q:D7),q∈ups.map (·.1)→Q0 h ups q=Q0 h' ups q
  | [],_,_,_,hq=>by simp at hq
  |(k,b)::r,h,h',q,hq=>by
   simp only [Q0];by_cases hr:q∈r.map (·.1)
   ·exact Mt r _ _ q hr
   ·have hk:q=k:=by simp at hq hr;rcases hq with rfl|h;rfl;exact absurd h (by simpa using hr)
    subst hk
    have: ∀(r:List (D7×Option Blk)) (f g:C7),q∉r.map (·.1)→f q=g q→Q0 f r q=Q0 g r q:=by
      intro r
      induction r with
      |nil=>intro f g _ e;exact e
      |cons p r ih=>
       obtain ⟨k',b'⟩:=p;intro f g hn e;simp only [Q0];refine ih _ _ (by simp at hn ⊢;exact hn.2) ?_;have:q≠k':=by simp at hn;exact hn.1
       rw [K5 _ _ _ _ this,K5 _ _ _ _ this,e]
    exact this r _ _ hr (by rw [C8,C8])
theorem Ch: ∀(ups:List (D7×Option Blk)) (h:C7) (q:D7),q∉ups.map (·.1)→Q0 h ups q=h q
  | [],_,_,_=>rfl
  |(k,b)::r,h,q,hq=>by
   simp only [Q0];rw [Ch r _ q (by simp at hq ⊢;exact hq.2),K5 _ _ _ _ (by simp at hq;exact hq.1)]
structure Run (P:Program)(u:Nat)(aops:List AOp) where
  σ:Nat→St
  v:Nat→AV
  up:Nat→List (D7×Option Blk)
  eff: ∀i,i<aops.length→Nq P u (aops.getD i Fl) (σ i).t (σ i).h (v i) (up i)
  next: ∀i,i<aops.length→σ (i+1)=after (σ i) (aops.getD i Fl) (v i) (up i)
def Run.K {P:Program}{u:Nat}{aops:List AOp}(R:Run P u aops)(i:Nat):List D7:=Aw (R.σ i).t (R.σ i).h (aops.getD i Fl).k
def Run.W {P:Program}{u:Nat}{aops:List AOp}(R:Run P u aops)(i:Nat):List D7:=(R.up i).map (·.1)
def Run.τ {P:Program}{u:Nat}{aops:List AOp}(R:Run P u aops)(S:Nat→Bool):Nat→St
  |0=>R.σ 0
  |m+1=>if S m=true then after (R.τ S m) (aops.getD m Fl) (R.v m) (R.up m)else R.τ S m
section
variable {P:Program}{u:Nat}{aops:List AOp}(R:Run P u aops)
theorem Hg {s:St}{o:AOp}{v:AV}{ups:List (D7×Option Blk)}{x:Nat}(h:o.dst=some x):(after s o v ups).t x=v:=by simp [after,Sq,h,C8]
theorem Gq {s:St}{o:AOp}{v:AV}{ups:List (D7×Option Blk)}{x:Nat}(h:o.dst≠some x):(after s o v ups).t x=s.t x:=by
  cases hd:o.dst with
  |none=>simp [after,Sq,hd]
  |some d=>simp only [after,Sq,hd];exact K5 _ _ _ _ (fun e=>h (by rw [hd,e]))
theorem OP (S:Nat→Bool)(x i:Nat)(hS: ∀j,j<aops.length→(aops.getD j Fl).dst=some x→(S j=true↔j<i)): ∀m,m≤aops.length→(R.τ S m).t x=(R.σ (min m i)).t x:=by
  intro m
  induction m with
  |zero=>intro _;simp [Run.τ]
  |succ m ih=>
   intro hm;have ihm:=ih (by omega);simp only [Run.τ];by_cases hd:(aops.getD m Fl).dst=some x
   ·have hiff:=hS m (by omega) hd;by_cases hmi:m<i
    ·rw [l4 (hiff.2 hmi),Hg hd,show min (m+1) i=m+1 by omega,R.next m (by omega),Hg hd]
    ·rw [l5 (fun h=>hmi (hiff.1 h)),ihm,show min (m+1) i=min m i by omega]
   ·have e1:(if S m=true then after (R.τ S m) (aops.getD m Fl) (R.v m) (R.up m)else R.τ S m).t x=(R.τ S m).t x:=by
      split
      ·exact Gq hd
      ·rfl
    rw [e1,ihm];by_cases hmi:m<i
    ·rw [show min m i=m by omega,show min (m+1) i=m+1 by omega,R.next m (by omega),Gq hd]
    ·rw [show min (m+1) i=min m i by omega]
theorem OQ (S:Nat→Bool)(q:D7)(i:Nat)(hS: ∀j,j<aops.length→q∈R.W j→(S j=true↔j<i)): ∀m,m≤aops.length→(R.τ S m).h q=(R.σ (min m i)).h q:=by
  intro m
  induction m with
  |zero=>intro _;simp [Run.τ]
  |succ m ih=>
   intro hm;have ihm:=ih (by omega);simp only [Run.τ];by_cases hd:q∈R.W m
   ·have hiff:=hS m (by omega) hd;by_cases hmi:m<i
    ·rw [l4 (hiff.2 hmi),show min (m+1) i=m+1 by omega,R.next m (by omega)];exact Mt _ _ _ q hd
    ·rw [l5 (fun h=>hmi (hiff.1 h)),ihm,show min (m+1) i=min m i by omega]
   ·have e1:(if S m=true then after (R.τ S m) (aops.getD m Fl) (R.v m) (R.up m)else R.τ S m).h q=(R.τ S m).h q:=by
      split
      ·exact Ch _ _ q hd
      ·rfl
    rw [e1,ihm];by_cases hmi:m<i
    ·rw [show min m i=m by omega,show min (m+1) i=m+1 by omega,R.next m (by omega)];exact (Ch _ _ q hd).symm
    ·rw [show min (m+1) i=min m i by omega]
theorem EX (S S':Nat→Bool)(i x:Nat)(hS: ∀j,j≠i→S' j=S j)(hd:(aops.getD i Fl).dst≠some x): ∀m,(R.τ S' m).t x=(R.τ S m).t x:=by
  intro m
  induction m with
  |zero=>rfl
  |succ m ih=>
   simp only [Run.τ];by_cases e:m=i
   ·subst e;split<;>split<;>first|exact ih|(rw [Gq hd];exact ih)|(rw [Gq hd,Gq hd];exact ih)
   ·rw [hS m e];split
    ·by_cases hx:(aops.getD m Fl).dst=some x
     ·rw [Hg hx,Hg hx]
     ·rw [Gq hx,Gq hx];exact ih
    ·exact ih
theorem EY (S S':Nat→Bool)(i:Nat)(q:D7)(hS: ∀j,j≠i→S' j=S j)(hd:q∉R.W i): ∀m,(R.τ S' m).h q=(R.τ S m).h q:=by
  intro m
  induction m with
  |zero=>rfl
  |succ m ih=>
   simp only [Run.τ];by_cases e:m=i
   ·subst e;have h1: ∀s,(after s (aops.getD m Fl) (R.v m) (R.up m)).h q=s.h q:=fun s=>Ch _ _ q hd;split<;>split<;>simp only [h1,ih]
   ·rw [hS m e];split
    ·by_cases hx:q∈R.W m
     ·exact Mt _ _ _ q hx
     ·have h1: ∀s,(after s (aops.getD m Fl) (R.v m) (R.up m)).h q=s.h q:=fun s=>Ch _ _ q hx;rw [h1,h1];exact ih
    ·exact ih
end
end Go.Abs
namespace Go.Abs
open Go
theorem Sv {t:Nat→AV}{h:C7}{k:AK}{q:D7}(hq:q∈Aw t h k):Sj k=true:=by
  cases k<;>first|rfl|simp [Aw]at hq
theorem BJ {k:AK}(h:Sj k=true):Ms k=false:=by
  cases k<;>first|rfl|simp [Sj]at h
theorem Oz {P:Program}{u:Nat}{o:AOp}{t:Nat→AV}{h:C7}{v:AV}{ups:List (D7×Option Blk)}(he:Nq P u o t h v ups){q:D7}(hq:q∈ups.map (·.1)):
    Cq o.k=true∧(Ms o.k=true→∃d,o.dst=some d∧q=(d,u)):=by
  have main:Ww P u o t h v ups→Cq o.k=true∧(Ms o.k=true→∃d,o.dst=some d∧q=(d,u)):=by
    intro he;unfold Ww at he;split at he
    ·rw [he.2]at hq;simp at hq
    ·rename_i ht;obtain ⟨d,b,h1,_,rfl⟩:=he;exact ⟨by simp [Cq,ht],fun _=>⟨d,h1,by simpa using hq⟩⟩
    ·rename_i ht;obtain ⟨d,b,h1,_,rfl⟩:=he;exact ⟨by simp [Cq,ht],fun _=>⟨d,h1,by simpa using hq⟩⟩
    ·rename_i ht;obtain ⟨d,b,h1,_,rfl⟩:=he;exact ⟨by simp [Cq,ht],fun _=>⟨d,h1,by simpa using hq⟩⟩
    ·rename_i ht;exact ⟨by simp [Cq,ht],fun hb=>by simp [Ms,ht]at hb⟩
    ·rename_i ht;exact ⟨by simp [Cq,ht],fun hb=>by simp [Ms,ht]at hb⟩
    ·rw [he.2]at hq;simp at hq
    ·rename_i ht;exact ⟨by simp [Cq,ht],fun hb=>by simp [Ms,ht]at hb⟩
    ·rename_i ht;exact ⟨by simp [Cq,ht],fun hb=>by simp [Ms,ht]at hb⟩
    ·exact he.elim
  unfold Nq at he;split at he
  ·exact main he
  ·split at he
   ·split at he
    ·exact main he
    ·rw [he.2]at hq;simp at hq
   ·rw [he.2]at hq;simp at hq
   ·exact he.elim
theorem SA {a b:AOp}(h1:Cq a.k=true)(h2:Sj b.k=true):Kr a b=true∧Kr b a=true:=by
  have h3:=BJ h2;simp [Kr,h1,h2,h3]
theorem SG {a b:AOp}(h1:Cq a.k=true)(h2:Cq b.k=true)(h3: ¬(Ms a.k=true∧Ms b.k=true∧a.dst≠b.dst)):Kr a b=true∧Kr b a=true:=by
  cases b1:Ms a.k<;>cases b2:Ms b.k<;>simp [Kr,h1,h2,b1,b2];have:a.dst=b.dst:=Classical.byContradiction fun h=>h3 ⟨b1,b2,h⟩;exact ⟨this,this.symm⟩
theorem SH {a b:AOp}{x:Nat}(h:a.dst=some x)(h':x∈ES b∨b.dst=some x):Rb a b=true∧Rb b a=true:=by
  rcases h' with h'|h'<;>simp [Rb,h,h']
theorem HE {α:Type}{p p':α→Bool}{x:α}: ∀{l:List α},(∀y∈l,p' y=true→p y=true)→x∈l→p x=true→p' x=false→(l.filter p').length< (l.filter p).length:=by
  have le: ∀{l:List α},(∀y∈l,p' y=true→p y=true)→(l.filter p').length≤(l.filter p).length:=by
    intro l
    induction l with
    |nil=>intro _;simp
    |cons y r ih=>
     intro h;have:=ih fun z hz=>h z (List.mem_cons_of_mem _ hz);cases h1:p' y
     ·cases h2:p y<;>simp [List.filter,h1,h2]<;>omega
     ·have h2:=h y (by simp) h1;simp [List.filter,h1,h2];omega
  intro l
  induction l with
  |nil=>intro _ h;simp at h
  |cons y r ih=>
   intro h hx hp hp';have hr:=le fun z hz=>h z (List.mem_cons_of_mem (l:=r) _ hz);by_cases e:x=y
   ·subst e;simp [List.filter,hp,hp'];omega
   ·have hx':x∈r:=by simpa [e] using hx
    have:=ih (fun z hz=>h z (List.mem_cons_of_mem _ hz)) hx' hp hp';cases h1:p' y
    ·cases h2:p y<;>simp [List.filter,h1,h2]<;>omega
    ·have h2:=h y (by simp) h1;simp [List.filter,h1,h2];omega
theorem EZ {h:C7}: ∀(n:Nat) (x:AV) (d:D),L8 h n x=some d→∀q∈O3 h n x,h q≠none:=by
  intro n
  induction n with
  |zero=>intro x d _ q hq;simp [O3]at hq
  |succ n ih=>
   have ihl: ∀(xs:List AV) (ds:List D),N9 (L8 h n) xs=some ds→∀q∈xs.flatMap (O3 h n),h q≠none:=by
     intro xs
     induction xs with
     |nil=>intro ds _ q hq;simp at hq
     |cons x r ihr=>
      intro ds hd q hq;simp only [N9]at hd;split at hd
      ·rename_i d ds' h1 h2;simp only [lY,lP]at hq;rcases hq with hq|hq
       ·exact ih x d h1 q hq
       ·exact ihr ds' h2 q hq
      ·cases hd
   intro x d hd q hq;cases x with
   |sl k=>
    simp only [O3,l3]at hq;subst hq;intro e;simp [L8,e]at hd
   |ptr k off=>
    simp only [L8]at hd;simp only [O3]at hq;cases hb:h k with
    |none=>simp [hb]at hd
    |some b=>
     cases b with
     |box ty cs=>
      simp only [hb,lD]at hd;obtain ⟨ds,hds,_⟩:=hd;simp only [hb,lQ]at hq;rcases hq with rfl|hq
      ·simp [hb]
      ·exact ihl cs ds hds q hq
     |_=>simp [hb]at hd
   |bsl k m=>
    simp only [L8]at hd;simp only [O3]at hq;cases hb:h k with
    |none=>simp [hb]at hd
    |some b=>
     cases b with
     |box ty cs=>
      simp only [hb]at hd;split at hd
      ·simp only [lD]at hd;obtain ⟨ds,hds,_⟩:=hd;simp only [hb,lQ]at hq;rcases hq with rfl|hq
       ·simp [hb]
       ·exact ihl cs ds hds q hq
      ·cases hd
     |_=>simp [hb]at hd
   |agg cs=>
    simp only [L8,lD]at hd;obtain ⟨ds,hds,_⟩:=hd;exact ihl cs ds hds q hq
   |fn f fs cs=>
    simp only [L8]at hd;split at hd
    ·rename_i a b ha hb;simp only [O3,lP]at hq;rcases hq with hq|hq
     ·exact ihl fs a ha q hq
     ·exact ihl cs b hb q hq
    ·cases hd
   |_=>simp [O3]at hq
theorem Kz {h:C7}{n:Nat}: ∀(xs:List AV) (ds:List D),N9 (L8 h n) xs=some ds→∀q∈xs.flatMap (O3 h n),h q≠none:=by
  intro xs
  induction xs with
  |nil=>intro ds _ q hq;simp at hq
  |cons x r ihr=>
   intro ds hd q hq;simp only [N9]at hd;split at hd
   ·rename_i d ds' h1 h2;simp only [lY,lP]at hq;rcases hq with hq|hq
    ·exact EZ n x d h1 q hq
    ·exact ihr ds' h2 q hq
   ·cases hd
theorem BK {h:C7}{p:AV}{cs:List AV}(hc:V0 h p=some cs): ∀q∈Fk p,h q≠none:=by
  intro q hq e;cases p<;>simp [Fk]at hq<;>subst hq<;>simp [V0,e]at hc
theorem JJ {P:Program}{u:Nat}{o:AOp}{t:Nat→AV}{h:C7}{v:AV}{ups:List (D7×Option Blk)}(ha:Cq o.k=false)(hg:o.g=none)(he:Nq P u o t h v ups): ∀q∈Aw t h o.k,h q≠none:=by
  unfold Nq at he;rw [hg]at he;intro q hq e;obtain ⟨dst,k,g⟩:=o;dsimp only at*;cases k with
  |load n ag p=>
   simp only [Ww,W5,J1]at he;cases hc:V0 h (ev t p)with
   |none=>simp [hc]at he
   |some cs=>exact BK hc q hq e
  |len x=>
   simp only [Ww,W5,J1]at he;simp only [Aw]at hq;generalize ev t x=X at he hq;cases X with
   |sl k=>simp only [Fk,l3]at hq;subst hq;simp [e]at he
   |d y=>simp [Fk]at hq
   |ptr=>simp at he
   |aptr=>simp at he
   |_=>simp [Fk]at hq
  |idxS sz x i=>
   simp only [Ww,W5,J1]at he;simp only [Aw]at hq;generalize ev t x=X at he hq;generalize ev t i=Y at he;cases X with
   |sl k=>
    simp only [Fk,l3]at hq;subst hq;cases Y with
    |d z=>cases z<;>first|(simp at he;done)|(rename_i v;cases v<;>simp [e]at he)
    |_=>simp at he
   |d y=>simp [Fk]at hq
   |ptr=>simp at he
   |aptr=>simp at he
   |_=>simp [Fk]at hq
  |call f args=>
   simp only [Ww,W5,Wk]at he;simp only [Aw]at hq;cases hc:T3 t f args with
   |none=>simp [hc]at hq
   |some p=>
    obtain ⟨fid,avs⟩:=p;simp only [hc]at hq he;obtain ⟨⟨ds,r,h1,_⟩,_⟩:=he;exact Kz avs ds h1 q hq e
  |mlook m x=>
   simp only [Ww,W5,J1]at he;simp only [Aw]at hq;generalize ev t m=X at he hq;generalize ev t x=Y at he;cases X with
   |sl k=>
    simp only [Fk,l3]at hq;subst hq;cases Y with
    |d z=>cases z<;>first|(simp at he;done)|(rename_i v;cases v<;>first|(simp at he;done)|(rename_i kk n;cases kk<;>simp [e]at he))
    |_=>simp at he
   |d y=>simp [Fk]at hq
   |ptr=>simp at he
   |aptr=>simp at he
   |_=>simp [Fk]at hq
  |bmark x=>
   simp only [Ww,W5,J1]at he;simp only [Aw]at hq;generalize ev t x=X at he hq;cases X with
   |sl k=>simp only [Fk,l3]at hq;subst hq;simp [e]at he
   |d y=>simp [Fk]at hq
   |ptr=>simp at he
   |aptr=>simp at he
   |_=>simp [Fk]at hq
  |mins=>simp [Cq,W5]at ha
  |store=>simp [Cq,W5]at ha
  |append=>simp [Cq,W5]at ha
  |ocall=>simp [Cq,W5]at ha
  |oslice=>simp [Cq,W5]at ha
  |_=>simp [Aw]at hq
theorem JK {P:Program}{u:Nat}{o:AOp}{t:Nat→AV}{h:C7}{v:AV}{ups:List (D7×Option Blk)}(happ:W5 o.k=5→o.dst≠none)(he:Nq P u o t h v ups){q:D7}(hq:q∈ups.map (·.1)):
    h q≠none∨∃d,d∈ER o∧q=(d,u):=by
  have main:Ww P u o t h v ups→h q≠none∨∃d,d∈ER o∧q=(d,u):=by
    intro he;obtain ⟨dst,k,g⟩:=o;dsimp only at*
    have hbare:(∃d b,dst=some d∧Mb u d t k=some (v,b)∧ups= [((d,u),some b)])→Ov k=true→h q≠none∨∃d,d∈ER ⟨dst,k,g⟩∧q=(d,u):=by
      rintro ⟨d,b,h1,_,rfl⟩ hm;exact .inr ⟨d,Pn hm h1,by simpa using hq⟩
    cases k with
    |alloc=>exact hbare he rfl
    |mkmap=>exact hbare he rfl
    |box=>exact hbare he rfl
    |bslice=>exact hbare he rfl
    |store n p x=>
     simp only [Ww,W5,Gm]at he;left;intro e;split at he
     ·split at he
      ·split at he
       ·rename_i k off hp;split at he
        ·split at he
         ·cases he;simp at hq;subst hq;simp_all
         ·cases he
        ·cases he
       ·rename_i k sz i off hp;split at he
        ·split at he
         ·split at he
          ·cases he;simp at hq;subst hq;simp_all
          ·cases he
         ·cases he
        ·cases he
       ·cases he
      ·cases he
     ·cases he
    |mins m x=>
     simp only [Ww,W5,Gm]at he;left;intro e;split at he
     ·split at he
      ·cases he;simp at hq;subst hq;simp_all
      ·cases he
     ·cases he
    |append ty e sz x y=>
     simp only [Ww,W5,Gm]at he;cases hd:dst with
     |none=>exact absurd hd (happ rfl)
     |some d=>
      subst hd;simp only [Option.getD_some]at he;split at he
      ·split at he
       ·split at he
        ·split at he
         ·cases he;simp at hq;rcases hq with rfl|rfl
          ·left;simp_all
          ·exact .inr ⟨d,Pn rfl rfl,rfl⟩
         ·cases he
        ·cases he
       ·split at he
        ·cases he;simp at hq
        ·split at he
         ·cases he;simp at hq;subst hq;exact .inr ⟨d,Pn rfl rfl,rfl⟩
         ·cases he
       ·cases he
      ·cases he
    |oslice sz x lo hi mx=>
     obtain ⟨d,rfl,he⟩:=he;cases lo with
     |some _=>simp [Gm]at he
     |none=>
      cases mx with
      |some _=>simp [Gm]at he
      |none=>
       simp only [Gm]at he;split at he
       ·split at he
        ·split at he
         ·split at he
          ·cases he;simp at hq;rcases hq with rfl|rfl
           ·left;simp_all
           ·exact .inr ⟨d,Pn rfl rfl,rfl⟩
          ·cases he
         ·cases he
        ·cases he
       ·split at he
        ·cases he;simp at hq
        ·cases he
       ·cases he
    |call=>rw [he.2]at hq;simp at hq
    |icall=>exact he.elim
    |ocall S f args=>
     simp only [Ww,W5,Ti]at he;cases hc:T3 t f args with
     |none=>simp [hc]at he
     |some p=>
      obtain ⟨fid,avs⟩:=p;simp only [hc]at he;rcases he.1 q hq with h1|⟨j,hj,rfl⟩
      ·exact .inl (he.2.1 q h1)
      ·exact .inr ⟨S+j,by simp only [ER,List.mem_map,List.mem_range];exact ⟨j,hj,rfl⟩,rfl⟩
    |_=>rw [he.2]at hq;simp at hq
  unfold Nq at he;split at he
  ·exact main he
  ·split at he
   ·split at he
    ·exact main he
    ·rw [he.2]at hq;simp at hq
   ·rw [he.2]at hq;simp at hq
   ·exact he.elim
section
variable {P:Program}{u N:Nat}{ops:Array Oper}{aops:List AOp}{pairs:List (Nat×Nat)}
def FU (R:Run P u aops)(pairs:List (Nat×Nat)):Prop:=
  ∀p∈pairs,∀q,¬(q∈R.W p.1∧q∈R.K p.2)∧¬(q∈R.K p.1∧q∈R.W p.2)∧¬(q∈R.W p.1∧q∈R.W p.2)
theorem absent (C:Conv P N ops aops)(R:Run P u aops)(hfr0: ∀d,(R.σ 0).h (d,u)=none){j d:Nat}(hj:j<aops.length)(hd:d∈ER (aops.getD j Fl)): ∀i,i≤j→(R.σ i).h (d,u)=none:=by
  intro i
  induction i with
  |zero=>intro _;exact hfr0 d
  |succ i ih=>
   intro hi;have ihi:=ih (by omega);rw [R.next i (by omega)];show Q0 (R.σ i).h (R.up i) (d,u)=none;rw [Ch]
   ·exact ihi
   ·intro hq;rcases JK (C.app i (by omega)) (R.eff i (by omega)) hq with h|⟨d',h1,h2⟩
    ·exact h ihi
    ·cases h2;exact C.clash i j d (by omega) hj (by omega) h1 hd
theorem DD (C:Conv P N ops aops)(R:Run P u aops)(hfr0: ∀d,(R.σ 0).h (d,u)=none){a b:Nat}(hab:a<b)(hb:b<aops.length)(he:AH (aops.getD a Fl) (aops.getD b Fl)=true)(q:D7):
    ¬(q∈R.W a∧q∈R.K b)∧¬(q∈R.K a∧q∈R.W b)∧¬(q∈R.W a∧q∈R.W b):=by
  simp only [AH,l6,Bool.not_eq_true',Option.isNone_iff_eq_none]at he;obtain ⟨⟨h1,h2⟩,h3⟩:=he
  have hW: ¬q∈R.W a:=fun h=>by
    have:=(Oz (R.eff a (by omega)) h).1;rw [h2]at this;cases this
  refine ⟨fun ⟨h,_⟩=>hW h,fun ⟨hk,hw⟩=> ?_,fun ⟨h,_⟩=>hW h⟩;obtain ⟨d,g1,rfl⟩:=(Oz (R.eff b hb) hw).2 h1
  have hm:Ov (aops.getD b Fl).k=true:=by
    unfold Ms at h1;unfold Ov;split at h1<;>simp_all
  exact JJ h2 h3 (R.eff a (by omega)) _ hk (absent C R hfr0 hb (Pn hm g1) a (by omega))
theorem JL (C:Conv P N ops aops)(D:DrawOK ops aops pairs)(R:Run P u aops)(hfr0: ∀d,(R.σ 0).h (d,u)=none)(hap:FU R pairs){S:Nat→Bool}(hS:Po ops S){i:Nat}(hi:i<aops.length)(hn:S i=false)
    (hd: ∀o,ops[i]? =some o→∀e∈Z2 o,S e=true):
    Nq P u (aops.getD i Fl) (R.τ S aops.length).t (R.τ S aops.length).h (R.v i) (R.up i)∧
    R.τ (fun j=>S j||j==i) aops.length=after (R.τ S aops.length) (aops.getD i Fl) (R.v i) (R.up i):=by
  have hlen:=C.len;have hoi:ops[i]? =some ops[i]:=Array.getElem?_eq_getElem (by omega);have hanc: ∀a∈(Mc ops).getD i [],S a=true:=Pp D.back hS i _ hoi (hd _ hoi)
  have hdown: ∀j,j<aops.length→i∈(Mc ops).getD j []→S j=false:=by
    intro j hj hij;cases h:S j with
    |false=>rfl
    |true=>rw [DC D.back hS (by omega) h i hij]at hn;cases hn
  have hkey: ∀j,j<aops.length→j≠i→∀q,(q∈R.W j∧q∈R.K i∨q∈R.K j∧q∈R.W i∨q∈R.W j∧q∈R.W i)→(S j=true↔j<i):=by
    intro j hj hji q hq
    have hc:Kr (aops.getD j Fl) (aops.getD i Fl)=true∧Kr (aops.getD i Fl) (aops.getD j Fl)=true:=by
      rcases hq with ⟨h1,h2⟩|⟨h1,h2⟩|⟨h1,h2⟩
      ·exact SA (Oz (R.eff j hj) h1).1 (Sv h2)
      ·exact (SA (Oz (R.eff i hi) h2).1 (Sv h1)).symm
      ·obtain ⟨e1,f1⟩:=Oz (R.eff j hj) h1;obtain ⟨e2,f2⟩:=Oz (R.eff i hi) h2;refine SG e1 e2 ?_;rintro ⟨b1,b2,b3⟩;obtain ⟨d1,g1,rfl⟩:=f1 b1;obtain ⟨d2,g2,g3⟩:=f2 b2;cases g3;exact b3 (by rw [g1,g2])
    by_cases hlt:j<i
    ·rcases D.keys j i hlt hi hc.1 with h|h
     ·exact ⟨fun _=>hlt,fun _=>hanc j h⟩
     ·obtain ⟨a,b,c⟩: ¬(q∈R.W j∧q∈R.K i)∧¬(q∈R.K j∧q∈R.W i)∧¬(q∈R.W j∧q∈R.W i):=by
        rcases h with h|h
        ·exact hap _ h q
        ·exact DD C R hfr0 hlt hi h q
      rcases hq with hq|hq|hq
      ·exact absurd hq a
      ·exact absurd hq b
      ·exact absurd hq c
    ·have hij:i<j:=by omega
     rcases D.keys i j hij hj hc.2 with h|h
     ·have:=hdown j hj h;rw [this];simp;omega
     ·obtain ⟨a,b,c⟩: ¬(q∈R.W i∧q∈R.K j)∧¬(q∈R.K i∧q∈R.W j)∧¬(q∈R.W i∧q∈R.W j):=by
        rcases h with h|h
        ·exact hap _ h q
        ·exact DD C R hfr0 hij hj h q
      rcases hq with hq|hq|hq
      ·exact absurd hq.symm b
      ·exact absurd hq.symm a
      ·exact absurd hq.symm c
  have hslot: ∀j x,j<aops.length→j≠i→(aops.getD j Fl).dst=some x→(x∈ES (aops.getD i Fl)∨(aops.getD i Fl).dst=some x)→(S j=true↔j<i):=by
    intro j x hj hji hx hor;have hsc:=SH hx hor;by_cases hlt:j<i
    ·exact ⟨fun _=>hlt,fun _=>hanc j (D.slots j i hlt hi hsc.1)⟩
    ·have hij:i<j:=by omega
     have:=hdown j hj (D.slots i j hij hj hsc.2);rw [this];simp;omega
  have hmin:min aops.length i=i:=by omega
  have hmin1:min aops.length (i+1)=i+1:=by omega
  have hne: ∀j,j≠i→(S j||j==i)=S j:=by intro j hj;simp [hj]
  constructor
  ·refine EV (t:=(R.σ i).t) (h:=(R.σ i).h) (fun x hx=> ?_) (fun q hq=> ?_) (R.eff i hi)
   ·have:=OP R S x i (fun j hj hjx=> ?_) aops.length (bB _)
    ·rw [this,hmin]
    ·by_cases e:j=i
     ·subst e;rw [hn];simp
     ·exact hslot j x hj e hjx (.inl hx)
   ·have:=OQ R S q i (fun j hj hjq=> ?_) aops.length (bB _)
    ·rw [this,hmin]
    ·by_cases e:j=i
     ·subst e;rw [hn];simp
     ·exact hkey j hj e q (.inl ⟨hjq,hq⟩)
  ·have h1:(R.τ (fun j=>S j||j==i) aops.length).t=(after (R.τ S aops.length) (aops.getD i Fl) (R.v i) (R.up i)).t:=by
     funext x;by_cases hx:(aops.getD i Fl).dst=some x
     ·rw [Hg hx,OP R _ x (i+1) (fun j hj hjx=> ?_) aops.length (bB _),hmin1,R.next i hi,Hg hx];by_cases e:j=i
      ·subst e;simp
      ·rw [hne j e,hslot j x hj e hjx (.inr hx)];omega
     ·rw [Gq hx,EX R S _ i x hne hx]
   have h2:(R.τ (fun j=>S j||j==i) aops.length).h=(after (R.τ S aops.length) (aops.getD i Fl) (R.v i) (R.up i)).h:=by
     funext q;by_cases hq:q∈R.W i
     ·rw [OQ R _ q (i+1) (fun j hj hjq=> ?_) aops.length (bB _),hmin1,R.next i hi]
      ·exact Mt _ _ _ q hq
      ·by_cases e:j=i
       ·subst e;simp
       ·rw [hne j e,hkey j hj e q (.inr (.inr ⟨hjq,hq⟩))];omega
     ·rw [EY R S _ i q hne hq];exact (Ch _ _ q hq).symm
   have ext: ∀a b:St,a.t=b.t→a.h=b.h→a=b:=by rintro ⟨_,_⟩ ⟨_,_⟩ h1 h2;cases h1;cases h2;rfl
   exact ext _ _ h1 h2
theorem NH (R:Run P u aops){S:Nat→Bool}(hS: ∀i,i<aops.length→S i=true): ∀m,m≤aops.length→R.τ S m=R.σ m:=by
  intro m
  induction m with
  |zero=>intro _;rfl
  |succ m ih=>intro hm;rw [Run.τ,l4 (hS m (by omega)),ih (by omega),R.next m (by omega)]
theorem DE (R:Run P u aops){S:Nat→Bool}: ∀m,(∀i,i<m→S i=false)→R.τ S m=R.σ 0:=by
  intro m
  induction m with
  |zero=>intro _;rfl
  |succ m ih=>intro hS;rw [Run.τ,l5 (by rw [hS m (by omega)];simp),ih (fun i hi=>hS i (by omega))]
def Ord (ops:Array Oper):(Nat→Bool)→List Nat→Prop
  |_,[]=>True
  |S,i::r=>i<ops.size∧S i=false∧(∀o,ops[i]? =some o→∀e∈Z2 o,S e=true)∧Ord ops (fun j=>S j||j==i) r
def Ob (n:Nat)(S:Nat→Bool):List Nat:=(List.range n).filter fun i=> !S i
theorem Rc {S:Nat→Bool}(hcl:Po ops S){i:Nat}(h3: ∀o,ops[i]? =some o→∀e∈Z2 o,S e=true):Po ops (fun j=>S j||j==i):=by
  intro j o hj hSj e he;simp only [l7,l8]at hSj ⊢;rcases hSj with h|rfl
  ·exact .inl (hcl j o hj h e he)
  ·exact .inl (h3 o hj e he)
theorem JM (C:Conv P N ops aops)(D:DrawOK ops aops pairs)(R:Run P u aops)(hfr0: ∀d,(R.σ 0).h (d,u)=none)(hap:FU R pairs){K:Act→World→Prop}: ∀(L:List Nat) (S:Nat→Bool) {w:World} {I:Nat→Prop} {ρ:Rho} {a:Act},
    Ord ops S L→(∀i∈L,i<aops.length)→(∀i,i<aops.length→S i=true∨i∈L)→Po ops S→Sim w I ρ N (R.τ S aops.length) a→Free u ρ aops (Ob aops.length S)→
    (∀a' w' ρ' I',Sim w' I' ρ' N (R.σ aops.length) a'→Tr w I ρ (R.τ S aops.length).h w' I' ρ' (R.σ aops.length).h→K a' w')→
    Jc P ops K L a w:=by
  intro L
  induction L with
  |nil=>
   intro S w I ρ a _ _ hall hcl hs hfr hK;have e:R.τ S aops.length=R.σ aops.length:=NH R (fun i hi=>by rcases hall i hi with h|h;exact h;simp at h) _ (bB _);rw [e]at hs hK;exact hK a w ρ I hs (Tr.refl _ _ _ _)
  |cons i r ih=>
   intro S w I ρ a hord hlt hall hcl hs hfr hK;obtain ⟨h1,h2,h3,h4⟩:=hord;have hi:i<aops.length:=hlt i (by simp);obtain ⟨e1,e2⟩:=JL C D R hfr0 hap hcl hi h2 h3;have hin:i∈Ob aops.length S:=by unfold Ob;rw [List.mem_filter];exact ⟨by simpa using hi,by rw [h2];rfl⟩
   refine DB C hi (L:=Ob aops.length S) (L':=Ob aops.length (fun j=>S j||j==i)) hin (fun j hj=> ?_) hs hfr e1 ?_
   ·unfold Ob at hj ⊢;rw [List.mem_filter]at hj ⊢;obtain ⟨q1,q2⟩:=hj;simp only [Bool.not_eq_true',Bool.or_eq_false_iff,beq_eq_false_iff_ne]at q2;exact ⟨⟨q1,by rw [q2.1];rfl⟩,q2.2,by simpa using q1⟩
   ·intro a' w' ρ' I' g1 g2 g3;rw [← e2]at g1 g2;refine ih _ h4 (fun j hj=>hlt j (by simp [hj])) (fun j hj=> ?_) (Rc hcl h3) g1 g3 fun a2 w2 ρ2 I2 k1 k2=>hK a2 w2 ρ2 I2 k1 (g2.trans k2);rcases hall j hj with h|h
    ·exact .inl (by simp [h])
    ·rw [lQ]at h;rcases h with rfl|h
     ·exact .inl (by simp)
     ·exact .inr h
theorem FA {listed:Array Bool}{i:Nat}(h:i∈Region.ready .any ops listed):i<ops.size∧listed.getD i true=false∧∀o,ops[i]? =some o→∀e∈Z2 o,listed.getD e false=true:=by
  unfold Region.ready at h;rw [List.mem_filter]at h;obtain ⟨h1,h2⟩:=h;have hi:i<ops.size:=by simpa using h1
  have ho:ops[i]? =some ops[i]:=Array.getElem?_eq_getElem hi;simp only [l6,Bool.not_eq_true']at h2;refine ⟨hi,h2.1,fun o hoo e he=> ?_⟩;rw [ho]at hoo h2;cases hoo;have h3:=h2.2;simp only [lE,Option.getD_some,Array.all_eq_true]at h3;unfold Z2 at he;simp only [List.mem_map,List.mem_filter,Array.mem_toList_iff]at he;obtain ⟨x,⟨hx,hbx⟩,rfl⟩:=he;obtain ⟨j,hj,rfl⟩:=Array.mem_iff_getElem.1 hx;have:=h3 j hj;rw [hbx]at this;simpa using this
theorem AI {a:Array Bool}{i:Nat}{d d':Bool}(h:i<a.size):a.getD i d=a.getD i d':=by simp [Array.getD,h]
theorem JN (hback: ∀i o,ops[i]? =some o→∀e∈Z2 o,e<i){listed:Array Bool}(hsz:listed.size=ops.size)(h:Region.ready .any ops listed= []): ∀i,i<ops.size→listed.getD i false=true:=by
  intro i
  induction i using Nat.strongRecOn with
  |_ i ih=>
   intro hi;have ho:ops[i]? =some ops[i]:=Array.getElem?_eq_getElem hi;have hnot:i∉Region.ready .any ops listed:=by rw [h];simp
   unfold Region.ready at hnot;rw [List.mem_filter]at hnot;cases hl:listed.getD i false with
   |true=>rfl
   |false=>
    exfalso;apply hnot;refine ⟨by simpa using hi,?_⟩;rw [AI (d:=true) (d':=false) (by omega),hl,ho];simp only [Bool.not_false,Bool.true_and,lE,Option.getD_some,Array.all_eq_true];intro j hj;cases hb:Region.binds .any (ops[i].after[j])with
    |false=>rfl
    |true=>
     have hm:(ops[i].after[j]).on∈Z2 ops[i]:=by
       unfold Z2;simp only [List.mem_map,List.mem_filter,Array.mem_toList_iff];exact ⟨_,⟨Array.getElem_mem hj,hb⟩,rfl⟩
     have:=hback i _ ho _ hm;rw [ih _ this (by omega)];simp
theorem Sw (hback: ∀i o,ops[i]? =some o→∀e∈Z2 o,e<i): ∀(fuel t:Nat) (listed:Array Bool),listed.size=ops.size→(Ob ops.size fun i=>listed.getD i false).length≤fuel→
    Ord ops (fun i=>listed.getD i false) (Region.linearise.go .any ops fuel t listed [])∧∀i,i<ops.size→listed.getD i false=true∨i∈Region.linearise.go .any ops fuel t listed []:=by
  intro fuel
  induction fuel with
  |zero=>
   intro t listed hsz hf;refine ⟨by simp [Region.linearise.go,Ord],fun i hi=> .inl ?_⟩;cases hl:listed.getD i false with
   |true=>rfl
   |false=>
    have:i∈Ob ops.size fun i=>listed.getD i false:=by unfold Ob;rw [List.mem_filter];exact ⟨by simpa using hi,by dsimp only;rw [hl];rfl⟩
    rw [lV (Nat.le_zero.1 hf)]at this;simp at this
  |succ fuel ih=>
   intro t listed hsz hf
   have e0:Region.linearise.go .any ops (fuel+1) t listed []=(match (Region.ready .any ops listed)[t % (Region.ready .any ops listed).length]? with
     |some i=>Region.linearise.go .any ops fuel (t / (Region.ready .any ops listed).length) (listed.setIfInBounds i true) [i]
     |none=> [].reverse):=rfl
   rw [e0];cases hi:(Region.ready .any ops listed)[t % (Region.ready .any ops listed).length]? with
   |none=>
    have hnil:Region.ready .any ops listed= []:=by
      cases hr:Region.ready .any ops listed with
      |nil=>rfl
      |cons x xs=>
       rw [hr]at hi;have hlt:t % (x::xs).length< (x::xs).length:=Nat.mod_lt _ (by simp);simp at hi;simp at hlt;omega
    exact ⟨by simp [Ord],fun i hi=> .inl (JN hback hsz hnil i hi)⟩
   |some i=>
    obtain ⟨h1,h2,h3⟩:=FA (lF hi);dsimp only;rw [linearise_go_acc,List.reverse_singleton,List.singleton_append];have hn:listed.getD i false=false:=by rw [AI (d:=false) (d':=true) (by omega)];exact h2
    have hget: ∀j,(listed.setIfInBounds i true).getD j false=(listed.getD j false||j==i):=by
      intro j;simp only [Array.getD_eq_getD_getElem?,Array.getElem?_setIfInBounds];by_cases hji:i=j
      ·subst hji;simp [show i<listed.size by omega]
      ·rw [l5 hji];simp [Ne.symm hji]
    have hfun:(fun j=>(listed.setIfInBounds i true).getD j false)=fun j=>listed.getD j false||j==i:=funext hget
    obtain ⟨g1,g2⟩:=ih (t / (Region.ready .any ops listed).length) (listed.setIfInBounds i true) (by simpa using hsz) (by
      have:(Ob ops.size fun j=>(listed.setIfInBounds i true).getD j false).length< (Ob ops.size fun j=>listed.getD j false).length:=by
        unfold Ob;refine HE (fun j _ hj=> ?_) (x:=i) (by simpa using h1) (by dsimp only;rw [hn];rfl) (by dsimp only;rw [hget];simp);dsimp only at hj ⊢;rw [hget]at hj;cases hq:listed.getD j false<;>simp_all
      omega)
    rw [hfun]at g1;refine ⟨⟨h1,hn,h3,g1⟩,fun j hj=> ?_⟩;rcases g2 j hj with h|h
    ·rw [hget]at h;simp only [l7,l8]at h;rcases h with h|h
     ·exact .inl h
     ·exact .inr (by simp [h])
    ·exact .inr (by simp [h])
end
end Go.Abs
namespace Go.Abs
open Go
def DLe (x y:D):Prop:= ∀w I v,RepD w I x v→RepD w I y v
def AVle (x y:AV):Prop:= ∀w I ρ v,RepV w I ρ x v→RepV w I ρ y v
theorem DLe.refl (x:D):DLe x x:=fun _ _ _ h=>h
theorem DLe.of {x y:D}(h:x=y):DLe x y:=h▸DLe.refl x
theorem DLe.nil:DLe .nilS (.list []):=by
  intro w I v h;cases h with|nilS A=>exact .lnil A 0
theorem DLe.d {x y:D}(h:DLe x y):AVle (.d x) (.d y):=by
  intro w I ρ v hv;cases hv with|d _ _ hx=>exact .d _ _ (h _ _ _ hx)
theorem AVle.refl (x:AV):AVle x x:=fun _ _ _ _ h=>h
theorem AVle.of {x y:AV}(h:x=y):AVle x y:=h▸AVle.refl x
theorem AVle.any (x:AV):AVle x .any:=fun _ _ _ _ _=> .any _
inductive All2 {α β:Type}(R:α→β→Prop):List α→List β→Prop
  |nil:All2 R [] []
  |cons {a:α} {b:β} {l:List α} {m:List β} (h:R a b) (t:All2 R l m):All2 R (a::l) (b::m)
theorem All2.length {α β:Type}{R:α→β→Prop}{l:List α}{m:List β}(h:All2 R l m):l.length=m.length:=by
  induction h with
  |nil=>rfl
  |cons _ _ ih=>simp [ih]
theorem All2.get {α β:Type}{R:α→β→Prop}{l:List α}{m:List β}(h:All2 R l m): ∀{i:Nat} {b:β},m[i]? =some b→∃a,l[i]? =some a∧R a b:=by
  induction h with
  |nil=>intro i b hb;simp at hb
  |cons h t ih=>
   intro i b hb;cases i with
   |zero=>simp at hb;subst hb;exact ⟨_,rfl,h⟩
   |succ i=>simpa using ih (by simpa using hb)
theorem DLe.agg {xs ys:List D}(h:All2 (fun x y=>DLe x y∧y.one=true) xs ys):DLe (.agg xs) (.agg ys):=by
  intro w I v hv;cases hv with
  |agg _ vs hl hone hr=>
   refine .agg ys vs (by rw [← h.length];exact hl) (fun i d hi=> ?_) (fun i d hi=> ?_)
   ·obtain ⟨a,_,h2⟩:=h.get hi;exact h2.2
   ·obtain ⟨a,h1,h2⟩:=h.get hi;exact h2.1 _ _ _ (hr i a h1)
theorem DLe.tup {xs ys:List D}(h:All2 DLe xs ys):DLe (.tup xs) (.tup ys):=by
  intro w I v hv;cases hv with
  |tup _ vs hl hr=>
   refine .tup ys vs (by rw [← h.length];exact hl) (fun i d hi=> ?_);obtain ⟨a,h1,h2⟩:=h.get hi;exact h2 _ _ _ (hr i a h1)
inductive BlkLe:Blk→Blk→Prop
  |refl (b:Blk):BlkLe b b
  |box {ty:TypeId} {xs ys:List AV} (h:All2 AVle xs ys):BlkLe (.box ty xs) (.box ty ys)
theorem BlkLe.of {b b':Blk}(h:b=b'):BlkLe b b':=h▸BlkLe.refl b
theorem BlkLe.ok {b b':Blk}(h:BlkLe b b'){w:World}{I:Nat→Prop}{ρ:Rho}{k:D7}(hb:BlkOK w I ρ k b):BlkOK w I ρ k b':=by
  cases h with
  |refl=>exact hb
  |box h=>
   obtain ⟨g,vs,h1,h2,h3,h4,h5⟩:=hb;exact ⟨g,vs,h1,h2,by rw [← h.length];exact h3,h4,fun i c hi=>by obtain ⟨a,e1,e2⟩:=h.get hi;exact e2 _ _ _ _ (h5 i a e1)⟩
theorem BlkLe.loc {b b':Blk}(h:BlkLe b b')(ρ:Rho)(k:D7):M2 ρ k b'=M2 ρ k b:=by cases h<;>rfl
theorem BlkLe.obj {b:Blk}{t:Nat→AV}{r:Loop}(h:BlkLe b (.obj t r)):b= .obj t r:=by cases h;rfl
theorem All2.trans {xs ys zs:List AV}(h:All2 AVle xs ys):All2 AVle ys zs→All2 AVle xs zs:=by
  induction h generalizing zs with
  |nil=>intro h';cases h';exact .nil
  |cons q _ ih=>intro h';cases h' with|cons q' t'=>exact .cons (fun w I ρ v hv=>q' _ _ _ _ (q _ _ _ _ hv)) (ih t')
theorem BlkLe.trans {a b c:Blk}(h:BlkLe a b)(h':BlkLe b c):BlkLe a c:=by
  cases h with
  |refl=>exact h'
  |box h=>
   cases h' with
   |refl=>exact .box h
   |box h'=>exact .box (h.trans h')
structure Sb (s0 s:St):Prop where
  t: ∀i,AVle (s.t i) (s0.t i)
  h: ∀k b0,s0.h k=some b0→∃b,s.h k=some b∧BlkLe b b0
theorem Sb.trans {a b c:St}(h:Sb a b)(h':Sb b c):Sb a c:=
  ⟨fun i _ _ _ _ hv=>h.t i _ _ _ _ (h'.t i _ _ _ _ hv),fun k b0 hb=>by obtain ⟨b1,e1,l1⟩:=h.h k b0 hb;obtain ⟨b2,e2,l2⟩:=h'.h k b1 e1;exact ⟨b2,e2,l2.trans l1⟩⟩
theorem Sb.refl (s:St):Sb s s:=⟨fun _=> .refl _,fun _ b h=>⟨b,h, .refl b⟩⟩
section
variable {N:Nat}{s:St}
theorem Sb.heapOK {w:World}{I:Nat→Prop}{ρ:Rho}{s0:St}(S:Sb s0 s)(H:HeapOK w I ρ s.h):HeapOK w I ρ s0.h where
  blk k b h:=by obtain ⟨b1,h1,h2⟩:=S.h k b h;exact h2.ok (H.blk k b1 h1)
  sep k k' b b' g h1 h2 h3 h4:=by
    obtain ⟨b1,q1,q2⟩:=S.h k b h1;obtain ⟨b2,r1,r2⟩:=S.h k' b' h2;exact H.sep k k' b1 b2 g q1 r1 (by rw [← q2.loc];exact h3) (by rw [← r2.loc];exact h4)
  notI k b g h1 h2:=by obtain ⟨b1,q1,q2⟩:=S.h k b h1;exact H.notI k b1 g q1 (by rw [← q2.loc];exact h2)
  lt k b g h1 h2:=by obtain ⟨b1,q1,q2⟩:=S.h k b h1;exact H.lt k b1 g q1 (by rw [← q2.loc];exact h2)
  ilt:=H.ilt
  fresh:=H.fresh
  rone:=H.rone
theorem Sb.own {ρ:Rho}{s0:St}(S:Sb s0 s){g:Nat}(h:own ρ s0.h g):Abs.own ρ s.h g:=by
  obtain ⟨k,b,h1,h2⟩:=h;obtain ⟨b1,q1,q2⟩:=S.h k b h1;exact ⟨k,b1,q1,by rw [← q2.loc];exact h2⟩
theorem Sb.sim {w:World}{I:Nat→Prop}{ρ:Rho}{a:Act}{s0:St}(S:Sb s0 s)(hs:Sim w I ρ N s a):Sim w I ρ N s0 a:=
  ⟨hs.size,⟨hs.defers.nd,fun x hx=>by obtain ⟨r,h1,h2,h3,h4⟩:=hs.defers.each x hx;exact ⟨r,h1,h2,h3,fun ho=>h4 (S.own ho)⟩⟩,fun i=>S.t i _ _ _ _ (hs.tmp i),S.heapOK hs.heap⟩
theorem Sb.tr {w w':World}{I I':Nat→Prop}{ρ ρ':Rho}{s0:St}{h2:C7}(S:Sb s0 s)(t:Tr w I ρ s0.h w' I' ρ' h2):Tr w I ρ s.h w' I' ρ' h2:=
  ⟨t.os,t.tape,t.output,t.size,fun b hb hn=>t.frame b hb (fun ho=>hn (S.own ho)),t.imm,fun b hb hl=>(t.immBack b hb hl).imp id S.own,fun b hb hl=>S.own (t.ownBack b hb hl),t.rho⟩
theorem Sb.fresh {s0:St}(S:Sb s0 s){u:Nat}(h: ∀q,s.h q≠none→q.2≠u): ∀q,s0.h q≠none→q.2≠u:=by
  intro q hq;cases e:s0.h q with
  |none=>exact absurd e hq
  |some b0=>obtain ⟨b,hb,_⟩:=S.h q b0 e;exact h q (by rw [hb];simp)
end
end Go.Abs
namespace Go.Abs
open Go
def DF (P:Program)(t:Nat→AV)(h:C7)(f:Opd)(args:List Opd)(K:AV→Prop):Prop:=match T3 t f args with
  |some (fid,avs)=>match N9 (L8 h 6) avs with
   |some ds=> ∃r,PCall P fid ds r∧(He avs=some ds∨CU r=true)∧K (.d r)
   |none=>False
  |none=>False
def Re (P:Program)(u:Nat)(t:Nat→AV)(h:C7)(S:Nat)(f:Opd)(args:List Opd)(K:AV→List (D7×Option Blk)→Prop):Prop:=match T3 t f args with
  |some (fid,avs)=> ∃v ups,(∀q∈ups.map (·.1),q∈avs.flatMap (O3 h 6)∨∃j,j<6∧q=(S+j,u))∧(∀q∈avs.flatMap (O3 h 6),h q≠none)∧FCall P u S fid avs (R0 h (avs.flatMap (O3 h 6))) v ups∧K v ups
  |none=>False
theorem DG {P:Program}{u S:Nat}{t:Nat→AV}{h:C7}{f:Opd}{args:List Opd}{A B:AV→List (D7×Option Blk)→Prop}(hAB: ∀v ups,A v ups→B v ups)(ho:Re P u t h S f args A):Re P u t h S f args B:=by
  unfold Re at ho ⊢;split at ho
  ·obtain ⟨v,ups,h1,h2,h3,h4⟩:=ho;exact ⟨v,ups,h1,h2,h3,hAB _ _ h4⟩
  ·exact ho.elim
def Wx (P:Program)(u:Nat)(dst:Option Nat)(t:Nat→AV)(h:C7)(k:AK)(K:AV→List (D7×Option Blk)→Prop):Prop:=match k with
  | .alloc ty z=>match dst with
    |some d=>match Mb u d t (.alloc ty z)with|some (v,b)=>K v [((d,u),some b)]|none=>False
    |none=>False
  | .box ty ag x=>match dst with
    |some d=>match Mb u d t (.box ty ag x)with|some (v,b)=>K v [((d,u),some b)]|none=>False
    |none=>False
  | .bslice e sz n z ps=>match dst with
    |some d=>match Mb u d t (.bslice e sz n z ps)with|some (v,b)=>K v [((d,u),some b)]|none=>False
    |none=>False
  | .mkmap=>match dst with
    |some d=>match Mb u d t .mkmap with|some (v,b)=>K v [((d,u),some b)]|none=>False
    |none=>False
  | .mins m x=>match Gm u (dst.getD 0) t h (.mins m x)with|some (v,ups)=>K v ups|none=>False
  | .store n p x=>match Gm u (dst.getD 0) t h (.store n p x)with|some (v,ups)=>K v ups|none=>False
  | .append ty e sz x y=>match Gm u (dst.getD 0) t h (.append ty e sz x y)with|some (v,ups)=>K v ups|none=>False
  | .call f args=>DF P t h f args fun v=>K v []
  | .icall _ _=>False
  | .ocall S f args=>Re P u t h S f args K
  | .oslice sz x lo hi mx=>match dst with
    |some d=>match Gm u d t h (.oslice sz x lo hi mx)with|some (v,ups)=>K v ups|none=>False
    |none=>False
  |k=>match J1 t h k with|some v=>K v []|none=>False
def gW (g:Option (Nat×Bool))(t:Nat→AV)(K:AV→List (D7×Option Blk)→Prop)(body:Prop):Prop:=match g with
  |none=>body
  |some (g,b)=>match t g with
   | .d (.v (.bool c))=>if c=b then body else K (.d (.tup [])) []
   | .d (.tup [])=>K (.d (.tup [])) []
   |_=>False
def ICall (P:Program)(f:FuncId)(avs:List AV)(h:C7)(K:AV→C7→Prop):Prop:=
  Yd P f∧∀(w:World) (I:Nat→Prop) (ρ:Rho) (vs:List Value),HeapOK w I ρ h→avs.length=vs.length→(∀(i:Nat) c,avs[i]? =some c→RepV w I ρ c (vs.getD i undef))→
   Calls P f vs.toArray w fun e w'=> ∃x v I' ρ' h',e= .returned x∧RepV w' I' ρ' v x∧HeapOK w' I' ρ' h'∧Tr w I ρ h w' I' ρ' h'∧K v h'
def YCall (P:Program)(k:D7)(avs:List AV)(h:C7)(K:AV→C7→Prop):Prop:=
  ∀(w:World) (I:Nat→Prop) (ρ:Rho) (l:Nat) (vs:List Value),HeapOK w I ρ h→ρ k=some (.pointer (some ⟨l,0,none⟩))→avs.length=vs.length→(∀(i:Nat) c,avs[i]? =some c→RepV w I ρ c (vs.getD i undef))→
   ∃f tmps as bd,(Instr.yield l vs.toArray).run P w= .ok (.round l f tmps as bd) w∧
    IG P l f tmps as bd w fun x w'=> ∃v I' ρ' h',RepV w' I' ρ' v x∧HeapOK w' I' ρ' h'∧Tr w I ρ h w' I' ρ' h'∧K v h'
def Yi (P:Program)(t:Nat→AV)(h:C7)(f:Opd)(args:List Opd)(K:AV→C7→Prop):Prop:=match ev t f with
  | .yld k=>YCall P k (args.map (ev t)) h K
  |_=>match T3 t f args with
   |some (fid,avs)=>ICall P fid avs h K
   |none=>False
def M9 (P:Program):Nat→List AOp→(Nat→AV)→C7→((Nat→AV)→C7→Prop)→Prop
  |_,[],t,h,K=>K t h
  |u,⟨dst,k,g⟩::r,t,h,K=>match k with
   | .icall f args=>gW g t (fun v ups=>M9 P u r (Sq t dst v) (Q0 h ups) K)<|Yi P t h f args fun v h'=> ∀u',(∀q,h' q≠none→q.2≠u')→∃s0,Sb s0 ⟨Sq t dst v,h'⟩∧M9 P u' r s0.t s0.h K
   |k=>gW g t (fun v ups=>M9 P u r (Sq t dst v) (Q0 h ups) K) (Wx P u dst t h k fun v ups=>M9 P u r (Sq t dst v) (Q0 h ups) K)
def Kf (P:Program)(u:Nat):List AOp→(Nat→AV)→C7→((Nat→AV)→C7→List (List D7×List D7)→Prop)→Prop
  | [],t,h,K=>K t h []
  |⟨dst,k,g⟩::r,t,h,K=>
   gW g t (fun v ups=>Kf P u r (Sq t dst v) (Q0 h ups) fun t' h' tr=>K t' h' ((Aw t h k,ups.map (·.1))::tr))
    (Wx P u dst t h k fun v ups=>Kf P u r (Sq t dst v) (Q0 h ups) fun t' h' tr=>K t' h' ((Aw t h k,ups.map (·.1))::tr))
section
variable {P:Program}{u N:Nat}{ops:Array Oper}{aops:List AOp}{pairs:List (Nat×Nat)}
theorem FV {dst:Option Nat}{k:AK}{g:Option (Nat×Bool)}{t:Nat→AV}{h:C7}{K:AV→List (D7×Option Blk)→Prop}(hw:Wx P u dst t h k K): ∃v ups,Ww P u ⟨dst,k,g⟩ t h v ups∧K v ups:=by
  unfold Wx at hw;split at hw
  ·split at hw
   ·split at hw
    ·exact ⟨_,_,⟨_,_,rfl,‹_›,rfl⟩,hw⟩
    ·exact hw.elim
   ·exact hw.elim
  ·split at hw
   ·split at hw
    ·exact ⟨_,_,⟨_,_,rfl,‹_›,rfl⟩,hw⟩
    ·exact hw.elim
   ·exact hw.elim
  ·split at hw
   ·split at hw
    ·exact ⟨_,_,⟨_,_,rfl,‹_›,rfl⟩,hw⟩
    ·exact hw.elim
   ·exact hw.elim
  ·split at hw
   ·split at hw
    ·exact ⟨_,_,⟨_,_,rfl,‹_›,rfl⟩,hw⟩
    ·exact hw.elim
   ·exact hw.elim
  ·split at hw
   ·exact ⟨_,_,‹_›,hw⟩
   ·exact hw.elim
  ·split at hw
   ·exact ⟨_,_,‹_›,hw⟩
   ·exact hw.elim
  ·split at hw
   ·exact ⟨_,_,‹_›,hw⟩
   ·exact hw.elim
  ·rename_i f args;unfold DF at hw;split at hw
   ·rename_i fid avs hc;split at hw
    ·rename_i ds hds;obtain ⟨r,h1,h2,h3⟩:=hw;refine ⟨.d r,[],⟨?_,rfl⟩,h3⟩;simp only [Wk,hc];exact ⟨ds,r,hds,h1,h2,rfl⟩
    ·exact hw.elim
   ·exact hw.elim
  ·exact hw.elim
  ·unfold Re at hw;split at hw
   ·rename_i fid avs hc;obtain ⟨v,ups,h1,h2,h3,h4⟩:=hw;exact ⟨v,ups,by simp only [Ww,W5,Ti,hc];exact ⟨h1,h2,h3⟩,h4⟩
   ·exact hw.elim
  ·split at hw
   ·split at hw
    ·exact ⟨_,_,⟨_,rfl,‹_›⟩,hw⟩
    ·exact hw.elim
   ·exact hw.elim
  ·rename_i n1 n2 n3 n4 n5 n6 n7 n8 n9 n10 n11;split at hw
   ·rename_i v hv;refine ⟨v,[],?_,hw⟩
    have:W5 k=0:=by
      cases k<;>first|rfl|exact (n1 _ _ rfl).elim|exact (n2 _ _ _ rfl).elim|exact (n3 _ _ _ _ _ rfl).elim|exact (n4 _ _ _ rfl).elim|exact (n5 _ _ _ _ _ rfl).elim|exact (n6 _ _ rfl).elim|exact (n7 _ _ rfl).elim|exact (n8 _ _ _ rfl).elim|exact (n9 _ _ rfl).elim|exact (n10 _ _ _ rfl).elim|exact (n4 rfl).elim|exact (n5 _ _ rfl).elim|exact (n6 _ _ _ rfl).elim|exact (n7 _ _ _ _ _ rfl).elim|exact (n8 _ _ rfl).elim|exact (n11 _ _ _ _ _ rfl).elim
    unfold Ww;dsimp only;rw [this];exact ⟨hv,rfl⟩
   ·exact hw.elim
theorem JO {dst:Option Nat}{k:AK}{g:Option (Nat×Bool)}{t:Nat→AV}{h:C7}{K:AV→List (D7×Option Blk)→Prop}(hw:gW g t K (Wx P u dst t h k K)): ∃v ups,Nq P u ⟨dst,k,g⟩ t h v ups∧K v ups:=by
  unfold gW at hw;split at hw
  ·obtain ⟨v,ups,h1,h2⟩:=FV (g:=none) hw;exact ⟨v,ups,h1,h2⟩
  ·rename_i g b;split at hw
   ·rename_i c hc;split at hw
    ·rename_i hcb;obtain ⟨v,ups,h1,h2⟩:=FV (g:=some (g,b)) hw;exact ⟨v,ups,by simp only [Nq,hc,hcb,if_true];exact h1,h2⟩
    ·rename_i hcb;exact ⟨.d (.tup []),[],by simp [Nq,hc,hcb],hw⟩
   ·rename_i hc;exact ⟨.d (.tup []),[],by simp [Nq,hc],hw⟩
   ·exact hw.elim
def RT (P:Program)(u:Nat):List AOp→St→St→List (List D7×List D7)→Prop
  | [],s,s',tr=>s'=s∧tr= []
  |o::r,s,s'',tr=> ∃v ups tr',Nq P u o s.t s.h v ups∧tr=(Aw s.t s.h o.k,ups.map (·.1))::tr'∧RT P u r (after s o v ups) s'' tr'
theorem BL: ∀{aops:List AOp} {s:St} {K:(Nat→AV)→C7→List (List D7×List D7)→Prop},Kf P u aops s.t s.h K→∃s' tr,RT P u aops s s' tr∧K s'.t s'.h tr
  | [],s,K,h=>⟨s,[],by simp [RT],h⟩
  |⟨dst,k,g⟩::r,s,K,h=>by
   obtain ⟨v,ups,h1,h2⟩:=JO h;obtain ⟨s',tr,h3,h4⟩:=BL (s:=after s ⟨dst,k,g⟩ v ups) h2;exact ⟨s',_,⟨v,ups,tr,h1,rfl,h3⟩,h4⟩
def shift {α:Type}(x:α)(f:Nat→α):Nat→α
  |0=>x
  |n+1=>f n
theorem RT.run: ∀{aops:List AOp} {s s':St} {tr:List (List D7×List D7)},RT P u aops s s' tr→∃R:Run P u aops,R.σ 0=s∧R.σ aops.length=s'∧tr.length=aops.length∧∀i,i<aops.length→tr[i]? =some (R.K i,R.W i)
  | [],s,s',tr,h=>⟨⟨fun _=>s,fun _=> .any,fun _=> [],fun i hi=>by simp at hi,fun i hi=>by simp at hi⟩,rfl,h.1.symm,by simp [h.2],fun i hi=>by simp at hi⟩
  |o::r,s,s'',tr,⟨v,ups,tr',h1,h2,h3⟩=>by
   obtain ⟨R,g0,g1,g2,g3⟩:=h3.run;refine ⟨⟨shift s R.σ,shift v R.v,shift ups R.up,fun i hi=> ?_,fun i hi=> ?_⟩,rfl,g1,by simp [h2,g2],fun i hi=> ?_⟩
   ·cases i with
    |zero=>exact h1
    |succ i=>exact R.eff i (by simpa using hi)
   ·cases i with
    |zero=>exact g0
    |succ i=>exact R.next i (by simpa using hi)
   ·subst h2;cases i with
    |zero=>rfl
    |succ i=>exact g3 i (by simpa using hi)
def BM (tr:List (List D7×List D7))(pairs:List (Nat×Nat)):Bool:=
  pairs.all fun p=>match tr[p.1]?,tr[p.2]? with
    |some (k1,w1),some (k2,w2)=>(w1.all fun q=> !k2.contains q&& !w2.contains q)&&k1.all fun q=> !w2.contains q
    |_,_=>true
theorem JP {R:Run P u aops}{tr:List (List D7×List D7)}(htr: ∀i,i<aops.length→tr[i]? =some (R.K i,R.W i))(hlt: ∀p∈pairs,p.1<aops.length∧p.2<aops.length)(h:BM tr pairs=true):FU R pairs:=by
  intro p hp q;have:=lU.1 h p hp;rw [htr _ (hlt p hp).1,htr _ (hlt p hp).2]at this;simp only [l6,lU,Bool.not_eq_true',List.contains_eq_mem,decide_eq_false_iff_not]at this;exact ⟨fun ⟨a,b⟩=>(this.1 q a).1 b,fun ⟨a,b⟩=>this.2 q a b,fun ⟨a,b⟩=>(this.1 q a).2 b⟩
theorem Sim.fresh_u {w:World}{I:Nat→Prop}{ρ:Rho}{s:St}{a:Act}(hs:Sim w I ρ N s a): ∃u,(∀d,ρ (d,u)=none)∧∀k,s.h k≠none→k.2≠u:=by
  obtain ⟨u0,hu⟩:=hs.heap.fresh;refine ⟨u0,fun d=>hu d u0 (bB _),fun k hk e=> ?_⟩;cases hb:s.h k with
  |none=>exact hk hb
  |some b=>
   obtain ⟨x,hx⟩:=(hs.heap.blk k b hb).rho;obtain ⟨k1,k2⟩:=k;subst e;rw [hu k1 _ (bB _)]at hx;cases hx
theorem Free.of {ρ:Rho}{l:List Nat}(h: ∀d,ρ (d,u)=none):Free u ρ aops l:=fun _ _ d _=>h d
theorem FB (C:Conv P N ops aops)(D:DrawOK ops aops pairs)(hlen:aops.length=ops.size){s s':St}(R:Run P u aops)(hfr0: ∀d,s.h (d,u)=none)(h0:R.σ 0=s)(h1:R.σ aops.length=s')(hap:FU R pairs){K:Act→World→Prop}(t:Nat){w:World}{I:Nat→Prop}{ρ:Rho}{a:Act}
    (hm:P.follows .mixedOrders=true) (hs:Sim w I ρ N s a) (hfr: ∀d,ρ (d,u)=none) (hK: ∀a' w' ρ' I',Sim w' I' ρ' N s' a'→Tr w I ρ s.h w' I' ρ' s'.h→K a' w'):
    Jc P ops K (Region.schedule (P.follows .mixedOrders) ops t) a w:=by
  simp only [Region.schedule,hm,Bool.true_or,if_true,Region.linearise]
  have hn: ∀i,(fun i=>(Array.replicate ops.size false).getD i false) i=false:=by
    intro i;simp [Array.getD_eq_getD_getElem?,Array.getElem?_replicate];split<;>rfl
  have e0:R.τ (fun i=>(Array.replicate ops.size false).getD i false) aops.length=s:=by rw [DE R _ (fun i _=>hn i),h0]
  obtain ⟨o1,o2⟩:=Sw D.back ops.size t (Array.replicate ops.size false) (by simp) (by
    unfold Ob
    exact Nat.le_trans (List.length_filter_le _ _) (by simp))
  have olt: ∀(L:List Nat) (S:Nat→Bool),Ord ops S L→∀i∈L,i<ops.size:=by
    intro L
    induction L with
    |nil=>intro S _ i hi;simp at hi
    |cons j r ih=>
     intro S h i hi;rcases lQ.1 hi with rfl|hi
     ·exact h.1
     ·exact ih _ h.2.2.2 i hi
  refine JM C D R (by rw [h0];exact hfr0) hap _ _ o1 (fun i hi=>by rw [hlen];exact olt _ _ o1 i hi) (fun i hi=>o2 i (by omega)) (fun i o hi h=> ?_) (by rw [e0];exact hs) (Free.of hfr) ?_
  ·have:=hn i;dsimp only at this h;rw [this]at h;cases h
  ·rw [e0,h1];exact hK
theorem HF {w:World}{I:Nat→Prop}{ρ:Rho}{s:St}{a:Act}{o:Oper}{f:Opd}{args:List Opd}(hk:N6 P o.op=some (.call f args))(hs:Sim w I ρ N s a){q:D7}(hf:ev s.t f= .yld q):
    ∃(l:Nat) (vs:List Value),ρ q=some (.pointer (some ⟨l,0,none⟩))∧(execOp a.eval o).run P w=(Instr.yield l vs.toArray).run P w∧(args.map (ev s.t)).length=vs.length∧∀(i:Nat) c,(args.map (ev s.t))[i]? =some c→RepV w I ρ c (vs.getD i undef):=by
  have ht:=Is hk
  obtain ⟨c,hop⟩: ∃c,o.op= .call c:=by
    cases hq:o.op<;>rw [hq]at ht<;>simp [W5,Pm]at ht;exact ⟨_,rfl⟩
  rw [hop]at hk;obtain ⟨cal,as,tys⟩:=c;rw [hop]at ht;simp only [W5,Pm]at ht;cases cal with
  |value fo=>
   simp only [N6,lB]at hk;obtain ⟨of_,hof,hk⟩:=bind_some hk;obtain ⟨oas,hoas,hk⟩:=bind_some hk;cases hk;have hfr:=O2 hs hof;rw [hf]at hfr;obtain ⟨l1,l2⟩:=Ua hs hoas;generalize hy:a.eval fo=y at hfr;cases hfr with
   |yld _ l hl=>
    refine ⟨l,as.toList.map a.eval,hl,?_,by simpa using l1,fun i c hi=> ?_⟩
    ·unfold execOp;rw [hop];have hm:(Array.map a.eval as)=(as.toList.map a.eval).toArray:=by apply Array.ext';simp
     simp [resolve,Deferred.ofValue,hy,invoke,hm]
    ·rw [lI]at hi;cases hq:args[i]? with
     |none=>rw [hq]at hi;cases hi
     |some q=>
      rw [hq]at hi;cases hi;have:=l2 _ q hq
      rwa [List.getD]at this
  |builtin b=>cases b<;>simp [Vn]at ht
  |invoke r m=>simp [Vn]at ht
theorem DH {w:World}{I:Nat→Prop}{ρ:Rho}{s:St}{a:Act}{o:Oper}{f:Opd}{args:List Opd}{KK:AV→C7→Prop}(hk:N6 P o.op=some (.call f args))(hs:Sim w I ρ N s a)(hv:Yi P s.t s.h f args KK){K:Act→World→Prop}
    (hK: ∀x v w' I' ρ' h',RepV w' I' ρ' v x→HeapOK w' I' ρ' h'→Tr w I ρ s.h w' I' ρ' h'→KK v h'→K (a.put o.dst x) w'):PA P o a w K:=by
  have hdef:Ma o.op=false:=by
    have ht:=Is hk;cases hq:o.op<;>rw [hq]at ht<;>simp [W5,Pm]at ht<;>rfl
  refine ⟨hdef,?_⟩;unfold Yi at hv;split at hv
  ·rename_i q hq;obtain ⟨l,vs,h1,h2,h3,h4⟩:=HF hk hs hq;obtain ⟨fn,tmps,as,bd,g1,g2⟩:=hv w I ρ l vs hs.heap h1 h3 h4;rw [h2,g1];intro c cs;obtain ⟨x,w',⟨v,I',ρ',h',r1,r2,r3,r4⟩,st⟩:=g2 c cs;exact ⟨x,w',hK x v w' I' ρ' h' r1 r2 r3 r4,st⟩
  ·split at hv
   ·rename_i fid avs hc;obtain ⟨vs,h1,h2,h3⟩:=Ye hk rfl hs hc hv.1;rw [h1];refine (hv.2 w I ρ vs hs.heap h2 h3).mono ?_;rintro e w' ⟨x,v,I',ρ',h',rfl,r1,r2,r3,r4⟩;exact ⟨x,rfl,hK x v w' I' ρ' h' r1 r2 r3 r4⟩
   ·exact hv.elim
theorem Yj (C:Conv P N ops aops){K:Act→World→Prop}{K':(Nat→AV)→C7→Prop}: ∀(n m u:Nat) {w:World} {I:Nat→Prop} {ρ:Rho} {s:St} {a:Act},m+n=aops.length→Sim w I ρ N s a→Free u ρ aops (List.range' m n)→
    M9 P u (aops.drop m) s.t s.h K'→
    (∀s' a' w' ρ' I',K' s'.t s'.h→Sim w' I' ρ' N s' a'→Tr w I ρ s.h w' I' ρ' s'.h→K a' w')→Jc P ops K (List.range' m n) a w:=by
  intro n
  induction n with
  |zero=>
   intro m u w I ρ s a hmn hs hfr hr hK;have:aops.drop m= []:=List.drop_of_length_le (by omega);rw [this]at hr;exact hK s a w ρ I (by simpa [M9] using hr) hs (Tr.refl _ _ _ _)
  |succ n ih=>
   intro m u w I ρ s a hmn hs hfr hr hK;have hm:m<aops.length:=by omega
   have hget:aops.getD m Fl=aops[m]:=by simp [List.getD,hm]
   rw [List.drop_eq_getElem_cons hm,← hget]at hr;rw [List.range'_succ]at hfr ⊢
   have hpure:(∃v ups,Nq P u (aops.getD m Fl) s.t s.h v ups∧M9 P u (aops.drop (m+1)) (Sq s.t (aops.getD m Fl).dst v) (Q0 s.h ups) K')→Jc P ops K (m::List.range' (m+1) n) a w:=by
     rintro ⟨v,ups,he,hr⟩;refine DB C (u:=u) (L:=m::List.range' (m+1) n) (L':=List.range' (m+1) n) hm (by simp) (fun j hj=>⟨by simp [hj],by simp at hj;omega,by simp at hj;omega⟩) hs hfr he ?_;intro a' w' ρ' I' h1 h2 h3;exact ih (m+1) u (by omega) h1 h3 hr fun s2 a2 w2 ρ2 I2 q g1 g2=>hK s2 a2 w2 ρ2 I2 q g1 (h2.trans g2)
   have hgd:aops.getD m Fl=⟨(aops.getD m Fl).dst,(aops.getD m Fl).k,(aops.getD m Fl).g⟩:=rfl;generalize hdst:(aops.getD m Fl).dst=dst at*;generalize hk:(aops.getD m Fl).k=k at*;generalize hg:(aops.getD m Fl).g=g at*;rw [hgd]at hr hpure;unfold M9 at hr;split at hr
   ·rename_i f args;have his:m<ops.size:=bF hm C.len;have hoi:ops[m]? =some ops[m]:=Array.getElem?_eq_getElem his;obtain ⟨ao,hco,hisI⟩:=C.get m _ hm hoi;obtain ⟨hk1,hd1,hdN,hg1⟩:=Qy hco
    have hno: ∀{x:AK},N6 P ops[m].op=some x→x≠ .icall f args:=by
      intro x hx e;subst e;have:=Is hx;cases hq:ops[m].op<;>rw [hq]at this<;>simp [W5,Pm]at this;rename_i c;cases hc:c.callee<;>rw [hc]at this<;>simp [Vn]at this;rename_i b;cases b<;>simp at this
    rcases hisI with h|⟨f',args',q1,q2⟩|⟨e1,e2,e3,e4,e5,q1,q2⟩|⟨e1,e2,e3,e4,e5,q1,q2⟩|⟨e1,q1,q2⟩|⟨e1,q1,q2⟩|⟨e1,e2,e3,q1,q2⟩
    ·exact absurd (by rw [← h,hk]) (hno hk1)
    ·rw [hgd]at q2;simp only [AOp.mk.injEq,AK.icall.injEq]at q2;obtain ⟨rfl,⟨rfl,rfl⟩,q3⟩:=q2;rw [← q3]at hg1
     have hcall:Region.wanted ops[m] (yielded ops a.tmps)=true→Yi P s.t s.h f args (fun v h'=> ∀u',(∀q,h' q≠none→q.2≠u')→∃s0,Sb s0 ⟨Sq s.t ao.dst v,h'⟩∧M9 P u' (aops.drop (m+1)) s0.t s0.h K')→Jc P ops K (m::List.range' (m+1) n) a w:=by
       intro hw hr;simp only [Jc,hoi];rw [l4 hw];rw [q1]at hk1;refine DH hk1 hs hr ?_;intro x v w' I' ρ' h' r1 r2 r3 r4;have hs1:=(hs.step r2 r3).sett ao.dst (by rw [hd1];exact hdN) r1;rw [hd1]at hs1;obtain ⟨u',hu,hfk⟩:=hs1.fresh_u;obtain ⟨s0,S,this⟩:=r4 u' hfk;rw [hd1]at S;exact ih (m+1) u' (s:=s0) (by omega) (S.sim hs1) (Free.of hu) this fun s2 a2 w2 ρ2 I2 q g1 g2=>hK s2 a2 w2 ρ2 I2 q g1 (r3.trans (S.tr g2))
     unfold gW at hr;split at hr
     ·refine hcall ?_ hr;cases hgu:ops[m].guard with
      |none=>simp [Region.wanted,hgu]
      |some jb=>rw [hgu]at hg1;obtain ⟨_,_,h⟩:=hg1;cases h
     ·rename_i g b;cases hgu:ops[m].guard with
      |none=>rw [hgu]at hg1;cases hg1
      |some jb=>
       obtain ⟨j,b'⟩:=jb;rw [hgu]at hg1;obtain ⟨g',hg2,hg3⟩:=hg1;cases hg3;split at hr
       ·rename_i c hc;split at hr
        ·rename_i hcb;refine hcall ?_ hr;have hrp:=hs.tmp g;rw [hc]at hrp;have hb:=Kb hrp
         have htm:a.tmps[g]? =some (.bool c):=by
           rw [Array.getD_eq_getD_getElem?]at hb;cases hq:a.tmps[g]? with
           |none=>rw [hq]at hb;simp [undef]at hb
           |some q=>rw [hq]at hb;simp at hb;rw [hb]
         have hy:yielded ops a.tmps j=some c:=by simp [yielded,hg2,htm]
         simp [Region.wanted,hgu,hy,hcb]
        ·rename_i hcb;refine hpure ⟨_,_,?_,hr⟩;simp [Nq,hc,l5 hcb]
       ·rename_i hc;refine hpure ⟨_,_,?_,hr⟩;simp [Nq,hc]
       ·exact hr.elim
    ·rw [hgd]at q2;simp at q2
    ·rw [hgd]at q2;simp at q2
    ·rw [hgd]at q2;simp at q2
    ·rw [hgd]at q2;simp at q2
    ·rw [hgd]at q2;simp at q2
   ·exact hpure (JO hr)
end
end Go.Abs
namespace Go.Abs
open Go
inductive AC where
  |skip
  |reg (ops:List AOp)
  |draw (ops:List AOp) (pairs:List (Nat×Nat))
  |drawB (ops:List AOp) (b:Nat) (pairs:List (Nat×Nat))
  |seq (a b:AC)
  |cond (c:Opd) (a b:AC)
  |block (id:Nat) (a:AC)
  |loop (a:AC)
  |exit (id:Nat)
  |ret
  |rangeF (f:Opd) (params:List Nat) (assign body:AC)
  |scope (a:AC)
def Yk (n:Nat)(f:Nat→Bool):Bool:=(List.range n).all f
theorem Ji {n:Nat}{f:Nat→Bool}(h:Yk n f=true){i:Nat}(hi:i<n):f i=true:=lU.1 h i (by simpa using hi)
def PT (aops:List AOp):Bool:=
  Yk aops.length fun i=>Yk aops.length fun j=>i==j||(ER (aops.getD i Fl)).all fun d=> !(ER (aops.getD j Fl)).contains d
def RN (aops:List AOp):Bool:=Yk aops.length fun i=>W5 (aops.getD i Fl).k !=5||(aops.getD i Fl).dst.isSome
def FW (ops:Array Oper):Bool:=Yk ops.size fun i=>match ops[i]? with|some o=>(Z2 o).all (decide<| · <i)|none=>true
def Tj (an:List (List Nat))(aops:List AOp):Bool:=Yk aops.length fun b=>Yk b fun a=> !Rb (aops.getD a Fl) (aops.getD b Fl)||(an.getD b []).contains a
def La (an:List (List Nat))(aops:List AOp):List (Nat×Nat):=
  (List.range aops.length).flatMap fun b=>((List.range b).filter fun a=>Kr (aops.getD a Fl) (aops.getD b Fl)&& !(an.getD b []).contains a&& !AH (aops.getD a Fl) (aops.getD b Fl)).map fun a=>(a,b)
def NI (an:List (List Nat))(n b:Nat):Bool:=
  decide (b<n)&& (Yk b fun j=>(an.getD b []).contains j)&&Yk n fun i=>decide (i≤b)||Yk i fun j=>decide (j<b)||(an.getD i []).contains j
def BN (m:List Nat)(i:Nat)(o:AOp):AOp:=match o.k with
  | .call f args=>if m.contains i then ⟨o.dst, .icall f args,o.g⟩else match m.find? (fun n=>decide (1000000≤n)&&n % 1000==i)with
    |some n=>⟨o.dst, .ocall (n*10) f args,o.g⟩
    |none=>o
  | .bslice e sz n z ps=>if m.contains (1000+i)then ⟨o.dst, .dslice e sz n z ps,o.g⟩else o
  | .str .tob [x]=>if m.contains (1000+i)then ⟨o.dst, .dbytes x,o.g⟩else o
  | .str .mrk [x]=>if m.contains (1000+i)then ⟨o.dst, .bmark x,o.g⟩else o
  | .slice sz x lo hi mx=>if m.contains (1000+i)then ⟨o.dst, .oslice sz x lo hi mx,o.g⟩else o
  |_=>o
def Md (m:List Nat):Nat→List AOp→List AOp
  |_,[]=> []
  |i,o::r=>BN m i o::Md m (i+1) r
def Pq (P:Program)(N:Nat)(ops:Array Oper)(m:List Nat):Option (List AOp):=do
  let aops ← ops.toList.mapM (CL P N ops)
  let aops:=Md m 0 aops
  if PT aops&&RN aops then some aops else none
abbrev Yl:=Nat→List Nat
def Z1 (P:Program)(N:Nat)(M:Yl):Code→Option AC
  | .skip=>some .skip
  | .region id ops false=>(Pq P N ops (M id)).map .reg
  | .region id ops true=>match Pq P N ops (M id)with
    |some aops=>if P.follows .mixedOrders&&FW ops&&Tj (Mc ops) aops then
       (match (M id).filter (decide<| · <1000)with
       | []=>some (.draw aops (La (Mc ops) aops))
       | [b]=>if NI (Mc ops) aops.length b then some (.drawB aops b (La (Mc ops) (aops.take b)))else none
       |_=>none)else none
    |none=>none
  | .seq a b=>match Z1 P N M a,Z1 P N M b with
    |some a,some b=>some (.seq a b)
    |_,_=>none
  | .cond c a b=>match L9 c,Z1 P N M a,Z1 P N M b with
    |some c,some a,some b=>some (.cond c a b)
    |_,_,_=>none
  | .block id a=>(Z1 P N M a).map (.block id)
  | .scope a=>(Z1 P N M a).map .scope
  | .label _=>some .skip
  | .loop a=>(Z1 P N M a).map .loop
  | .exit id=>some (.exit id)
  | .ret=>some .ret
  | .rangeFunc f ps as bd=>match L9 f,Z1 P N M as,Z1 P N M bd with
    |some f,some a,some b=>if ps.toList.all (decide<| · <N)then some (.rangeF f ps.toList a b)else none
    |_,_,_=>none
  |_=>none
theorem Wm (m:List Nat): ∀(l:List AOp) (n i:Nat),(Md m n l)[i]? =(l[i]?).map (BN m (n+i))
  | [],n,i=>by simp [Md]
  |o::r,n,i=>by
   cases i with
   |zero=>simp [Md]
   |succ i=>simp only [Md,List.getElem?_cons_succ];rw [Wm m r (n+1) i,show n+1+i=n+ (i+1) by omega]
theorem Rf (m:List Nat): ∀(l:List AOp) (n:Nat),(Md m n l).length=l.length
  | [],_=>rfl
  |_::r,n=>by simp [Md,Rf m r]
theorem FC (m:List Nat)(i:Nat)(o:AOp):RZ o (BN m i o):=by
  unfold BN;split
  ·rename_i f args hk;split
   ·exact .inr (.inl ⟨f,args,hk,rfl⟩)
   ·split
    ·exact .inr (.inr (.inr (.inr (.inr (.inr ⟨_,f,args,hk,rfl⟩)))))
    ·exact .inl rfl
  ·rename_i e sz n z ps hk;split
   ·exact .inr (.inr (.inl ⟨e,sz,n,z,ps,hk,rfl⟩))
   ·exact .inl rfl
  ·rename_i x hk;split
   ·exact .inr (.inr (.inr (.inr (.inl ⟨x,hk,rfl⟩))))
   ·exact .inl rfl
  ·rename_i x hk;split
   ·exact .inr (.inr (.inr (.inr (.inr (.inl ⟨x,hk,rfl⟩)))))
   ·exact .inl rfl
  ·rename_i sz x lo hi mx hk;split
   ·exact .inr (.inr (.inr (.inl ⟨sz,x,lo,hi,mx,hk,rfl⟩)))
   ·exact .inl rfl
  ·exact .inl rfl
theorem JQ {α β:Type}{f:α→Option β}: ∀{xs:List α} {ys:List β},xs.mapM f=some ys→ys.length=xs.length∧∀(i:Nat) x,xs[i]? =some x→∃y,f x=some y∧ys[i]? =some y:=by
  intro xs
  induction xs with
  |nil=>intro ys h;simp at h;subst h;simp
  |cons x r ih=>
   intro ys h;simp only [List.mapM_cons,Option.pure_def,lB,Option.bind_eq_some_iff,Option.some.injEq]at h;obtain ⟨y,h1,z,h2,rfl⟩:=h;obtain ⟨l,g⟩:=ih h2;refine ⟨by simp [l],fun i q hq=> ?_⟩;cases i with
   |zero=>simp at hq;subst hq;exact ⟨y,h1,rfl⟩
   |succ i=>simpa using g i q (by simpa using hq)
section
variable {P:Program}{N:Nat}{ops:Array Oper}{aops:List AOp}
theorem BO {m:List Nat}(h:Pq P N ops m=some aops):Conv P N ops aops∧aops.length=ops.size:=by
  simp only [Pq,lB]at h;obtain ⟨a,ha,h⟩:=bind_some h;split at h
  ·rename_i hb;cases h;rw [l6]at hb;obtain ⟨l,g⟩:=JQ ha;have hlen:(Md m 0 a).length=ops.size:=by rw [Rf];simpa using l
   refine ⟨⟨by omega,fun i o hi ho=> ?_,fun i j d hi hj hij h1 h2=> ?_,fun i hi ht hd=> ?_⟩,hlen⟩
   ·obtain ⟨y,hy,hi⟩:=g i o (by simpa using ho);refine ⟨y,hy,?_⟩;rw [List.getD,Wm,hi,bE];exact FC m i y
   ·have:=Ji (Ji hb.1 hi) hj;simp only [l7,l8,lU,Bool.not_eq_true',List.contains_eq_mem,decide_eq_false_iff_not]at this;rcases this with h|h
    ·exact hij h
    ·exact h d h1 h2
   ·have:=Ji hb.2 hi;rw [ht,hd]at this;simp at this
  ·cases h
theorem Conv.take (C:Conv P N ops aops)(b:Nat):Conv P N ops (aops.take b):=by
  have hg: ∀i,i< (aops.take b).length→(aops.take b).getD i Fl=aops.getD i Fl:=by
    intro i hi;simp only [List.getD];rw [lX];rw [lR]at hi;rw [l4 (by omega)]
  have hl: ∀i,i< (aops.take b).length→i<aops.length:=by intro i hi;rw [lR]at hi;omega
  refine ⟨?_,fun i o hi ho=> ?_,fun i j d hi hj hij h1=> ?_,fun i hi=> ?_⟩
  ·have:=C.len;simp;omega
  ·rw [hg i hi];exact C.get i o (hl i hi) ho
  ·rw [hg i hi]at h1;rw [hg j hj];exact C.clash i j d (hl i hi) (hl j hj) hij h1
  ·rw [hg i hi];exact C.app i (hl i hi)
theorem DI {an:List (List Nat)}(b:Nat)(h:Tj an aops=true):Tj an (aops.take b)=true:=by
  have hg: ∀i,i< (aops.take b).length→(aops.take b).getD i Fl=aops.getD i Fl:=by
    intro i hi;simp only [List.getD];rw [lX];rw [lR]at hi;rw [l4 (by omega)]
  unfold Tj Yk;simp only [lU,List.mem_range];intro j hj i hi;rw [hg j hj,hg i (by omega)];exact Ji (Ji h (by simp at hj;omega)) hi
theorem FX (h1:FW ops=true)(h2:Tj (Mc ops) aops=true):DrawOK ops aops (La (Mc ops) aops) where
  back i o ho e he:=by
    have hi:=(Array.getElem?_eq_some_iff.1 ho).1;have:=Ji h1 hi;rw [ho]at this;simpa using lU.1 this e he
  slots a b hab hb hc:=by
    have:=Ji (Ji h2 hb) hab;rw [hc]at this;simpa using this
  keys a b hab hb hc:=by
    by_cases hin:a∈(Mc ops).getD b []
    ·exact .inl hin
    ·by_cases he:AH (aops.getD a Fl) (aops.getD b Fl)=true
     ·exact .inr (.inr he)
     ·refine .inr (.inl ?_);unfold La;simp only [List.mem_flatMap,List.mem_range,List.mem_map,List.mem_filter,Prod.mk.injEq];exact ⟨b,hb,a,⟨hab,by rw [hc,show AH (aops.getD a Fl) (aops.getD b Fl)=false by simpa using he];simpa using hin⟩,rfl,rfl⟩
theorem DJ (an:List (List Nat)): ∀p∈La an aops,p.1<aops.length∧p.2<aops.length:=by
  intro p hp;unfold La at hp;simp only [List.mem_flatMap,List.mem_range,List.mem_map,List.mem_filter]at hp;obtain ⟨b,hb,a,⟨ha,_⟩,rfl⟩:=hp;exact ⟨by simp;omega,hb⟩
def AW (P:Program)(N:Nat)(rk:Option D7)(ac:AC)(s:St)(Q:Ex→St→Prop):Prop:= ∀M c,Z1 P N M c=some ac→AWc P N rk c s Q
variable {rk:Option D7}{s:St}{Q:Ex→St→Prop}
theorem AW.mono {ac:AC}{Q':Ex→St→Prop}(h:AW P N rk ac s Q)(hq: ∀e s',Q e s'→Q' e s'):AW P N rk ac s Q':=fun M c hc=>(h M c hc).mono hq
theorem Bs {M:Yl}{c:Code}{ac:AC}(h:Z1 P N M c=some ac):match ac with
    | .skip=>c= .skip∨∃l,c= .label l
    | .reg aops=> ∃id ops,c= .region id ops false∧Pq P N ops (M id)=some aops
    | .draw aops pairs=> ∃id ops,c= .region id ops true∧Pq P N ops (M id)=some aops∧P.follows .mixedOrders=true∧FW ops=true∧Tj (Mc ops) aops=true∧pairs=La (Mc ops) aops
    | .drawB aops b pairs=> ∃id ops,c= .region id ops true∧Pq P N ops (M id)=some aops∧P.follows .mixedOrders=true∧FW ops=true∧Tj (Mc ops) aops=true∧NI (Mc ops) aops.length b=true∧pairs=La (Mc ops) (aops.take b)
    | .seq a b=> ∃x y,c= .seq x y∧Z1 P N M x=some a∧Z1 P N M y=some b
    | .cond o a b=> ∃q x y,c= .cond q x y∧L9 q=some o∧Z1 P N M x=some a∧Z1 P N M y=some b
    | .block id a=> ∃x,c= .block id x∧Z1 P N M x=some a
    | .scope a=> ∃x,c= .scope x∧Z1 P N M x=some a
    | .loop a=> ∃x,c= .loop x∧Z1 P N M x=some a
    | .exit id=>c= .exit id
    | .ret=>c= .ret
    | .rangeF f ps a b=> ∃g qs x y,c= .rangeFunc g qs x y∧L9 g=some f∧qs.toList=ps∧(∀p∈ps,p<N)∧Z1 P N M x=some a∧Z1 P N M y=some b:=by
  cases c with
  |skip=>simp only [Z1]at h;cases h;exact .inl rfl
  |label l=>simp only [Z1]at h;cases h;exact .inr ⟨l,rfl⟩
  |ret=>simp only [Z1]at h;cases h;rfl
  |exit id=>simp only [Z1]at h;cases h;rfl
  |region id ops dr=>
   cases dr with
   |false=>simp only [Z1,lD]at h;obtain ⟨a,ha,rfl⟩:=h;exact ⟨_,_,rfl,ha⟩
   |true=>
    simp only [Z1]at h;split at h
    ·rename_i a ha;split at h
     ·rename_i hb;simp only [l6]at hb;split at h
      ·cases h;exact ⟨_,_,rfl,ha,hb.1.1,hb.1.2,hb.2,rfl⟩
      ·split at h
       ·rename_i hbar;cases h;exact ⟨_,_,rfl,ha,hb.1.1,hb.1.2,hb.2,hbar,rfl⟩
       ·cases h
      ·cases h
     ·cases h
    ·cases h
  |seq x y=>
   simp only [Z1]at h;split at h
   ·cases h;exact ⟨_,_,rfl,‹_›,‹_›⟩
   ·cases h
  |cond q x y=>
   simp only [Z1]at h;split at h
   ·cases h;exact ⟨_,_,_,rfl,‹_›,‹_›,‹_›⟩
   ·cases h
  |block id x=>simp only [Z1,lD]at h;obtain ⟨a,ha,rfl⟩:=h;exact ⟨_,rfl,ha⟩
  |loop x=>simp only [Z1,lD]at h;obtain ⟨a,ha,rfl⟩:=h;exact ⟨_,rfl,ha⟩
  |scope x=>simp only [Z1,lD]at h;obtain ⟨a,ha,rfl⟩:=h;exact ⟨_,rfl,ha⟩
  |rangeFunc f ps as bd=>
   simp only [Z1]at h;split at h
   ·split at h
    ·rename_i hp;cases h;exact ⟨_,_,_,_,rfl,‹_›,rfl,fun p hp'=>by simpa using lU.1 hp p hp',‹_›,‹_›⟩
    ·cases h
   ·cases h
  |_=>simp [Z1]at h
theorem JR {ro:Option Nat}{x:Code}{R:Ex→Act→World→Prop}{a:Act}{w:World}(h:Wp P ro x R a w):Wp P ro (.scope x) R a w:=by
  intro b k cs hro;obtain ⟨e,a',w',hq,hr⟩:=h b (.inScope x::k) cs hro;cases e with
  |nrm=>exact ⟨.nrm,a',w',hq, .head Xj (Steps.trans hr (.one EC))⟩
  |ext i=>
   obtain ⟨k',hs,he⟩:=hr;exact ⟨.ext i,a',w',hq,k', .head Xj hs,by rw [he];rfl⟩
  |ret=>
   obtain ⟨k',hs⟩:=hr;exact ⟨.ret,a',w',hq,k', .head Xj hs⟩
theorem JS {ro:Option Nat}{l:Nat}{R:Ex→Act→World→Prop}{a:Act}{w:World}(h:R .nrm a w):Wp P ro (.label l) R a w:=fun _ _ _ _=>⟨.nrm,a,w,h, .one IE⟩
theorem BP (h:Q .nrm s):AW P N rk .skip s Q:=fun M c hc=>by
  rcases (Bs hc:c= .skip∨∃l,c= .label l)with rfl|⟨l,rfl⟩
  ·exact IH h
  ·exact fun _ I ρ _ hs _ _=>JS ⟨s,I,ρ,h,hs,Tr.refl _ _ _ _,NewD.refl _ _⟩
theorem JT {a:AC}(h:AW P N rk a s Q):AW P N rk (.scope a) s Q:=fun M c hc=>by
  obtain ⟨x,rfl,h1⟩:=Bs hc;exact fun w I ρ a hs ro hro=>JR (h M x h1 w I ρ a hs ro hro)
theorem FD (h:Q .ret s):AW P N rk .ret s Q:=fun M c hc=>by obtain rfl:c= .ret:=Bs hc;exact ML h
theorem BQ {id:Nat}(h:Q (.ext id) s):AW P N rk (.exit id) s Q:=fun M c hc=>by obtain rfl:c= .exit id:=Bs hc;exact II h
theorem Kg {a b:AC}(h:AW P N rk a s (fun e s'=>match e with| .nrm=>AW P N rk b s' Q|e=>Q e s')):AW P N rk (.seq a b) s Q:=fun M c hc=>by
  obtain ⟨x,y,rfl,h1,h2⟩:=Bs hc;refine MM ((h M x h1).mono ?_);intro e s' hq;cases e<;>first|exact hq M y h2|exact hq
theorem BR {o:Opd}{a b:AC}{t:Bool}(ht:ev s.t o= .d (.v (.bool t)))(h:AW P N rk (if t then a else b) s Q):AW P N rk (.cond o a b) s Q:=fun M c hc=>by
  obtain ⟨q,x,y,rfl,h0,h1,h2⟩:=Bs hc;intro w I ρ act hs ro hro;have hr:=O2 hs h0;rw [ht]at hr;refine MJ (t:=t) (Kb hr) ?_;cases t
  ·exact h M y h2 w I ρ act hs ro hro
  ·exact h M x h1 w I ρ act hs ro hro
theorem Ym {id:Nat}{a:AC}(h:AW P N rk a s (fun e s'=>match e with| .nrm=>Q .nrm s'| .ext i=>if i=id then Q .nrm s' else Q (.ext i) s'| .ret=>Q .ret s')):AW P N rk (.block id a) s Q:=fun M c hc=>by
  obtain ⟨x,rfl,h1⟩:=Bs hc;exact GX (h M x h1)
theorem FY {a:AC}(J:Nat→St→Prop)(n:Nat)(h0:J n s)(h: ∀n s,J n s→AW P N rk a s (fun e s'=>match e with| .nrm=> ∃m,m<n∧J m s'|e=>Q e s')):AW P N rk (.loop a) s Q:=fun M c hc=>by
  obtain ⟨x,rfl,h1⟩:=Bs hc;exact IJ J (fun n s hj=>h n s hj M x h1) n h0
theorem NJ {ac:AC}{s0:St}(ht: ∀i,s0.t i= .any∨s0.t i=s.t i)(hh: ∀k b,s0.h k=some b→s.h k=some b)(h:AW P N rk ac s0 Q):AW P N rk ac s Q:=fun M c hc=>IK ht hh (h M c hc)
theorem Wn {K:Act→World→Prop}: ∀(l:List Nat) (a:Act) (w:World),Jc P ops K l a w→Jc P ops (fun a' w'=>K a' w'∧a'.defers=a.defers) l a w
  | [],a,w,h=>⟨h,rfl⟩
  |i::r,a,w,h=>by
   simp only [Jc]at h ⊢;cases ho:ops[i]? with
   |none=>rw [ho]at h;exact h
   |some o=>
    rw [ho]at h;dsimp only at h ⊢;have hput: ∀x,(a.put o.dst x).defers=a.defers:=fun x=>by cases o.dst<;>rfl
    have hmono: ∀x w',Jc P ops K r (a.put o.dst x) w'→Jc P ops (fun a' w'=>K a' w'∧a'.defers=a.defers) r (a.put o.dst x) w':=by
      intro x w' hx;have:=Wn r (a.put o.dst x) w' hx
      rwa [hput]at this
    split at h
    ·rename_i hw;rw [l4 hw];obtain ⟨h1,h2⟩:=h;refine ⟨h1,?_⟩;split at h2
     ·exact hmono _ _ h2
     ·exact hmono _ _ h2
     ·exact h2.mono fun e w ⟨v,q1,q2⟩=>⟨v,q1,hmono _ _ q2⟩
     ·intro c cs;obtain ⟨v,w',q1,q2⟩:=h2 c cs;exact ⟨v,w',hmono _ _ q1,q2⟩
     ·exact h2.elim
    ·rename_i hw;rw [l5 hw];exact hmono _ _ h
theorem Rg {K K':Act→World→Prop}{l:List Nat}{a:Act}{w:World}(h:Jc P ops K l a w)(hk: ∀a' w',K a' w'→a'.defers=a.defers→K' a' w'):Jc P ops K' l a w:=by
  have mono: ∀(l:List Nat) (K K':Act→World→Prop) (a:Act) (w:World),(∀a' w',K a' w'→K' a' w')→Jc P ops K l a w→Jc P ops K' l a w:=by
    intro l
    induction l with
    |nil=>intro K K' a w hk h;exact hk _ _ h
    |cons i r ih=>
     intro K K' a w hk h;simp only [Jc]at h ⊢;cases ho:ops[i]? with
     |none=>rw [ho]at h;exact h
     |some o=>
      rw [ho]at h;dsimp only at h ⊢;split at h
      ·rename_i hw;rw [l4 hw];obtain ⟨h1,h2⟩:=h;refine ⟨h1,?_⟩;split at h2
       ·exact ih _ _ _ _ hk h2
       ·exact ih _ _ _ _ hk h2
       ·exact h2.mono fun e w ⟨v,q1,q2⟩=>⟨v,q1,ih _ _ _ _ hk q2⟩
       ·intro c cs;obtain ⟨v,w',q1,q2⟩:=h2 c cs;exact ⟨v,w',ih _ _ _ _ hk q1,q2⟩
       ·exact h2.elim
      ·rename_i hw;rw [l5 hw];exact ih _ _ _ _ hk h
  exact mono l _ _ a w (fun a' w' ⟨h1,h2⟩=>hk a' w' h1 h2) (Wn l a w h)
theorem Sim.absent {w:World}{I:Nat→Prop}{ρ:Rho}{a:Act}{u:Nat}(hs:Sim w I ρ N s a)(hu: ∀d,ρ (d,u)=none)(d:Nat):s.h (d,u)=none:=by
  cases hb:s.h (d,u)with
  |none=>rfl
  |some b=>
   obtain ⟨x,hx⟩:=(hs.heap.blk _ b hb).rho;rw [hu d]at hx;cases hx
theorem Oi {aops:List AOp}(h: ∀u,(∀k,s.h k≠none→k.2≠u)→M9 P u aops s.t s.h fun t' h'=>Q .nrm ⟨t',h'⟩):AW P N rk (.reg aops) s Q:=fun M c hc=>by
  obtain ⟨id,ops,rfl,h1⟩:=Bs hc;intro w I ρ a hs ro hro;obtain ⟨u,hu,hk⟩:=hs.fresh_u;obtain ⟨C,hlen⟩:=BO h1;refine GW (Rg (K:=fun a' w'=> ∃s' I' ρ',Q .nrm s'∧Sim w' I' ρ' N s' a'∧Tr w I ρ s.h w' I' ρ' s'.h) ?_ fun a' w' ⟨s',I',ρ',q1,q2,q3⟩ hd=>⟨s',I',ρ',q1,q2,q3,by rw [hd];exact NewD.refl _ _⟩);rw [List.range_eq_range'];exact Yj C ops.size 0 u (by omega) hs (Free.of hu) (by simpa using h u hk) fun s' a' w' ρ' I' hq hs' tr'=>⟨s',I',ρ',hq,hs',tr'⟩
theorem Tr.drawn {w w':World}{I I':Nat→Prop}{ρ ρ':Rho}{h h':C7}{n:Nat}(t:Tr {w with drawn:=n} I ρ h w' I' ρ' h'):Tr w I ρ h w' I' ρ' h':=
  ⟨t.os,t.tape,t.output,t.size,t.frame,t.imm,t.immBack,t.ownBack,t.rho⟩
theorem Sim.drawn {w:World}{I:Nat→Prop}{ρ:Rho}{a:Act}(hs:Sim w I ρ N s a)(n:Nat):Sim {w with drawn:=n} I ρ N s a:=
  ⟨hs.size,⟨hs.defers.nd,hs.defers.each⟩,fun i=>(hs.tmp i).keep (fun _ _=>rfl) (fun _ h=>h) (fun _ _ h=>h),hs.heap.same rfl⟩
theorem DK {aops:List AOp}{pairs:List (Nat×Nat)}(h: ∀u,(∀k,s.h k≠none→k.2≠u)→Kf P u aops s.t s.h fun t' h' tr=>BM tr pairs=true∧Q .nrm ⟨t',h'⟩):AW P N rk (.draw aops pairs) s Q:=fun M c hc=>by
  obtain ⟨id,ops,rfl,h1,hm,hb,hsl,rfl⟩:=Bs hc;intro w I ρ a hs ro hro;obtain ⟨u,hu,hk⟩:=hs.fresh_u;obtain ⟨s',tr,hrt,hap,hq⟩:=BL (h u hk);obtain ⟨C,hlen⟩:=BO h1;obtain ⟨R,g0,g1,g2,g3⟩:=hrt.run;refine Qp fun t=>Rg (K:=fun a' w'=> ∃s' I' ρ',Q .nrm s'∧Sim w' I' ρ' N s' a'∧Tr w I ρ s.h w' I' ρ' s'.h) ?_ fun a' w' ⟨s',I',ρ',q1,q2,q3⟩ hd=>⟨s',I',ρ',q1,q2,q3,by rw [hd];exact NewD.refl _ _⟩;exact FB C (FX hb hsl) hlen R (hs.absent hu) g0 g1 (JP g3 (DJ _) hap) t hm (hs.drawn _) hu fun a' w' ρ' I' hs' tr'=>⟨s',I',ρ',hq,hs',tr'.drawn⟩
theorem Vs {u:Nat}: ∀{aops:List AOp} {t:Nat→AV} {h:C7} {K:(Nat→AV)→C7→Prop},(∀o∈aops,W5 o.k≠7)→M9 P u aops t h K→Kf P u aops t h fun t' h' _=>K t' h'
  | [],t,h,K,_,hr=>by simpa only [Kf,M9] using hr
  |⟨dst,k,g⟩::r,t,h,K,hn,hr=>by
   have hr':=hr;have hrec: ∀t' h',M9 P u r t' h' K→Kf P u r t' h' fun t' h' _=>K t' h':=fun t' h'=>Vs (fun o ho=>hn o (by simp [ho]))
   have hop: ∀(A B:AV→List (D7×Option Blk)→Prop),(∀v ups,A v ups→B v ups)→Wx P u dst t h k A→Wx P u dst t h k B:=by
     intro A B hAB ho;unfold Wx at ho ⊢;split at ho<;>(try exact ho.elim)<;>(try (split at ho<;>(try exact ho.elim)<;>(try (split at ho<;>(try exact ho.elim)))<;>exact hAB _ _ ho))<;>(try exact DG hAB ho)
     ·unfold DF at ho ⊢;split at ho
      ·split at ho
       ·obtain ⟨r,h1,h2,h3⟩:=ho;exact ⟨r,h1,h2,hAB _ _ h3⟩
       ·exact ho.elim
      ·exact ho.elim
   unfold M9 at hr;split at hr
   ·exact (hn _ List.mem_cons_self rfl).elim
   ·simp only [Kf];unfold gW at hr ⊢;split at hr
    ·exact hop _ _ (fun v ups=>hrec _ _) hr
    ·split at hr
     ·split at hr
      ·rename_i hcb;simp only [hcb,if_true];exact hop _ _ (fun v ups=>hrec _ _) hr
      ·rename_i hcb;simp only [hcb,if_false];exact hrec _ _ hr
     ·exact hrec _ _ hr
     ·exact hr.elim
end
end Go.Abs
namespace Go.Abs
open Go
section
variable {ops:Array Oper}
theorem Ord.congr {S S':Nat→Bool}(h: ∀i,S i=S' i): ∀{L:List Nat},Ord ops S L→Ord ops S' L:=by
  intro L ho;have:S=S':=funext h
  rwa [← this]
theorem FE (hb: ∀i o,ops[i]? =some o→∀e∈Z2 o,e<i){n b:Nat}(hn:n=ops.size)(hc: ∀i j,i<n→b≤j→j<i→j∈(Mc ops).getD i []): ∀(k m:Nat) (S:Nat→Bool) (L:List Nat),m+k=n→b≤m→Po ops S→(∀i,S i=decide (i<m))→Ord ops S L→
    (∀i,i<n→S i=true∨i∈L)→L=List.range' m k:=by
  intro k
  induction k with
  |zero=>
   intro m S L hm hbm hcl hS ho hall;cases L with
   |nil=>rfl
   |cons i r=>
    have h1:=ho.1;have h2:=ho.2.1;rw [hS]at h2;simp at h2;omega
  |succ k ih=>
   intro m S L hm hbm hcl hS ho hall;cases L with
   |nil=>
    have:=hall m (by omega);rw [hS]at this;simp at this
   |cons i r=>
    obtain ⟨h1,h2,h3,h4⟩:=ho;rw [hS]at h2;simp at h2
    have him:i=m:=by
      refine Classical.byContradiction fun hne=> ?_;have hlt:m<i:=by omega
      have hoi:ops[i]? =some ops[i]:=Array.getElem?_eq_getElem h1;have:=Pp hb hcl i _ hoi (h3 _ hoi) m (hc i m (by omega) hbm hlt);rw [hS]at this;simp at this
    subst him;rw [List.range'_succ];congr 1;refine ih (i+1) _ r (by omega) (by omega) (Rc hcl h3) (fun j=> ?_) h4 (fun j hj=> ?_)
    ·rw [hS];by_cases e:j=i
     ·subst e;simp
     ·rw [show (j==i)=false by simpa using e,Bool.or_false];simp only [decide_eq_decide];omega
    ·rcases hall j hj with h|h
     ·exact .inl (by simp [h])
     ·rcases lQ.1 h with rfl|h
      ·exact .inl (by simp)
      ·exact .inr h
theorem HG (hb: ∀i o,ops[i]? =some o→∀e∈Z2 o,e<i){n b:Nat}(hn:n=ops.size)(hbn:b<n)(h0: ∀j,j<b→j∈(Mc ops).getD b [])(hc: ∀i j,i<n→b≤j→j<i→j∈(Mc ops).getD i []):
    ∀(L:List Nat) (S:Nat→Bool),Po ops S→(∀i,S i=true→i<b)→Ord ops S L→(∀i,i<n→S i=true∨i∈L)→
    ∃L1,L=L1++List.range' b (n - b)∧Ord ops S L1∧(∀i∈L1,i<b)∧∀i,i<b→S i=true∨i∈L1:=by
  intro L
  induction L with
  |nil=>
   intro S hcl hS ho hall;rcases hall b hbn with h|h
   ·have:=hS b h;omega
   ·simp at h
  |cons i r ih=>
   intro S hcl hS ho hall;have ho':=ho;obtain ⟨h1,h2,h3,h4⟩:=ho;have hoi:ops[i]? =some ops[i]:=Array.getElem?_eq_getElem h1;have hanc:=Pp hb hcl i _ hoi (h3 _ hoi);by_cases hib:i<b
   ·obtain ⟨L1,e1,e2,e3,e4⟩:=ih _ (Rc hcl h3) (fun j hj=>by
      simp only [l7,l8]at hj;rcases hj with h|rfl
      ·exact hS j h
      ·exact hib) h4 (fun j hj=>by
      rcases hall j hj with h|h
      ·exact .inl (by simp [h])
      ·rcases lQ.1 h with rfl|h
       ·exact .inl (by simp)
       ·exact .inr h)
    refine ⟨i::L1,by rw [e1];rfl,⟨h1,h2,h3,e2⟩,fun j hj=> ?_,fun j hj=> ?_⟩
    ·rcases lQ.1 hj with rfl|hj
     ·exact hib
     ·exact e3 j hj
    ·rcases e4 j hj with h|h
     ·simp only [l7,l8]at h;rcases h with h|rfl
      ·exact .inl h
      ·exact .inr (by simp)
     ·exact .inr (by simp [h])
   ·have hall': ∀j,j<b→S j=true:=by
      intro j hj;by_cases e:i=b
      ·subst e;exact hanc j (h0 j hj)
      ·have:=hanc b (hc i b (by omega) (bB _) (by omega));have:=hS b this;omega
    refine ⟨[],?_,trivial,by simp,fun j hj=> .inl (hall' j hj)⟩;rw [List.nil_append];refine FE hb hn hc (n - b) b S (i::r) (by omega) (bB _) hcl (fun j=> ?_) ho' hall;by_cases e:j<b
    ·rw [hall' j e];simp [e]
    ·cases hq:S j with
     |false=>simp [e]
     |true=>exact absurd (hS j hq) e
theorem Rh {P:Program}{K:Act→World→Prop}: ∀(L1 L2:List Nat) (a:Act) (w:World),Jc P ops (Jc P ops K L2) L1 a w→Jc P ops K (L1++L2) a w
  | [],_,_,_,h=>h
  |i::r,L2,a,w,h=>by
   simp only [List.cons_append,Jc]at h ⊢;cases ho:ops[i]? with
   |none=>rw [ho]at h;exact h
   |some o=>
    rw [ho]at h;dsimp only at h ⊢
    have e: ∀(K K':Act→World→Prop),(∀a w,K a w→K' a w)→PA P o a w K→PA P o a w K':=by
      intro K K' hk ⟨h1,h2⟩;refine ⟨h1,?_⟩;split at h2
      ·exact hk _ _ h2
      ·exact hk _ _ h2
      ·exact h2.mono fun e w ⟨v,q1,q2⟩=>⟨v,q1,hk _ _ q2⟩
      ·intro c cs;obtain ⟨v,w',q1,q2⟩:=h2 c cs;exact ⟨v,w',hk _ _ q1,q2⟩
      ·exact h2.elim
    split at h
    ·rename_i hw;rw [l4 hw];exact e _ _ (fun a w=>Rh r L2 a w) h
    ·rename_i hw;rw [l5 hw];exact Rh r L2 _ _ h
end
section
variable {P:Program}{N:Nat}{rk:Option D7}{s:St}{Q:Ex→St→Prop}
def QW (aops:List AOp):Bool:=aops.all fun o=>W5 o.k !=7
theorem JU {aops:List AOp}(h:QW aops=true): ∀o∈aops,W5 o.k≠7:=fun o ho=>by simpa using lU.1 h o ho
theorem FZ {aops:List AOp}(hn:QW aops=true)(h: ∀u,(∀k,s.h k≠none→k.2≠u)→M9 P u aops s.t s.h fun t' h'=>Q .nrm ⟨t',h'⟩):AW P N rk (.draw aops []) s Q:=
  DK fun u hu=>by
   have:=Vs (JU hn) (h u hu);simpa [BM] using this
theorem NK {an:List (List Nat)}{n b:Nat}(h:NI an n b=true):b<n∧(∀j,j<b→j∈an.getD b [])∧∀i j,i<n→b≤j→j<i→j∈an.getD i []:=by
  unfold NI at h;simp only [l6,decide_eq_true_eq]at h;refine ⟨h.1.1,fun j hj=>by simpa using Ji h.1.2 hj,fun i j hi hj hji=> ?_⟩;have:=Ji h.2 hi;simp only [l7,decide_eq_true_eq]at this;rcases this with h|h
  ·omega
  ·have:=Ji h hji;simp only [l7,decide_eq_true_eq]at this;rcases this with h|h
   ·omega
   ·simpa using h
theorem JV {aops:List AOp}{b:Nat}(hn:QW (aops.take b)=true)
    (h: ∀u,(∀k,s.h k≠none→k.2≠u)→M9 P u (aops.take b) s.t s.h fun t' h'=> ∀u',(∀k,h' k≠none→k.2≠u')→M9 P u' (aops.drop b) t' h' fun t' h'=>Q .nrm ⟨t',h'⟩):AW P N rk (.drawB aops b []) s Q:=fun M c hc=>by
  obtain ⟨id,ops,rfl,h1,hm,hbk,hsl,hbar,hp⟩:=Bs hc;intro w I ρ a hs ro hro;obtain ⟨u,hu,hk⟩:=hs.fresh_u;obtain ⟨C,hlen⟩:=BO h1;obtain ⟨s',tr,hrt,hq⟩:=BL (Vs (JU hn) (h u hk));obtain ⟨R,g0,g1,g2,g3⟩:=hrt.run;have D:DrawOK ops (aops.take b) []:=by rw [hp];exact FX hbk (DI b hsl)
  obtain ⟨b1,b2,b3⟩:=NK hbar;refine Qp fun t=>Rg (K:=fun a' w'=> ∃s' I' ρ',Q .nrm s'∧Sim w' I' ρ' N s' a'∧Tr w I ρ s.h w' I' ρ' s'.h) ?_ fun a' w' ⟨s',I',ρ',q1,q2,q3⟩ hd=>⟨s',I',ρ',q1,q2,q3,by rw [hd];exact NewD.refl _ _⟩;simp only [Region.schedule,hm,Bool.true_or,if_true,Region.linearise]
  have hrep: ∀i,(Array.replicate ops.size false).getD i false=false:=by
    intro i;simp [Array.getD_eq_getD_getElem?,Array.getElem?_replicate];split<;>rfl
  obtain ⟨o1,o2⟩:=Sw D.back ops.size t (Array.replicate ops.size false) (by simp) (by
    unfold Ob
    exact Nat.le_trans (List.length_filter_le _ _) (by simp))
  have hcl:Po ops (fun i=>(Array.replicate ops.size false).getD i false):=by
    intro i o hi h;dsimp only at h;rw [hrep i]at h;cases h
  obtain ⟨L1,e1,e2,e3,e4⟩:=HG D.back hlen b1 b2 b3 _ _ hcl (fun i hi=>by rw [hrep i]at hi;cases hi) o1 (fun i hi=>o2 i (by omega));rw [e1];refine Rh _ _ _ _ ?_;have hlt:(aops.take b).length=b:=by rw [lR];omega
  have e0:R.τ (fun i=>(Array.replicate ops.size false).getD i false) (aops.take b).length=s:=by rw [DE R _ (fun i _=>hrep i),g0]
  refine JM (C.take b) D R (by rw [g0];exact hs.absent hu) (by intro p hp;simp at hp) L1 _ e2 (fun i hi=>by rw [hlt];exact e3 i hi) (fun i hi=>e4 i (by omega)) hcl (by rw [e0];exact hs.drawn _) (Free.of hu) ?_;rw [e0,g1];intro a' w' ρ' I' hs' tr';obtain ⟨u',hu',hk'⟩:=hs'.fresh_u;refine Yj C (aops.length - b) b u' (by omega) hs' (Free.of hu') (hq u' hk') ?_;exact fun s2 a2 w2 ρ2 I2 q g1 g2=>⟨s2,I2,ρ2,q,g1,(tr'.trans g2).drawn⟩
end
end Go.Abs
namespace Go.Abs
open Go
section
variable {P:Program}{N:Nat}
theorem FF {t:TypeId}{n:Nat}{ag:Bool}{w:World}{I:Nat→Prop}{ρ:Rho}{h:C7}{p v:AV}{x:Value}(H:HeapOK w I ρ h)(hn:Zi P t=some n)(hag:Qt P t=some ag)(hx:RepV w I ρ p x)
    (hv:(match V0 h p with
      |some cs=>if ag then (if n≤cs.length then some (Ce (cs.take n))else none)else cs.head?
      |none=>none)=some v): ∃A y,x= .pointer (some A)∧(loadVar t A).run P w= .ok y w∧RepV w I ρ v y:=by
  split at hv
  ·rename_i cs hcs;obtain ⟨A,hA,hc⟩:=Wi H hx hcs;cases ag with
   |true=>
    simp only [if_true]at hv;split at hv
    ·rename_i hl;cases hv;obtain ⟨y,hy,hr⟩:=CM hag hn hl hc;exact ⟨A,y,hA,hy,hr⟩
    ·cases hv
   |false=>
    simp only [Bool.false_eq_true,if_false]at hv;cases cs with
    |nil=>cases hv
    |cons c cs=>
     obtain rfl:c=v:=by simpa using hv
     obtain ⟨y0,h1,h2,h3⟩:=hc 0 c rfl;have e0:A.add 0=A:=by simp [Addr.add]
     rw [e0]at h1;obtain ⟨y,hy,hr⟩:=CN (P:=P) hag h1 h3;exact ⟨A,y,hA,hy,hr⟩
  ·cases hv
inductive RV where
  |t (n:Nat)
  |cell (a n:Nat) (agg:Bool)
def Yn (P:Program):ResultVar→Option RV
  | .tmp t=>some (.t t)
  | .cell a ty=>match Zi P ty,Qt P ty with
    |some n,some ag=>some (.cell a n ag)
    |_,_=>none
def Tk (t:Nat→AV)(h:C7):RV→Option AV
  | .t i=>some (t i)
  | .cell a n ag=>match V0 h (t a)with
      |some cs=>if ag then (if n≤cs.length then some (Ce (cs.take n))else none)else cs.head?
      |none=>none
def Vt (t:Nat→AV)(h:C7):List RV→Option (List AV)
  | []=>some []
  |r::rs=>match Tk t h r,Vt t h rs with
   |some v,some vs=>some (v::vs)
   |_,_=>none
def Ui (t:Nat→AV)(h:C7)(rs:List RV):Option D:=match Vt t h rs with
  |some [v]=>L8 h 6 v
  |some vs=>(N9 (L8 h 6) vs).map .tup
  |none=>none
def AJ (a:Act):ResultVar→Sem Value
  | .tmp t=>pure (a.tmps.getD t undef)
  | .cell c t=>do loadVar t (← asAddr (a.tmps.getD c undef))
theorem Mu (fn:Func)(a:Act)(w:World)(xs:List Value)(h:(fn.results.toList.mapM (AJ a)).run P w= .ok xs w):(results fn a.tmps).run P w= .ok (if h:xs.length=1 then xs[0]else .tuple xs.toArray) w:=by
  have e:results fn a.tmps=(fn.results.mapM (AJ a)>>=fun vs=>pure (if h:vs.size=1 then vs[0]else .tuple vs)):=by
    unfold results;congr 1
  rw [e,Array.mapM_eq_mapM_toList];simp [h]
theorem Ri {w:World}{I:Nat→Prop}{ρ:Rho}{s:St}{a:Act}(hs:Sim w I ρ N s a): ∀{rvs:List ResultVar} {rs:List RV} {vs:List AV},rvs.mapM (Yn P)=some rs→Vt s.t s.h rs=some vs→
    ∃xs:List Value,(rvs.mapM (AJ a)).run P w= .ok xs w∧xs.length=vs.length∧
     ∀(i:Nat) c,vs[i]? =some c→RepV w I ρ c (xs.getD i undef)
  | [],rs,vs,h1,h2=>by
    simp at h1;subst h1;simp [Vt]at h2;subst h2;exact ⟨[],by simp,rfl,by simp⟩
  |rv::rvs,rs,vs,h1,h2=>by
   simp only [List.mapM_cons,Option.pure_def,lB,Option.bind_eq_some_iff,Option.some.injEq]at h1;obtain ⟨r,hr,rs',hrs,rfl⟩:=h1;simp only [Vt]at h2;split at h2
   ·rename_i v vs' hv hvs;cases h2;obtain ⟨xs,g1,g2,g3⟩:=Ri hs hrs hvs
    have hone: ∃x,(AJ a rv).run P w= .ok x w∧RepV w I ρ v x:=by
      cases rv with
      |tmp t=>
       simp only [Yn,Option.some.injEq]at hr;subst hr;simp only [Tk,Option.some.injEq]at hv;subst hv;exact ⟨_,by simp [AJ],hs.tmp t⟩
      |cell c t=>
       simp only [Yn]at hr;split at hr
       ·rename_i n ag hn hag;cases hr;obtain ⟨A,y,e1,e2,e3⟩:=FF hs.heap hn hag (hs.tmp c) hv;exact ⟨y,by simp [AJ,e1,asAddr,e2],e3⟩
       ·cases hr
    obtain ⟨x,f1,f2⟩:=hone;refine ⟨x::xs,?_,by simp [g2],fun i c hi=> ?_⟩
    ·rw [List.mapM_cons];simp [f1,g1]
    ·cases i with
     |zero=>simp at hi;subst hi;exact f2
     |succ i=>exact g3 i c (by simpa using hi)
   ·cases h2
def HH (args:List D):Nat→AV:=fun i=>match args[i]? with
  |some d=> .d d
  |none=> .any
structure FnOK (P:Program)(f:FuncId)(N:Nat)(rs:List RV)(ac:AC):Prop where
  ex: ∃fn c,P.funcs[f]? =some fn∧fn.body=some c∧fn.ntmps=N∧fn.results.toList.mapM (Yn P)=some rs∧(∃M,Z1 P N M c=some ac)∧(fn.name== "runtime.NumGoroutine")=false
theorem FnOK.enters {f:FuncId}{rs:List RV}{ac:AC}(F:FnOK P f N rs ac):Yd P f:=by
  obtain ⟨fn,c,hf,hb,_,_,_,hn⟩:=F.ex;intro vs w;have hn': ¬fn.name= "runtime.NumGoroutine" :=by simpa using hn
  simp [callFunc,hf,hb,hn']
theorem BS {cs:List Frame}: ∀(ds:List Deferred) (w:World) (fr:Frame),fr.mode= .returning→fr.defers=ds→ds.Nodup→(∀d∈ds,∃r,d={target:= .collected r,args:= #[]}∧w.heap[r]? =some (.deferred (some [])))→
    ∃w',Steps P (lone fr cs w) (lone {fr with defers:= []} cs w')∧w'.os=w.os∧w'.tape=w.tape∧w'.output=w.output∧w'.heap.size=w.heap.size∧∀b,(∀d∈ds,d≠{target:= .collected b,args:= #[]})→w'.heap[b]? =w.heap[b]?:=by
  intro ds
  induction ds with
  |nil=>
   intro w fr hm hd _ _;have:({fr with defers:= []}:Frame)=fr:=by cases fr;simp at hd;simp [hd]
   rw [this];exact ⟨w, .refl _ _,rfl,rfl,rfl,rfl,fun _ _=>rfl⟩
  |cons d r ih=>
   intro w fr hm hd hnd hall;obtain ⟨b,rfl,hb⟩:=hall d (by simp);have hlt:b<w.heap.size:=(Array.getElem?_eq_some_iff.1 hb).1;have hst:step P (lone fr cs w)= .next (lone {fr with defers:=r} cs (w.putObj b (.deferred none))):=step_lone_go (by simp [stepG,unwind,hm,hd,run_takeDeferred hb]);rw [List.nodup_cons]at hnd
   obtain ⟨w',g1,g2,g3,g4,g5,g6⟩:=ih (w.putObj b (.deferred none)) {fr with defers:=r} hm rfl hnd.2 (fun x hx=>by
     obtain ⟨q,rfl,hq⟩:=hall x (by simp [hx]);refine ⟨q,rfl,?_⟩;rw [World.putObj_heap_other (fun e=>hnd.1 (by rw [← e];exact hx))]
     exact hq)
   refine ⟨w', .head hst g1,g2,g3,g4,by rw [g5];simp,fun q hq=> ?_⟩;rw [g6 q (fun x hx=>hq x (by simp [hx]))];exact World.putObj_heap_other (fun e=>hq _ (List.mem_cons_self) (by rw [e]))
theorem Lb {f:FuncId}{fn:Func}{c:Code}{args:Array Value}{w:World}{I:Nat→Prop}{ρ:Rho}{s:St}{Q:Ex→St→Prop}{R:Ending→World→Prop}(hf:P.funcs[f]? =some fn)(hb:fn.body=some c)(_hN:fn.ntmps=N)
    (hs:Sim w I ρ N s {tmps:=args++Array.replicate (fn.ntmps - args.size) undef,defers:= []}) (h:AWc P N none c s Q)
    (hR: ∀e s' a' w' I' ρ',Q e s'→Sim w' I' ρ' N s' a'→Tr w I ρ s.h w' I' ρ' s'.h→(e= .nrm∨e= .ret)∧∃v,(results fn a'.tmps).run P w'= .ok v w'∧R (.returned v) w'):Calls P f args w R:=by
  intro cs
  let b:Frame:={fn:=f,tmps:= #[],todo:= [],defers:= [],mode:= .run,kind:= .normal,roundOf:=none}
  have henter:Frame.enter P f args .normal=Cd b {tmps:=args++Array.replicate (fn.ntmps - args.size) undef,defers:= []} [.code c]:=by
    simp [Frame.enter,Cd,hf,hb,b]
  obtain ⟨e,a',w',⟨s',I',ρ',hq,hs',tr,hnd⟩,harr⟩:=h w I ρ _ hs none rfl b [] cs rfl;rw [← henter]at harr
  have hret: ∃fr,Steps P (lone (Frame.enter P f args .normal) cs w) (lone fr cs w')∧fr.mode= .returning∧fr.defers=a'.defers∧fr.tmps=a'.tmps∧fr.kind= .normal∧fr.fn=f:=by
    rcases (hR e s' a' w' I' ρ' hq hs' tr).1 with rfl|rfl
    ·exact ⟨{Cd b a' []with mode:= .returning},Steps.trans harr (.one (step_lone_go (by simp [stepG,stepG.exec,Cd,b]))),rfl,rfl,rfl,rfl,rfl⟩
    ·obtain ⟨k',hst⟩:=harr;exact ⟨{Cd b a' (.code .ret::k')with mode:= .returning},Steps.trans hst (.one (step_lone_go (by simp [stepG,stepG.exec,Cd,b]))),rfl,rfl,rfl,rfl,rfl⟩
  obtain ⟨fr,hst,hm,hd,ht,hk,hfn⟩:=hret;obtain ⟨w2,u1,u2,u3,u4,u5,u6⟩:=BS (P:=P) (cs:=cs) a'.defers w' fr hm hd hs'.defers.nd (fun d hd=>let ⟨r,h1,h2,_,_⟩:=hs'.defers.each d hd;⟨r,h1,h2⟩)
  have hown: ∀g,own ρ' s'.h g→w2.heap[g]? =w'.heap[g]?:=fun g hg=>u6 g fun d hd e=>by
    obtain ⟨r,h1,_,_,h4⟩:=hs'.defers.each d hd;rw [h1]at e;simp at e;exact h4 (e▸hg)
  have hI: ∀g,I' g→w2.heap[g]? =w'.heap[g]?:=fun g hg=>u6 g fun d hd e=>by
    obtain ⟨r,h1,_,h3,_⟩:=hs'.defers.each d hd;rw [h1]at e;simp at e;exact h3 (e▸hg)
  have hH:=hs'.heap;have H2:HeapOK w2 I' ρ' s'.h:=hH.keep hown hI (fun _ h=>h) (fun g hg=>hH.own_notI hg) (fun b hb=>by rw [u5];exact hH.ilt b hb) (fun _ _ h=>h) (by omega) hH.fresh hH.rone;have S2:Sim w2 I' ρ' N s' {tmps:=a'.tmps,defers:= []}:=⟨hs'.size,⟨List.nodup_nil,fun d hd=>by simp at hd⟩,fun i=>(hs'.tmp i).keep hI (fun _ h=>h) (fun _ _ h=>h),H2⟩
  have T2:Tr w I ρ s.h w2 I' ρ' s'.h:=by
    refine ⟨u2.trans tr.os,u3.trans tr.tape,u4.trans tr.output,by rw [u5];exact tr.size,fun g hg hn=> ?_,tr.imm,tr.immBack,tr.ownBack,tr.rho⟩;rw [u6 g (fun d hd e=> ?_)]
    ·exact tr.frame g hg hn
    ·obtain ⟨r,h1,h2,h3,h4⟩:=hs'.defers.each d hd;rw [h1]at e;simp at e;subst e;rcases hnd d hd with q|⟨r',q1,q2⟩
     ·simp at q
     ·rw [h1]at q1;simp at q1;omega
  obtain ⟨_,v,hr,hRv⟩:=hR e s' _ w2 I' ρ' hq S2 T2;refine ⟨.returned v,w2,{fr with defers:= []},hRv,Steps.trans hst u1,hfn,hm,rfl,hk,fn,by simpa [hfn] using hf,?_⟩;simpa [ht] using hr
def Tl (t:Nat→AV)(h:C7)(rs:List RV):Option AV:=match Vt t h rs with
  |some [v]=>some v
  |some vs=>some (.tup vs)
  |none=>none
theorem Yo {fn:Func}{rs:List RV}{w:World}{I:Nat→Prop}{ρ:Rho}{s:St}{a:Act}{v:AV}(hs:Sim w I ρ N s a)(hrs:fn.results.toList.mapM (Yn P)=some rs)(hv:Tl s.t s.h rs=some v):
    ∃x,(results fn a.tmps).run P w= .ok x w∧RepV w I ρ v x:=by
  unfold Tl at hv;split at hv
  ·rename_i v' hl;obtain rfl:v'=v:=by simpa using hv
   obtain ⟨xs,g1,g2,g3⟩:=Ri hs hrs hl
   obtain ⟨x,rfl⟩: ∃x,xs= [x]:=by
     cases xs with
     |nil=>simp at g2
     |cons x r=>cases r with
      |nil=>exact ⟨x,rfl⟩
      |cons=>simp at g2
   exact ⟨x,by rw [Mu fn a w _ g1];simp,g3 0 _ rfl⟩
  ·rename_i vs' hne hl;cases hv;obtain ⟨xs,g1,g2,g3⟩:=Ri hs hrs hl
   have hx1: ¬xs.length=1:=by
     intro h1;rw [g2]at h1;obtain ⟨v,rfl⟩:=List.length_eq_one_iff.1 h1;exact hne v rfl
   exact ⟨_,by rw [Mu fn a w _ g1,dif_neg hx1], .tup vs' xs (by omega) g3⟩
  ·cases hv
def BT (args:List AV):Nat→AV:=fun i=>args.getD i .any
theorem Rj {w:World}{I:Nat→Prop}{ρ:Rho}{h:C7}{args:List AV}{vs:List Value}{n:Nat}(H:HeapOK w I ρ h)(hl:args.length=vs.length)(hn:vs.length≤n)(hr: ∀(i:Nat) c,args[i]? =some c→RepV w I ρ c (vs.getD i undef)):
    Sim w I ρ n ⟨BT args,h⟩ {tmps:=vs.toArray++Array.replicate (n - vs.toArray.size) undef,defers:= []}:=by
  refine ⟨by simp;omega,⟨List.nodup_nil,fun d hd=>by simp at hd⟩,fun i=> ?_,H⟩;simp only [BT,List.getD];cases hq:args[i]? with
  |none=>exact .any _
  |some c=>
   have hi:=(lH.1 hq).1;have:=hr i c hq;rw [Array.getD_eq_getD_getElem?,Array.getElem?_append_left (by simpa using (by omega:i<vs.length))];simpa [List.getD] using this
theorem JW {f:FuncId}{rs:List RV}{ac:AC}(F:FnOK P f N rs ac){args:List AV}{h:C7}{K:AV→C7→Prop}(hl:args.length≤N)
    (hw:AW P N none ac ⟨BT args,h⟩ fun e s=>(e= .nrm∨e= .ret)∧∃v,Tl s.t s.h rs=some v∧K v s.h):ICall P f args h K:=by
  refine ⟨F.enters,?_⟩;obtain ⟨fn,c,hf,hb,hN,hrs,⟨M,hc⟩,hn⟩:=F.ex;intro w I ρ vs H hlen hrep;have hsim:=Rj (n:=N) H hlen (by omega) hrep;rw [← hN]at hsim;refine Lb (Q:=fun e s=>(e= .nrm∨e= .ret)∧∃v,Tl s.t s.h rs=some v∧K v s.h) hf hb rfl hsim (by rw [hN];exact hw M c hc) ?_;rintro e s' a' w' I' ρ' ⟨he,v,hv,hk⟩ hs' tr;obtain ⟨x,hx,hr⟩:=Yo hs' hrs hv;exact ⟨he,x,hx,x,v,I',ρ',s'.h,rfl,hr,hs'.heap,tr,hk⟩
theorem DL {fn:Func}{rs:List RV}{w:World}{I:Nat→Prop}{ρ:Rho}{s:St}{a:Act}{r:D}(hs:Sim w I ρ N s a)(hrs:fn.results.toList.mapM (Yn P)=some rs)(hres:Ui s.t s.h rs=some r):
    ∃x,(results fn a.tmps).run P w= .ok x w∧RepD w (fun b=>I b∨own ρ s.h b) r x:=by
  unfold Ui at hres;split at hres
  ·rename_i v hl;obtain ⟨x,h1,h2⟩:=Yo (v:=v) hs hrs (by unfold Tl;rw [hl]);exact ⟨x,h1,Hf hs.heap 6 v r x h2 hres⟩
  ·rename_i vs' hne hl;simp only [lD]at hres;obtain ⟨ds,hds,rfl⟩:=hres;obtain ⟨xs,g1,g2,g3⟩:=Ri hs hrs hl;obtain ⟨l1,l2⟩:=Cg hds
   have hx1: ¬xs.length=1:=by
     intro h1;rw [g2]at h1;obtain ⟨v,rfl⟩:=List.length_eq_one_iff.1 h1;exact hne v rfl
   refine ⟨_,by rw [Mu fn a w _ g1,dif_neg hx1], .tup ds xs (by omega) (fun i d hi=> ?_)⟩;obtain ⟨x,hx,hf⟩:=l2 i d hi;exact Hf hs.heap 6 x d _ (g3 i x hx) hf
  ·cases hres
theorem JX {f:FuncId}{rs:List RV}{ac:AC}(F:FnOK P f N rs ac){args:List D}{r:D}(hl:args.length≤N)
    (h:AW P N none ac ⟨HH args,fun _=>none⟩ fun e s=>(e= .nrm∨e= .ret)∧Ui s.t s.h rs=some r):PCall P f args r:=by
  refine ⟨F.enters,?_⟩;obtain ⟨fn,c,hf,hb,hN,hrs,⟨M,hc⟩,hn⟩:=F.ex;intro w I vs hI hlen hrep;have H0:HeapOK w I (fun _=>none) (fun _=>none):=⟨fun k b hb=>(by cases hb),fun k k' b b' g h1=>(by cases h1),fun k b g h1=>(by cases h1),fun k b g h1=>(by cases h1),hI,⟨0,fun _ _ _=>rfl⟩,fun k y hy=>(by cases hy)⟩
  have hsim:=Rj (n:=N) (args:=args.map .d) (h:=fun _=>none) H0 (by simpa using hlen) (by omega) (fun i c hc=>by
    rw [lI]at hc;cases hq:args[i]? with
    |none=>rw [hq]at hc;cases hc
    |some q=>rw [hq]at hc;cases hc;exact .d _ _ (hrep i q hq))
  have e:BT (args.map .d)=HH args:=by
    funext i;simp only [BT,HH,List.getD,lI];cases args[i]? <;>rfl
  rw [e,← hN]at hsim;refine Lb (Q:=fun e s=>(e= .nrm∨e= .ret)∧Ui s.t s.h rs=some r) hf hb rfl hsim (by rw [hN];exact h M c hc) ?_;rintro e s' a' w' I' ρ' ⟨he,hres⟩ hs' tr
  have hownI: ∀b,own ρ' s'.h b→¬b<w.heap.size:=fun b hb hlt=>by
    obtain ⟨k,x,h1,_⟩:=tr.ownBack b hb hlt;cases h1
  have hptr:PTr w I w' (fun b=>I' b∨own ρ' s'.h b):=by
    refine ⟨tr.os,tr.tape,tr.output,tr.size,fun b hb=>tr.frame b hb (fun ⟨k,x,h1,_⟩=>by cases h1),fun b hb=> .inl (tr.imm b hb),fun b hb hlt=> ?_,fun b hb=> ?_⟩
    ·rcases hb with hb|hb
     ·rcases tr.immBack b hb hlt with h|⟨k,x,h1,_⟩
      ·exact h
      ·cases h1
     ·exact absurd hlt (hownI b hb)
    ·rcases hb with hb|hb
     ·exact hs'.heap.ilt b hb
     ·exact hs'.heap.own_lt hb
  obtain ⟨x,hx,hr⟩:=DL hs' hrs hres;exact ⟨he,x,hx,x,_,rfl,hr,hptr⟩
end
end Go.Abs
namespace Go.Abs
open Go
def T:List (Nat×AV)→Nat→AV
  | [],_=> .any
  |(i,v)::l,j=>if j=i then v else T l j
def RO:List (Nat×AV)→Nat→AV→List (Nat×AV)
  | [],d,v=> [(d,v)]
  |(i,x)::l,d,v=>if d=i then (i,v)::l else (i,x)::RO l d v
theorem GA {α β:Type}[DecidableEq α](f:α→β)(d:α)(a b:β):W8 (W8 f d a) d b=W8 f d b:=by
  funext x;simp only [W8];split<;>rfl
theorem JY (i:Nat)(v:AV)(l:List (Nat×AV)):T ((i,v)::l)=W8 (T l) i v:=rfl
theorem PU (i:Nat)(v:AV)(l:List (Nat×AV))(j:Nat):T ((i,v)::l) j=if j=i then v else T l j:=rfl
theorem QX (j:Nat):T [] j= .any:=rfl
def H:List (D7×Blk)→C7
  | [],_=>none
  |(i,v)::l,j=>if j=i then some v else H l j
def RP:List (D7×Blk)→D7→Blk→List (D7×Blk)
  | [],d,v=> [(d,v)]
  |(i,x)::l,d,v=>if d=i then (i,v)::l else (i,x)::RP l d v
def QY:List (D7×Blk)→D7→List (D7×Blk)
  | [],_=> []
  |(i,x)::l,d=>if d=i then QY l d else (i,x)::QY l d
theorem RQ (i:D7)(v:Blk)(l:List (D7×Blk))(j:D7):H ((i,v)::l) j=if j=i then some v else H l j:=rfl
def FG:Nat→List D→List (Nat×AV)
  |_,[]=> []
  |n,d::r=>(n, .d d)::FG (n+1) r
theorem JZ: ∀(args:List D) (n:Nat) (i:Nat),T (FG n args) (n+i)=match args[i]? with
    |some d=> .d d
    |none=> .any
  | [],n,i=>by simp [FG,T]
  |d::r,n,i=>by
   cases i with
   |zero=>simp [FG,T]
   |succ i=>
    have:=JZ r (n+1) i;simp only [FG,T];rw [l5 (by omega),show n+ (i+1)=n+1+i by omega,this];simp
theorem NL (args:List D):HH args=T (FG 0 args):=by
  funext i;have:=JZ args 0 i;rw [bE]at this;rw [this];rfl
section
variable {P:Program}{N:Nat}{rk:Option D7}{s:St}{Q:Ex→St→Prop}{l:List (Nat×AV)}{g:List (D7×Blk)}
theorem ICall.mono {f:FuncId}{avs:List AV}{h:C7}{K K':AV→C7→Prop}(hk: ∀v h,K v h→K' v h)(hc:ICall P f avs h K):ICall P f avs h K':=
  ⟨hc.1,fun w I ρ vs H hl hr=>(hc.2 w I ρ vs H hl hr).mono fun _ _ ⟨x,v,I',ρ',h',e,r1,r2,r3,r4⟩=>⟨x,v,I',ρ',h',e,r1,r2,r3,hk _ _ r4⟩⟩
theorem YCall.mono {k:D7}{avs:List AV}{h:C7}{K K':AV→C7→Prop}(hk: ∀v h,K v h→K' v h)(hc:YCall P k avs h K):YCall P k avs h K':=by
  intro w I ρ l vs H hl hn hr;obtain ⟨f,tmps,as,bd,h1,h2⟩:=hc w I ρ l vs H hl hn hr;refine ⟨f,tmps,as,bd,h1,fun c cs=> ?_⟩;obtain ⟨v,w',⟨x,I',ρ',h',r1,r2,r3,r4⟩,st⟩:=h2 c cs;exact ⟨v,w',⟨x,I',ρ',h',r1,r2,r3,hk _ _ r4⟩,st⟩
end
end Go.Abs
namespace Go.Abs
open Go
structure Sub (s0 s:St):Prop where
  t: ∀i,s0.t i= .any∨s0.t i=s.t i
  h: ∀k b,s0.h k=some b→s.h k=some b
def PV (t:Nat→AV):List (Nat×AV)→Prop
  | []=>True
  |(i,v)::r=>t i=v∧PV t r
def QZ (h:C7):List (D7×Blk)→Prop
  | []=>True
  |(k,b)::r=>h k=some b∧QZ h r
theorem PW {l:List (Nat×AV)}{g:List (D7×Blk)}{s:St}(h1:PV s.t l)(h2:QZ s.h g):Sub ⟨T l,H g⟩ s:=by
  constructor
  ·intro i;show T l i= .any∨T l i=s.t i
   induction l with
   |nil=>exact .inl rfl
   |cons p r ih=>
    obtain ⟨j,v⟩:=p;rw [PU];by_cases e:i=j
    ·subst e;rw [l4 rfl];exact .inr h1.1.symm
    ·rw [l5 e];exact ih h1.2
  ·intro k b;show H g k=some b→s.h k=some b
   induction g with
   |nil=>intro h;cases h
   |cons p r ih=>
    obtain ⟨j,v⟩:=p;rw [RQ];by_cases e:k=j
    ·subst e;rw [l4 rfl];intro h;cases h;exact h2.1
    ·rw [l5 e];exact ih h2.2
theorem Sub.refl (s:St):Sub s s:=⟨fun _=> .inr rfl,fun _ _ h=>h⟩
section
variable {P:Program}{N:Nat}{rk:Option D7}{s:St}{Q:Ex→St→Prop}
theorem PX {ac:AC}{s0:St}(hs:Sub s0 s)(h:AW P N rk ac s0 Q):AW P N rk ac s Q:=NJ hs.t hs.h h
theorem KA {α:Type}{a:AC}(st:α→St)(μ:α→Nat)(Inv:α→Prop)(x0:α)(h0:Inv x0)(hs0:Sub (st x0) s)
    (h: ∀x,Inv x→AW P N rk a (st x) (fun e s'=>match e with| .nrm=> ∃y,Inv y∧μ y<μ x∧Sub (st y) s'|e=>Q e s')):AW P N rk (.loop a) s Q:=by
  refine FY (fun n s=> ∃x,n=μ x∧Inv x∧Sub (st x) s) (μ x0) ⟨x0,rfl,h0,hs0⟩ ?_;rintro n s' ⟨x,rfl,hi,hsub⟩;refine PX hsub ((h x hi).mono ?_);intro e s2 hq;cases e with
  |nrm=>obtain ⟨y,h1,h2,h3⟩:=hq;exact ⟨μ y,h2,y,rfl,h1,h3⟩
  |_=>exact hq
theorem Uj {o:Opd}{a b:AC}{t:Bool}(ht:ev s.t o= .d (.v (.bool t)))(h1:t=true→AW P N rk a s Q)(h2:t=false→AW P N rk b s Q):AW P N rk (.cond o a b) s Q:=by
  refine BR ht ?_;cases t
  ·exact h2 rfl
  ·exact h1 rfl
theorem KB {o:Opd}{a b:AC}{p:Prop}[Decidable p](ht:ev s.t o= .d (.v (.bool (decide p))))(h1:p→AW P N rk a s Q)(h2: ¬p→AW P N rk b s Q):AW P N rk (.cond o a b) s Q:=
  Uj ht (fun h=>h1 (of_decide_eq_true h)) (fun h=>h2 (of_decide_eq_false h))
theorem HI {u:Nat}{K:(Nat→AV)→C7→Prop}{dst:Option Nat}{f:Opd}{args:List Opd}{rest:List AOp}{t:Nat→AV}{h:C7}{fid:FuncId}{avs:List AV}{ds:List D}{r:D}(hc:T3 t f args=some (fid,avs))(hd:N9 (L8 h 6) avs=some ds)
    (hp:PCall P fid ds r) (ha:He avs=some ds∨CU r=true) (hk:M9 P u rest (Sq t dst (.d r)) h K):M9 P u (⟨dst, .call f args,none⟩::rest) t h K:=by
  simp only [M9,gW,Wx,DF,hc,hd];exact ⟨r,hp,ha,hk⟩
end
end Go.Abs
namespace Go.Abs
open Go
section
variable {P:Program}{N:Nat}
theorem Rk {w:World}{I:Nat→Prop}{ρ:Rho}{h:C7}{k:D7}{t:Nat→AV}{r r':Loop}{l:Nat}(H:HeapOK w I ρ h)(hk:h k=some (.obj t r))(hρ:ρ k=some (.pointer (some ⟨l,0,none⟩)))(ht:r'.tmps=r.tmps):
    w.heap[l]? =some (.loop r)∧HeapOK (w.putObj l (.loop r')) I ρ (W8 h k (some (.obj t r')))∧Tr w I ρ h (w.putObj l (.loop r')) I ρ (W8 h k (some (.obj t r'))):=by
  obtain ⟨g,h1,h2,h3⟩:=H.blk k _ hk;rw [hρ]at h1;cases h1;have hlt:l<w.heap.size:=(Array.getElem?_eq_some_iff.1 h2).1;have hloc: ∀r,M2 ρ k (.obj t r)=some l:=fun r=>by simp [M2,hρ,De]
  have hnI: ¬I l:=H.notI k _ l hk (hloc r)
  obtain ⟨q1,q2⟩:=Qs (w':=w.putObj l (.loop r')) H k (.obj t r) (.obj t r') l hk (hloc r) (hloc r') rfl rfl rfl (by simp) (fun i hi=>World.putObj_heap_other hi)
    ⟨l,hρ,World.putObj_heap_same hlt,fun i=>by
      rw [ht]
      exact (h3 i).keep (fun b hb=>World.putObj_heap_other (fun e=>hnI (e▸hb))) (fun _ h=>h) (fun _ _ h=>h)⟩
  exact ⟨h2,q1,q2⟩
def Tm (t:Nat→AV):List Nat→List AV→Nat→AV
  |p::ps,v::vs=>Tm (W8 t p v) ps vs
  |_,_=>t
theorem Yp {w:World}{I:Nat→Prop}{ρ:Rho}: ∀(ps:List Nat) (avs:List AV) (vs:List Value) (t:Nat→AV) (tmps:Array Value),(∀p∈ps,p<tmps.size)→avs.length=ps.length→vs.length=ps.length→(∀i,RepV w I ρ (t i) (tmps.getD i undef))→
    (∀(i:Nat) c,avs[i]? =some c→RepV w I ρ c (vs.getD i undef))→
    ((ps.zip vs).foldl (fun tm (p:Nat×Value)=>tm.setIfInBounds p.1 p.2) tmps).size=tmps.size∧∀i,RepV w I ρ (Tm t ps avs i) (((ps.zip vs).foldl (fun tm (p:Nat×Value)=>tm.setIfInBounds p.1 p.2) tmps).getD i undef)
  | [],avs,vs,t,tmps,_,h1,h2,ht,_=>by
    have e1:avs= []:=lV h1;subst e1;exact ⟨rfl,ht⟩
  |p::ps,avs,vs,t,tmps,hp,h1,h2,ht,hr=>by
   cases avs with
   |nil=>simp at h1
   |cons a avs=>
    cases vs with
    |nil=>simp at h2
    |cons v vs=>
     have hp0:=hp p (by simp)
     obtain ⟨q1,q2⟩:=Yp ps avs vs (W8 t p a) (tmps.setIfInBounds p v) (fun x hx=>by simpa using hp x (by simp [hx])) (by simpa using h1) (by simpa using h2) (fun i=>by
       rw [Array.getD_eq_getD_getElem?,Array.getElem?_setIfInBounds];by_cases e:p=i
       ·subst e;rw [l4 rfl,l4 hp0,C8];exact hr 0 a rfl
       ·rw [l5 e,K5 _ _ _ _ (Ne.symm e),← Array.getD_eq_getD_getElem?]
        exact ht i) (fun i c hc=>hr (i+1) c hc)
     exact ⟨by simpa using q1,q2⟩
def PY (k:D7)(K:AV→C7→Prop)(e:Ex)(s:St):Prop:= ∃t r,s.h k=some (.obj t r)∧(match e with
  | .nrm=>K (.d (.v (.bool true))) (W8 s.h k (some (.obj t {r with state:= .ready,pending:=none})))
  | .ext id=>K (.d (.v (.bool false))) (W8 s.h k (some (.obj t {r with state:= .done,pending:=some (.exit id)})))
  | .ret=>K (.d (.v (.bool false))) (W8 s.h k (some (.obj t {r with state:= .done,pending:=some .ret}))))
theorem KC {k:D7}{t0:Nat→AV}{r:Loop}{as bd:AC}{M:Yl}{avs:List AV}{h:C7}{K:AV→C7→Prop}(hk:h k=some (.obj t0 r))(hsz:avs.length=r.params.size)(hN:r.tmps.size=N)(hps: ∀p∈r.params.toList,p<N)
    (has:Z1 P N M r.assign=some as) (hbd:Z1 P N M r.body=some bd)
    (hw:AW P N (some k) as ⟨Tm t0 r.params.toList avs,h⟩ fun e s=>e= .nrm∧∃t1 r1,s.h k=some (.obj t1 r1)∧r1.state= .ready∧
      AW P N (some k) bd ⟨s.t,W8 s.h k (some (.obj t1 {r1 with state:= .busy}))⟩ (PY k K)):YCall P k avs h K:=by
  intro w I ρ l vs H hρ hlen hrep;obtain ⟨g,h1,h2,h3⟩:=H.blk k _ hk;rw [hρ]at h1;cases h1;have hvs:vs.toArray.size=r.params.size:=by simp;omega
  refine ⟨r.fn,_,r.assign,r.body,run_yield h2 hvs,fun c cs=> ?_⟩
  let b:Frame:={(default:Frame)with fn:=r.fn,kind:= .normal,roundOf:=some l}
  have hfold:(Array.zip r.params vs.toArray).foldl (fun tmps (x:Tmp×Value)=>tmps.setIfInBounds x.1 x.2) r.tmps=(r.params.toList.zip vs).foldl (fun tm (p:Nat×Value)=>tm.setIfInBounds p.1 p.2) r.tmps:=by
    rw [← Array.foldl_toList];simp
  obtain ⟨q1,q2⟩:=Yp r.params.toList avs vs t0 r.tmps (by rw [hN];exact hps) (by simpa using hsz) (by simp;omega) h3 hrep;rw [← hfold]at q1 q2;generalize htm:(Array.zip r.params vs.toArray).foldl (fun tmps (x:Tmp×Value)=>tmps.setIfInBounds x.1 x.2) r.tmps=tm at q1 q2;have hsim:Sim w I ρ N ⟨Tm t0 r.params.toList avs,h⟩ {tmps:=tm,defers:= []}:=⟨by rw [q1,hN],⟨List.nodup_nil,fun d hd=>by simp at hd⟩,q2,H⟩;have hro:RoOK ρ (some k) (some l):=⟨l,rfl,hρ⟩;obtain ⟨e,a1,w1,⟨s1,I1,ρ1,⟨rfl,t1,r1,g1,g2,g3⟩,hs1,tr1,_⟩,harr⟩:=hw M _ has w I ρ _ hsim (some l) hro b [.beginRound, .code r.body] (c::cs) rfl
  have hb0:Frame.round l r.fn tm r.assign r.body .normal=Cd b {tmps:=tm,defers:= []} [.code r.assign, .beginRound, .code r.body]:=by
    simp [Frame.round,Cd,b]
  rw [hb0];obtain ⟨p1,p2,p3⟩:=Rk (r':={r1 with state:= .busy}) hs1.heap g1 (tr1.rho _ _ hρ) rfl;have st1:Steps P (lone (Cd b a1 [.beginRound, .code r.body]) (c::cs) w1) (lone (Cd b a1 [.code r.body]) (c::cs) (w1.putObj l (.loop {r1 with state:= .busy}))):= .one (stepR_beginRound (b:=b) rfl (run_beginRound p1 g2));have hs2:=hs1.step p2 p3;obtain ⟨e2,a2,w2,⟨s2,I2,ρ2,⟨t2,r2,u1,u2⟩,hs3,tr3,_⟩,harr2⟩:=g3 M _ hbd _ _ _ _ hs2 (some l) (hro.mono tr1.rho) b [] (c::cs) rfl;have trAll:=(tr1.trans p3).trans tr3;have hρ2:=trAll.rho _ _ hρ;cases e2 with
  |nrm=>
   obtain ⟨z1,z2,z3⟩:=Rk (r':={r2 with state:= .ready,pending:=none}) hs3.heap u1 hρ2 rfl;exact ⟨_,_,⟨_,I2,ρ2,_, .d _ _ (.v _),z2,trAll.trans z3,u2⟩,Steps.trans harr (Steps.trans st1 (Steps.trans harr2 (.one (stepR_round_end (b:=b) rfl rfl (run_endRound none z1)))))⟩
  |ext id=>
   obtain ⟨k',st,hx⟩:=harr2;obtain ⟨z1,z2,z3⟩:=Rk (r':={r2 with state:= .done,pending:=some (.exit id)}) hs3.heap u1 hρ2 rfl;exact ⟨_,_,⟨_,I2,ρ2,_, .d _ _ (.v _),z2,trAll.trans z3,u2⟩,Steps.trans harr (Steps.trans st1 (Steps.trans st (.one (stepR_round_exit (b:=b) rfl rfl hx (run_endRound (some (.exit id)) z1)))))⟩
  |ret=>
   obtain ⟨k',st⟩:=harr2;obtain ⟨z1,z2,z3⟩:=Rk (r':={r2 with state:= .done,pending:=some .ret}) hs3.heap u1 hρ2 rfl;exact ⟨_,_,⟨_,I2,ρ2,_, .d _ _ (.v _),z2,trAll.trans z3,u2⟩,Steps.trans harr (Steps.trans st1 (Steps.trans st (.one (stepR_round_ret (b:=b) rfl rfl (run_endRound (some .ret) z1)))))⟩
end
end Go.Abs
namespace Go.Abs
open Go
section
variable {P:Program}{N:Nat}{rk:Option D7}{s:St}{Q:Ex→St→Prop}
theorem HJ {w:World}{I:Nat→Prop}{ρ:Rho}{a:Act}(hs:Sim w I ρ N s a)(o:Obj):Sim (w.alloc o) I ρ N s a∧Tr w I ρ s.h (w.alloc o) I ρ s.h:=by
  have T:Tr w I ρ s.h (w.alloc o) I ρ s.h:=⟨rfl,rfl,rfl,by rw [World.size_alloc];omega,fun b hb _=>heap_alloc_old w o hb,fun _ h=>h,fun _ h _=> .inl h,fun _ h _=>h,fun _ _ h=>h⟩;have H:=hs.heap;have H':HeapOK (w.alloc o) I ρ s.h:=H.keep (fun g hg=>heap_alloc_old w o (H.own_lt hg)) (fun b hb=>heap_alloc_old w o (H.ilt b hb)) (fun _ h=>h) (fun g hg=>H.own_notI hg) (fun b hb=>bF (H.ilt b hb) T.size) (fun _ _ h=>h) T.size H.fresh H.rone;exact ⟨hs.step H' T,T⟩
theorem DM {w:World}{I:Nat→Prop}{ρ:Rho}{a:Act}(hs:Sim w I ρ N s a){k:D7}(hk:ρ k=none)(r:Loop)(hr:r.tmps=a.tmps):
    Sim (w.alloc (.loop r)) I (W8 ρ k (some (.pointer (some ⟨w.heap.size,0,none⟩)))) N ⟨s.t,W8 s.h k (some (.obj s.t r))⟩ a∧Tr w I ρ s.h (w.alloc (.loop r)) I (W8 ρ k (some (.pointer (some ⟨w.heap.size,0,none⟩)))) (W8 s.h k (some (.obj s.t r))):=by
  have H:=hs.heap;have hle:=Vp (x:= .pointer (some ⟨w.heap.size,0,none⟩)) hk
  obtain ⟨q1,q2⟩:=Qr H k (.loop r) (.pointer (some ⟨w.heap.size,0,none⟩)) (.obj s.t r) hk rfl (by intro g hg;simp [M2,C8,De]at hg;exact hg.symm)
    ⟨w.heap.size,C8 _ _ _,heap_alloc_new w _,fun i=>by rw [hr];exact (hs.tmp i).keep (fun b hb=>heap_alloc_old w _ (H.ilt b hb)) (fun _ h=>h) hle⟩
  exact ⟨hs.step q1 q2,q2⟩
def KD:AV→Option (FuncId×List AV×List AV)
  | .d (.fn (.func g) fs cs)=>some (g,fs.map .d,cs.map .d)
  | .fn (.func g) fs cs=>some (g,fs,cs)
  |_=>none
theorem KE {w:World}{I:Nat→Prop}{ρ:Rho}{x:AV}{v:Value}{g:FuncId}{fs cs:List AV}(h:RepV w I ρ x v)(hc:KD x=some (g,fs,cs)):
    ∃vfs vcs:List Value,v= .func (.func g) vfs.toArray vcs.toArray∧fs.length=vfs.length∧cs.length=vcs.length∧(∀(i:Nat) c,fs[i]? =some c→RepV w I ρ c (vfs.getD i undef))∧∀(i:Nat) c,cs[i]? =some c→RepV w I ρ c (vcs.getD i undef):=by
  unfold KD at hc;split at hc
  ·rename_i g' fs0 cs0;cases hc;cases h with
   |d _ _ hd=>
    cases hd with
    |fn _ _ _ vfs vcs hl hl' hr hr'=>
     refine ⟨vfs,vcs,rfl,by simpa using hl,by simpa using hl',fun i c hi=> ?_,fun i c hi=> ?_⟩
     ·rw [lI]at hi;cases hq:fs0[i]? with
      |none=>rw [hq]at hi;cases hi
      |some q=>rw [hq]at hi;cases hi;exact .d _ _ (hr i q hq)
     ·rw [lI]at hi;cases hq:cs0[i]? with
      |none=>rw [hq]at hi;cases hi
      |some q=>rw [hq]at hi;cases hi;exact .d _ _ (hr' i q hq)
  ·cases hc;cases h with
   |fn _ _ _ vfs vcs hl hl' hr hr'=>exact ⟨vfs,vcs,rfl,hl,hl',hr,hr'⟩
  ·cases hc
def OR (k:D7)(t:Nat→AV)(Q:Ex→St→Prop)(h':C7):Prop:= ∃t' r',h' k=some (.obj t' r')∧r'.state≠ .busy∧(match r'.pending with
  |none=>Q .nrm ⟨t,W8 h' k none⟩
  |some (.exit id)=>Q (.ext id) ⟨t,W8 h' k none⟩
  |some .ret=>Q .ret ⟨t,W8 h' k none⟩
  |_=>False)
theorem KF {w:World}{I:Nat→Prop}{ρ:Rho}{fs cs:List AV}{y:AV}{vfs vcs:List Value}{vy:Value}(h1:fs.length=vfs.length)(hf: ∀(i:Nat) c,fs[i]? =some c→RepV w I ρ c (vfs.getD i undef))(hy:RepV w I ρ y vy)
    (hc: ∀(i:Nat) c,cs[i]? =some c→RepV w I ρ c (vcs.getD i undef)): ∀(i:Nat) c,(fs++ [y]++cs)[i]? =some c→RepV w I ρ c ((vfs++ [vy]++vcs).getD i undef):=by
  intro i c hi;simp only [lM,List.getElem?_append,List.length_singleton]at hi;simp only [List.getD,lM,List.getElem?_append,List.length_singleton];rw [← h1];split
  ·rename_i h;rw [l4 h]at hi;have:=hf i c hi
   rwa [List.getD]at this
  ·rename_i h;rw [l5 h]at hi;split
   ·rename_i h2;rw [l4 h2]at hi;have e:i - fs.length=0:=by omega
    rw [e]at hi ⊢;simp at hi ⊢;subst hi;exact hy
   ·rename_i h2;rw [l5 h2]at hi;have:=hc _ c hi
    rwa [List.getD]at this
theorem HK {f:Opd}{ps:List Nat}{as bd:AC}{gf:FuncId}{fs cs:List AV}(hf:KD (ev s.t f)=some (gf,fs,cs))(hrk: ∀kk,rk=some kk→∃t r,s.h kk=some (.obj t r))
    (h: ∀(u:Nat) (r:Loop) (M:Yl),(∀q,s.h q≠none→q.2≠u)→s.h (1000000,u)=none→rk≠some (1000000,u)→r.state= .ready→r.pending=none→r.params.toList=ps→r.tmps.size=N→(∀p∈ps,p<N)→Z1 P N M r.assign=some as→Z1 P N M r.body=some bd→
     ICall P gf (fs++ [.yld (1000000,u)]++cs) (W8 s.h (1000000,u) (some (.obj s.t r))) fun _ h'=>OR (1000000,u) s.t Q h'):AW P N rk (.rangeF f ps as bd) s Q:=fun M c hc=>by
  obtain ⟨g,qs,x,y,rfl,hX,hqs,hpN,h1,h2⟩:=Bs hc;intro w I ρ a hs ro hro b k cs' hbro;obtain ⟨u,hu,hfk⟩:=hs.fresh_u;have hkey:s.h (1000000,u)=none:=hs.absent hu 1000000
  obtain ⟨l,mark,w1,r,ρ1,he,hr1,hr2,hr3,hr4,hr5,hr6,hρ1,hs1,tr1,hnd⟩: ∃(l:Nat) (mark:List Deferred) (w1:World) (r:Loop) (ρ1:Rho),(Instr.enterLoop b.fn a.tmps qs x y b.roundOf).run P w= .ok (l,mark) w1∧r.state= .ready∧r.pending=none∧r.params=qs∧r.tmps=a.tmps∧r.assign=x∧r.body=y∧
      ρ1 (1000000,u)=some (.pointer (some ⟨l,0,none⟩))∧Sim w1 I ρ1 N ⟨s.t,W8 s.h (1000000,u) (some (.obj s.t r))⟩ {a with defers:=mark++a.defers}∧Tr w I ρ s.h w1 I ρ1 (W8 s.h (1000000,u) (some (.obj s.t r)))∧NewD w a.defers (mark++a.defers):=by
    cases rk with
    |none=>
     have hro':ro=none:=hro;rw [hbro,hro'];obtain ⟨sa,ta⟩:=HJ hs (.deferred (some []))
     let r:Loop:={state:= .ready,pending:=none,fn:=b.fn,tmps:=a.tmps,params:=qs,assign:=x,body:=y,defers:=w.heap.size}
     obtain ⟨sb,tb⟩:=DM sa (k:=(1000000,u)) (hu 1000000) r rfl;have hsz:(w.alloc (.deferred (some []))).heap.size=w.heap.size+1:=by rw [World.size_alloc]
     refine ⟨_,_,_,r,_,run_enterLoop_outer _ _ _ _ _,rfl,rfl,rfl,rfl,rfl,rfl,by rw [C8,hsz],?_,ta.trans tb,fun d hd=> ?_⟩
     ·refine ⟨sb.size,⟨?_,fun d hd=> ?_⟩,sb.tmp,sb.heap⟩
      ·simp only [List.singleton_append,List.nodup_cons];refine ⟨fun hm=> ?_,sb.defers.nd⟩;obtain ⟨r',e1,e2,_⟩:=hs.defers.each _ hm;simp at e1;have:=(Array.getElem?_eq_some_iff.1 e2).1;omega
      ·rcases lQ.1 hd with rfl|hd
       ·refine ⟨w.heap.size,rfl,?_,fun hi=> ?_,fun ho=> ?_⟩
        ·rw [heap_alloc_old _ _ (by rw [hsz];omega)];exact heap_alloc_new w _
        ·have:=hs.heap.ilt _ hi;omega
        ·have:=(ta.trans tb).ownBack;obtain ⟨k',blk,g1,g2⟩:=ho;by_cases e:k'=(1000000,u)
         ·subst e;simp only [C8,Option.some.injEq]at g1;subst g1;simp [M2,C8,De,hsz]at g2
         ·have g1:s.h k'=some blk:=by rw [← g1];exact (K5 _ _ _ _ e).symm
          have:M2 ρ k' blk=some w.heap.size:=by
            rw [← g2];exact (Mr blk (K5 _ _ _ _ e)).symm
          have:=hs.heap.lt k' blk _ g1 this;omega
       ·exact sb.defers.each d hd
     ·rcases lQ.1 hd with rfl|hd
      ·exact .inr ⟨_,rfl,bB _⟩
      ·exact .inl hd
    |some kk=>
     obtain ⟨l0,hro1,hro2⟩:=hro;obtain ⟨t0,r0,hk0⟩:=hrk kk rfl;obtain ⟨g0,g1,g2,_⟩:=hs.heap.blk kk _ hk0;rw [hro2]at g1;cases g1;rw [hbro,hro1]
     let r:Loop:={state:= .ready,pending:=none,fn:=b.fn,tmps:=a.tmps,params:=qs,assign:=x,body:=y,defers:=r0.defers}
     obtain ⟨sb,tb⟩:=DM hs (k:=(1000000,u)) (hu 1000000) r rfl;exact ⟨_,_,_,r,_,run_enterLoop_inner g2 _ _ _ _ _,rfl,rfl,rfl,rfl,rfl,rfl,C8 _ _ _,sb,tb,fun d hd=> .inl (by simpa using hd)⟩
  have hne:rk≠some (1000000,u):=by
    intro e;obtain ⟨t0,r0,hk0⟩:=hrk _ e;rw [hkey]at hk0;cases hk0
  obtain ⟨hE,hC⟩:=h u r M hfk hkey hne hr1 hr2 (by rw [hr3,hqs]) (by rw [hr4];exact hs.size) hpN (by rw [hr5];exact h1) (by rw [hr6];exact h2);have hfr:=O2 hs1 hX;obtain ⟨vfs,vcs,hv,l1,l2,p1,p2⟩:=KE hfr hf
  have hv':a.eval g= .func (.func gf) vfs.toArray vcs.toArray:=by
    rw [← hv];cases g<;>rfl
  have hcall:=hC w1 I ρ1 (vfs++ [Value.func (.yield l) #[] #[]]++vcs) hs1.heap (by simp [l1,l2]) (KF l1 p1 (.yld _ l hρ1) p2)
  have hres:(resolve a.eval (rangeCall g l) 0).run P w1= .ok {target:= .fn (.func gf) vcs.toArray,args:=(vfs++ [Value.func (.yield l) #[] #[]]).toArray} w1:=by
    simp [resolve,Deferred.ofValue,hv',show ∀v,a.eval (.const v)=v from fun _=>rfl]
  have hinv:(invoke (.fn (.func gf) vcs.toArray) (vfs++ [Value.func (.yield l) #[] #[]]).toArray).run P w1= .ok (.enter gf (vfs++ [Value.func (.yield l) #[] #[]]++vcs).toArray) w1:=by
    simp [invoke,hE _ _]
  have henter:=stepR_rangeFunc (P:=P) (b:=b) (a:=a) (k:=k) (cs:=cs') (w:=w) he hres hinv;obtain ⟨e,w2,fr,hR,hsteps,_,hleave⟩:=hcall (Cd b {a with defers:=mark++a.defers} (.inRangeFunc l::k)::cs');obtain ⟨xv,v,I2,ρ2,h',rfl,q1,q2,q3,t',r',q4,q5,q6⟩:=hR;have hs2:Sim w2 I2 ρ2 N ⟨s.t,h'⟩ {a with defers:=mark++a.defers}:=hs1.step q2 q3;have hρ2:=q3.rho _ _ hρ1;obtain ⟨z1,z2,z3⟩:=Rk (r':={r' with state:= .exhausted}) hs2.heap q4 hρ2 rfl;have hs3:=hs2.step z2 z3;have hend:=run_endLoop (P:=P) z1 q5
  have hback:Steps P (lone (Cd b a (.code (.rangeFunc g qs x y)::k)) cs' w) (lone (Cd b {a with defers:=mark++a.defers} ((r'.pending.map Item.code).toList++k)) cs' (w2.putObj l (.loop {r' with state:= .exhausted}))):=by
    refine .head henter (Steps.trans hsteps (.head ?_ (.one (stepR_endRangeFunc (b:=b) hend))));have:=finish_atR_inRangeFunc (b:=b) (a:={a with defers:=mark++a.defers}) (k:=k) l xv;rw [← this];exact step_leave_returned hleave
  have hforget:Sim (w2.putObj l (.loop {r' with state:= .exhausted})) I2 ρ2 N ⟨s.t,W8 h' (1000000,u) none⟩ {a with defers:=mark++a.defers}∧Tr w I ρ s.h (w2.putObj l (.loop {r' with state:= .exhausted})) I2 ρ2 (W8 h' (1000000,u) none):=by
    have hsub: ∀q blk,W8 h' (1000000,u) none q=some blk→W8 h' (1000000,u) (some (.obj t' {r' with state:= .exhausted})) q=some blk:=by
      intro q blk hq;by_cases e:q=(1000000,u)
      ·subst e;rw [C8]at hq;cases hq
      ·rw [K5 _ _ _ _ e]at hq ⊢;exact hq
    have hown: ∀g,own ρ2 (W8 h' (1000000,u) none) g→own ρ2 (W8 h' (1000000,u) (some (.obj t' {r' with state:= .exhausted}))) g:=fun g ⟨q,blk,e1,e2⟩=>⟨q,blk,hsub _ _ e1,e2⟩;have Hx:=hs3.heap;have T:=(tr1.trans q3).trans z3
    refine ⟨⟨hs3.size,⟨hs3.defers.nd,fun d hd=> ?_⟩,hs3.tmp,⟨fun q blk hq=>Hx.blk q blk (hsub _ _ hq),fun q q' blk blk' g e1 e2=>Hx.sep q q' blk blk' g (hsub _ _ e1) (hsub _ _ e2),fun q blk g e1=>Hx.notI q blk g (hsub _ _ e1),fun q blk g e1=>Hx.lt q blk g (hsub _ _ e1),Hx.ilt,Hx.fresh,Hx.rone⟩⟩,
      ⟨T.os,T.tape,T.output,T.size,T.frame,T.imm,T.immBack,fun g hg hl=>T.ownBack g (hown g hg) hl,T.rho⟩⟩
    obtain ⟨r0,d1,d2,d3,d4⟩:=hs3.defers.each d hd;exact ⟨r0,d1,d2,d3,fun ho=>d4 (hown _ ho)⟩
  generalize w2.putObj l (.loop {r' with state:= .exhausted})=W at hback hforget;cases hp:r'.pending with
  |none=>
   rw [hp]at q6 hback;exact ⟨.nrm,_,_,⟨_,I2,ρ2,q6,hforget.1,hforget.2,hnd⟩,hback⟩
  |some c=>
   rw [hp]at q6 hback;cases c with
   |exit id=>exact ⟨.ext id,_,_,⟨_,I2,ρ2,q6,hforget.1,hforget.2,hnd⟩,k,hback,rfl⟩
   |ret=>exact ⟨.ret,_,_,⟨_,I2,ρ2,q6,hforget.1,hforget.2,hnd⟩,k,hback⟩
   |_=>exact q6.elim
end
end Go.Abs
namespace Go.Abs
open Go
section
variable {P:Program}{N:Nat}{rk:Option D7}{s:St}{Q:Ex→St→Prop}
theorem BU {ρ:Rho}{h h0:C7}(hs: ∀k b,h0 k=some b→h k=some b){g:Nat}(ho:own ρ h0 g):own ρ h g:=by
  obtain ⟨k,b,h1,h2⟩:=ho;exact ⟨k,b,hs _ _ h1,h2⟩
theorem HeapOK.sub {w:World}{I:Nat→Prop}{ρ:Rho}{h h0:C7}(H:HeapOK w I ρ h)(hs: ∀k b,h0 k=some b→h k=some b):HeapOK w I ρ h0:=
  ⟨fun k b hb=>H.blk k b (hs _ _ hb),fun k k' b b' g h1 h2=>H.sep k k' b b' g (hs _ _ h1) (hs _ _ h2),fun k b g h1=>H.notI k b g (hs _ _ h1),fun k b g h1=>H.lt k b g (hs _ _ h1),H.ilt,H.fresh,H.rone⟩
theorem Tr.sub {w w':World}{I I':Nat→Prop}{ρ ρ':Rho}{h h0 h':C7}(t:Tr w I ρ h0 w' I' ρ' h')(hs: ∀k b,h0 k=some b→h k=some b):Tr w I ρ h w' I' ρ' h':=
  ⟨t.os,t.tape,t.output,t.size,fun b hb hn=>t.frame b hb (fun ho=>hn (BU hs ho)),t.imm,fun b hb hl=>(t.immBack b hb hl).imp id (BU hs),fun b hb hl=>BU hs (t.ownBack b hb hl),t.rho⟩
theorem YCall.weak {k:D7}{avs:List AV}{h h0:C7}{K:AV→C7→Prop}(hs: ∀k b,h0 k=some b→h k=some b)(hc:YCall P k avs h0 K):YCall P k avs h K:=by
  intro w I ρ l vs H hl hn hr;obtain ⟨f,tmps,as,bd,h1,h2⟩:=hc w I ρ l vs (H.sub hs) hl hn hr;refine ⟨f,tmps,as,bd,h1,fun c cs=> ?_⟩;obtain ⟨v,w',⟨x,I',ρ',h',r1,r2,r3,r4⟩,st⟩:=h2 c cs;exact ⟨v,w',⟨x,I',ρ',h',r1,r2,r3.sub hs,r4⟩,st⟩
theorem ICall.weak {f:FuncId}{avs:List AV}{h h0:C7}{K:AV→C7→Prop}(hs: ∀k b,h0 k=some b→h k=some b)(hc:ICall P f avs h0 K):ICall P f avs h K:=
  ⟨hc.1,fun w I ρ vs H hl hr=>(hc.2 w I ρ vs (H.sub hs) hl hr).mono fun _ _ ⟨x,v,I',ρ',h',e,r1,r2,r3,r4⟩=>⟨x,v,I',ρ',h',e,r1,r2,r3.sub hs,r4⟩⟩
def fz (k:D7)(es:List (List D)):Nat→AV→AV
  |0,x=>x
  |n+1,x=>match x with
   | .sl k'=>if k'=k then .d (.list es)else .sl k'
   | .agg cs=>Ce (cs.map (fz k es n))
   | .tup cs=>QU (cs.map (fz k es n))
   | .fn f a b=>MP f (a.map (fz k es n)) (b.map (fz k es n))
   |x=>x
def SI (k:D7)(es:List (List D)):Blk→Blk
  | .box ty cs=> .box ty (cs.map (fz k es 3))
  |b=>b
def fzH (k:D7)(es:List (List D))(h:C7):C7:=fun q=>if q=k then none else (h q).map (SI k es)
theorem Xg {α β:Type}{f:α→β}{l:List α}{i:Nat}{y:β}(h:(l.map f)[i]? =some y): ∃x,l[i]? =some x∧f x=y:=by
  rw [lI]at h;cases hq:l[i]? with
  |none=>rw [hq]at h;cases h
  |some x=>rw [hq]at h;cases h;exact ⟨x,rfl,rfl⟩
end
end Go.Abs
namespace Go.Abs
open Go
theorem KG {l:List (Nat×AV)}{h:C7}{s:St}(h1:PV s.t l)(h2: ∀k b,h k=some b→s.h k=some b):Sub ⟨T l,h⟩ s:=⟨(PW (g:= []) h1 trivial).t,h2⟩
section
variable {P:Program}{u:Nat}{r:List AOp}{t:Nat→AV}{h:C7}{K:(Nat→AV)→C7→Prop}
theorem Jj (hk:K t h):M9 P u [] t h K:=by simpa only [M9] using hk
theorem R1 {d:Nat}{k:AK}(v:AV)(h0:W5 k=0)(hv:J1 t h k=some v)(hk:M9 P u r (W8 t d v) h K):M9 P u (⟨some d,k,none⟩::r) t h K:=by
  unfold M9;split
  ·simp [W5]at h0
  ·simp only [gW];unfold Wx;split<;>first|(simp [W5]at h0;done)|(rw [hv];exact hk)
theorem FH {d:Nat}{k:AK}(v:AV)(b:Blk)(h0:Ms k=true)(hv:Mb u d t k=some (v,b))(hk:M9 P u r (W8 t d v) (W8 h (d,u) (some b)) K):M9 P u (⟨some d,k,none⟩::r) t h K:=by
  unfold M9;split
  ·simp [Ms,W5]at h0
  ·simp only [gW];unfold Wx;split<;>first|(simp [Ms,W5]at h0;done)|(dsimp only;rw [hv];exact hk)
theorem DN {n:Nat}{p x:Opd}(k:D7)(off:Nat)(ty:TypeId)(bs cs:List AV)(hx:Gn (ev t x)=some cs)(hn:cs.length=n)(hp:ev t p= .ptr k off)(hb:h k=some (.box ty bs))(hl:off+n≤bs.length)
    (hk:M9 P u r t (W8 h k (some (.box ty (Gp bs off cs)))) K):M9 P u (⟨none, .store n p x,none⟩::r) t h K:=by
  unfold M9;simp only [gW,Wx,Gm,hx,hn,if_true,hp,hb,hl];exact hk
theorem HL {n:Nat}{p x:Opd}(k:D7)(sz i off:Nat)(ty:TypeId)(es:List (List D))(e:List D)(cs:List AV)(ds:List D)(hx:Gn (ev t x)=some cs)(hn:cs.length=n)(hp:ev t p= .aptr k sz i off)(hb:h k=some (.arr ty sz es))(he:es[i]? =some e)(hd:He cs=some ds)(hl:off+n≤e.length)
    (hk:M9 P u r t (W8 h k (some (.arr ty sz (es.set i (Gp e off ds))))) K):M9 P u (⟨none, .store n p x,none⟩::r) t h K:=by
  unfold M9;simp only [gW,Wx,Gm,hx,hn,if_true,hp,hb,he,hd,hl,and_self];exact hk
theorem Yq {d n:Nat}{p:Opd}(k:D7)(off:Nat)(ty:TypeId)(bs:List AV)(v:AV)(hp:ev t p= .ptr k off)(hb:h k=some (.box ty bs))(hn:n≤(bs.drop off).length)(hv:Ce ((bs.drop off).take n)=v)(hk:M9 P u r (W8 t d v) h K):M9 P u (⟨some d, .load n true p,none⟩::r) t h K:=
  R1 v rfl (by simp only [J1,hp,V0,hb,if_true,hn];rw [hv]) hk
theorem Vu {d n:Nat}{p:Opd}(es:List (List D))(i off:Nat)(e ds:List D)(hp:ev t p= .d (.lp es i off))(he:es[i]? =some e)(hn:n≤(e.drop off).length)(hv:(e.drop off).take n=ds)(hk:M9 P u r (W8 t d (.d (.agg ds))) h K):M9 P u (⟨some d, .load n true p,none⟩::r) t h K:=
  R1 (.d (.agg ds)) rfl (by
   simp only [J1,hp,V0,he,lE,if_true,lO,hn]
   have hall: ∀xs:List D,He (xs.map .d)=some xs:=by
     intro xs
     induction xs with
     |nil=>rfl
     |cons x r ih=>simp [He,ih]
   rw [← List.map_take,Ce,hall,hv]) hk
theorem FI {d sz:Nat}{x i:Opd}(es:List (List D))(k:IntKind)(n:Int)(e:List D)(hx:ev t x= .d (.list es))(hi:ev t i= .d (.v (.int k n)))(h1:0≤n)(he:es[n.toNat]? =some e)(hz:e.length=sz)(hk:M9 P u r (W8 t d (.d (.lp es n.toNat 0))) h K):
    M9 P u (⟨some d, .idxS sz x i,none⟩::r) t h K:=
  R1 _ rfl (by simp only [J1,hx,hi,he,h1,hz,and_self,if_true]) hk
theorem HM {d e sz:Nat}{ty:TypeId}{x y:Opd}(k:D7)(es ys:List (List D))(hy:Ad h sz (ev t y)=some ys)(hx:ev t x= .sl k)(hb:h k=some (.arr e sz es))(hl:es.length+ys.length≤1000000000)
    (hk:M9 P u r (W8 t d (.sl (d,u))) (W8 (W8 h k none) (d,u) (some (.arr e sz (es++ys)))) K):M9 P u (⟨some d, .append ty e sz x y,none⟩::r) t h K:=by
  unfold M9;simp only [gW,Wx,Gm,hy,hx,hb,hl,and_self,if_true,Option.getD_some];exact hk
theorem FJ {d e sz:Nat}{ty:TypeId}{x y:Opd}(z:List D)(ys:List (List D))(hy:Ad h sz (ev t y)=some (z::ys))(hx:ev t x= .d .nilS)(hl:(z::ys).length≤1000000000)
    (hk:M9 P u r (W8 t d (.sl (d,u))) (W8 h (d,u) (some (.arr e sz (z::ys)))) K):M9 P u (⟨some d, .append ty e sz x y,none⟩::r) t h K:=by
  unfold M9;simp only [gW,Wx,Gm,hy,hx,hl,if_true,Option.getD_some];exact hk
theorem Xh {d:Nat}{f:Opd}{args:List Opd}{fid:FuncId}{avs:List AV}{ds:List D}{v:D}(hc:T3 t f args=some (fid,avs))(hd:N9 (L8 h 6) avs=some ds)
    (hp:PCall P fid ds v) (ha:He avs=some ds∨CU v=true) (hk:M9 P u r (W8 t d (.d v)) h K):M9 P u (⟨some d, .call f args,none⟩::r) t h K:=
  HI hc hd hp ha hk
theorem KH {d:Nat}{f:Opd}{args:List Opd}(k:D7)(avs:List AV)(hf:ev t f= .yld k)(hav:args.map (ev t)=avs)(hc:YCall P k avs h fun v h'=> ∀u',(∀q,h' q≠none→q.2≠u')→M9 P u' r (W8 t d v) h' K):M9 P u (⟨some d, .icall f args,none⟩::r) t h K:=by
  unfold M9;simp only [gW];unfold Yi;rw [hf,hav];exact hc.mono fun v h' hq u' hu'=>⟨_,Sb.refl _,hq u' hu'⟩
theorem GB {h:C7}{u d:Nat}{b:Option Blk}{h':C7}(hu: ∀k,h k≠none→k.2≠u)(hs: ∀k x,h k=some x→h' k=some x): ∀k x,h k=some x→W8 h' (d,u) b k=some x:=by
  intro k x hk;have:k≠(d,u):=by rintro rfl;exact hu _ (by rw [hk];simp) rfl
  rw [K5 _ _ _ _ this];exact hs k x hk
theorem C6 {n:Nat}{x:D}:L8 h n (.d x)=some x:=by cases n<;>rfl
theorem Rl {n:Nat}{k:D7}{ty:TypeId}{sz:Nat}{es:List (List D)}(hb:h k=some (.arr ty sz es)):L8 h (n+1) (.sl k)=some (.list es):=by simp only [L8,hb]
theorem Dz {n:Nat}{k:D7}{off:Nat}{ty:TypeId}{cs:List AV}{ds:List D}(hb:h k=some (.box ty cs))(hc:N9 (L8 h n) cs=some ds):L8 h (n+1) (.ptr k off)=some (.bp ds off):=by simp only [L8,hb,hc,lE]
theorem KI {n:Nat}{cs:List AV}{ds:List D}(hc:N9 (L8 h n) cs=some ds):L8 h (n+1) (.agg cs)=some (.agg ds):=by simp only [L8,hc,lE]
theorem Qa {n:Nat}{f:Fn}{fs cs:List AV}{as bs:List D}(hf:N9 (L8 h n) fs=some as)(hc:N9 (L8 h n) cs=some bs):L8 h (n+1) (.fn f fs cs)=some (.fn f as bs):=by simp only [L8,hf,hc]
theorem G7 {f:AV→Option D}:N9 f []=some []:=rfl
theorem J2 {f:AV→Option D}{x:AV}{r:List AV}{d:D}{ds:List D}(h1:f x=some d)(h2:N9 f r=some ds):N9 f (x::r)=some (d::ds):=by simp only [N9,h1,h2]
theorem B4 {n:Nat}{v:AV}(hv:t n=v):Tk t h (.t n)=some v:=by rw [← hv];rfl
theorem M3 {a n:Nat}{k:D7}{off:Nat}{ty:TypeId}{bs:List AV}{v:AV}(hp:t a= .ptr k off)(hb:h k=some (.box ty bs))(hn:n≤(bs.drop off).length)(hv:Ce ((bs.drop off).take n)=v):Tk t h (.cell a n true)=some v:=by
  simp only [Tk,hp,V0,hb,if_true,hn];rw [hv]
theorem C0 {a:RV}{v:AV}{d:D}(hv:Tk t h a=some v)(hr:L8 h 6 v=some d):Ui t h [a]=some d:=by
  simp only [Ui,Vt,hv];exact hr
theorem Mv {a b:RV}{v w:AV}{d e:D}(hv:Tk t h a=some v)(hw:Tk t h b=some w)(hr:L8 h 6 v=some d)(hs:L8 h 6 w=some e):Ui t h [a,b]=some (.tup [d,e]):=by
  simp only [Ui,Vt,hv,hw,N9,hr,hs,lE]
theorem GC {a b c:RV}{v w x:AV}{d e f:D}(hv:Tk t h a=some v)(hw:Tk t h b=some w)(hx:Tk t h c=some x)(hr:L8 h 6 v=some d)(hs:L8 h 6 w=some e)(hq:L8 h 6 x=some f):Ui t h [a,b,c]=some (.tup [d,e,f]):=by
  simp only [Ui,Vt,hv,hw,hx,N9,hr,hs,hq,lE]
end
end Go.Abs
