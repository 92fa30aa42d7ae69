/-
  An abstract layer over the machine, first part: frames, values, memory, single operations.
-/
import Derived.Calls
import Derived.Below
import Derived.Laws.AppendOwn
import Derived.DataElems
import Derived.Deep.MidRow
import Derived.ChangeKeysEq
import Derived.Laws.StructEq
import Derived.Laws.BytesArg
import Derived.MapKept
import Derived.Maps.AppendAt
namespace Go.Abs
open Go
theorem W{α:Sort _}{a:α}:a=a:=rfl
theorem lA:type_of% @Option.bind_some:= @Option.bind_some
theorem lB:type_of% @Option.bind_eq_bind:= @Option.bind_eq_bind
theorem lC:type_of% @Option.some.inj:= @Option.some.inj
theorem lD:type_of% @Option.map_eq_some_iff:= @Option.map_eq_some_iff
theorem lE:type_of% @Option.map_some:= @Option.map_some
theorem lF:type_of% @List.mem_of_getElem?:= @List.mem_of_getElem?
theorem lG:type_of% @List.getElem?_eq_getElem:= @List.getElem?_eq_getElem
theorem lH:type_of% @List.getElem?_eq_some_iff:= @List.getElem?_eq_some_iff
theorem lI:type_of% @List.getElem?_map:= @List.getElem?_map
theorem lJ:type_of% @List.length_cons:= @List.length_cons
theorem lK:type_of% @List.length_append:= @List.length_append
theorem lL:type_of% @List.length_nil:= @List.length_nil
theorem lM:type_of% @List.append_assoc:= @List.append_assoc
theorem lN:type_of% @List.map_cons:= @List.map_cons
theorem lO:type_of% @List.length_map:= @List.length_map
theorem lP:type_of% @List.mem_append:= @List.mem_append
theorem lQ:type_of% @List.mem_cons:= @List.mem_cons
theorem lR:type_of% @List.length_take:= @List.length_take
theorem lS:type_of% @List.getElem?_append_right:= @List.getElem?_append_right
theorem lT:type_of% @List.getElem?_append_left:= @List.getElem?_append_left
theorem lU:type_of% @List.all_eq_true:= @List.all_eq_true
theorem lV:type_of% @List.eq_nil_of_length_eq_zero:= @List.eq_nil_of_length_eq_zero
theorem lW:type_of% @List.getElem?_drop:= @List.getElem?_drop
theorem lX:type_of% @List.getElem?_take:= @List.getElem?_take
theorem lY:type_of% @List.flatMap_cons:= @List.flatMap_cons
theorem lZ:type_of% @List.forall_mem_cons:= @List.forall_mem_cons
theorem l3:type_of% @List.mem_singleton:= @List.mem_singleton
theorem l4:type_of% @if_pos:= @if_pos
theorem l5:type_of% @if_neg:= @if_neg
theorem l6:type_of% @Bool.and_eq_true:= @Bool.and_eq_true
theorem l7:type_of% @Bool.or_eq_true:= @Bool.or_eq_true
theorem l8:type_of% @beq_iff_eq:= @beq_iff_eq
theorem l9:type_of% @Sum.elim_inl:= @Sum.elim_inl
theorem bA:type_of% @Sum.elim_inr:= @Sum.elim_inr
theorem bB:type_of% @Nat.le_refl:= @Nat.le_refl
theorem bC:type_of% @Nat.zero_le:= @Nat.zero_le
theorem bD:type_of% @Nat.add_mul:= @Nat.add_mul
theorem bE:type_of% @Nat.zero_add:= @Nat.zero_add
theorem bF:type_of% @Nat.lt_of_lt_of_le:= @Nat.lt_of_lt_of_le
def Cd (b:Frame)(a:Act)(todo:List Item):Frame:={b with tmps:=a.tmps,todo:=todo,defers:=a.defers,mode:= .run}
theorem CI (b:Frame)(a:Act)(todo:List Item)(x:Operand):(Cd b a todo).eval x=a.eval x:=by cases x<;>rfl
theorem GU (b:Frame)(a:Act)(todo:List Item):(Cd b a todo).eval=a.eval:=funext (CI b a todo)
section moves
variable {P:Program}{b:Frame}{a:Act}{k:List Item}{cs:List Frame}{w:World}
theorem ME:step P (lone (Cd b a (.code .skip::k)) cs w)= .next (lone (Cd b a k) cs w):=step_lone_go (by simp [stepG,stepG.exec,Cd])
theorem IE {l:Nat}:step P (lone (Cd b a (.code (.label l)::k)) cs w)= .next (lone (Cd b a k) cs w):=step_lone_go (by simp [stepG,stepG.exec,Cd])
theorem EB {id:Nat}:step P (lone (Cd b a (.inBlock id::k)) cs w)= .next (lone (Cd b a k) cs w):=step_lone_go (by simp [stepG,stepG.exec,Cd])
theorem EC {c:Code}:step P (lone (Cd b a (.inScope c::k)) cs w)= .next (lone (Cd b a k) cs w):=step_lone_go (by simp [stepG,stepG.exec,Cd])
theorem ED {x y:Code}:step P (lone (Cd b a (.code (.seq x y)::k)) cs w)= .next (lone (Cd b a (.code x:: .code y::k)) cs w):=step_lone_go (by simp [stepG,stepG.exec,Cd])
theorem MF {c:Operand}{x y:Code}{t:Bool}(h:a.eval c= .bool t):
    step P (lone (Cd b a (.code (.cond c x y)::k)) cs w)= .next (lone (Cd b a (.code (if t then x else y)::k)) cs w):=
  step_lone_go (by
    have:=CI b a (.code (.cond c x y)::k) c;simp only [Cd]at this
    simp [stepG,stepG.exec,Cd,this,h])
theorem Tx {id:Nat}{c:Code}:step P (lone (Cd b a (.code (.block id c)::k)) cs w)= .next (lone (Cd b a (.code c:: .inBlock id::k)) cs w):=step_lone_go (by simp [stepG,stepG.exec,Cd])
theorem Xj {c:Code}:step P (lone (Cd b a (.code (.scope c)::k)) cs w)= .next (lone (Cd b a (.code c:: .inScope c::k)) cs w):=step_lone_go (by simp [stepG,stepG.exec,Cd])
theorem Ty {c:Code}:step P (lone (Cd b a (.code (.loop c)::k)) cs w)= .next (lone (Cd b a (.code c:: .inLoop c::k)) cs w):=step_lone_go (by simp [stepG,stepG.exec,Cd])
theorem Zv {c:Code}:step P (lone (Cd b a (.inLoop c::k)) cs w)= .next (lone (Cd b a (.code c:: .inLoop c::k)) cs w):=step_lone_go (by simp [stepG,stepG.exec,Cd])
theorem MG {id:Nat}{k':List Item}(h:exitTo id k=some k'):step P (lone (Cd b a (.code (.exit id)::k)) cs w)= .next (lone (Cd b a k') cs w):=step_lone_go (by simp [stepG,stepG.exec,Cd,h])
theorem GV {id:Nat}{ops:Array Oper}:step P (lone (Cd b a (.code (.region id ops false)::k)) cs w)= .next (lone (Cd b a (.inRegion ops (List.range ops.size)::k)) cs w):=step_lone_go (by simp [stepG,stepG.exec,Cd])
theorem Xk {id:Nat}{ops:Array Oper}:
    step P (lone (Cd b a (.code (.region id ops true)::k)) cs w)=
      .next (lone (Cd b a (.inRegion ops (Region.schedule (P.follows .mixedOrders) ops (w.tape w.drawn (.order b.fn id)))::k)) cs {w with drawn:=w.drawn+1}):=
  step_lone_go (by simp [stepG,stepG.exec,Cd,choose,Sem.run,Question.forced,Question.cut])
theorem Zh {ops:Array Oper}:step P (lone (Cd b a (.inRegion ops []::k)) cs w)= .next (lone (Cd b a k) cs w):=step_lone_go (by simp [stepG,stepG.exec,Cd])
theorem Xl (ops:Array Oper)(i:Nat)(rest:List Nat)(v:Value):
    (Cd b a (.inRegion ops (i::rest)::k)).finish v=Cd b (a.put ((ops[i]?).bind (·.dst)) v) (.inRegion ops rest::k):=by
  cases h:(ops[i]?).bind (·.dst)<;>simp [Frame.finish,Cd,Act.put,h]
theorem EE {ops:Array Oper}{i:Nat}{rest:List Nat}(h:((ops[i]?).map (Region.wanted · (yielded ops a.tmps))).getD false=false):
    step P (lone (Cd b a (.inRegion ops (i::rest)::k)) cs w)=
      .next (lone (Cd b (a.put ((ops[i]?).bind (·.dst)) undef) (.inRegion ops rest::k)) cs w):=by
  rw [← Xl]
  exact step_lone_go (by
    have h':=h;simp only [Cd]at*
    simp [stepG,stepG.exec,h'])
def Ma:Op→Bool
  | .defer _=>true
  |_=>false
theorem OX {ops:Array Oper}{i:Nat}{rest:List Nat}{o:Oper}(ho:ops[i]? =some o)(hw:Region.wanted o (yielded ops a.tmps)=true)(hd:Ma o.op=false):
    stepG P true {frame:=Cd b a (.inRegion ops (i::rest)::k),callers:=cs,status:= .running,dying:=none} w=
      stepG.apply P true (Cd b a (.inRegion ops (i::rest)::k)) cs none (execOp a.eval o) w:=by
  have he:=GU b a (.inRegion ops (i::rest)::k);simp only [Cd]at he;simp only [stepG,Cd,stepG.exec,ho,lE,hw,Option.getD_some,if_true,stepG.oper,Frame.oper?,he];split
  ·rename_i l c h1 h2;rw [h2]at hd;simp [Ma]at hd
  ·rfl
end moves
end Go.Abs
namespace Go.Abs
open Go
inductive Ex where
  |nrm
  |ext (id:Nat)
  |ret
def Arr (P:Program)(m:Machine)(b:Frame)(k:List Item)(cs:List Frame):Ex→Act→World→Prop
  | .nrm,a,w=>Steps P m (lone (Cd b a k) cs w)
  | .ext id,a,w=> ∃k',Steps P m (lone (Cd b a (.code (.exit id)::k')) cs w)∧exitTo id k'=exitTo id k
  | .ret,a,w=> ∃k',Steps P m (lone (Cd b a (.code .ret::k')) cs w)
theorem Arr.of_steps {P:Program}{m m₁:Machine}{b:Frame}{k:List Item}{cs:List Frame}{e:Ex}{a:Act}{w:World}
    (h:Steps P m m₁) (h':Arr P m₁ b k cs e a w):Arr P m b k cs e a w:=by
  cases e with
  |nrm=>exact h.trans h'
  |ext id=>obtain ⟨k',hs,he⟩:=h';exact ⟨k',h.trans hs,he⟩
  |ret=>obtain ⟨k',hs⟩:=h';exact ⟨k',h.trans hs⟩
def Wp (P:Program)(ro:Option Nat)(c:Code)(Q:Ex→Act→World→Prop)(a:Act)(w:World):Prop:=
  ∀(b:Frame) (k:List Item) (cs:List Frame),b.roundOf=ro→∃e a' w',Q e a' w'∧Arr P (lone (Cd b a (.code c::k)) cs w) b k cs e a' w'
section rules
variable {P:Program}{ro:Option Nat}{Q:Ex→Act→World→Prop}{a:Act}{w:World}
theorem Wp.mono {c:Code}{Q':Ex→Act→World→Prop}(h:Wp P ro c Q a w)(hq: ∀e a w,Q e a w→Q' e a w):Wp P ro c Q' a w:=
  fun b k cs hro=>let ⟨e,a',w',q,r⟩:=h b k cs hro;⟨e,a',w',hq _ _ _ q,r⟩
theorem MH (h:Q .nrm a w):Wp P ro .skip Q a w:=fun _ _ _ _=>⟨.nrm,a,w,h, .one ME⟩
theorem OY (h:Q .ret a w):Wp P ro .ret Q a w:=fun _ k _ _=>⟨.ret,a,w,h,k, .refl _ _⟩
theorem MI {id:Nat}(h:Q (.ext id) a w):Wp P ro (.exit id) Q a w:=fun _ k _ _=>⟨.ext id,a,w,h,k, .refl _ _,rfl⟩
theorem OZ {x y:Code}(h:Wp P ro x (fun e a' w'=>match e with| .nrm=>Wp P ro y Q a' w'|e=>Q e a' w') a w):Wp P ro (.seq x y) Q a w:=by
  intro b k cs hro;obtain ⟨e,a',w',hq,hr⟩:=h b (.code y::k) cs hro;cases e with
  |nrm=>
   obtain ⟨e2,a2,w2,hq2,hr2⟩:=hq b k cs hro;exact ⟨e2,a2,w2,hq2, .of_steps (.head ED (Steps.trans hr (.refl _ _))) hr2⟩
  |ext id=>
   obtain ⟨k',hs,he⟩:=hr;exact ⟨.ext id,a',w',hq,k', .head ED hs,by rw [he];rfl⟩
  |ret=>
   obtain ⟨k',hs⟩:=hr;exact ⟨.ret,a',w',hq,k', .head ED hs⟩
theorem MJ {c:Operand}{x y:Code}{t:Bool}(hc:a.eval c= .bool t)(h:Wp P ro (if t then x else y) Q a w):Wp P ro (.cond c x y) Q a w:=by
  intro b k cs hro;obtain ⟨e,a',w',hq,hr⟩:=h b k cs hro;exact ⟨e,a',w',hq, .of_steps (.one (MF hc)) hr⟩
theorem IF {id:Nat}{x:Code}(h:Wp P ro x (fun e a' w'=>match e with| .nrm=>Q .nrm a' w'| .ext i=>if i=id then Q .nrm a' w' else Q (.ext i) a' w'| .ret=>Q .ret a' w') a w):Wp P ro (.block id x) Q a w:=by
  intro b k cs hro;obtain ⟨e,a',w',hq,hr⟩:=h b (.inBlock id::k) cs hro;cases e with
  |nrm=>exact ⟨.nrm,a',w',hq, .head Tx (Steps.trans hr (.one EB))⟩
  |ext i=>
   obtain ⟨k',hs,he⟩:=hr;dsimp only at hq;split at hq
   ·rename_i hi;subst hi;refine ⟨.nrm,a',w',hq, .head Tx (Steps.trans hs (.one (MG ?_)))⟩;rw [he];simp [exitTo]
   ·rename_i hi;refine ⟨.ext i,a',w',hq,k', .head Tx hs,?_⟩;rw [he];simp only [exitTo];rw [l5 (by simpa using fun h=>hi h.symm)]
  |ret=>
   obtain ⟨k',hs⟩:=hr;exact ⟨.ret,a',w',hq,k', .head Tx hs⟩
theorem MK {x:Code}(J:Nat→Act→World→Prop)
    (h: ∀n a w,J n a w→Wp P ro x (fun e a' w'=>match e with| .nrm=> ∃m,m<n∧J m a' w'|e=>Q e a' w') a w) (n:Nat) (h0:J n a w):Wp P ro (.loop x) Q a w:=by
  have key: ∀n a w,J n a w→∀(b:Frame) (k:List Item) (cs:List Frame),b.roundOf=ro→∃e a' w',Q e a' w'∧Arr P (lone (Cd b a (.code x:: .inLoop x::k)) cs w) b k cs e a' w':=by
    intro n
    induction n using Nat.strongRecOn with
    |_ n ih=>
     intro a w hj b k cs hro;obtain ⟨e,a',w',hq,hr⟩:=h n a w hj b (.inLoop x::k) cs hro;cases e with
     |nrm=>
      obtain ⟨m,hm,hj'⟩:=hq;obtain ⟨e2,a2,w2,hq2,hr2⟩:=ih m hm a' w' hj' b k cs hro;exact ⟨e2,a2,w2,hq2, .of_steps (Steps.trans hr (.one Zv)) hr2⟩
     |ext id=>
      obtain ⟨k',hs,he⟩:=hr;exact ⟨.ext id,a',w',hq,k',hs,by rw [he];rfl⟩
     |ret=>
      obtain ⟨k',hs⟩:=hr;exact ⟨.ret,a',w',hq,k',hs⟩
  intro b k cs hro;obtain ⟨e,a',w',hq,hr⟩:=key n a w h0 b k cs hro;exact ⟨e,a',w',hq, .of_steps (.one Ty) hr⟩
end rules
def IG (P:Program)(l:Nat)(f:FuncId)(tmps:Array Value)(as bd:Code)(w:World)(R:Value→World→Prop):Prop:=
  ∀(c:Frame) (cs:List Frame),∃v w',R v w'∧Steps P (lone (Frame.round l f tmps as bd .normal) (c::cs) w) (lone (c.finish v) cs w')
def PA (P:Program)(o:Oper)(a:Act)(w:World)(K:Act→World→Prop):Prop:=
  Ma o.op=false∧
  match (execOp a.eval o).run P w with
  | .ok (.value v) w'=>K (a.put o.dst v) w'
  | .ok .skip w'=>K (a.put o.dst undef) w'
  | .ok (.enter f args) w'=>Calls P f args w' fun e w''=> ∃v,e= .returned v∧K (a.put o.dst v) w''
  | .ok (.round l f tmps as bd) w'=>IG P l f tmps as bd w' fun v w''=>K (a.put o.dst v) w''
  |_=>False
def Jc (P:Program)(ops:Array Oper)(K:Act→World→Prop):List Nat→Act→World→Prop
  | [],a,w=>K a w
  |i::rest,a,w=>
   match ops[i]? with
   |none=>False
   |some o=>if Region.wanted o (yielded ops a.tmps)then PA P o a w (Jc P ops K rest)else Jc P ops K rest (a.put o.dst undef) w
theorem Xm {P:Program}{ops:Array Oper}{K:Act→World→Prop}(l:List Nat): ∀(a:Act) (w:World),Jc P ops K l a w→∀(b:Frame) (k:List Item) (cs:List Frame),
    ∃a' w',K a' w'∧Steps P (lone (Cd b a (.inRegion ops l::k)) cs w) (lone (Cd b a' k) cs w'):=by
  induction l with
  |nil=>exact fun a w h b k cs=>⟨a,w,h, .one Zh⟩
  |cons i rest ih=>
   intro a w h b k cs;simp only [Jc]at h;cases ho:ops[i]? with
   |none=>simp [ho]at h
   |some o=>
    simp only [ho]at h;by_cases hw:Region.wanted o (yielded ops a.tmps)=true
    ·simp only [hw,if_true]at h;obtain ⟨hd,h⟩:=h;have hg:=OX (P:=P) (b:=b) (k:=k) (cs:=cs) (w:=w) (rest:=rest) ho hw hd
     have hfin: ∀v,(Cd b a (.inRegion ops (i::rest)::k)).finish v=Cd b (a.put o.dst v) (.inRegion ops rest::k):=by
       intro v;rw [Xl,ho];rfl
     split at h
     ·rename_i v w' hr;obtain ⟨a',w'',hq,harr⟩:=ih _ _ h b k cs;refine ⟨a',w'',hq, .head (step_lone_go ?_) harr⟩;rw [hg,← hfin];simp [stepG.apply,hr]
     ·rename_i w' hr;obtain ⟨a',w'',hq,harr⟩:=ih _ _ h b k cs;refine ⟨a',w'',hq, .head (step_lone_go ?_) harr⟩;rw [hg,← hfin];simp [stepG.apply,hr]
     ·rename_i f args w' hr;obtain ⟨e,w'',fr,hR,hsteps,_,hleave⟩:=h (Cd b a (.inRegion ops (i::rest)::k)::cs)
      have henter:step P (lone (Cd b a (.inRegion ops (i::rest)::k)) cs w)=
       .next (lone (Frame.enter P f args .normal) (Cd b a (.inRegion ops (i::rest)::k)::cs) w'):=
        step_lone_go (by rw [hg];simp [stepG.apply,hr,Cd])
      obtain ⟨v,rfl,hK⟩:=hR;obtain ⟨a',w₃,hq,harr⟩:=ih _ _ hK b k cs;refine ⟨a',w₃,hq, .head henter (Steps.trans hsteps (.head ?_ harr))⟩;rw [← hfin];exact step_leave_returned hleave
     ·rename_i l f tmps as bd w' hr;obtain ⟨v,w'',hK,hsteps⟩:=h (Cd b a (.inRegion ops (i::rest)::k)) cs
      have henter:step P (lone (Cd b a (.inRegion ops (i::rest)::k)) cs w)=
       .next (lone (Frame.round l f tmps as bd .normal) (Cd b a (.inRegion ops (i::rest)::k)::cs) w'):=
        step_lone_go (by rw [hg];simp [stepG.apply,hr,Cd])
      obtain ⟨a',w₃,hq,harr⟩:=ih _ _ hK b k cs;rw [hfin]at hsteps;exact ⟨a',w₃,hq, .head henter (Steps.trans hsteps harr)⟩
     ·exact h.elim
    ·simp only [hw,if_false,Bool.false_eq_true]at h;obtain ⟨a',w',hq,harr⟩:=ih _ _ h b k cs;have hs:=EE (P:=P) (b:=b) (a:=a) (k:=k) (cs:=cs) (w:=w) (ops:=ops) (i:=i) (rest:=rest) (by simp [ho];simpa using hw);simp only [ho,lA]at hs;exact ⟨a',w',hq, .head hs harr⟩
theorem GW {P:Program}{ro:Option Nat}{id:Nat}{ops:Array Oper}{Q:Ex→Act→World→Prop}{a:Act}{w:World}
    (h:Jc P ops (Q .nrm) (List.range ops.size) a w):Wp P ro (.region id ops false) Q a w:=
  fun b k cs _=>let ⟨a',w',q,r⟩:=Xm _ a w h b k cs;⟨.nrm,a',w',q, .head GV r⟩
theorem Qp {P:Program}{ro:Option Nat}{id:Nat}{ops:Array Oper}{Q:Ex→Act→World→Prop}{a:Act}{w:World}
    (h: ∀t,Jc P ops (Q .nrm) (Region.schedule (P.follows .mixedOrders) ops t) a {w with drawn:=w.drawn+1}):Wp P ro (.region id ops true) Q a w:=
  fun b k cs _=>let ⟨a',w',q,r⟩:=Xm _ a _ (h _) b k cs;⟨.nrm,a',w',q, .head Xk r⟩
end Go.Abs
namespace Go.Abs
open Go
inductive D where
  |v (x:Value)
  |nilS
  |list (es:List (List D))
  |agg (cs:List D)
  |tup (cs:List D)
  |fn (f:Fn) (fs cs:List D)
  |lp (es:List (List D)) (i off:Nat)
  |bp (cs:List D) (off:Nat)
instance:Inhabited D:=⟨.nilS⟩
def D.one:D→Bool
  | .v x=>x.oneCell'
  | .agg _| .tup _=>false
  |_=>true
def Lf (es:List (List D))(i j:Nat):Option D:=es[i]?.bind (·[j]?)
section
variable (w:World)(I:Nat→Prop)
inductive RepD:D→Value→Prop
  |v (x:Value):RepD (.v x) x
  |nilS (A:Option Addr):RepD .nilS (.slice A 0 0)
  |lnil (A:Option Addr) (cap:Nat):RepD (.list []) (.slice A 0 cap)
  |list (es:List (List D)) (A:Addr) (cap sz:Nat) (X:Nat→Nat→Value) (hne:es≠ []) (hcap:es.length≤cap) (hsz: ∀e∈es,e.length=sz) (hI:I A.block)
     (hone: ∀i j d,Lf es i j=some d→d.one=true)
     (hc: ∀i j d,Lf es i j=some d→w.cell? (A.add (i*sz+j))=some (X i j)) (hr: ∀i j d,Lf es i j=some d→RepD d (X i j)):RepD (.list es) (.slice (some A) es.length cap)
  |agg (cs:List D) (vs:List Value) (hl:cs.length=vs.length) (hone: ∀(i:Nat) d,cs[i]? =some d→d.one=true) (hr: ∀(i:Nat) d,cs[i]? =some d→RepD d (vs.getD i undef)):RepD (.agg cs) (.agg vs.toArray)
  |tup (cs:List D) (vs:List Value) (hl:cs.length=vs.length) (hr: ∀(i:Nat) d,cs[i]? =some d→RepD d (vs.getD i undef)):RepD (.tup cs) (.tuple vs.toArray)
  |fn (f:Fn) (fs cs:List D) (vfs vcs:List Value) (hl:fs.length=vfs.length) (hl':cs.length=vcs.length) (hr: ∀(i:Nat) d,fs[i]? =some d→RepD d (vfs.getD i undef))
   (hr': ∀(i:Nat) d,cs[i]? =some d→RepD d (vcs.getD i undef)):RepD (.fn f fs cs) (.func f vfs.toArray vcs.toArray)
  |lp (es:List (List D)) (i off:Nat) (A:Addr) (sz:Nat) (X:Nat→Nat→Value) (hsz: ∀e∈es,e.length=sz) (hI:I A.block) (hone: ∀i j d,Lf es i j=some d→d.one=true)
   (hc: ∀i j d,Lf es i j=some d→w.cell? (A.add (i*sz+j))=some (X i j)) (hr: ∀i j d,Lf es i j=some d→RepD d (X i j)):RepD (.lp es i off) (.pointer (some (A.add (i*sz+off))))
  |bp (cs:List D) (off:Nat) (g:Nat) (vs:List Value) (ty:TypeId) (fz:Nat×Nat) (hI:I g) (hg:w.heap[g]? =some (.cells vs.toArray ty fz)) (hl:cs.length=vs.length)
   (hone: ∀(i:Nat) d,cs[i]? =some d→d.one=true) (hr: ∀(i:Nat) d,cs[i]? =some d→RepD d (vs.getD i undef)):RepD (.bp cs off) (.pointer (some ⟨g,off,none⟩))
end
theorem Vl (a:Addr)(n:Nat):(a.add n).block=a.block:=by unfold Addr.add;split<;>rfl
theorem RepD.keep {w w':World}{I I':Nat→Prop}{d:D}{x:Value}(h:RepD w I d x)(hw: ∀b,I b→w'.heap[b]? =w.heap[b]?)(hI: ∀b,I b→I' b):RepD w' I' d x:=by
  induction h with
  |v x=>exact .v x
  |nilS A=>exact .nilS A
  |lnil A cap=>exact .lnil A cap
  |list es A cap sz X hne hcap hsz hA hone hc hr ih=>
   exact .list es A cap sz X hne hcap hsz (hI _ hA) hone (fun i j d hd=>(World.cell?_of_block (by rw [Vl];exact hw _ hA)).trans (hc i j d hd)) ih
  |agg cs vs hl hone hr ih=>exact .agg cs vs hl hone ih
  |tup cs vs hl hr ih=>exact .tup cs vs hl ih
  |fn f fs cs vfs vcs hl hl' hr hr' ih ih'=>exact .fn f fs cs vfs vcs hl hl' ih ih'
  |lp es i off A sz X hsz hA hone hc hr ih=>
   exact .lp es i off A sz X hsz (hI _ hA) hone (fun i j d hd=>(World.cell?_of_block (by rw [Vl];exact hw _ hA)).trans (hc i j d hd)) ih
  |bp cs off g vs ty fz hg hh hl hone hr ih=>exact .bp cs off g vs ty fz (hI _ hg) ((hw _ hg).trans hh) hl hone ih
theorem RepD.one {w:World}{I:Nat→Prop}{d:D}{x:Value}(h:RepD w I d x)(hd:d.one=true):x.oneCell'=true:=by
  cases h<;>first|exact hd|rfl|(simp [D.one]at hd)
abbrev D7:=Nat×Nat
inductive AV where
  |any
  |d (x:D)
  |ptr (k:D7) (off:Nat)
  |sl (k:D7)
  |aptr (k:D7) (sz i off:Nat)
  |bsl (k:D7) (n:Nat)
  |agg (cs:List AV)
  |tup (cs:List AV)
  |fn (f:Fn) (fs cs:List AV)
  |yld (k:D7)
instance:Inhabited AV:=⟨.any⟩
inductive Blk where
  |box (ty:TypeId) (cs:List AV)
  |arr (ty:TypeId) (sz:Nat) (es:List (List D))
  |obj (t:Nat→AV) (r:Loop)
  |mp (ks:List Int)
abbrev C7:=D7→Option Blk
abbrev Rho:=D7→Option Value
section
variable (w:World)(I:Nat→Prop)(ρ:Rho)
inductive RepV:AV→Value→Prop
  |any (x:Value):RepV .any x
  |d (x:D) (v:Value) (h:RepD w I x v):RepV (.d x) v
  |ptr (k:D7) (off g:Nat) (h:ρ k=some (.pointer (some ⟨g,0,none⟩))):RepV (.ptr k off) (.pointer (some ⟨g,off,none⟩))
  |sl (k:D7) (v:Value) (h:ρ k=some v):RepV (.sl k) v
  |aptr (k:D7) (sz i off g n cap:Nat) (h:ρ k=some (.slice (some ⟨g,0,none⟩) n cap)):RepV (.aptr k sz i off) (.pointer (some ⟨g,i*sz+off,none⟩))
  |bsl (k:D7) (n g:Nat) (h:ρ k=some (.pointer (some ⟨g,0,none⟩))):RepV (.bsl k n) (.slice (some ⟨g,0,none⟩) n n)
  |agg (cs:List AV) (vs:List Value) (hl:cs.length=vs.length) (hone: ∀i,i<cs.length→(vs.getD i undef).oneCell'=true) (hr: ∀(i:Nat) d,cs[i]? =some d→RepV d (vs.getD i undef)):RepV (.agg cs) (.agg vs.toArray)
  |tup (cs:List AV) (vs:List Value) (hl:cs.length=vs.length) (hr: ∀(i:Nat) d,cs[i]? =some d→RepV d (vs.getD i undef)):RepV (.tup cs) (.tuple vs.toArray)
  |fn (f:Fn) (fs cs:List AV) (vfs vcs:List Value) (hl:fs.length=vfs.length) (hl':cs.length=vcs.length) (hr: ∀(i:Nat) d,fs[i]? =some d→RepV d (vfs.getD i undef))
   (hr': ∀(i:Nat) d,cs[i]? =some d→RepV d (vcs.getD i undef)):RepV (.fn f fs cs) (.func f vfs.toArray vcs.toArray)
  |yld (k:D7) (l:Nat) (h:ρ k=some (.pointer (some ⟨l,0,none⟩))):RepV (.yld k) (.func (.yield l) #[] #[])
end
def Rho.le (ρ ρ':Rho):Prop:= ∀k v,ρ k=some v→ρ' k=some v
theorem RepV.keep {w w':World}{I I':Nat→Prop}{ρ ρ':Rho}{d:AV}{x:Value}(h:RepV w I ρ d x)(hw: ∀b,I b→w'.heap[b]? =w.heap[b]?)(hI: ∀b,I b→I' b)(hρ:ρ.le ρ'):RepV w' I' ρ' d x:=by
  induction h with
  |any x=>exact .any x
  |d x v h=>exact .d x v (h.keep hw hI)
  |ptr k off g h=>exact .ptr k off g (hρ _ _ h)
  |sl k v h=>exact .sl k v (hρ _ _ h)
  |aptr k sz i off g n cap h=>exact .aptr k sz i off g n cap (hρ _ _ h)
  |bsl k n g h=>exact .bsl k n g (hρ _ _ h)
  |agg cs vs hl hone hr ih=>exact .agg cs vs hl hone ih
  |tup cs vs hl hr ih=>exact .tup cs vs hl ih
  |fn f fs cs vfs vcs hl hl' hr hr' ih ih'=>exact .fn f fs cs vfs vcs hl hl' ih ih'
  |yld k l h=>exact .yld k l (hρ _ _ h)
structure St where
  t:Nat→AV
  h:C7
def De:Value→Option Nat
  | .pointer (some a)=>some a.block
  |_=>none
def Qq:Value→Option Nat
  | .map (some g)=>some g
  |_=>none
def M2 (ρ:Rho)(k:D7):Blk→Option Nat
  | .box _ _=>(ρ k).bind De
  | .arr _ _ _=>(ρ k).bind Value.ownBlock
  | .obj _ _=>(ρ k).bind De
  | .mp _=>(ρ k).bind Qq
def own (ρ:Rho)(h:C7)(g:Nat):Prop:= ∃k b,h k=some b∧M2 ρ k b=some g
def rowM (w:World)(ty:TypeId)(sz:Nat)(x:Value)(n:Nat)(xs:List Value):Prop:=
  xs.length=n*sz∧((x= .slice none 0 0∧n=0)∨
    ∃g cap cur fz,x= .slice (some ⟨g,0,none⟩) n cap∧w.heap[g]? =some (.cells cur ty fz)∧(fz=(0,0)∨ty=5∧cur.size≤fz.1)∧n≤cap∧cap≤maxLen∧cur.size=cap*sz∧cur.toList.take (n*sz)=xs)
theorem Ny {w:World}{base:Nat}{ty:TypeId}{sz:Nat}{x:Value}{n:Nat}{xs:List Value}(h:w.ownsRow base ty sz x n xs):rowM w ty sz x n xs:=by
  refine ⟨h.1,?_⟩;rcases h.2 with hn|⟨g,cap,cur,hv,_,hg,rest⟩
  ·exact .inl hn
  ·exact .inr ⟨g,cap,cur,(0,0),hv,hg, .inl rfl,rest⟩
theorem rowM.own {w:World}{ty:TypeId}{sz:Nat}{x:Value}{n:Nat}{xs:List Value}(h:rowM w ty sz x n xs)(ht:ty≠5):w.ownsRow 0 ty sz x n xs:=by
  refine ⟨h.1,?_⟩;rcases h.2 with hn|⟨g,cap,cur,fz,hv,hg,hf,rest⟩
  ·exact .inl hn
  ·rcases hf with rfl|⟨q,_⟩
   ·exact .inr ⟨g,cap,cur,hv,bC _,hg,rest⟩
   ·exact absurd q ht
def BlkOK (w:World)(I:Nat→Prop)(ρ:Rho)(k:D7):Blk→Prop
  | .box ty cs=> ∃(g:Nat) (vs:List Value),ρ k=some (.pointer (some ⟨g,0,none⟩))∧w.heap[g]? =some (.cells vs.toArray ty (0,0))∧cs.length=vs.length∧
      (∀i,i<vs.length→(vs.getD i undef).oneCell'=true)∧∀(i:Nat) c,cs[i]? =some c→RepV w I ρ c (vs.getD i undef)
  | .arr ty sz es=> ∃(x:Value) (xs:List Value),ρ k=some x∧rowM w ty sz x es.length xs∧(∀e∈es,e.length=sz)∧
      ∀i j d,Lf es i j=some d→d.one=true∧RepD w I d (xs.getD (i*sz+j) undef)
  | .obj t r=> ∃g,ρ k=some (.pointer (some ⟨g,0,none⟩))∧w.heap[g]? =some (.loop r)∧∀i,RepV w I ρ (t i) (r.tmps.getD i undef)
  | .mp ks=> ∃g es clock,ρ k=some (.map (some g))∧w.heap[g]? =some (.map es clock)∧es.toList.map (fun e=>(e.key,e.val))=ks.map fun n=>(Value.int .i64 n,Value.bool true)
structure HeapOK (w:World)(I:Nat→Prop)(ρ:Rho)(h:C7):Prop where
  blk: ∀k b,h k=some b→BlkOK w I ρ k b
  sep: ∀k k' b b' g,h k=some b→h k'=some b'→M2 ρ k b=some g→M2 ρ k' b'=some g→k=k'
  notI: ∀k b g,h k=some b→M2 ρ k b=some g→¬I g
  lt: ∀k b g,h k=some b→M2 ρ k b=some g→g<w.heap.size
  ilt: ∀b,I b→b<w.heap.size
  fresh: ∃u0:Nat,∀d u,u0≤u→ρ (d,u)=none
  rone: ∀k y,ρ k=some y→y.oneCell'=true
structure DefOK (w:World)(I:Nat→Prop)(ρ:Rho)(h:C7)(ds:List Deferred):Prop where
  nd:ds.Nodup
  each: ∀d∈ds,∃r,d={target:= .collected r,args:= #[]}∧w.heap[r]? =some (.deferred (some []))∧¬I r∧¬own ρ h r
structure Sim (w:World)(I:Nat→Prop)(ρ:Rho)(N:Nat)(s:St)(a:Act):Prop where
  size:a.tmps.size=N
  defers:DefOK w I ρ s.h a.defers
  tmp: ∀i,RepV w I ρ (s.t i) (a.tmps.getD i undef)
  heap:HeapOK w I ρ s.h
structure Tr (w:World)(I:Nat→Prop)(ρ:Rho)(h:C7)(w':World)(I':Nat→Prop)(ρ':Rho)(h':C7):Prop where
  os:w'.os=w.os
  tape:w'.tape=w.tape
  output:w'.output=w.output
  size:w.heap.size≤w'.heap.size
  frame: ∀b,b<w.heap.size→¬own ρ h b→w'.heap[b]? =w.heap[b]?
  imm: ∀b,I b→I' b
  immBack: ∀b,I' b→b<w.heap.size→I b∨own ρ h b
  ownBack: ∀b,own ρ' h' b→b<w.heap.size→own ρ h b
  rho:ρ.le ρ'
theorem DefOK.step {w w':World}{I I':Nat→Prop}{ρ ρ':Rho}{h h':C7}{ds:List Deferred}(d:DefOK w I ρ h ds)(tr:Tr w I ρ h w' I' ρ' h'):DefOK w' I' ρ' h' ds:=
  ⟨d.nd,fun x hx=>by
    obtain ⟨r,h1,h2,h3,h4⟩:=d.each x hx;have hlt:r<w.heap.size:=(Array.getElem?_eq_some_iff.1 h2).1;refine ⟨r,h1,(tr.frame r hlt h4).trans h2,fun hi=> ?_,fun ho=>h4 (tr.ownBack r ho hlt)⟩;rcases tr.immBack r hi hlt with q|q
    ·exact h3 q
    ·exact h4 q⟩
theorem Tr.refl (w:World)(I:Nat→Prop)(ρ:Rho)(h:C7):Tr w I ρ h w I ρ h:=
  ⟨rfl,rfl,rfl,bB _,fun _ _ _=>rfl,fun _ hb=>hb,fun _ hb _=> .inl hb,fun _ hb _=>hb,fun _ _ hv=>hv⟩
theorem Tr.trans {w w1 w2:World}{I I1 I2:Nat→Prop}{ρ ρ1 ρ2:Rho}{h h1 h2:C7}(p:Tr w I ρ h w1 I1 ρ1 h1)(q:Tr w1 I1 ρ1 h1 w2 I2 ρ2 h2):Tr w I ρ h w2 I2 ρ2 h2 where
  os:=q.os.trans p.os
  tape:=q.tape.trans p.tape
  output:=q.output.trans p.output
  size:=Nat.le_trans p.size q.size
  frame b hb hn:=(q.frame b (bF hb p.size) (fun ho=>hn (p.ownBack b ho hb))).trans (p.frame b hb hn)
  imm b hb:=q.imm b (p.imm b hb)
  immBack b hb hl:=by
    rcases q.immBack b hb (bF hl p.size)with h|h
    ·exact p.immBack b h hl
    ·exact .inr (p.ownBack b h hl)
  ownBack b hb hl:=p.ownBack b (q.ownBack b hb (bF hl p.size)) hl
  rho k v hv:=q.rho k v (p.rho k v hv)
def RoOK (ρ:Rho):Option D7→Option Nat→Prop
  |none,ro=>ro=none
  |some k,ro=> ∃l,ro=some l∧ρ k=some (.pointer (some ⟨l,0,none⟩))
theorem RoOK.mono {ρ ρ':Rho}{rk:Option D7}{ro:Option Nat}(h:RoOK ρ rk ro)(hr:ρ.le ρ'):RoOK ρ' rk ro:=by
  cases rk with
  |none=>exact h
  |some k=>obtain ⟨l,h1,h2⟩:=h;exact ⟨l,h1,hr _ _ h2⟩
def NewD (w:World)(ds ds':List Deferred):Prop:= ∀d∈ds',d∈ds∨∃r,d={target:= .collected r,args:= #[]}∧w.heap.size≤r
theorem NewD.refl (w:World)(ds:List Deferred):NewD w ds ds:=fun _ h=> .inl h
theorem NewD.trans {w w':World}{ds ds' ds'':List Deferred}(h:NewD w ds ds')(hs:w.heap.size≤w'.heap.size)(h':NewD w' ds' ds''):NewD w ds ds'':=fun d hd=>by
  rcases h' d hd with q|⟨r,q1,q2⟩
  ·exact h d q
  ·exact .inr ⟨r,q1,by omega⟩
def AWc (P:Program)(N:Nat)(rk:Option D7)(c:Code)(s:St)(Q:Ex→St→Prop):Prop:=
  ∀w I ρ a,Sim w I ρ N s a→∀ro,RoOK ρ rk ro→Wp P ro c (fun e a' w'=> ∃s' I' ρ',Q e s'∧Sim w' I' ρ' N s' a'∧Tr w I ρ s.h w' I' ρ' s'.h∧NewD w a.defers a'.defers) a w
section
variable {P:Program}{N:Nat}{rk:Option D7}{s:St}{Q:Ex→St→Prop}
theorem AWc.mono {c:Code}{Q':Ex→St→Prop}(h:AWc P N rk c s Q)(hq: ∀e s',Q e s'→Q' e s'):AWc P N rk c s Q':=
  fun w I ρ a hs ro hro=>(h w I ρ a hs ro hro).mono fun _ _ _ ⟨s',I',ρ',q,r⟩=>⟨s',I',ρ',hq _ _ q,r⟩
theorem IH (h:Q .nrm s):AWc P N rk .skip s Q:=fun _ I ρ _ hs _ _=>MH ⟨s,I,ρ,h,hs,Tr.refl _ _ _ _,NewD.refl _ _⟩
theorem ML (h:Q .ret s):AWc P N rk .ret s Q:=fun _ I ρ _ hs _ _=>OY ⟨s,I,ρ,h,hs,Tr.refl _ _ _ _,NewD.refl _ _⟩
theorem II {id:Nat}(h:Q (.ext id) s):AWc P N rk (.exit id) s Q:=fun _ I ρ _ hs _ _=>MI ⟨s,I,ρ,h,hs,Tr.refl _ _ _ _,NewD.refl _ _⟩
theorem MM {x y:Code}(h:AWc P N rk x s (fun e s'=>match e with| .nrm=>AWc P N rk y s' Q|e=>Q e s')):AWc P N rk (.seq x y) s Q:=by
  intro w I ρ a hs ro hro;refine OZ ((h w I ρ a hs ro hro).mono ?_);rintro e a' w' ⟨s',I',ρ',hq,hs',htr,hnd⟩;cases e with
  |nrm=>exact (hq w' I' ρ' a' hs' ro (hro.mono htr.rho)).mono fun e2 a2 w2 ⟨s2,I2,ρ2,q2,hs2,tr2,OU⟩=>⟨s2,I2,ρ2,q2,hs2,htr.trans tr2,hnd.trans htr.size OU⟩
  |ext id=>exact ⟨s',I',ρ',hq,hs',htr,hnd⟩
  |ret=>exact ⟨s',I',ρ',hq,hs',htr,hnd⟩
theorem GX {id:Nat}{x:Code}(h:AWc P N rk x s (fun e s'=>match e with| .nrm=>Q .nrm s'| .ext i=>if i=id then Q .nrm s' else Q (.ext i) s'| .ret=>Q .ret s')):AWc P N rk (.block id x) s Q:=by
  intro w I ρ a hs ro hro;refine IF ((h w I ρ a hs ro hro).mono ?_);rintro e a' w' ⟨s',I',ρ',hq,hs',htr,hnd⟩;cases e with
  |nrm=>exact ⟨s',I',ρ',hq,hs',htr,hnd⟩
  |ext i=>
   dsimp only at hq ⊢;split at hq
   ·rename_i hi;rw [l4 hi];exact ⟨s',I',ρ',hq,hs',htr,hnd⟩
   ·rename_i hi;rw [l5 hi];exact ⟨s',I',ρ',hq,hs',htr,hnd⟩
  |ret=>exact ⟨s',I',ρ',hq,hs',htr,hnd⟩
theorem IJ {x:Code}(J:Nat→St→Prop)(h: ∀n s,J n s→AWc P N rk x s (fun e s'=>match e with| .nrm=> ∃m,m<n∧J m s'|e=>Q e s'))(n:Nat)(h0:J n s):AWc P N rk (.loop x) s Q:=by
  intro w I ρ a hs ro hro;refine MK (fun n a' w'=> ∃s' I' ρ',J n s'∧Sim w' I' ρ' N s' a'∧Tr w I ρ s.h w' I' ρ' s'.h∧NewD w a.defers a'.defers) ?_ n ⟨s,I,ρ,h0,hs,Tr.refl _ _ _ _,NewD.refl _ _⟩;rintro n a1 w1 ⟨s1,I1,ρ1,hj,hs1,tr1,nd1⟩;refine (h n s1 hj w1 I1 ρ1 a1 hs1 ro (hro.mono tr1.rho)).mono ?_;rintro e a' w' ⟨s',I',ρ',hq,hs',htr,hnd⟩;cases e with
  |nrm=>obtain ⟨m,hm,hj'⟩:=hq;exact ⟨m,hm,s',I',ρ',hj',hs',tr1.trans htr,nd1.trans tr1.size hnd⟩
  |ext id=>exact ⟨s',I',ρ',hq,hs',tr1.trans htr,nd1.trans tr1.size hnd⟩
  |ret=>exact ⟨s',I',ρ',hq,hs',tr1.trans htr,nd1.trans tr1.size hnd⟩
theorem IK {c:Code}{s0:St}(ht: ∀i,s0.t i= .any∨s0.t i=s.t i)(hh: ∀k b,s0.h k=some b→s.h k=some b)(h:AWc P N rk c s0 Q):AWc P N rk c s Q:=by
  intro w I ρ a hs ro hro;have hown: ∀b,own ρ s0.h b→own ρ s.h b:=fun b ⟨k,x,h1,h2⟩=>⟨k,x,hh _ _ h1,h2⟩
  have hs0:Sim w I ρ N s0 a:=⟨hs.size,⟨hs.defers.nd,fun x hx=>by obtain ⟨r,h1,h2,h3,h4⟩:=hs.defers.each x hx;exact ⟨r,h1,h2,h3,fun ho=>h4 (hown r ho)⟩⟩,fun i=>by rcases ht i with e|e<;>rw [e];exact .any _;exact hs.tmp i,
    ⟨fun k b hb=>hs.heap.blk k b (hh _ _ hb),fun k k' b b' g h1 h2=>hs.heap.sep k k' b b' g (hh _ _ h1) (hh _ _ h2),fun k b g h1=>hs.heap.notI k b g (hh _ _ h1),fun k b g h1=>hs.heap.lt k b g (hh _ _ h1),hs.heap.ilt,hs.heap.fresh,hs.heap.rone⟩⟩
  refine (h w I ρ a hs0 ro hro).mono ?_;rintro e a' w' ⟨s',I',ρ',hq,hs',htr,hnd⟩;exact ⟨s',I',ρ',hq,hs',⟨htr.os,htr.tape,htr.output,htr.size,fun b hb hn=>htr.frame b hb (fun ho=>hn (hown b ho)),htr.imm,fun b hb hl=>(htr.immBack b hb hl).imp id (hown b),fun b hb hl=>hown b (htr.ownBack b hb hl),htr.rho⟩,hnd⟩
end
end Go.Abs
namespace Go.Abs
open Go
def W8 {α β:Type}[DecidableEq α](f:α→β)(a:α)(b:β):α→β:=fun x=>if x=a then b else f x
theorem C8 {α β:Type}[DecidableEq α](f:α→β)(a:α)(b:β):W8 f a b a=b:=l4 rfl
theorem K5 {α β:Type}[DecidableEq α](f:α→β)(a:α)(b:β)(x:α)(h:x≠a):W8 f a b x=f x:=l5 h
theorem GY {w w':World}{e:TypeId}{size:Nat}{v:Value}{n:Nat}{xs:List Value}(h:rowM w e size v n xs)(hw: ∀g,v.ownBlock=some g→w'.heap[g]? =w.heap[g]?):rowM w' e size v n xs:=by
  refine ⟨h.1,?_⟩;rcases h.2 with hn|⟨g,cap,cur,fz,rfl,hgg,rest⟩
  ·exact .inl hn
  ·exact .inr ⟨g,cap,cur,fz,rfl,(hw g rfl).trans hgg,rest⟩
theorem Tb {w:World}{e:TypeId}{size:Nat}{v:Value}{n:Nat}{xs:List Value}(h:rowM w e size v n xs){g:Nat}(hg:v.ownBlock=some g): ∀j u,xs[j]? =some u→w.cell? ((⟨g,0,none⟩:Addr).add j)=some u:=by
  intro j u hu;rcases h.2 with ⟨rfl,_⟩|⟨g',cap,cur,fz,rfl,hgg,_,_,_,_,htake⟩
  ·simp [Value.ownBlock]at hg
  ·simp [Value.ownBlock]at hg;subst hg;have hadd:(⟨g',0,none⟩:Addr).add j=⟨g',j,none⟩:=by unfold Addr.add;split<;>simp_all
   rw [hadd,cell_of_row w g' j cur e fz hgg];rw [← htake,lX]at hu;split at hu
   ·simpa using hu
   ·cases hu
theorem MN {w:World}{e:TypeId}{size:Nat}{v:Value}{n:Nat}{xs:List Value}(h:rowM w e size v n xs): ∀k,v.ownBlock=some k→k<w.heap.size:=by
  intro k hk;rcases h.2 with ⟨rfl,_⟩|⟨g,cap,cur,fz,rfl,hg,_⟩
  ·simp [Value.ownBlock]at hk
  ·simp [Value.ownBlock]at hk;subst hk;exact (Array.getElem?_eq_some_iff.1 hg).1
theorem BlkOK.rho {w:World}{I:Nat→Prop}{ρ:Rho}{k:D7}{b:Blk}(h:BlkOK w I ρ k b): ∃x,ρ k=some x:=by
  cases b with
  |box ty cs=>obtain ⟨g,vs,h,_⟩:=h;exact ⟨_,h⟩
  |arr ty sz es=>obtain ⟨x,xs,h,_⟩:=h;exact ⟨_,h⟩
  |obj t r=>obtain ⟨g,h,_⟩:=h;exact ⟨_,h⟩
  |mp ks=>obtain ⟨g,es,clock,h,_⟩:=h;exact ⟨_,h⟩
theorem Mr {ρ ρ':Rho}{k:D7}(b:Blk)(h:ρ' k=ρ k):M2 ρ' k b=M2 ρ k b:=by cases b<;>simp [M2,h]
theorem BlkOK.keep {w w':World}{I I':Nat→Prop}{ρ ρ':Rho}{k:D7}{b:Blk}(h:BlkOK w I ρ k b)(hb: ∀g,M2 ρ k b=some g→w'.heap[g]? =w.heap[g]?)
    (hw: ∀b,I b→w'.heap[b]? =w.heap[b]?) (hI: ∀b,I b→I' b) (hρ:ρ.le ρ'):BlkOK w' I' ρ' k b:=by
  cases b with
  |box ty cs=>
   obtain ⟨g,vs,h1,h2,h3,h4,h5⟩:=h;exact ⟨g,vs,hρ _ _ h1,(hb g (by simp [M2,h1,De])).trans h2,h3,h4,fun i c hc=>(h5 i c hc).keep hw hI hρ⟩
  |arr ty sz es=>
   obtain ⟨x,xs,h1,h2,h3,h4⟩:=h;exact ⟨x,xs,hρ _ _ h1,GY h2 (fun g hg=>hb g (by simp [M2,h1,hg])),h3,fun i j d hd=>⟨(h4 i j d hd).1,(h4 i j d hd).2.keep hw hI⟩⟩
  |obj t r=>
   obtain ⟨g,h1,h2,h3⟩:=h;exact ⟨g,hρ _ _ h1,(hb g (by simp [M2,h1,De])).trans h2,fun i=>(h3 i).keep hw hI hρ⟩
  |mp ks=>
   obtain ⟨g,es,clock,h1,h2,h3⟩:=h;exact ⟨g,es,clock,hρ _ _ h1,(hb g (by simp [M2,h1,Qq])).trans h2,h3⟩
theorem HeapOK.keep {w w':World}{I I':Nat→Prop}{ρ ρ':Rho}{h:C7}(H:HeapOK w I ρ h)(hb: ∀g,own ρ h g→w'.heap[g]? =w.heap[g]?)(hw: ∀b,I b→w'.heap[b]? =w.heap[b]?)
    (hI: ∀b,I b→I' b) (hn: ∀g,own ρ h g→¬I' g) (hl: ∀b,I' b→b<w'.heap.size) (hρ:ρ.le ρ') (hs:w.heap.size≤w'.heap.size) (hf: ∃u0:Nat,∀d u,u0≤u→ρ' (d,u)=none) (ho: ∀k y,ρ' k=some y→y.oneCell'=true):HeapOK w' I' ρ' h:=by
  have hloc: ∀k b,h k=some b→M2 ρ' k b=M2 ρ k b:=by
    intro k b hk;obtain ⟨x,hx⟩:=(H.blk k b hk).rho;exact Mr b ((hρ _ _ hx).trans hx.symm)
  exact {
    blk:=fun k b hk=>(H.blk k b hk).keep (fun g hg=>hb g ⟨k,b,hk,hg⟩) hw hI hρ
    sep:=fun k k' b b' g h1 h2 h3 h4=>H.sep k k' b b' g h1 h2 (by rw [← hloc k b h1];exact h3) (by rw [← hloc k' b' h2];exact h4)
    notI:=fun k b g h1 h2=>hn g ⟨k,b,h1,by rw [← hloc k b h1];exact h2⟩
    lt:=fun k b g h1 h2=>bF (H.lt k b g h1 (by rw [← hloc k b h1];exact h2)) hs
    ilt:=hl
    fresh:=hf
    rone:=ho}
theorem HeapOK.own_lt {w:World}{I:Nat→Prop}{ρ:Rho}{h:C7}(H:HeapOK w I ρ h){g:Nat}(ho:own ρ h g):g<w.heap.size:=by obtain ⟨k,b,h1,h2⟩:=ho;exact H.lt k b g h1 h2
theorem HeapOK.own_notI {w:World}{I:Nat→Prop}{ρ:Rho}{h:C7}(H:HeapOK w I ρ h){g:Nat}(ho:own ρ h g): ¬I g:=by obtain ⟨k,b,h1,h2⟩:=ho;exact H.notI k b g h1 h2
theorem HeapOK.same {w w':World}{I:Nat→Prop}{ρ:Rho}{h:C7}(H:HeapOK w I ρ h)(hw:w'.heap=w.heap):HeapOK w' I ρ h:=
  H.keep (fun _ _=>by rw [hw]) (fun _ _=>by rw [hw]) (fun _ hb=>hb) (fun _ ho=>H.own_notI ho) (fun b hb=>by rw [hw];exact H.ilt b hb) (fun _ _ hv=>hv) (by rw [hw];exact bB _) H.fresh H.rone
theorem Qr {w:World}{I:Nat→Prop}{ρ:Rho}{h:C7}(H:HeapOK w I ρ h)(k:D7)(o:Obj)(x:Value)(b:Blk)(hk:ρ k=none)(hx:x.oneCell'=true)
    (hloc: ∀g,M2 (W8 ρ k (some x)) k b=some g→g=w.heap.size)
    (hb:BlkOK (w.alloc o) I (W8 ρ k (some x)) k b):
    HeapOK (w.alloc o) I (W8 ρ k (some x)) (W8 h k (some b))∧Tr w I ρ h (w.alloc o) I (W8 ρ k (some x)) (W8 h k (some b)):=by
  have hle:ρ.le (W8 ρ k (some x)):=by
    intro k' v hv;by_cases e:k'=k
    ·subst e;rw [hk]at hv;cases hv
    ·rw [K5 _ _ _ _ e];exact hv
  have hfr: ∃u0:Nat,∀d u,u0≤u→W8 ρ k (some x) (d,u)=none:=by
    obtain ⟨u0,hu⟩:=H.fresh;refine ⟨max u0 (k.2+1),fun d u hdu=> ?_⟩;rw [K5 _ _ _ _ (by rintro rfl;simp at hdu;omega)];exact hu d u (by omega)
  have hro: ∀k' y,W8 ρ k (some x) k'=some y→y.oneCell'=true:=by
    intro k' y h1;by_cases e:k'=k
    ·subst e;rw [C8]at h1;cases h1;exact hx
    ·rw [K5 _ _ _ _ e]at h1;exact H.rone _ _ h1
  have hold: ∀b,b<w.heap.size→(w.alloc o).heap[b]? =w.heap[b]?:=fun b hb=>heap_alloc_old w o b hb;have H':HeapOK (w.alloc o) I (W8 ρ k (some x)) h:=H.keep (fun g ho=>hold g (H.own_lt ho)) (fun b hb=>hold b (H.ilt b hb)) (fun _ hb=>hb) (fun _ ho=>H.own_notI ho) (fun b hb=>by have:=H.ilt b hb;simp;omega) hle (by simp) hfr hro
  have hne: ∀k' b',h k'=some b'→k'≠k:=by
    rintro k' b' h1 rfl;obtain ⟨y,hy⟩:=(H.blk _ _ h1).rho;rw [hk]at hy;cases hy
  have hlt: ∀k' b' g,h k'=some b'→M2 (W8 ρ k (some x)) k' b'=some g→g<w.heap.size:=by
    intro k' b' g h1 h2;have e:M2 (W8 ρ k (some x)) k' b'=M2 ρ k' b':=Mr b' (K5 _ _ _ _ (hne _ _ h1));exact H.lt k' b' g h1 (by rw [← e];exact h2)
  refine ⟨⟨?_,?_,?_,?_,H'.ilt,hfr,hro⟩,⟨rfl,rfl,rfl,by simp,fun b hb _=>hold b hb,fun _ hb=>hb,fun _ hb _=> .inl hb,?_,hle⟩⟩
  ·intro k' b' h1;by_cases e:k'=k
   ·subst e;rw [C8]at h1;cases h1;exact hb
   ·rw [K5 _ _ _ _ e]at h1;exact H'.blk k' b' h1
  ·intro k1 k2 b1 b2 g h1 h2 h3 h4;by_cases e1:k1=k<;>by_cases e2:k2=k
   ·rw [e1,e2]
   ·subst e1;rw [C8]at h1;cases h1;rw [K5 _ _ _ _ e2]at h2;have:=hlt k2 b2 g h2 h4;have:=hloc g h3;omega
   ·subst e2;rw [C8]at h2;cases h2;rw [K5 _ _ _ _ e1]at h1;have:=hlt k1 b1 g h1 h3;have:=hloc g h4;omega
   ·rw [K5 _ _ _ _ e1]at h1;rw [K5 _ _ _ _ e2]at h2;exact H'.sep k1 k2 b1 b2 g h1 h2 h3 h4
  ·intro k' b' g h1 h2;by_cases e:k'=k
   ·subst e;rw [C8]at h1;cases h1;have:=hloc g h2;intro hI;have:=H.ilt g hI;omega
   ·rw [K5 _ _ _ _ e]at h1;exact H'.notI k' b' g h1 h2
  ·intro k' b' g h1 h2;by_cases e:k'=k
   ·subst e;rw [C8]at h1;cases h1;have:=hloc g h2;simp;omega
   ·rw [K5 _ _ _ _ e]at h1;have:=hlt k' b' g h1 h2;simp;omega
  ·rintro g ⟨k',b',h1,h2⟩ hl;by_cases e:k'=k
   ·subst e;rw [C8]at h1;cases h1;have:=hloc g h2;omega
   ·rw [K5 _ _ _ _ e]at h1;exact ⟨k',b',h1,by rw [← h2];exact (Mr b' (K5 _ _ _ _ e)).symm⟩
theorem Qs {w w':World}{I:Nat→Prop}{ρ:Rho}{h:C7}(H:HeapOK w I ρ h)(k:D7)(b b':Blk)(g:Nat)(hk:h k=some b)(hg:M2 ρ k b=some g)(hg':M2 ρ k b'=some g)
    (hos:w'.os=w.os) (htp:w'.tape=w.tape) (hou:w'.output=w.output) (hsz:w'.heap.size=w.heap.size) (hw: ∀i,i≠g→w'.heap[i]? =w.heap[i]?) (hb:BlkOK w' I ρ k b'):
    HeapOK w' I ρ (W8 h k (some b'))∧Tr w I ρ h w' I ρ (W8 h k (some b')):=by
  have hgI: ¬I g:=H.notI k b g hk hg;have hIk: ∀i,I i→w'.heap[i]? =w.heap[i]?:=fun i hi=>hw i (fun e=>hgI (e▸hi));refine ⟨⟨?_,?_,?_,?_,fun i hi=>by rw [hsz];exact H.ilt i hi,H.fresh,H.rone⟩,⟨hos,htp,hou,by omega,fun i _ hn=>hw i (fun e=>hn ⟨k,b,hk,e▸hg⟩),fun _ hb=>hb,fun _ hb _=> .inl hb,?_,fun _ _ hv=>hv⟩⟩
  ·intro k1 b1 h1;by_cases e:k1=k
   ·subst e;rw [C8]at h1;cases h1;exact hb
   ·rw [K5 _ _ _ _ e]at h1;exact (H.blk k1 b1 h1).keep (fun i hi=>hw i (fun e'=>e (H.sep k1 k b1 b g h1 hk (e'▸hi) hg))) hIk (fun _ hb=>hb) (fun _ _ hv=>hv)
  ·intro k1 k2 b1 b2 i h1 h2 h3 h4;by_cases e1:k1=k<;>by_cases e2:k2=k
   ·rw [e1,e2]
   ·subst e1;rw [C8]at h1;cases h1;rw [K5 _ _ _ _ e2]at h2;rw [hg']at h3;cases h3;exact H.sep k1 k2 b b2 g hk h2 hg h4
   ·subst e2;rw [C8]at h2;cases h2;rw [K5 _ _ _ _ e1]at h1;rw [hg']at h4;cases h4;exact H.sep k1 k2 b1 b g h1 hk h3 hg
   ·rw [K5 _ _ _ _ e1]at h1;rw [K5 _ _ _ _ e2]at h2;exact H.sep k1 k2 b1 b2 i h1 h2 h3 h4
  ·intro k1 b1 i h1 h2;by_cases e:k1=k
   ·subst e;rw [C8]at h1;cases h1;rw [hg']at h2;cases h2;exact hgI
   ·rw [K5 _ _ _ _ e]at h1;exact H.notI k1 b1 i h1 h2
  ·intro k1 b1 i h1 h2;rw [hsz];by_cases e:k1=k
   ·subst e;rw [C8]at h1;cases h1;rw [hg']at h2;cases h2;exact H.lt k1 b g hk hg
   ·rw [K5 _ _ _ _ e]at h1;exact H.lt k1 b1 i h1 h2
  ·rintro i ⟨k1,b1,h1,h2⟩ _;by_cases e:k1=k
   ·subst e;rw [C8]at h1;cases h1;rw [hg']at h2;cases h2;exact ⟨k1,b,hk,hg⟩
   ·rw [K5 _ _ _ _ e]at h1;exact ⟨k1,b1,h1,h2⟩
def St.set (s:St)(d:Option Nat)(v:AV):St:=match d with|some d=>{s with t:=W8 s.t d v}|none=>s
theorem IL (a:Act)(d i:Nat)(x:Value)(hd:d<a.tmps.size):(a.put (some d) x).tmps.getD i undef=if i=d then x else a.tmps.getD i undef:=by
  simp only [Act.put,Array.getD_eq_getD_getElem?];rw [Array.getElem?_setIfInBounds];split
  ·rename_i e;subst e;simp
  ·rename_i e;rw [l5 (fun h=>e h.symm)]
theorem Sim.set {w:World}{I:Nat→Prop}{ρ:Rho}{N:Nat}{s:St}{a:Act}(hs:Sim w I ρ N s a)(d:Option Nat)(hd: ∀i,d=some i→i<N){v:AV}{x:Value}(h:RepV w I ρ v x):Sim w I ρ N (s.set d v) (a.put d x):=by
  cases d with
  |none=>exact hs
  |some d=>
   have hd':=hd d rfl;refine ⟨by simp [Act.put,hs.size],hs.defers,fun i=> ?_,hs.heap⟩;rw [IL a d i x (by rw [hs.size];exact hd')];simp only [St.set,W8];split
   ·exact h
   ·exact hs.tmp i
theorem Sim.step {w w':World}{I I':Nat→Prop}{ρ ρ':Rho}{N:Nat}{s:St}{a:Act}{h':C7}(hs:Sim w I ρ N s a)(H:HeapOK w' I' ρ' h')(tr:Tr w I ρ s.h w' I' ρ' h'):Sim w' I' ρ' N ⟨s.t,h'⟩ a:=
  ⟨hs.size,hs.defers.step tr,fun i=>(hs.tmp i).keep (fun b hb=>tr.frame b (hs.heap.ilt b hb) (fun ho=>hs.heap.own_notI ho hb)) tr.imm tr.rho,H⟩
end Go.Abs
namespace Go.Abs
open Go
inductive Opd where
  |t (n:Nat)
  |c (d:D)
inductive SOp where
  |len
  |idx
  |cat
  |eq (neg:Bool)
  |sl (lo hi:Bool)
  |bad
  |ofb
  |tob
  |mrk
inductive AK where
  |mv (x:Opd)
  |pick (c a b:Opd)
  |alloc (ty:TypeId) (z:List D)
  |box (ty:TypeId) (agg:Bool) (x:Opd)
  |build (z:List D) (parts:List (Nat×Nat×Opd))
  |bslice (e:TypeId) (sz len:Nat) (z:List D) (parts:List (Nat×Nat×Opd))
  |load (n:Nat) (agg:Bool) (p:Opd)
  |store (n:Nat) (p x:Opd)
  |bin (op:BinOp) (x y:Opd)
  |eqB (neg:Bool) (x y:Opd)
  |eqA (neg:Bool) (ks:List Bool) (x y:Opd)
  |un (op:UnOp) (x:Opd)
  |conv (k:IntKind) (x:Opd)
  |mkfn (f:Fn) (fs cs:List Opd)
  |slice (sz:Nat) (x:Opd) (lo hi mx:Option Opd)
  |fieldA (off:Nat) (x:Opd)
  |field (off n:Nat) (agg:Bool) (x:Opd)
  |idxS (sz:Nat) (x i:Opd)
  |idxP (len sz:Nat) (x i:Opd)
  |idxA (len sz:Nat) (agg:Bool) (x i:Opd)
  |ext (x:Opd) (i:Nat)
  |nilck (x:Opd)
  |len (x:Opd)
  |mm (isMax:Bool) (x:Opd) (r:List Opd)
  |append (t e:TypeId) (sz:Nat) (x y:Opd)
  |call (f:Opd) (args:List Opd)
  |icall (f:Opd) (args:List Opd)
  |ocall (S:Nat) (f:Opd) (args:List Opd)
  |isnil (neg:Bool) (x:Opd)
  |mkmap
  |mins (m x:Opd)
  |mlook (m x:Opd)
  |dslice (e:TypeId) (sz len:Nat) (z:List D) (parts:List (Nat×Nat×Opd))
  |str (op:SOp) (xs:List Opd)
  |oslice (sz:Nat) (x:Opd) (lo hi mx:Option Opd)
  |dbytes (x:Opd)
  |bmark (x:Opd)
def Sp:Value→D
  | .slice none 0 0=> .nilS
  |x=> .v x
def QT:Value→D
  | .agg cs=> .agg (cs.toList.map Sp)
  |x=>Sp x
def IM (v:Value):Bool:=match v with
  | .agg cs=>cs.toList.all Value.oneCell'
  | .tuple _=>false
  |_=>true
def L9:Operand→Option Opd
  | .tmp t=>some (.t t)
  | .const v=>if IM v then some (.c (QT v))else none
  | .func f=>some (.c (.fn (.func f) [] []))
  | .global _=>none
def Zi (P:Program)(t:TypeId):Option Nat:=(P.info? t).map (·.size)
def IN:TypeDesc→Bool
  | .struct _| .array _ _=>true
  |_=>false
def Qt (P:Program)(t:TypeId):Option Bool:=(P.underlying t).map IN
theorem MO {P:Program}{t:TypeId}{d:TypeDesc}(h:P.underlying t=some d):Qt P t=some (IN d):=by rw [Qt,h];rfl
def Zw (P:Program)(t:TypeId):Option (List D):=do
  let i ← P.info? t
  let z ← i.zero
  if IM z&&z.cells.size==i.size then some (z.cells.toList.map Sp)else none
def Xn (xs:List Operand):Option (List Opd):=xs.mapM L9
def Zj:Option Operand→Option (Option Opd)
  |none=>some none
  |some x=>(L9 x).map some
def PB (P:Program)(t:TypeId):Bool:=match P.underlying t with|some (.int _)=>true|_=>false
def IO (P:Program)(t:TypeId):Bool:=match P.underlying t with|some .string=>true|_=>false
def FR (P:Program)(t:TypeId):Bool:=match P.underlying t with|some .bool=>true|_=>false
def cellT (P:Program):Nat→TypeId→Option (List Bool)
  |0,_=>none
  |d+1,t=>
   match P.underlying t with
   |some .bool=>some [true]
   |some (.int _)=>some [false]
   |some (.struct fs)=>if P.stoodInHeld t then none else cellFs P (cellT P d) 0 fs.toList
   |_=>none
where cellFs (P:Program) (rec:TypeId→Option (List Bool)):Nat→List Field→Option (List Bool)
  |_,[]=>some []
  |n,f::fs=>do
   let ks ← rec f.type
   let a ← Qt P f.type
   let s ← Zi P f.type
   if f.name != "_" &&f.offset==n&&s==ks.length&& (a||s==1)then (do
    let r ← cellFs P rec (n+s) fs
    some (ks++r))else none
def Tc (place:Nat→Option (Nat×Nat)):List (Nat×Operand)→Option (List (Nat×Nat×Opd))
  | []=>some []
  |(i,x)::r=>do
   let p ← place i
   let x ← L9 x
   let r ← Tc place r
   some ((p.1,p.2,x)::r)
def OJ (P:Program)(neg:Bool)(t:TypeId)(x y:Operand):Option AK:=do
  let x ← L9 x
  let y ← L9 y
  if FR P t then some (.eqB neg x y)
  else if Qt P t==some true&&P.eqGuardType P.depth t==false then (do
    let ks ← cellT P 8 t
    some (.eqA neg ks x y))else match P.underlying t,y with
    |some (.slice _), .c .nilS=>some (.isnil neg x)
    |_,_=>none
def Tz (P:Program)(t:TypeId):Bool:=match P.underlying t with
  |some (.map k e)=>(match P.underlying k,P.info? e with
   |some (.int .i64),some i=>(match i.zero with|some (.bool false)=>true|_=>false)
   |_,_=>false)
  |_=>false
def Xo (op:BinOp)(x y:Operand):Option AK:=match op with
  | .add=>do
    let a ← L9 x
    let b ← L9 y
    some (.str .cat [a,b])
  | .eql=>do
    let a ← L9 x
    let b ← L9 y
    some (.str (.eq false) [a,b])
  | .neq=>do
    let a ← L9 x
    let b ← L9 y
    some (.str (.eq true) [a,b])
  |_=>none
def Xp (x:Operand)(lo hi mx:Option Operand):Option AK:=match mx with
  |some _=>none
  |none=>match lo,hi with
   |none,none=>do
    let s ← L9 x
    some (.str (.sl false false) [s])
   |some a,none=>do
    let s ← L9 x
    let a ← L9 a
    some (.str (.sl true false) [s,a])
   |none,some b=>do
    let s ← L9 x
    let b ← L9 b
    some (.str (.sl false true) [s,b])
   |some a,some b=>do
    let s ← L9 x
    let a ← L9 a
    let b ← L9 b
    some (.str (.sl true true) [s,a,b])
def Xq (x i:Operand):Option AK:=do
  let a ← L9 x
  let b ← L9 i
  some (.str .idx [a,b])
def Xr (x:Operand):Option AK:=do
  let a ← L9 x
  some (.str .len [a])
def AZ (x:Operand):Option AK:=do
  let a ← L9 x
  some (.str .ofb [a])
def CJ (x:Operand):Option AK:=do
  let a ← L9 x
  some (.str .tob [a])
def CK (P:Program)(s d e:TypeId)(x:Operand):Option AK:=if s=d then (match P.underlying e with
  |some (.int .u8)=>(L9 x).bind fun a=>some (.str .mrk [a])
  |_=>none)else none
def N6 (P:Program)(o:Op):Option AK:=
  match o with
  | .move x| .assign x=>do some (.mv (← L9 x))
  | .pick c a b=>do some (.pick (← L9 c) (← L9 a) (← L9 b))
  | .alloc e=>do some (.alloc e (← Zw P e))
  | .box e v=>do some (.box e (← Qt P e) (← L9 v))
  | .build t parts=>do
    let z ← Zw P t
    match P.underlying t with
    |some (.struct fs)=>do
     let pl ← fs.toList.mapM (fun f=>(P.info? f.type).map fun i=>(f.offset,i.size))
     some (.build z (← Tc (pl[·]?) parts.toList))
    |some (.array _ e)=>do
     let sz ← Zi P e
     some (.build z (← Tc (fun i=>some (i*sz,sz)) parts.toList))
    |_=>none
  | .buildSlice t len parts=>do
    match P.underlying t with
    |some (.slice e)=>do
     let sz ← Zi P e
     if sz==0||len*sz>100000 then none else some (.bslice e sz len (← Zw P e) (← Tc (fun i=>some (i*sz,sz)) parts.toList))
    |_=>none
  | .load t p=>do some (.load (← Zi P t) (← Qt P t) (← L9 p))
  | .store t p x=>do some (.store (← Zi P t) (← L9 p) (← L9 x))
  | .binOp op t x y _=>do
    if PB P t then some (.bin op (← L9 x) (← L9 y))
    else if IO P t then Xo op x y else match op with
      | .eql=>OJ P false t x y
      | .neq=>OJ P true t x y
      |_=>none
  | .unOp op _ x=>do some (.un op (← L9 x))
  | .convert s d x=>do
    match P.underlying s,P.underlying d with
    |some (.int _),some (.int k)=>some (.conv k (← L9 x))
    |some (.slice e),some .string=>match P.underlying e with
     |some (.int .u8)=>AZ x
     |_=>none
    |some .string,some (.slice e)=>match P.underlying e with
     |some (.int .u8)=>CJ x
     |_=>none
    |some (.slice _),some (.slice e)=>CK P s d e x
    |_,_=>none
  | .makeFunc f fs cs=>do some (.mkfn f (← Xn fs.toList) (← Xn cs.toList))
  | .slice t x lo hi mx=>do
    match P.underlying t with
    |some (.slice e)=>some (.slice (← Zi P e) (← L9 x) (← Zj lo) (← Zj hi) (← Zj mx))
    |some .string=>Xp x lo hi mx
    |_=>none
  | .fieldAddr t x f=>do
    match P.underlying t with
    |some (.struct fs)=>
     let f ← fs[f]?
     if (← Zi P f.type)==0 then none else some (.fieldA f.offset (← L9 x))
    |_=>none
  | .field t x f=>do
    match P.underlying t with
    |some (.struct fs)=>
     let f ← fs[f]?
     some (.field f.offset (← Zi P f.type) (← Qt P f.type) (← L9 x))
    |_=>none
  | .indexAddr t x i=>do
    match P.underlying t with
    |some (.slice e)=>some (.idxS (← Zi P e) (← L9 x) (← L9 i))
    |some (.array n e)=>some (.idxP n (← Zi P e) (← L9 x) (← L9 i))
    |_=>none
  | .index t x i=>do
    match P.underlying t with
    |some (.array n e)=>some (.idxA n (← Zi P e) (← Qt P e) (← L9 x) (← L9 i))
    |some .string=>Xq x i
    |_=>none
  | .extract x i=>do some (.ext (← L9 x) i)
  | .makeMap t none=>if Tz P t then some .mkmap else none
  | .insert t m x v=>match v with
    | .const (.bool true)=>if Tz P t then (do some (.mins (← L9 m) (← L9 x)))else none
    |_=>none
  | .mapUpdate t m x v=>match v with
    | .const (.bool true)=>if Tz P t then (do some (.mins (← L9 m) (← L9 x)))else none
    |_=>none
  | .lookup t m x false=>if Tz P t then (do some (.mlook (← L9 m) (← L9 x)))else none
  | .nilCheck x=>do some (.nilck (← L9 x))
  | .panic _=>some (.str .bad [])
  | .makeInterface _ _=>some (.str .bad [])
  | .call c=>
    match c.callee with
    | .value f=>do some (.call (← L9 f) (← Xn c.args.toList))
    | .builtin .len=>do
      match c.args.toList,c.argTypes.toList with
      | [x],[t]=>(match P.underlying t with|some (.slice _)=>do some (.len (← L9 x))|some .string=>Xr x|_=>none)
      |_,_=>none
    | .builtin .max=>do
      match c.args.toList with
      |x::r=>some (.mm true (← L9 x) (← Xn r))
      |_=>none
    | .builtin .min=>do
      match c.args.toList with
      |x::r=>some (.mm false (← L9 x) (← Xn r))
      |_=>none
    | .builtin .append=>do
      match c.args.toList,c.argTypes.toList with
      | [x,y],[t,t']=>
        if t !=t' then none else
        match P.underlying t with
        |some (.slice e)=>
         let s ← Zi P e
         let i ← P.info? e
         if s==0||i.bytes>1024||i.zero.isNone||(i.zero.map (·.cells.size)) !=some s then none else some (.append t e s (← L9 x) (← L9 y))
        |_=>none
      |_,_=>none
    |_=>none
  |_=>none
structure AOp where
  dst:Option Nat
  k:AK
  g:Option (Nat×Bool)
def OK (ops:Array Oper):Option (Nat×Bool)→Option (Option (Nat×Bool))
  |none=>some none
  |some (j,b)=>((ops[j]?).bind (·.dst)).map fun d=>some (d,b)
def OL (N:Nat):Option Nat→Bool
  |some d=>decide (d<N)
  |none=>true
def CL (P:Program)(N:Nat)(ops:Array Oper)(o:Oper):Option AOp:=do
  let k ← N6 P o.op
  let g ← OK ops o.guard
  if OL N o.dst=true then some ⟨o.dst,k,g⟩else none
def ev (t:Nat→AV):Opd→AV
  | .t n=>t n
  | .c d=> .d d
def He:List AV→Option (List D)
  | []=>some []
  | .d x::r=>(He r).map (x:: ·)
  |_::_=>none
def Ce (cs:List AV):AV:=match He cs with
  |some ds=> .d (.agg ds)
  |none=> .agg cs
def QU (cs:List AV):AV:=match He cs with
  |some ds=> .d (.tup ds)
  |none=> .tup cs
def MP (f:Fn)(fs cs:List AV):AV:=match He fs,He cs with
  |some a,some b=> .d (.fn f a b)
  |_,_=> .fn f fs cs
def Zk:AV→Option (List AV)
  | .d (.agg cs)=>some (cs.map .d)
  | .agg cs=>some cs
  |_=>none
def one:AV→Bool
  | .d x=>x.one
  | .agg _| .tup _| .any=>false
  |_=>true
def cellsOf (agg:Bool)(x:AV):Option (List AV):=if agg then Zk x else if one x then some [x]else none
def Gn (x:AV):Option (List AV):=match Zk x with
  |some cs=>some cs
  |none=>if one x then some [x]else none
def V0 (h:C7):AV→Option (List AV)
  | .ptr k off=>match h k with
    |some (.box _ cs)=>some (cs.drop off)
    |_=>none
  | .aptr k sz i off=>match h k with
    |some (.arr _ sz' es)=>if sz'=sz then (es[i]?).map fun e=>(e.drop off).map .d else none
    |_=>none
  | .d (.lp es i off)=>(es[i]?).map fun e=>(e.drop off).map .d
  | .d (.bp cs off)=>some ((cs.drop off).map .d)
  |_=>none
def Gp {α:Type}:List α→Nat→List α→List α
  |cs,_,[]=>cs
  |cs,off,v::vs=>Gp (cs.set off v) (off+1) vs
def Ly (t:Nat→AV):List AV→List (Nat×Nat×Opd)→Option (List AV)
  |cs,[]=>some cs
  |cs,(off,n,x)::r=>match Gn (ev t x)with
   |some vs=>if vs.length=n∧off+n≤cs.length then Ly t (Gp cs off vs) r else none
   |none=>none
def Xs (op:BinOp)(k:IntKind)(a b:Int):Option Value:=
  match op with
  | .add=>some (.int k (k.wrap (a+b)))
  | .sub=>some (.int k (k.wrap (a - b)))
  | .mul=>some (.int k (k.wrap (a*b)))
  | .quo=>if b=0 then none else some (.int k (k.wrap (a.tdiv b)))
  | .rem=>if b=0 then none else some (.int k (a.tmod b))
  | .eql=>some (.bool (a==b))
  | .neq=>some (.bool (a !=b))
  | .lss=>some (.bool (a<b))
  | .leq=>some (.bool (a≤b))
  | .gtr=>some (.bool (a>b))
  | .geq=>some (.bool (a≥b))
  | .and=>some (.int k (k.wrap (BitVec.ofInt k.bits a&&&BitVec.ofInt k.bits b).toNat))
  | .or=>some (.int k (k.wrap (BitVec.ofInt k.bits a|||BitVec.ofInt k.bits b).toNat))
  | .xor=>some (.int k (k.wrap (BitVec.ofInt k.bits a^^^BitVec.ofInt k.bits b).toNat))
  | .andNot=>some (.int k (k.wrap (BitVec.ofInt k.bits a&&& ~~~BitVec.ofInt k.bits b).toNat))
  | .shl=>if b<0 then none else some (.int k (k.wrap (a*2^ (min b.toNat k.bits))))
  | .shr=>if b<0 then none else some (.int k (a.fdiv (2^ (min b.toNat k.bits))))
def Pk:BinOp→Bool
  | .shl| .shr=>true
  |_=>false
def QV:Bool→Value→Value→Option Bool
  |false, .int k a, .int k' b=>if k=k' then some (a==b)else none
  |true, .bool a, .bool b=>some (a==b)
  |_,_,_=>none
def QQ:List Bool→List D→List D→Option Bool
  | [],[],[]=>some true
  |k::ks, .v x::r, .v y::q=>(QV k x y).bind fun b=>(QQ ks r q).map fun e=>b&&e
  |_,_,_=>none
def Hz (isMax:Bool)(x y:Int):Int:=if isMax then (if y>x then y else x)else (if y<x then y else x)
def OM (isMax:Bool)(k:IntKind)(t:Nat→AV):Int→List Opd→Option AV
  |x,[]=>some (.d (.v (.int k x)))
  |x,y::r=>match ev t y with
   | .d (.v (.int k' y))=>if k=k' then OM isMax k t (Hz isMax x y) r else none
   |_=>none
def intOf?:AV→Option Int
  | .d (.v (.int _ n))=>some n
  |_=>none
def Bl (t:Nat→AV)(dflt:Nat):Option Opd→Option Nat
  |none=>some dflt
  |some x=>match ev t x with
   | .d (.v (.int _ n))=>if 0≤n then some n.toNat else none
   |_=>none
def nrm:D→D
  | .nilS=> .list []
  |d=>d
def Fj {α:Type}(sz:Nat):Nat→List α→List (List α)
  |0,_=> []
  |n+1,l=>l.take sz::Fj sz n (l.drop sz)
def Lg {α:Type}(z:List α):Nat→List α
  |0=> []
  |n+1=>z++Lg z n
def Td (ns:List Int):ByteArray:=⟨(ns.map fun n=>UInt8.ofNat n.toNat).toArray⟩
def Te:List (List D)→Option (List Int)
  | []=>some []
  | [.v (.int .u8 n)]::r=>(Te r).map fun l=>n::l
  |_=>none
def Ka (s:ByteArray):List Int:=s.data.toList.map fun b=>(b.toNat:Int)
def Np:SOp→List AV→Option AV
  | .len,[.d (.v (.string s))]=>some (.d (.v (.int .i64 s.size)))
  | .idx,[.d (.v (.string s)), .d (.v (.int _ n))]=>if 0≤n then (s.data.toList[n.toNat]?).map fun b=> .d (.v (.int .u8 b.toNat))else none
  | .cat,[.d (.v (.string a)), .d (.v (.string b))]=>if a.size+b.size≤1000000000 then some (.d (.v (.string (a++b))))else none
  | .eq neg,[.d (.v (.string a)), .d (.v (.string b))]=>some (.d (.v (.bool (if neg then !(a.toList==b.toList)else a.toList==b.toList))))
  | .ofb,[.d (.list es)]=>(Te es).map fun ns=> .d (.v (.string (Td ns)))
  | .ofb,[.d .nilS]=>some (.d (.v (.string (Td []))))
  | .sl false false,[.d (.v (.string s))]=>some (.d (.v (.string (s.extract 0 s.size))))
  | .sl true false,[.d (.v (.string s)), .d (.v (.int _ a))]=>if 0≤a∧a≤s.size then some (.d (.v (.string (s.extract a.toNat s.size))))else none
  | .sl false true,[.d (.v (.string s)), .d (.v (.int _ b))]=>if 0≤b∧b≤s.size then some (.d (.v (.string (s.extract 0 b.toNat))))else none
  | .sl true true,[.d (.v (.string s)), .d (.v (.int _ a)), .d (.v (.int _ b))]=>if 0≤a∧a≤b∧b≤s.size then some (.d (.v (.string (s.extract a.toNat b.toNat))))else none
  |_,_=>none
def J1 (t:Nat→AV)(h:C7):AK→Option AV
  | .mv x=>some (ev t x)
  | .pick c a b=>match ev t c with
    | .d (.v (.bool c))=>some (match c with|true=>ev t a|false=>ev t b)
    |_=>none
  | .build z parts=>(Ly t (z.map .d) parts).map Ce
  | .load n agg p=>match V0 h (ev t p)with
    |some cs=>if agg then (if n≤cs.length then some (Ce (cs.take n))else none)else cs.head?
    |none=>none
  | .bin op x y=>match ev t x,ev t y with
    | .d (.v (.int k a)), .d (.v (.int k' b))=>if Pk op||k==k' then (Xs op k a b).map fun r=> .d (.v r)else none
    |_,_=>none
  | .eqB neg x y=>match ev t x,ev t y with
    | .d (.v (.bool a)), .d (.v (.bool b))=>some (.d (.v (.bool (if neg then !(a==b)else a==b))))
    |_,_=>none
  | .eqA neg ks x y=>match ev t x,ev t y with
    | .d (.agg a), .d (.agg b)=>(QQ ks a b).map fun r=> .d (.v (.bool (if neg then !r else r)))
    |_,_=>none
  | .un op x=>match op,ev t x with
    | .neg, .d (.v (.int k a))=>some (.d (.v (.int k (k.wrap (0 - a)))))
    | .not, .d (.v (.bool b))=>some (.d (.v (.bool !b)))
    |_,_=>none
  | .conv k x=>match ev t x with
    | .d (.v (.int _ n))=>some (.d (.v (.int k (k.wrap n))))
    |_=>none
  | .mkfn f fs cs=>some (MP f (fs.map (ev t)) (cs.map (ev t)))
  | .slice sz x lo hi mx=>match ev t x with
    | .d (.list es)=>match mx,hi with
      |none,hi=>match Bl t es.length hi,Bl t 0 lo with
       |some j,some i=>if i≤j∧j≤es.length∧(es.all fun e=>e.length==sz)=true then some (.d (.list ((es.take j).drop i)))else none
       |_,_=>none
      |some mx,some hi=>match Bl t 0 (some mx),Bl t 0 (some hi),Bl t 0 lo with
       |some m,some j,some i=>if i=m∧j=m∧m≤es.length then some (.d .nilS)else none
       |_,_,_=>none
      |_,_=>none
    | .d .nilS=>match mx,hi with
      |none,hi=>match Bl t 0 hi,Bl t 0 lo with
       |some 0,some 0=>some (.d .nilS)
       |_,_=>none
      |some mx,some hi=>match Bl t 0 (some mx),Bl t 0 (some hi),Bl t 0 lo with
       |some 0,some 0,some 0=>some (.d .nilS)
       |_,_,_=>none
      |_,_=>none
    |_=>none
  | .fieldA off x=>match ev t x with
    | .ptr k o=>some (.ptr k (o+off))
    | .aptr k sz i o=>some (.aptr k sz i (o+off))
    | .d (.lp es i o)=>some (.d (.lp es i (o+off)))
    | .d (.bp cs o)=>some (.d (.bp cs (o+off)))
    |_=>none
  | .field off n agg x=>match Zk (ev t x)with
    |some cs=>if agg then (if off+n≤cs.length then some (Ce ((cs.drop off).take n))else none)else cs[off]?
    |none=>none
  | .idxS sz x i=>match ev t x,ev t i with
    | .d (.list es), .d (.v (.int _ n))=>match es[n.toNat]? with
      |some e=>if 0≤n∧e.length=sz then some (.d (.lp es n.toNat 0))else none
      |none=>none
    | .sl k, .d (.v (.int _ n))=>match h k with
      |some (.arr _ sz' es)=>if sz'=sz∧0≤n∧n.toNat<es.length then some (.aptr k sz n.toNat 0)else none
      |_=>none
    | .bsl k m, .d (.v (.int _ n))=>if 0≤n∧n.toNat<m then some (.ptr k (n.toNat*sz))else none
    |_,_=>none
  | .idxP len sz x i=>match ev t x,ev t i with
    | .ptr k o, .d (.v (.int _ n))=>if 0≤n∧n.toNat<len then some (.ptr k (o+n.toNat*sz))else none
    |_,_=>none
  | .idxA len sz agg x i=>match Zk (ev t x),ev t i with
    |some cs, .d (.v (.int _ n))=>if 0≤n∧n.toNat<len then
       (if agg then (if n.toNat*sz+sz≤cs.length then some (Ce ((cs.drop (n.toNat*sz)).take sz))else none)else cs[n.toNat*sz]?)else none
    |_,_=>none
  | .ext x i=>match ev t x with
    | .d (.tup cs)=>(cs[i]?).map .d
    | .tup cs=>cs[i]?
    |_=>none
  | .nilck x=>match ev t x with
    | .ptr k o=>some (.ptr k o)
    | .aptr k sz i o=>some (.aptr k sz i o)
    | .d (.lp es i o)=>some (.d (.lp es i o))
    | .d (.bp cs o)=>some (.d (.bp cs o))
    |_=>none
  | .len x=>match ev t x with
    | .d (.list es)=>some (.d (.v (.int .i64 es.length)))
    | .d .nilS=>some (.d (.v (.int .i64 0)))
    | .sl k=>match h k with
      |some (.arr _ _ es)=>some (.d (.v (.int .i64 es.length)))
      |_=>none
    |_=>none
  | .mm isMax x r=>match ev t x with
    | .d (.v (.int k n))=>OM isMax k t n r
    |_=>none
  | .isnil neg x=>match ev t x with
    | .d (.list (_::_))=>some (.d (.v (.bool neg)))
    | .d (.v (.slice none _ _))=>some (.d (.v (.bool (!neg))))
    | .d (.v (.slice (some _) _ _))=>some (.d (.v (.bool neg)))
    |_=>none
  | .mlook m x=>match ev t m,ev t x with
    | .sl q, .d (.v (.int .i64 n))=>match h q with
      |some (.mp ks)=>some (.d (.v (.bool (ks.contains n))))
      |_=>none
    |_,_=>none
  | .dslice _ sz len z ps=>(Ly t ((Lg z len).map .d) ps).bind fun cs=>(He cs).map fun ds=> .d (.list (Fj sz len (ds.map nrm)))
  | .str op xs=>Np op (xs.map (ev t))
  | .dbytes x=>match ev t x with
    | .d (.v (.string s))=>some (.d (.list ((Ka s).map fun n=> [.v (.int .u8 n)])))
    |_=>none
  | .bmark x=>match ev t x with
    | .sl k=>match h k with
      |some (.arr e _ (_::_))=>if e=5 then some (.sl k)else none
      |_=>none
    |_=>none
  |_=>none
end Go.Abs
namespace Go.Abs
open Go
theorem Zx {w:World}{I:Nat→Prop}(v:Value):RepD w I (Sp v) v:=by
  unfold Sp;split
  ·exact .nilS _
  ·exact .v _
theorem IP (v:Value)(h:v.oneCell'=true):(Sp v).one=true:=by
  unfold Sp;split
  ·rfl
  ·exact h
theorem Pl {w:World}{I:Nat→Prop}(cs:List Value): ∀(i:Nat) d,(cs.map Sp)[i]? =some d→RepD w I d (cs.getD i undef):=by
  intro i d h;rw [lI]at h;cases hc:cs[i]? with
  |none=>rw [hc]at h;cases h
  |some c=>rw [hc]at h;cases h;rw [List.getD,hc];exact Zx c
theorem IQ {w:World}{I:Nat→Prop}(v:Value)(h:IM v=true):RepD w I (QT v) v:=by
  unfold QT;split
  ·rename_i cs;have h': ∀x∈cs.toList,x.oneCell'=true:=lU.1 h;refine RepD.agg (cs.toList.map Sp) cs.toList (by simp) (fun i d hd=> ?_) (Pl cs.toList);rw [lI]at hd;cases hc:cs.toList[i]? with
   |none=>rw [hc]at hd;cases hd
   |some c=>rw [hc]at hd;cases hd;exact IP c (h' c (lF hc))
  ·exact Zx v
theorem O2 {w:World}{I:Nat→Prop}{ρ:Rho}{N:Nat}{s:St}{a:Act}(hs:Sim w I ρ N s a){x:Operand}{ox:Opd}(hx:L9 x=some ox):RepV w I ρ (ev s.t ox) (a.eval x):=by
  cases x with
  |tmp n=>simp only [L9,Option.some.injEq]at hx;subst hx;exact hs.tmp n
  |const v=>
   simp only [L9]at hx;split at hx
   ·cases hx;exact .d _ _ (IQ v ‹_›)
   ·cases hx
  |func f=>
   simp only [L9,Option.some.injEq]at hx;subst hx;exact .d _ _ (RepD.fn (.func f) [] [] [] [] rfl rfl (by simp) (by simp))
  |global g=>cases hx
theorem Ua {w:World}{I:Nat→Prop}{ρ:Rho}{N:Nat}{s:St}{a:Act}(hs:Sim w I ρ N s a): ∀{xs:List Operand} {os:List Opd},Xn xs=some os→
    os.length=xs.length∧∀(i:Nat) o,os[i]? =some o→RepV w I ρ (ev s.t o) ((xs.map a.eval).getD i undef):=by
  intro xs
  induction xs with
  |nil=>intro os h;simp [Xn]at h;subst h;simp
  |cons x r ih=>
   intro os h;simp only [Xn,List.mapM_cons,Option.pure_def,lB]at h;cases hx:L9 x with
   |none=>simp [hx]at h
   |some ox=>
    cases hr:r.mapM L9 with
    |none=>simp [hx,hr]at h
    |some q=>
     simp only [hx,hr,lA,Option.some.injEq]at h;subst h;obtain ⟨hl,hi⟩:=ih hr;refine ⟨by simp [hl],fun i o ho=> ?_⟩;cases i with
     |zero=>simp only [List.getElem?_cons_zero,Option.some.injEq]at ho;subst ho;exact O2 hs hx
     |succ i=>simp only [List.getElem?_cons_succ]at ho;simpa using hi i o ho
theorem Cf {w:World}{I:Nat→Prop}{ρ:Rho}{k:IntKind}{n:Int}{x:Value}(h:RepV w I ρ (.d (.v (.int k n))) x):x= .int k n:=by
  cases h with|d _ _ h=>cases h with|v=>rfl
theorem Kb {w:World}{I:Nat→Prop}{ρ:Rho}{b:Bool}{x:Value}(h:RepV w I ρ (.d (.v (.bool b))) x):x= .bool b:=by
  cases h with|d _ _ h=>cases h with|v=>rfl
theorem Ml: ∀{cs:List AV} {ds:List D},He cs=some ds→cs=ds.map .d:=by
  intro cs
  induction cs with
  |nil=>intro ds h;simp [He]at h;subst h;rfl
  |cons c r ih=>
   intro ds h;cases c<;>simp only [He]at h<;>try cases h
   rename_i x;cases hr:He r with
   |none=>simp [hr]at h
   |some q=>simp only [hr,lE,Option.some.injEq]at h;subst h;simp [ih hr]
theorem RepD.one_of {w:World}{I:Nat→Prop}{d:D}{x:Value}(h:RepD w I d x)(hx:x.oneCell'=true):d.one=true:=by
  cases h<;>first|exact hx|rfl|(simp [Value.oneCell']at hx)
theorem Ot {w:World}{I:Nat→Prop}{ρ:Rho}{cs:List AV}{vs:List Value}(hl:cs.length=vs.length)(hone: ∀i,i<cs.length→(vs.getD i undef).oneCell'=true)
    (hr: ∀(i:Nat) d,cs[i]? =some d→RepV w I ρ d (vs.getD i undef)):RepV w I ρ (Ce cs) (.agg vs.toArray):=by
  unfold Ce;split
  ·rename_i ds hd;have e:=Ml hd;subst e
   have hr': ∀(i:Nat) d,ds[i]? =some d→RepD w I d (vs.getD i undef):=by
     intro i d hd;have:=hr i (.d d) (by simp [hd]);cases this with|d _ _ h=>exact h
   refine .d _ _ (.agg ds vs (by simpa using hl) (fun i d hd=>(hr' i d hd).one_of (hone i ?_)) hr');simpa using (lH.1 hd).1
  ·exact .agg cs vs hl hone hr
theorem IR {w:World}{I:Nat→Prop}{ρ:Rho}{f:Fn}{fs cs:List AV}{vfs vcs:List Value}(hl:fs.length=vfs.length)(hl':cs.length=vcs.length)
    (hr: ∀(i:Nat) d,fs[i]? =some d→RepV w I ρ d (vfs.getD i undef)) (hr': ∀(i:Nat) d,cs[i]? =some d→RepV w I ρ d (vcs.getD i undef)):RepV w I ρ (MP f fs cs) (.func f vfs.toArray vcs.toArray):=by
  unfold MP;split
  ·rename_i a b ha hb;have e:=Ml ha;have e':=Ml hb;subst e e';refine .d _ _ (.fn f a b vfs vcs (by simpa using hl) (by simpa using hl') (fun i d hd=> ?_) (fun i d hd=> ?_))
   ·have:=hr i (.d d) (by simp [hd]);cases this with|d _ _ h=>exact h
   ·have:=hr' i (.d d) (by simp [hd]);cases this with|d _ _ h=>exact h
  ·exact .fn f fs cs vfs vcs hl hl' hr hr'
theorem Xt {w:World}{I:Nat→Prop}{ρ:Rho}{x:AV}{cs:List AV}{v:Value}(h:RepV w I ρ x v)(hc:Zk x=some cs):
    ∃vs:List Value,v= .agg vs.toArray∧cs.length=vs.length∧(∀i,i<cs.length→(vs.getD i undef).oneCell'=true)∧∀(i:Nat) d,cs[i]? =some d→RepV w I ρ d (vs.getD i undef):=by
  cases h with
  |d x v h=>
   cases h with
   |agg ds vs hl hone hr=>
    simp only [Zk,Option.some.injEq]at hc;subst hc;refine ⟨vs,rfl,by simpa using hl,fun i hi=> ?_,fun i d hd=> ?_⟩
    ·have hi':i<ds.length:=by simpa using hi
     have e:=lG hi';exact (hr i _ e).one (hone i _ e)
    ·rw [lI]at hd;cases hq:ds[i]? with
     |none=>rw [hq]at hd;cases hd
     |some q=>rw [hq]at hd;cases hd;exact .d _ _ (hr i q hq)
   |_=>simp [Zk]at hc
  |agg cs' vs hl hone hr=>simp only [Zk,Option.some.injEq]at hc;subst hc;exact ⟨vs,rfl,hl,hone,hr⟩
  |_=>simp [Zk]at hc
theorem MQ {w:World}{I:Nat→Prop}{ρ:Rho}{x:AV}{v:Value}(H: ∀k y,ρ k=some y→y.oneCell'=true)(h:RepV w I ρ x v)(hc:one x=true):v.oneCell'=true:=by
  cases h with
  |d x v h=>exact h.one hc
  |any|agg|tup=>simp [one]at hc
  |sl k v h=>exact H _ _ h
  |_=>rfl
end Go.Abs
namespace Go.Abs
open Go
theorem BA {n sz i j:Nat}(hi:i<n)(hj:j<sz):i*sz+j<n*sz:=by
  have h1:(i+1)*sz≤n*sz:=Nat.mul_le_mul_right sz hi;rw [bD]at h1;omega
theorem Wi {w:World}{I:Nat→Prop}{ρ:Rho}{h:C7}(H:HeapOK w I ρ h){p:AV}{cs:List AV}{x:Value}(hx:RepV w I ρ p x)(hc:V0 h p=some cs):
    ∃A,x= .pointer (some A)∧∀(j:Nat) c,cs[j]? =some c→∃y,w.cell? (A.add j)=some y∧y.oneCell'=true∧RepV w I ρ c y:=by
  cases hx with
  |ptr k off g hk=>
   simp only [V0]at hc;split at hc
   ·rename_i ty cs0 hb;cases hc;obtain ⟨g',vs,h1,h2,h3,h4,h5⟩:=H.blk _ _ hb;rw [hk]at h1;cases h1;refine ⟨_,rfl,fun j c hj=> ?_⟩;rw [lW]at hj;have hlt:off+j<vs.length:=by have:=(lH.1 hj).1;omega
    refine ⟨vs.getD (off+j) undef,?_,h4 _ hlt,h5 _ _ hj⟩;rw [Addr.add_mid,cell_of_row w g (off+j) _ _ _ h2];simp [List.getD,lG hlt]
   ·cases hc
  |aptr k sz i off g n cap hk=>
   simp only [V0]at hc;split at hc
   ·rename_i ty sz' es hb;split at hc
    ·rename_i hsz;subst hsz;obtain ⟨x,xs,h1,h2,h3,h4⟩:=H.blk _ _ hb;rw [hk]at h1;cases h1;cases he:es[i]? with
     |none=>simp [he]at hc
     |some e=>
      simp only [he,lE,Option.some.injEq]at hc;subst hc;have hi:i<es.length:=(lH.1 he).1;have hel:e.length=sz':=h3 e (lF he);refine ⟨_,rfl,fun j c hj=> ?_⟩;rw [lI,lW]at hj;cases hd:e[off+j]? with
      |none=>rw [hd]at hj;cases hj
      |some d=>
       rw [hd]at hj;cases hj;have hj':off+j<sz':=by rw [← hel];exact (lH.1 hd).1
       have h2d:Lf es i (off+j)=some d:=by simp [Lf,he,hd]
       obtain ⟨ho,hr⟩:=h4 i (off+j) d h2d;have hlt:i*sz'+ (off+j)<xs.length:=by rw [h2.1];exact BA hi hj'
       refine ⟨xs.getD (i*sz'+ (off+j)) undef,?_,hr.one ho, .d _ _ hr⟩;have:=Tb h2 (g:=g) rfl (i*sz'+ (off+j)) _ (by rw [lG hlt]);rw [Addr.add_mid]at this ⊢;rw [show i*sz'+off+j=0+ (i*sz'+ (off+j)) by omega,this];simp [List.getD,lG hlt]
    ·cases hc
   ·cases hc
  |d x v hd=>
   cases hd with
   |lp es i off A sz X hsz hI hone hcell hr=>
    simp only [V0]at hc;cases he:es[i]? with
    |none=>simp [he]at hc
    |some e=>
     simp only [he,lE,Option.some.injEq]at hc;subst hc;refine ⟨_,rfl,fun j c hj=> ?_⟩;rw [lI,lW]at hj;cases hd:e[off+j]? with
     |none=>rw [hd]at hj;cases hj
     |some d=>
      rw [hd]at hj;cases hj;have h2d:Lf es i (off+j)=some d:=by simp [Lf,he,hd]
      refine ⟨X i (off+j),?_,(hr _ _ _ h2d).one (hone _ _ _ h2d), .d _ _ (hr _ _ _ h2d)⟩;rw [Addr.add_add,show i*sz+off+j=i*sz+ (off+j) by omega];exact hcell _ _ _ h2d
   |bp cs0 off g vs ty fz hI hg hl hone hr=>
    simp only [V0,Option.some.injEq]at hc;subst hc;refine ⟨_,rfl,fun j c hj=> ?_⟩;rw [lI,lW]at hj;cases hd:cs0[off+j]? with
    |none=>rw [hd]at hj;cases hj
    |some d=>
     rw [hd]at hj;cases hj;have hlt:off+j<vs.length:=by rw [← hl];exact (lH.1 hd).1
     refine ⟨vs.getD (off+j) undef,?_,(hr _ _ hd).one (hone _ _ hd), .d _ _ (hr _ _ hd)⟩;rw [Addr.add_mid,cell_of_row w g (off+j) _ _ _ hg];simp [List.getD,lG hlt]
   |_=>simp [V0]at hc
  |_=>simp [V0]at hc
section
variable {P:Program}{w:World}{I:Nat→Prop}{ρ:Rho}{N:Nat}{s:St}{a:Act}
theorem Ub {t:TypeId}{b:Bool}(h:Qt P t=some b):(isAgg t).run P w= .ok b w:=by
  unfold Qt at h;cases hu:P.underlying t with
  |none=>simp [hu]at h
  |some d=>
   simp only [hu,lE,Option.some.injEq]at h;subst h;unfold isAgg;rw [Sem.run_bind,run_underlying hu];cases d<;>rfl
theorem Df {t:TypeId}{n:Nat}(h:Zi P t=some n):(sizeOf t).run P w= .ok n w:=by
  unfold Zi at h;cases hi:P.info? t with
  |none=>simp [hi]at h
  |some i=>
   simp only [hi,lE,Option.some.injEq]at h;subst h;simp [sizeOf,typeInfo,hi]
theorem CM {t:TypeId}{n:Nat}{A:Addr}{cs:List AV}(ha:Qt P t=some true)(hn:Zi P t=some n)(hl:n≤cs.length)
    (hc: ∀(j:Nat) c,cs[j]? =some c→∃y,w.cell? (A.add j)=some y∧y.oneCell'=true∧RepV w I ρ c y):
    ∃x,(loadVar t A).run P w= .ok x w∧RepV w I ρ (Ce (cs.take n)) x:=by
  have hY: ∀j,j<n→∃y,w.cell? (A.add j)=some y∧y.oneCell'=true∧∀c,cs[j]? =some c→RepV w I ρ c y:=by
    intro j hj;have e:=lG (show j<cs.length by omega);obtain ⟨y,h1,h2,h3⟩:=hc j _ e;exact ⟨y,h1,h2,fun c hc=>by rw [e]at hc;cases hc;exact h3⟩
  let f:Nat→Value:=fun j=>(w.cell? (A.add j)).getD undef
  have hf: ∀j,j<n→w.cell? (A.add j)=some (f j):=by
    intro j hj;obtain ⟨y,h1,_⟩:=hY j hj;simp [f,h1]
  refine ⟨.agg ((List.range n).map f).toArray,?_,?_⟩
  ·simp only [loadVar,Sem.run_bind,Ub ha,Result.andThen_ok,Df hn,run_loadCells w A n f hf,Sem.run_pure,if_true]
  ·refine Ot (by simp;omega) (fun i hi=> ?_) (fun i c hi=> ?_)
   ·have hi':i<n:=by simp at hi;omega
    obtain ⟨y,h1,h2,_⟩:=hY i hi';simpa [List.getD,hi',f,h1] using h2
   ·rw [lX]at hi;split at hi
    ·rename_i hi';obtain ⟨y,h1,_,h3⟩:=hY i hi';simpa [List.getD,hi',f,h1] using h3 c hi
    ·cases hi
theorem CN {t:TypeId}{A:Addr}{c:AV}{y:Value}(ha:Qt P t=some false)(hc:w.cell? A=some y)(hr:RepV w I ρ c y):
    ∃x,(loadVar t A).run P w= .ok x w∧RepV w I ρ c x:=
  ⟨y,by simp [loadVar,Ub ha,run_load,hc],hr⟩
theorem bind_some {α β:Type}{x:Option α}{f:α→Option β}{b:β}(h:x.bind f=some b): ∃a,x=some a∧f a=some b:=by
  cases x with
  |none=>cases h
  |some a=>exact ⟨a,rfl,h⟩
theorem MR {op:BinOp}{t:TypeId}{x y:Operand}{k k':IntKind}{m n:Int}{r:Value}(hk:(Pk op||k==k')=true)(h:Xs op k m n=some r):
    (do eqGuard op t x y (.int k m) (.int k' n);binOp op t (.int k m) (.int k' n):Sem Value).run P w= .ok r w:=by
  have hg:(eqGuard op t x y (.int k m) (.int k' n)).run P w= .ok () w:=by
    unfold eqGuard;split<;>first|rfl|(simp;done)
  rw [Sem.run_bind,hg,Result.andThen_ok];by_cases hs:Pk op=true
  ·cases op<;>simp [Pk]at hs
   ·simp only [Xs]at h;split at h
    ·cases h
    ·cases h;simp [binOp,Op.shift, *]
   ·simp only [Xs]at h;split at h
    ·cases h
    ·cases h;simp [binOp,Op.shift, *]
  ·have hkk:k=k':=by simpa [hs] using hk
   subst hkk
   cases op<;>simp only [Xs]at h<;>first
     |(simp [Pk]at hs;done)
     |(cases h;simp [binOp,Op.intArith,Op.intCmp,Op.intBits];done)
     |(split at h
       ·cases h
       ·cases h;simp [binOp,Op.intDiv, *])
end
end Go.Abs
namespace Go.Abs
open Go
def BB:List Bool→List Value→List Value→Option Bool
  | [],[],[]=>some true
  |k::ks,x::xs,y::ys=>(QV k x y).bind fun b=>(BB ks xs ys).map fun e=>b&&e
  |_,_,_=>none
theorem Uc {k:Bool}{ks:List Bool}{xs ys:List Value}{r:Bool}(h:BB (k::ks) xs ys=some r):
    ∃x y xs' ys' b e,xs=x::xs'∧ys=y::ys'∧QV k x y=some b∧BB ks xs' ys'=some e∧r=(b&&e):=by
  match xs,ys,h with
  |x::xs',y::ys',h=>
   simp only [BB]at h;obtain ⟨b,hb,h⟩:=bind_some h;simp only [lD]at h;obtain ⟨e,he,h⟩:=h;exact ⟨x,y,xs',ys',b,e,rfl,rfl,hb,he,h.symm⟩
  | [],_,h=>simp [BB]at h
  |_::_,[],h=>simp [BB]at h
theorem MS: ∀{ks:List Bool} {a b:List D} {r:Bool},QQ ks a b=some r→∃xs ys,a=xs.map D.v∧b=ys.map D.v∧BB ks xs ys=some r:=by
  intro ks
  induction ks with
  |nil=>
   intro a b r h
   match a,b,h with
   | [],[],h=>exact ⟨[],[],rfl,rfl,h⟩
   |_::_,_,h=>simp [QQ]at h
   | [],_::_,h=>simp [QQ]at h
  |cons k ks ih=>
   intro a b r h;unfold QQ at h;split at h
   ·rename_i h1;cases h1
   ·rename_i k' ks' x r' y q h1;cases h1;obtain ⟨b,hb,h⟩:=bind_some h;simp only [lD]at h;obtain ⟨e,he,rfl⟩:=h;obtain ⟨xs,ys,rfl,rfl,h3⟩:=ih he;exact ⟨x::xs,y::ys,rfl,rfl,by simp [BB,hb,h3]⟩
   ·cases h
theorem Xu: ∀{ks:List Bool} {xs ys:List Value} {r:Bool},BB ks xs ys=some r→xs.length=ks.length∧ys.length=ks.length:=by
  intro ks
  induction ks with
  |nil=>intro xs ys r h;cases xs<;>cases ys<;>simp [BB]at h ⊢
  |cons k ks ih=>
   intro xs ys r h;obtain ⟨x,y,xs',ys',b,e,rfl,rfl,h1,h2,rfl⟩:=Uc h;have:=ih h2;simp [this.1,this.2]
theorem EF: ∀{ks ks':List Bool} {xs ys:List Value} {r:Bool},BB (ks++ks') xs ys=some r→
    ∃r1 r2,BB ks (xs.take ks.length) (ys.take ks.length)=some r1∧BB ks' (xs.drop ks.length) (ys.drop ks.length)=some r2∧r=(r1&&r2):=by
  intro ks
  induction ks with
  |nil=>intro ks' xs ys r h;exact ⟨true,r,rfl,h,by simp⟩
  |cons k ks ih=>
   intro ks' xs ys r h;rw [List.cons_append]at h;obtain ⟨x,y,xs',ys',b,e,rfl,rfl,h1,h2,rfl⟩:=Uc h;obtain ⟨r1,r2,h3,h4,rfl⟩:=ih h2;exact ⟨b&&r1,r2,by simp [BB,h1,h3],by simpa using h4,by rw [Bool.and_assoc]⟩
section
variable {P:Program}{w:World}
theorem Xv {t:TypeId}{cs:Array Value}{off n:Nat}(ha:Qt P t=some true)(hn:Zi P t=some n):(part t cs off).run P w= .ok (.agg (cs.extract off (off+n))) w:=by
  simp [part,Ub ha,Df hn]
theorem Xw {t:TypeId}{cs:Array Value}{off:Nat}{y:Value}(ha:Qt P t=some false)(h:cs[off]? =some y):(part t cs off).run P w= .ok y w:=by
  simp [part,Ub ha,h]
def FS (agg:Bool)(xs:List Value):Value:=if agg then .agg xs.toArray else xs.getD 0 undef
theorem MT (d:Nat): ∀(t:TypeId) (ks:List Bool) (agg:Bool) (D:Nat) (xs ys:List Value) (r:Bool),cellT P d t=some ks→Qt P t=some agg→d≤D→BB ks xs ys=some r→
    (Op.equalIn D t (FS agg xs) (FS agg ys)).run P w= .ok r w:=by
  induction d with
  |zero=>intro t ks agg D xs ys r h;simp [cellT]at h
  |succ d ih=>
   intro t ks agg D xs ys r h ha hD hr;obtain ⟨D,rfl⟩: ∃D',D=D'+1:=⟨D - 1,by omega⟩;simp only [cellT]at h;cases hu:P.underlying t with
   |none=>simp [hu]at h
   |some ds=>
    have hagg:=MO hu;rw [ha]at hagg;cases ds<;>simp only [hu]at h<;>try cases h
    ·-- bool
     cases hagg;obtain ⟨x,y,xs',ys',b,e,rfl,rfl,h1,h2,rfl⟩:=Uc hr;cases x<;>cases y<;>simp [QV]at h1;cases xs'<;>cases ys'<;>simp [BB]at h2;subst h1 h2;rename_i a b;show (Op.equalIn (D+1) t (.bool a) (.bool b)).run P w=_;rw [run_equalIn_bool' w D t a b hu,Bool.and_true]
    ·-- an integer
     rename_i k0;cases hagg;obtain ⟨x,y,xs',ys',b,e,rfl,rfl,h1,h2,rfl⟩:=Uc hr;cases x<;>cases y<;>simp [QV]at h1;cases xs'<;>cases ys'<;>simp [BB]at h2;rename_i k a k' b;obtain ⟨rfl,rfl⟩:=h1;subst h2;show (Op.equalIn (D+1) t (.int k a) (.int k b)).run P w=_;rw [run_equalIn_int w D t k k0 a b hu,Bool.and_true]
    ·-- a struct
     rename_i fs;cases hagg;split at h
     ·cases h
     ·rename_i hst;have hst':P.stoodInHeld t=false:=by simpa using hst
      have hf:P.fieldsOf t=fs:=by simp [Program.fieldsOf,hu]
      show (Op.equalIn (D+1) t (.agg xs.toArray) (.agg ys.toArray)).run P w=_;rw [run_equalIn_struct w D t _ _ (by rw [hf];exact hu) hst',hf]
      have key: ∀(fl:List Field) (n:Nat) (ks:List Bool) (r:Bool),cellT.cellFs P (cellT P d) n fl=some ks→BB ks (xs.drop n) (ys.drop n)=some r→(Op.eqFields D xs.toArray ys.toArray fl).run P w= .ok r w:=by
        intro fl
        induction fl with
        |nil=>
         intro n ks r h hr;simp only [cellT.cellFs,Option.some.injEq]at h;subst h;have hl:=Xu hr;have e1:xs.drop n= []:=lV hl.1;have e2:ys.drop n= []:=lV hl.2;rw [e1,e2]at hr;simp [BB]at hr;subst hr;rfl
        |cons f fl ihf=>
         intro n ks r h hr;simp only [cellT.cellFs,lB]at h;obtain ⟨kf,hkf,h⟩:=bind_some h;obtain ⟨af,haf,h⟩:=bind_some h;obtain ⟨sf,hsf,h⟩:=bind_some h;split at h
         ·rename_i hc;simp only [l6,bne_iff_ne,ne_eq,l8,l7]at hc;obtain ⟨⟨⟨hnm,hoff⟩,hs⟩,hone⟩:=hc;obtain ⟨kr,hkr,h⟩:=bind_some h;cases h;obtain ⟨r1,r2,hr1,hr2,rfl⟩:=EF hr;have hl:=Xu hr1
          have hp: ∀zs:List Value,((zs.drop n).take kf.length).length=kf.length→(part f.type zs.toArray f.offset).run P w= .ok (FS af ((zs.drop n).take kf.length)) w:=by
            intro zs hz;cases af with
            |true=>
             rw [Xv haf hsf,hoff]
             have e:(zs.toArray.extract n (n+sf))=((zs.drop n).take kf.length).toArray:=by
               rw [← hs];simp [List.extract_eq_take_drop]
             rw [e];rfl
            |false=>
             have h1:kf.length=1:=by rcases hone with h|h;cases h;omega
             rw [h1]at hz ⊢;refine Xw haf ?_;rw [hoff];cases hq:zs.drop n with
             |nil=>rw [hq]at hz;simp at hz
             |cons q qs=>
              have:zs[n]? =some q:=by
                have:=congrArg (fun l=>l[0]?) hq;simpa [lW] using this
              simp [FS,this]
          have:=ihf (n+sf) kr r2 hkr (by rw [hs,← List.drop_drop,← List.drop_drop];exact hr2);simp only [Op.eqFields,Sem.run_bind,Sem.run_ite,hnm,ne_eq,not_false_eq_true,if_true,hp xs hl.1,hp ys hl.2,Result.andThen_ok,ih f.type kf af D _ _ r1 hkf haf (by omega) hr1,this];cases r1<;>simp
         ·cases h
      exact key fs.toList 0 ks r h (by simpa using hr)
end
end Go.Abs
namespace Go.Abs
open Go
section
variable {P:Program}{w:World}{I:Nat→Prop}{ρ:Rho}{N:Nat}{s:St}{a:Act}{h:C7}
def Cp (P:Program)(w:World)(I:Nat→Prop)(ρ:Rho)(a:Act)(o:Oper)(v:AV):Prop:= ∃x,(execOp a.eval o).run P w= .ok (.value x) w∧RepV w I ρ v x
def EG (off:Nat)(p:AV):Option AV:=match p with
  | .ptr k o=>some (.ptr k (o+off))
  | .aptr k sz i o=>some (.aptr k sz i (o+off))
  | .d (.lp es i o)=>some (.d (.lp es i (o+off)))
  | .d (.bp cs o)=>some (.d (.bp cs (o+off)))
  |_=>none
theorem MU {p:AV}{x:Value}{off:Nat}{v:AV}(hx:RepV w I ρ p x)(hp:EG off p=some v): ∃A,x= .pointer (some A)∧RepV w I ρ v (.pointer (some (A.add off))):=by
  cases hx with
  |ptr k o g hk=>cases hp;exact ⟨_,rfl,by rw [Addr.add_mid];exact .ptr k _ g hk⟩
  |aptr k sz i o g n cap hk=>cases hp;exact ⟨_,rfl,by rw [Addr.add_mid,Nat.add_assoc];exact .aptr k sz i _ g n cap hk⟩
  |d x v hd=>
   cases hd with
   |lp es i o A sz X hsz hI hone hc hr=>cases hp;exact ⟨_,rfl,by rw [Addr.add_add,Nat.add_assoc];exact .d _ _ (.lp es i _ A sz X hsz hI hone hc hr)⟩
   |bp cs o g vs ty fz hI hg hl hone hr=>cases hp;exact ⟨_,rfl,by rw [Addr.add_mid];exact .d _ _ (.bp cs _ g vs ty fz hI hg hl hone hr)⟩
   |_=>cases hp
  |_=>cases hp
theorem Ab {α:Type}: ∀(vs:List α) (cs:List α) (off:Nat),(Gp cs off vs).length=cs.length
  | [],cs,off=>rfl
  |v::vs,cs,off=>by simp [Gp,Ab vs]
theorem Dg {α:Type}: ∀(vs:List α) (cs:List α) (off:Nat) (i:Nat),off+vs.length≤cs.length→(Gp cs off vs)[i]? =if off≤i∧i<off+vs.length then vs[i - off]? else cs[i]?
  | [],cs,off,i,h=>by simp only [Gp];rw [l5 (by simp)]
  |v::vs,cs,off,i,h=>by
   simp only [Gp];rw [Dg vs (cs.set off v) (off+1) i (by simpa using by simp at h;omega)];simp only [lJ]at h ⊢;by_cases h1:off+1≤i∧i<off+1+vs.length
   ·rw [l4 h1,l4 (by omega),show i - off=(i - (off+1))+1 by omega,List.getElem?_cons_succ]
   ·rw [l5 h1,List.getElem?_set];by_cases h2:off=i
    ·subst h2;rw [l4 rfl,l4 (by omega)];simp
    ·rw [l5 h2,l5 (by omega)]
theorem Zy (off:Nat): ∀(vs:List Value) (m:Nat) (cs:Array Value),((vs.zipIdx m).foldl (fun cs (p:Value×Nat)=>cs.setIfInBounds (off+p.2) p.1) cs).toList=Gp cs.toList (off+m) vs
  | [],m,cs=>rfl
  |v::vs,m,cs=>by
   simp only [List.zipIdx_cons,List.foldl_cons,Gp];rw [Zy off vs (m+1) (cs.setIfInBounds (off+m) v),Array.toList_setIfInBounds,Nat.add_assoc]
theorem Tf (H:HeapOK w I ρ h){x:AV}{cs:List AV}{v:Value}(hx:RepV w I ρ x v)(hc:Gn x=some cs):
    ∃vs:List Value,v.cells=vs.toArray∧cs.length=vs.length∧(∀i,i<cs.length→(vs.getD i undef).oneCell'=true)∧∀(i:Nat) d,cs[i]? =some d→RepV w I ρ d (vs.getD i undef):=by
  unfold Gn at hc;split at hc
  ·rename_i cs' ha;cases hc;obtain ⟨vs,rfl,h1,h2,h3⟩:=Xt hx ha;exact ⟨vs,rfl,h1,h2,h3⟩
  ·split at hc
   ·rename_i ho;cases hc;have h1:=MQ H.rone hx ho;refine ⟨[v],?_,rfl,fun i hi=> ?_,fun i d hd=> ?_⟩
    ·cases v<;>first|rfl|(simp [Value.oneCell']at h1)
    ·have:i=0:=by simpa using hi
     subst this;exact h1
    ·cases i with
     |zero=>simp at hd;subst hd;exact hx
     |succ i=>simp at hd
   ·cases hc
theorem Tg {place:Nat→Option (Nat×Nat)}: ∀{parts:List (Nat×Operand)} {ps:List (Nat×Nat×Opd)},Tc place parts=some ps→
    ps.length=parts.length∧∀(i:Nat) p,ps[i]? =some p→∃q,parts[i]? =some q∧place q.1=some (p.1,p.2.1)∧L9 q.2=some p.2.2:=by
  intro parts
  induction parts with
  |nil=>intro ps h;simp [Tc]at h;subst h;simp
  |cons q parts ih=>
   intro ps h;obtain ⟨i,x⟩:=q;simp only [Tc,lB]at h;obtain ⟨p,hp,h⟩:=bind_some h;obtain ⟨ox,hox,h⟩:=bind_some h;obtain ⟨r,hr,h⟩:=bind_some h;cases h;obtain ⟨h1,h2⟩:=ih hr;refine ⟨by simp [h1],fun j p' hj=> ?_⟩;cases j with
   |zero=>simp at hj;subst hj;exact ⟨(i,x),rfl,hp,hox⟩
   |succ j=>simp at hj;simpa using h2 j p' hj
theorem Xx (H:HeapOK w I ρ h)(hs:Sim w I ρ N s a){place:Nat→Option (Nat×Nat)}: ∀(parts:List (Nat×Operand)) (ps:List (Nat×Nat×Opd)) (cs cs':List AV) (vs:List Value),
    (∀(i:Nat) p,ps[i]? =some p→∃q,parts[i]? =some q∧place q.1=some (p.1,p.2.1)∧L9 q.2=some p.2.2)→ps.length=parts.length→
    cs.length=vs.length→(∀i,i<cs.length→(vs.getD i undef).oneCell'=true)→(∀(i:Nat) d,cs[i]? =some d→RepV w I ρ d (vs.getD i undef))→Ly s.t cs ps=some cs'→
    ∃vs':List Value,Instr.fill place vs.toArray (parts.map fun q=>(q.1,a.eval q.2))=some vs'.toArray∧cs'.length=vs'.length∧(∀i,i<cs'.length→(vs'.getD i undef).oneCell'=true)∧∀(i:Nat) d,cs'[i]? =some d→RepV w I ρ d (vs'.getD i undef):=by
  intro parts
  induction parts with
  |nil=>
   intro ps cs cs' vs hp hpl hl ho hr hf;have:ps= []:=lV hpl;subst this;simp only [Ly,Option.some.injEq]at hf;subst hf;exact ⟨vs,rfl,hl,ho,hr⟩
  |cons q parts ih=>
   intro ps cs cs' vs hp hpl hl ho hr hf;cases ps with
   |nil=>simp at hpl
   |cons p ps=>
    obtain ⟨q',hq',hpl',hx⟩:=hp 0 p rfl;simp only [List.getElem?_cons_zero,Option.some.injEq]at hq';subst hq';obtain ⟨off,n,x⟩:=p;simp only [Ly]at hf;cases hc:Gn (ev s.t x)with
    |none=>simp [hc]at hf
    |some us=>
     simp only [hc]at hf;split at hf
     ·rename_i hcond;obtain ⟨vs1,h1,h2,h3,h4⟩:=Tf H (O2 hs hx) hc;obtain ⟨hn,hle⟩:=hcond;have hvl:vs1.length=n:=by omega
      have hin:off+vs1.length≤vs.length:=by omega
      have hin':off+us.length≤cs.length:=by omega
      obtain ⟨vs',g1,g2,g3,g4⟩:=ih ps (Gp cs off us) cs' (Gp vs off vs1) (fun i p hp'=>by simpa using hp (i+1) p (by simpa using hp')) (by simpa using hpl) (by rw [Ab,Ab,hl])
        (fun i hi=>by
          rw [List.getD,Dg vs1 vs off i hin];split
          ·rename_i hc;have:=h3 (i - off) (by omega);rw [List.getD]at this;exact this
          ·have:=ho i (by rw [Ab]at hi;exact hi)
           rw [List.getD]at this;exact this)
        (fun i d hd=>by
          rw [Dg us cs off i hin']at hd;rw [List.getD,Dg vs1 vs off i hin];split at hd
          ·rename_i hc;rw [l4 (by omega)];have:=h4 (i - off) d hd;rw [List.getD]at this;exact this
          ·rename_i hc;rw [l5 (by omega)];have:=hr i d hd
           rw [List.getD]at this;exact this) hf
      refine ⟨vs',?_,g2,g3,g4⟩;simp only [lN,Instr.fill,hpl',h1];rw [l5 (by simp only [List.size_toArray,ne_eq,l7,decide_eq_true_eq,not_or,Decidable.not_not];constructor<;>omega)]
      have e:(Array.foldl (fun cs (p:Value×Nat)=>cs.setIfInBounds (off+p.2) p.1) vs.toArray vs1.toArray.zipIdx)=(Gp vs off vs1).toArray:=by
        apply Array.ext';have:=Zy off vs1 0 vs.toArray;rw [← Array.foldl_toList];simpa using this
      exact (congrArg (fun z=>Instr.fill place z (List.map (fun q=>(q.fst,a.eval q.snd)) parts)) e).trans g1
     ·cases hf
end
end Go.Abs
namespace Go.Abs
open Go
section
variable {P:Program}{w:World}{I:Nat→Prop}{ρ:Rho}{N:Nat}{s:St}{a:Act}{h:C7}
theorem Sf {mx:Option Operand}(h:Zj mx=some none):mx=none:=by
  cases mx with
  |none=>rfl
  |some q=>simp only [Zj,lD]at h;obtain ⟨_,_,hq⟩:=h;cases hq
theorem Sg {mx:Option Operand}{x:Opd}(h:Zj mx=some (some x)): ∃q,mx=some q∧L9 q=some x:=by
  cases mx with
  |none=>cases h
  |some q=>simp only [Zj,lD]at h;obtain ⟨_,h1,hq⟩:=h;cases hq;exact ⟨q,rfl,h1⟩
def Gd (v:Option Value)(d n:Nat):Prop:=match v with
  |none=>n=d
  |some x=> ∃k,x= .int k n
theorem Dy {t:Option Operand}{ot:Option Opd}(hs:Sim w I ρ N s a)(ht:Zj t=some ot){d n:Nat}(hb:Bl s.t d ot=some n):Gd (t.map a.eval) d n:=by
  cases t with
  |none=>simp only [Zj,Option.some.injEq]at ht;subst ht;simp only [Bl,Option.some.injEq]at hb;exact hb.symm
  |some x=>
   obtain ⟨ox,hx,rfl⟩: ∃ox,L9 x=some ox∧some ox=ot:=by simpa [Zj] using ht
   simp only [Bl]at hb;split at hb
   ·rename_i k m hm;split at hb
    ·rename_i h0;cases hb;have hr:=O2 hs hx;rw [hm]at hr;refine ⟨k,?_⟩;rw [Cf hr,Int.toNat_of_nonneg h0]
    ·cases hb
   ·cases hb
theorem W9 {k:IntKind}{n y:Nat}{c:BoundsCode}(h:n≤y):(Instr.sliceBound (.int k n) y c).run P w= .ok n w:=by
  simp [Instr.sliceBound,asIntOf,h]
theorem Kx {len cap i j:Nat}{lo hi:Option Value}(h1:Gd lo 0 i)(h2:Gd hi len j)(hij:i≤j)(hjc:j≤cap):(Instr.sliceBounds true len cap lo hi none).run P w= .ok (i,j,cap) w:=by
  cases lo<;>cases hi<;>simp only [Gd]at h1 h2
  ·subst h1 h2;simp [Instr.sliceBounds]
  ·obtain ⟨k,rfl⟩:=h2;subst h1;simp [Instr.sliceBounds,W9 hjc]
  ·obtain ⟨k,rfl⟩:=h1;subst h2;simp [Instr.sliceBounds,W9 hij]
  ·obtain ⟨k,rfl⟩:=h1;obtain ⟨k',rfl⟩:=h2;simp [Instr.sliceBounds,W9 hij,W9 hjc]
theorem Wj {len cap m:Nat}{lo hi:Option Value}{x:Value}(h1:Gd lo 0 m)(h2: ∃y,hi=some y∧Gd (some y) 0 m)(h3:Gd (some x) 0 m)(hm:m≤cap):
    (Instr.sliceBounds true len cap lo hi (some x)).run P w= .ok (m,m,m) w:=by
  obtain ⟨k,rfl⟩:=h3;obtain ⟨y,rfl,k',rfl⟩:=h2;have e1: ∀c,(Instr.sliceBound (.int k m) cap c).run P w= .ok m w:=fun _=>W9 hm;have e2: ∀q c,(Instr.sliceBound (.int q m) m c).run P w= .ok m w:=fun _ _=>W9 (bB _);simp only [Instr.sliceBounds,Sem.run_bind,if_true,Option.isSome_some,e1,e2,Result.andThen_ok];cases lo with
  |none=>simp only [Gd]at h1;subst h1;rfl
  |some l=>obtain ⟨k2,rfl⟩:=h1;simp only [Sem.run_bind,e2,Result.andThen_ok,Sem.run_pure]
theorem Kc {t e:TypeId}{A:Option Addr}{len cap i j m sz:Nat}{lo hi mx:Option Value}(hu:P.underlying t=some (.slice e))(hsz:Zi P e=some sz)
    (hb:(Instr.sliceBounds true len cap lo hi mx).run P w= .ok (i,j,m) w):
    (Instr.sliceAt t (.slice A len cap) lo hi mx).run P w= .ok (.slice (if m=i then A else A.map (·.add (i*sz))) (j - i) (m - i)) w:=by
  simp [Instr.sliceAt,Instr.slice,run_underlying hu,hb,Df hsz]
section
variable {x y z v:AV}
theorem MV (h:Np (.sl false false) [x]=some v): ∃s,x= .d (.v (.string s))∧v= .d (.v (.string (s.extract 0 s.size))):=by
  unfold Np at h;split at h<;>rename_i h1 h2<;>first|(cases h1;done)|(cases h;done)|skip
  all_goals (cases h1;cases h2;cases h;exact ⟨_,rfl,rfl⟩)
theorem IS (h:Np .len [x]=some v): ∃s,x= .d (.v (.string s))∧v= .d (.v (.int .i64 s.size)):=by
  unfold Np at h;split at h<;>rename_i h1 h2<;>first|(cases h1;done)|(cases h;done)|skip
  all_goals (cases h1;cases h2;cases h;exact ⟨_,rfl,rfl⟩)
theorem MW (h:Np (.sl false true) [x,y]=some v): ∃s k n,x= .d (.v (.string s))∧y= .d (.v (.int k n))∧0≤n∧n≤s.size∧v= .d (.v (.string (s.extract 0 n.toNat))):=by
  unfold Np at h;split at h<;>rename_i h1 h2<;>first|(cases h1;done)|(cases h;done)|skip
  all_goals (cases h1;cases h2;split at h;(rename_i hc;cases h;exact ⟨_,_,_,rfl,rfl,hc.1,hc.2,rfl⟩);cases h)
theorem MX (h:Np (.sl true false) [x,y]=some v): ∃s k n,x= .d (.v (.string s))∧y= .d (.v (.int k n))∧0≤n∧n≤s.size∧v= .d (.v (.string (s.extract n.toNat s.size))):=by
  unfold Np at h;split at h<;>rename_i h1 h2<;>first|(cases h1;done)|(cases h;done)|skip
  all_goals (cases h1;cases h2;split at h;(rename_i hc;cases h;exact ⟨_,_,_,rfl,rfl,hc.1,hc.2,rfl⟩);cases h)
theorem MY (h:Np (.sl true true) [x,y,z]=some v): ∃s k n k' n',x= .d (.v (.string s))∧y= .d (.v (.int k n))∧z= .d (.v (.int k' n'))∧0≤n∧n≤n'∧n'≤s.size∧v= .d (.v (.string (s.extract n.toNat n'.toNat))):=by
  unfold Np at h;split at h<;>rename_i h1 h2<;>first|(cases h1;done)|(cases h;done)|skip
  all_goals (cases h1;cases h2;split at h;(rename_i hc;cases h;exact ⟨_,_,_,_,_,rfl,rfl,rfl,hc.1,hc.2.1,hc.2.2,rfl⟩);cases h)
theorem IT (h:Np .idx [x,y]=some v): ∃s k n b,x= .d (.v (.string s))∧y= .d (.v (.int k n))∧0≤n∧s.data.toList[n.toNat]? =some b∧v= .d (.v (.int .u8 (b.toNat:Int))):=by
  unfold Np at h;split at h<;>rename_i h1 h2<;>first|(cases h1;done)|(cases h;done)|skip
  all_goals (cases h1;cases h2;split at h;(rename_i hc;rw [lD]at h;obtain ⟨b,hb,rfl⟩:=h;exact ⟨_,_,_,b,rfl,rfl,hc,hb,rfl⟩);cases h)
theorem IU (h:Np .cat [x,y]=some v): ∃s s',x= .d (.v (.string s))∧y= .d (.v (.string s'))∧s.size+s'.size≤1000000000∧v= .d (.v (.string (s++s'))):=by
  unfold Np at h;split at h<;>rename_i h1 h2<;>first|(cases h1;done)|(cases h;done)|skip
  all_goals (cases h1;cases h2;split at h;(rename_i hc;cases h;exact ⟨_,_,rfl,rfl,hc,rfl⟩);cases h)
theorem MZ {neg:Bool}(h:Np (.eq neg) [x,y]=some v): ∃s s',x= .d (.v (.string s))∧y= .d (.v (.string s'))∧v= .d (.v (.bool (if neg then !(s.toList==s'.toList)else s.toList==s'.toList))):=by
  unfold Np at h;split at h<;>rename_i h1 h2<;>first|(cases h1;done)|(cases h;done)|skip
  all_goals (cases h1;cases h2;cases h;exact ⟨_,_,rfl,rfl,rfl⟩)
end
theorem Vm {x:Value}{v:Value}(h:RepV w I ρ (.d (.v x)) v):v=x:=by
  cases h with|d _ _ h=>cases h with|v=>rfl
theorem CO {len i j:Nat}{lo hi:Option Value}(h1:Gd lo 0 i)(h2:Gd hi len j)(hij:i≤j)(hjc:j≤len):(Instr.sliceBounds false len len lo hi none).run P w= .ok (i,j,len) w:=by
  cases lo<;>cases hi<;>simp only [Gd]at h1 h2
  ·subst h1 h2;simp [Instr.sliceBounds]
  ·obtain ⟨k,rfl⟩:=h2;subst h1;simp [Instr.sliceBounds,W9 hjc]
  ·obtain ⟨k,rfl⟩:=h1;subst h2;simp [Instr.sliceBounds,W9 hij]
  ·obtain ⟨k,rfl⟩:=h1;obtain ⟨k',rfl⟩:=h2;simp [Instr.sliceBounds,W9 hij,W9 hjc]
theorem GZ {t:TypeId}{s:ByteArray}{i j:Nat}{lo hi:Option Value}(hu:P.underlying t=some .string)(hb:(Instr.sliceBounds false s.size s.size lo hi none).run P w= .ok (i,j,s.size) w):
    (Instr.sliceAt t (.string s) lo hi none).run P w= .ok (.string (s.extract i j)) w:=by
  simp [Instr.sliceAt,Instr.slice,run_underlying hu,hb]
theorem EH {o:Oper}{k:AK}{v:AV}{t:TypeId}{x:Operand}{lo hi mx:Option Operand}(hop:o.op= .slice t x lo hi mx)(hu:P.underlying t=some .string)(hk:Xp x lo hi mx=some k)(hs:Sim w I ρ N s a)
    (hv:J1 s.t h k=some v):Cp P w I ρ a o v:=by
  unfold Xp at hk;cases mx with
  |some q=>cases hk
  |none=>
   have fin: ∀(s':ByteArray) (i j:Nat),a.eval x= .string s'→v= .d (.v (.string (s'.extract i j)))→Gd (lo.map a.eval) 0 i→Gd (hi.map a.eval) s'.size j→i≤j→j≤s'.size→Cp P w I ρ a o v:=by
     intro s' i j hx hv' h1 h2 h3 h4;subst hv';refine ⟨.string (s'.extract i j),?_, .d _ _ (.v _)⟩;unfold execOp;rw [hop];have:=GZ (P:=P) (w:=w) hu (CO (P:=P) (w:=w) h1 h2 h3 h4);simp [hx,this]
   dsimp only at hk
   have key: ∀{y:Operand} {oy:Opd} {z:Value},L9 y=some oy→ev s.t oy= .d (.v z)→a.eval y=z:=fun hy he=>by
     have:=O2 hs hy;rw [he]at this;exact Vm this
   have nat: ∀{y:Operand} {oy:Opd} {k:IntKind} {n:Int},L9 y=some oy→ev s.t oy= .d (.v (.int k n))→0≤n→∀d,Gd ((some y).map a.eval) d n.toNat:=fun {y oy k n} hy he h0 d=>by
     refine ⟨k,?_⟩;rw [Int.toNat_of_nonneg h0];exact key hy he
   cases lo with
   |none=>
    cases hi with
    |none=>
     simp only [lB]at hk;obtain ⟨ox,hox,hk⟩:=bind_some hk;cases hk;simp only [J1,lN,List.map_nil]at hv;obtain ⟨s',e1,rfl⟩:=MV hv;exact fin _ 0 _ (key hox e1) rfl rfl rfl (bC _) (bB _)
    |some b=>
     simp only [lB]at hk;obtain ⟨ox,hox,hk⟩:=bind_some hk;obtain ⟨ob,hob,hk⟩:=bind_some hk;cases hk;simp only [J1,lN,List.map_nil]at hv;obtain ⟨s',k,n,e1,e2,h0,h1,rfl⟩:=MW hv;exact fin _ 0 _ (key hox e1) rfl rfl (nat hob e2 h0 _) (bC _) (by omega)
   |some c=>
    cases hi with
    |none=>
     simp only [lB]at hk;obtain ⟨ox,hox,hk⟩:=bind_some hk;obtain ⟨ob,hob,hk⟩:=bind_some hk;cases hk;simp only [J1,lN,List.map_nil]at hv;obtain ⟨s',k,n,e1,e2,h0,h1,rfl⟩:=MX hv;exact fin _ _ _ (key hox e1) rfl (nat hob e2 h0 _) rfl (by omega) (bB _)
    |some b=>
     simp only [lB]at hk;obtain ⟨ox,hox,hk⟩:=bind_some hk;obtain ⟨oc,hoc,hk⟩:=bind_some hk;obtain ⟨ob,hob,hk⟩:=bind_some hk;cases hk;simp only [J1,lN,List.map_nil]at hv;obtain ⟨s',k,n,k',n',e1,e2,e3,h0,h1,h2,rfl⟩:=MY hv;exact fin _ _ _ (key hox e1) rfl (nat hoc e2 h0 _) (nat hob e3 (by omega) _) (by omega) (by omega)
theorem EI {o:Oper}{k:AK}{v:AV}{x:Operand}{t:TypeId}(hop:o.op= .call {callee:= .builtin .len,args:= #[x],argTypes:= #[t]})(hu:P.underlying t=some .string)(hk:Xr x=some k)(hs:Sim w I ρ N s a)
    (hv:J1 s.t h k=some v):Cp P w I ρ a o v:=by
  simp only [Xr,lB]at hk;obtain ⟨ox,hox,hk⟩:=bind_some hk;cases hk;simp only [J1,lN,List.map_nil]at hv;obtain ⟨s',e1,rfl⟩:=IS hv;have h1:=O2 hs hox;rw [e1]at h1;refine ⟨_,?_, .d _ _ (.v _)⟩;unfold execOp;rw [hop];simp [resolve,invoke,builtin,Builtin.len_,run_underlying hu,Vm h1,goInt]
theorem IV {x v:AV}(h:Np .ofb [x]=some v):(∃es ns,x= .d (.list es)∧Te es=some ns∧v= .d (.v (.string (Td ns))))∨(x= .d .nilS∧v= .d (.v (.string (Td [])))):=by
  unfold Np at h;split at h<;>rename_i h1 h2<;>first|(cases h1;done)|(cases h;done)|skip
  ·cases h1;cases h2;rw [lD]at h;obtain ⟨ns,hn,rfl⟩:=h;exact .inl ⟨_,ns,rfl,hn,rfl⟩
  ·cases h1;cases h2;cases h;exact .inr ⟨rfl,rfl⟩
theorem CP {e:List D}{r:List (List D)}{ns:List Int}(h:Te (e::r)=some ns): ∃(n:Int) (l:List Int),e= [D.v (Value.int .u8 n)]∧Te r=some l∧ns=n::l:=by
  unfold Te at h;split at h
  ·rename_i q;cases q
  ·rename_i n r' q;cases q;rw [lD]at h;obtain ⟨l,hl,rfl⟩:=h;exact ⟨n,l,rfl,hl,rfl⟩
  ·cases h
theorem Xy: ∀{es:List (List D)} {ns:List Int},Te es=some ns→ns.length=es.length∧∀(i:Nat) (n:Int),ns[i]? =some n→es[i]? =some [D.v (Value.int .u8 n)]
  | [],ns,h=>by cases h;simp
  |e::r,ns,h=>by
   obtain ⟨n,l,rfl,hl,rfl⟩:=CP h;obtain ⟨h1,h2⟩:=Xy hl;refine ⟨by simp [h1],fun i m hm=> ?_⟩;cases i with
   |zero=>simp at hm;subst hm;rfl
   |succ i=>simpa using h2 i m (by simpa using hm)
theorem EJ {o:Oper}{k:AK}{v:AV}{x:Operand}{sT dT e:TypeId}(hop:o.op= .convert sT dT x)(hu1:P.underlying sT=some (.slice e))(hue:P.underlying e=some (.int .u8))(hu2:P.underlying dT=some .string)(hk:AZ x=some k)(hs:Sim w I ρ N s a)
    (hv:J1 s.t h k=some v):Cp P w I ρ a o v:=by
  simp only [AZ,lB]at hk;obtain ⟨ox,hox,hk⟩:=bind_some hk;cases hk;simp only [J1,lN,List.map_nil]at hv;have h1:=O2 hs hox
  have fin: ∀b,(convert sT dT (a.eval x)).run P w= .ok (.string b) w→v= .d (.v (.string b))→Cp P w I ρ a o v:=by
    rintro b hb rfl;refine ⟨.string b,?_, .d _ _ (.v _)⟩;unfold execOp;rw [hop];simp [hb]
  have hempty: ∀A c,(convert sT dT (.slice A 0 c)).run P w= .ok (.string (Td [])) w:=by
    intro A c;rw [run_convert_bytes_string w sT dT e A 0 c hu1 hue hu2];cases A with
    |none=>simp [Conv.bytesToString,Td];rfl
    |some A=>
     have hl:(loadCells A 0).run P w= .ok (([]:List Int).map (Value.int .u8)).toArray w:=by
       have:=run_loadCells_list (P:=P) w A [] (fun j v hj=>by simp at hj);simpa using this
     rw [run_bytesToString w A 0 c [] hl];rfl
  rcases IV hv with ⟨es,ns,e1,e2,rfl⟩|⟨e1,rfl⟩
  ·rw [e1]at h1;generalize a.eval x=y at h1 fin;obtain ⟨hl,hg⟩:=Xy e2;cases h1 with
   |d _ _ hd=>
    cases hd with
    |lnil A cap=>cases e2;exact fin _ (hempty A cap) rfl
    |list _ A cap sz X hne hcap hsz hI hone hc hr=>
     have hsz1:sz=1:=by
       cases es with
       |nil=>exact absurd rfl hne
       |cons e0 r=>
        have q:=hsz e0 (by simp);have hn: ∃n,ns[0]? =some n:=⟨ns[0]'(by rw [hl];simp),lG _⟩;obtain ⟨n,hn⟩:=hn;have:=hg 0 n hn;simp at this;rw [this]at q;simpa using q.symm
     subst hsz1
     have hcells:(loadCells A es.length).run P w= .ok (ns.map (Value.int .u8)).toArray w:=by
       have:=run_loadCells_list (P:=P) w A (ns.map (Value.int .u8)) (fun j v hj=>by
         rw [lI]at hj;cases hn:ns[j]? with
         |none=>rw [hn]at hj;cases hj
         |some n=>
          rw [hn]at hj;cases hj;have h2:Lf es j 0=some (.v (.int .u8 n)):=by unfold Lf;rw [hg j n hn];rfl
          have h3:=hc j 0 _ h2;have h4:=hr j 0 _ h2;generalize X j 0=q at h3 h4;cases h4
          simpa using h3)
       rw [lO,hl]at this;exact this
     refine fin _ ?_ rfl;rw [run_convert_bytes_string w sT dT e _ _ cap hu1 hue hu2,run_bytesToString w A _ cap ns hcells,foldl_push_bytes];simp [Td,ByteArray.empty,ByteArray.emptyWithCapacity];rfl
  ·rw [e1]at h1;generalize a.eval x=y at h1 fin;cases h1 with
   |d _ _ hd=>cases hd with|nilS A=>exact fin _ (hempty A 0) rfl
theorem EK {o:Oper}{k:AK}{v:AV}{x i:Operand}{t:TypeId}(hop:o.op= .index t x i)(hu:P.underlying t=some .string)(hk:Xq x i=some k)(hs:Sim w I ρ N s a)
    (hv:J1 s.t h k=some v):Cp P w I ρ a o v:=by
  simp only [Xq,lB]at hk;obtain ⟨ox,hox,hk⟩:=bind_some hk;obtain ⟨oi,hoi,hk⟩:=bind_some hk;cases hk;simp only [J1,lN,List.map_nil]at hv;obtain ⟨s',k,n,b,e1,e2,h0,hb,rfl⟩:=IT hv;have h1:=O2 hs hox;have h2:=O2 hs hoi;rw [e1]at h1;rw [e2]at h2;refine ⟨_,?_, .d _ _ (.v _)⟩;unfold execOp;rw [hop]
  have hb':s'[n.toNat]? =some b:=by
    have hlt:=(lH.1 hb).1;have hsz:s'.data.toList.length=s'.size:=by cases s';rfl
    rw [ByteArray.getElem?_lt' s' n.toNat (by omega)];have:=(lH.1 hb).2;rw [← this];rfl
  simp [Instr.index,asIntOf,run_underlying hu,Vm h1,Vm h2,h0,hb']
theorem EL {o:Oper}{k:AK}{v:AV}{x y:Operand}{t yt:TypeId}{op:BinOp}(hop:o.op= .binOp op t x y yt)(_hu:P.underlying t=some .string)(hk:Xo op x y=some k)(hs:Sim w I ρ N s a)
    (hv:J1 s.t h k=some v):Cp P w I ρ a o v:=by
  have key: ∀{y:Operand} {oy:Opd} {z:Value},L9 y=some oy→ev s.t oy= .d (.v z)→a.eval y=z:=fun hy he=>by
    have:=O2 hs hy;rw [he]at this;exact Vm this
  cases op<;>simp only [Xo]at hk<;>first|cases hk|skip
  ·simp only [lB]at hk;obtain ⟨ox,hox,hk⟩:=bind_some hk;obtain ⟨oy,hoy,hk⟩:=bind_some hk;cases hk;simp only [J1,lN,List.map_nil]at hv;obtain ⟨s1,s2,e1,e2,hl,rfl⟩:=IU hv;refine ⟨_,?_, .d _ _ (.v _)⟩;unfold execOp;rw [hop]
   have hm:(s1.size:Int)+ (s2.size:Int)≤IntKind.i64.max:=by
     have:IntKind.i64.max=9223372036854775807:=rfl;omega
   simp [key hox e1,key hoy e2,eqGuard,binOp_string_add,Op.stringOp];exact hm
  all_goals
    simp only [lB]at hk;obtain ⟨ox,hox,hk⟩:=bind_some hk;obtain ⟨oy,hoy,hk⟩:=bind_some hk;cases hk;simp only [J1,lN,List.map_nil]at hv;obtain ⟨s1,s2,e1,e2,rfl⟩:=MZ hv;refine ⟨_,?_, .d _ _ (.v _)⟩;unfold execOp;rw [hop];simp [key hox e1,key hoy e2,eqGuard,binOp_string_eql,binOp_string_neq]
theorem CQ {o:Oper}{k:AK}{v:AV}{t:TypeId}{x:Operand}{lo hi mx:Option Operand}(hop:o.op= .slice t x lo hi mx)(hk:N6 P o.op=some k)(hs:Sim w I ρ N s a)
    (hv:J1 s.t h k=some v):Cp P w I ρ a o v:=by
  have fin: ∀y,(Instr.sliceAt t (a.eval x) (lo.map a.eval) (hi.map a.eval) (mx.map a.eval)).run P w= .ok y w→RepV w I ρ v y→Cp P w I ρ a o v:=by
    intro y hy hr;refine ⟨y,?_,hr⟩;unfold execOp;rw [hop];simp [hy]
  rw [hop]at hk;simp only [N6]at hk;split at hk
  ·rename_i e hu;simp only [lB]at hk;obtain ⟨sz,hsz,hk⟩:=bind_some hk;obtain ⟨ox,hox,hk⟩:=bind_some hk;obtain ⟨olo,holo,hk⟩:=bind_some hk;obtain ⟨ohi,hohi,hk⟩:=bind_some hk;obtain ⟨omx,homx,hk⟩:=bind_some hk;cases hk;have h1:=O2 hs hox;simp only [J1]at hv;split at hv
   ·rename_i es hx;rw [hx]at h1;generalize hy:a.eval x=y at h1 fin
    have hsl: ∃A cap,y= .slice A es.length cap∧es.length≤cap:=by
      cases h1 with
      |d _ _ hd=>
       cases hd with
       |lnil A cap=>exact ⟨A,cap,rfl,bC _⟩
       |list _ A cap sz' X hne hcap=>exact ⟨some A,cap,rfl,hcap⟩
    obtain ⟨A,cap,rfl,hcap⟩:=hsl;split at hv
    ·have r3:=Sf homx;subst r3;split at hv
     ·rename_i j i hj hi';split at hv
      ·rename_i hc;obtain ⟨hij,hjl,hall⟩:=hc;cases hv;have hb:=Kx (P:=P) (w:=w) (cap:=cap) (Dy hs holo hi') (Dy hs hohi hj) hij (by omega);refine fin _ (Kc hu hsz hb) ?_;have hll:((es.take j).drop i).length=j - i:=by simp;omega
       by_cases hne:(es.take j).drop i= []
       ·rw [hne]at hll ⊢;simp only [lL]at hll;rw [← hll];exact .d _ _ (.lnil _ _)
       ·have hlt:i<j:=by
          have:0< ((es.take j).drop i).length:=List.length_pos_iff.2 hne;omega
        cases h1 with
        |d _ _ hd=>
         cases hd with
         |lnil=>simp at hjl;omega
         |list _ A0 _ sz' X hne' _ hsz' hI hone hc hr=>
          have hsz2:sz'=sz:=by
            cases es with
            |nil=>exact absurd rfl hne'
            |cons e0 r=>
             have h1:=hsz' e0 (by simp);have h2:e0.length=sz:=by simpa using (lU.1 hall e0 (by simp))
             omega
          subst hsz2;rw [l5 (by omega),← hll];simp only [lE]
          have hat: ∀m n d,Lf ((es.take j).drop i) m n=some d→Lf es (i+m) n=some d:=by
            intro m n d hd;simp only [Lf,lW,lX]at hd ⊢;split at hd
            ·exact hd
            ·cases hd
          refine .d _ _ (.list _ (A0.add (i*sz')) _ sz' (fun m n=>X (i+m) n) hne (by omega) (fun e he=>hsz' e (List.mem_of_mem_take (List.mem_of_mem_drop he))) (by rw [Vl];exact hI)
            (fun m n d hd=>hone _ _ _ (hat m n d hd)) (fun m n d hd=> ?_) (fun m n d hd=>hr _ _ _ (hat m n d hd)))
          rw [Addr.add_add,← Nat.add_assoc,← bD];exact hc _ _ _ (hat m n d hd)
      ·cases hv
     ·cases hv
    ·rename_i xm xh;obtain ⟨q,rfl,hq⟩:=Sg homx;obtain ⟨q',rfl,hq'⟩:=Sg hohi;split at hv
     ·rename_i m j i hm hj hi';split at hv
      ·rename_i hc;obtain ⟨rfl,rfl,hml⟩:=hc;cases hv;have hb:=Wj (P:=P) (w:=w) (len:=es.length) (cap:=cap) (Dy hs holo hi') ⟨_,rfl,Dy (t:=some q') hs hohi hj⟩ (Dy (t:=some q) hs homx hm) (by omega);refine fin _ (Kc hu hsz hb) ?_;simp only [Nat.sub_self];exact .d _ _ (.nilS _)
      ·cases hv
     ·cases hv
    ·cases hv
   ·rename_i hx;rw [hx]at h1;generalize hy:a.eval x=y at h1 fin
    have hsl: ∃A,y= .slice A 0 0:=by
      cases h1 with
      |d _ _ hd=>cases hd with|nilS A=>exact ⟨A,rfl⟩
    obtain ⟨A,rfl⟩:=hsl;split at hv
    ·have r3:=Sf homx;subst r3;split at hv
     ·rename_i hj hi';cases hv;have hb:=Kx (P:=P) (w:=w) (cap:=0) (Dy hs holo hi') (Dy hs hohi hj) (bB _) (bB _);refine fin _ (Kc hu hsz hb) ?_;exact .d _ _ (.nilS _)
     ·cases hv
    ·obtain ⟨q,rfl,hq⟩:=Sg homx;obtain ⟨q',rfl,hq'⟩:=Sg hohi;split at hv
     ·rename_i hm hj hi';cases hv;have hb:=Wj (P:=P) (w:=w) (len:=0) (cap:=0) (Dy hs holo hi') ⟨_,rfl,Dy (t:=some q') hs hohi hj⟩ (Dy (t:=some q) hs homx hm) (bB _);refine fin _ (Kc hu hsz hb) ?_;exact .d _ _ (.nilS _)
     ·cases hv
    ·cases hv
   ·cases hv
  ·exact EH hop ‹_› hk hs hv
  ·cases hk
theorem IW (isMax:Bool)(k:IntKind): ∀(xs:List Operand) (os:List Opd) (n:Int) (v:AV),Xn xs=some os→Sim w I ρ N s a→OM isMax k s.t n os=some v→
    ∃x,((xs.map a.eval).foldlM (if isMax then Builtin.max2 else Builtin.min2) (.int k n)).run P w= .ok x w∧RepV w I ρ v x:=by
  intro xs
  induction xs with
  |nil=>
   intro os n v hx _ hm;simp [Xn]at hx;subst hx;simp only [OM,Option.some.injEq]at hm;subst hm;exact ⟨_,rfl, .d _ _ (.v _)⟩
  |cons x xs ih=>
   intro os n v hx hs hm;simp only [Xn,List.mapM_cons,Option.pure_def,lB]at hx;obtain ⟨ox,hox,hx⟩:=bind_some hx;obtain ⟨q,hq,hx⟩:=bind_some hx;cases hx;simp only [OM]at hm;split at hm
   ·rename_i k' y hy;split at hm
    ·rename_i hk;subst hk;have hr:=O2 hs hox;rw [hy]at hr;have e:=Cf hr;obtain ⟨z,hz,hzr⟩:=ih q (Hz isMax n y) v hq hs hm;refine ⟨z,?_,hzr⟩;rw [lN,List.foldlM_cons,Sem.run_bind,e]
     have:((if isMax then Builtin.max2 else Builtin.min2) (Value.int k n) (Value.int k y)).run P w= .ok (.int k (Hz isMax n y)) w:=by
       cases isMax<;>simp [Builtin.max2,Builtin.min2,Hz]
     rw [this,Result.andThen_ok];exact hz
    ·cases hm
   ·cases hm
theorem EM {o:Oper}{k:AK}{v:AV}{c:Call}(hop:o.op= .call c)(hk:N6 P o.op=some k)(hs:Sim w I ρ N s a)(H:HeapOK w I ρ h)
    (hv:J1 s.t h k=some v):Cp P w I ρ a o v:=by
  obtain ⟨cal,args,tys⟩:=c;rw [hop]at hk;simp only [N6]at hk;split at hk
  ·simp only [lB]at hk;obtain ⟨y,hy,hk⟩:=bind_some hk;obtain ⟨u,hu,hk⟩:=bind_some hk;cases hk;cases hv
  ·split at hk
   ·rename_i x t hx ht;split at hk
    ·rename_i e hu;simp only [lB]at hk;obtain ⟨ox,hox,hk⟩:=bind_some hk;cases hk;have h1:=O2 hs hox;have hargs:args= #[x]:=by apply Array.ext';simpa using hx
     have htys:tys= #[t]:=by apply Array.ext';simpa using ht
     subst hargs htys
     have fin: ∀(A:Option Addr) (n cap:Nat),a.eval x= .slice A n cap→v= .d (.v (.int .i64 n))→Cp P w I ρ a o v:=by
       intro A n cap he hv;subst hv;refine ⟨_,?_, .d _ _ (.v _)⟩;unfold execOp;rw [hop];simp [resolve,invoke,builtin,Builtin.len_,run_underlying hu,he,goInt]
     simp only [J1]at hv;split at hv
     ·rename_i es hx;rw [hx]at h1;cases hv;generalize hy:a.eval x=y at h1 fin;cases h1 with
      |d _ _ hd=>
       cases hd with
       |lnil A cap=>exact fin A 0 cap rfl rfl
       |list _ A cap=>exact fin (some A) _ cap rfl rfl
     ·rename_i hx;rw [hx]at h1;cases hv;generalize hy:a.eval x=y at h1 fin;cases h1 with
      |d _ _ hd=>cases hd with|nilS A=>exact fin A 0 0 rfl rfl
     ·rename_i k hx;rw [hx]at h1;split at hv
      ·rename_i ty sz es hb;cases hv;obtain ⟨x0,xs,g1,g2,g3,g4⟩:=H.blk _ _ hb;generalize hy:a.eval x=y at h1 fin;cases h1 with
       |sl _ _ hρ=>
        rw [hρ]at g1;cases g1;rcases g2.2 with ⟨rfl,hz⟩|⟨g,cap,cur,fz,rfl,_⟩
        ·exact fin none 0 0 rfl (by rw [hz])
        ·exact fin _ _ _ rfl rfl
      ·cases hv
     ·cases hv
    ·have hargs:args= #[x]:=by apply Array.ext';simpa using hx
     have htys:tys= #[t]:=by apply Array.ext';simpa using ht
     subst hargs htys;exact EI hop ‹_› hk hs hv
    ·cases hk
   ·cases hk
  ·split at hk
   ·rename_i x r hx;simp only [lB]at hk;obtain ⟨ox,hox,hk⟩:=bind_some hk;obtain ⟨os,hos,hk⟩:=bind_some hk;cases hk;have h1:=O2 hs hox;have hargs:args=(x::r).toArray:=by apply Array.ext';simpa using hx
    subst hargs;simp only [J1]at hv;split at hv
    ·rename_i k n hx;rw [hx]at h1;obtain ⟨z,hz,hr⟩:=IW (P:=P) true k r os n v hos hs hv;refine ⟨z,?_,hr⟩;unfold execOp;rw [hop];have e:=Cf h1;simp only [if_true]at hz;simp [resolve,invoke,builtin,Builtin.max_,e,hz]
    ·cases hv
   ·cases hk
  ·split at hk
   ·rename_i x r hx;simp only [lB]at hk;obtain ⟨ox,hox,hk⟩:=bind_some hk;obtain ⟨os,hos,hk⟩:=bind_some hk;cases hk;have h1:=O2 hs hox;have hargs:args=(x::r).toArray:=by apply Array.ext';simpa using hx
    subst hargs;simp only [J1]at hv;split at hv
    ·rename_i k n hx;rw [hx]at h1;obtain ⟨z,hz,hr⟩:=IW (P:=P) false k r os n v hos hs hv;refine ⟨z,?_,hr⟩;unfold execOp;rw [hop];have e:=Cf h1;simp only [Bool.false_eq_true,if_false]at hz;simp [resolve,invoke,builtin,Builtin.min_,e,hz]
    ·cases hv
   ·cases hk
  ·split at hk
   ·split at hk
    ·cases hk
    ·split at hk
     ·simp only [lB]at hk;obtain ⟨y,hy,hk⟩:=bind_some hk;obtain ⟨u,hu,hk⟩:=bind_some hk;split at hk
      ·cases hk
      ·obtain ⟨y2,hy2,hk⟩:=bind_some hk;obtain ⟨u2,hu2,hk⟩:=bind_some hk;cases hk;cases hv
     ·cases hk
   ·cases hk
  ·cases hk
end
end Go.Abs
namespace Go.Abs
open Go
theorem NA {v:Value}(h:QT v= .nilS):v= .slice none 0 0:=by
  unfold QT at h;split at h
  ·cases h
  ·unfold Sp at h;split at h
   ·rfl
   ·cases h
theorem Ud {P:Program}{w:World}{t el:TypeId}{A:Option Addr}{n c:Nat}(d:Nat)(hu:P.underlying t=some (.slice el)):(Op.equalIn (d+1) t (.slice A n c) (.slice none 0 0)).run P w= .ok A.isNone w:=by
  cases A<;>simp [Op.equalIn,run_underlying hu]
theorem Zz {P:Program}{t:TypeId}(h:Tz P t=true): ∃kt e i,P.underlying t=some (.map kt e)∧P.underlying kt=some (.int .i64)∧P.info? e=some i∧i.zero=some (.bool false):=by
  unfold Tz at h;split at h
  ·rename_i k e hu;split at h
   ·rename_i i h1 h2;split at h
    ·rename_i h3;exact ⟨k,e,i,hu,h1,h2,h3⟩
    ·cases h
   ·cases h
  ·cases h
theorem Qu (n:Int): ∀(es:List MapEntry) (ks:List Int) (j:Nat),es.map (fun e=>(e.key,e.val))=ks.map (fun n=>(Value.int .i64 n,Value.bool true))→
    Instr.findNow (.int .i64) (.int .i64 n) es j=some (if n∈ks then some (j+ks.idxOf n, .bool true)else none)
  | [],[],j,_=>by simp [Instr.findNow]
  | [],_::_,j,h=>by simp at h
  |_::_,[],j,h=>by simp at h
  |e::es,k::ks,j,h=>by
   simp only [lN,List.cons.injEq,Prod.mk.injEq]at h;obtain ⟨⟨h1,h2⟩,h3⟩:=h;have ih:=Qu n es ks (j+1) h3;simp only [Instr.findNow,h1,Instr.sameNow,if_true];by_cases e0:n=k
   ·subst e0;simp [h2]
   ·have:(n==k)=false:=by simpa using e0
    simp only [this];rw [ih];simp only [lQ,e0,false_or,List.idxOf_cons];split
    ·have:(k==n)=false:=by simpa using Ne.symm e0
     simp only [this,cond_false];simp;omega
    ·rfl
theorem Xz {P:Program}{w:World}{t:TypeId}{g:Nat}{es:Array MapEntry}{clock:Nat}{ks:List Int}(n:Int)(ht:Tz P t=true)(hg:w.heap[g]? =some (.map es clock))
    (he:es.toList.map (fun e=>(e.key,e.val))=ks.map fun n=>(Value.int .i64 n,Value.bool true)):(Instr.lookup t (.map (some g)) (.int .i64 n) false).run P w= .ok (.bool (ks.contains n)) w:=by
  obtain ⟨kt,e,i,h1,h2,h3,h4⟩:=Zz ht;have hk:MapKept.IsKey (.int .i64) (.int .i64 n):=by simp [MapKept.IsKey]
  have hf:=Qu n es.toList ks 0 he;unfold Instr.lookup;simp only [Sem.run_bind,run_underlying h1,Result.andThen,MapKept.run_getObj_map hg,Sem.run_pure,MapKept.run_checkKey h2 hk,MapKept.run_findKey h2 hf];by_cases hn:n∈ks
  ·simp [hn]
  ·simp [hn,zeroValue,typeInfo,h3,h4]
section
variable {P:Program}{w:World}{I:Nat→Prop}{ρ:Rho}{N:Nat}{s:St}{a:Act}{h:C7}
set_option maxHeartbeats 1000000 in
theorem EN {o:Oper}{k:AK}{v:AV}(hk:N6 P o.op=some k)(hs:Sim w I ρ N s a)(H:HeapOK w I ρ h)(hv:J1 s.t h k=some v):Cp P w I ρ a o v:=by
  unfold Cp execOp;cases hop:o.op with
  |move x=>
   simp only [hop,N6,lB]at hk;obtain ⟨ox,hox,hk⟩:=bind_some hk;cases hk;cases hv;exact ⟨_,rfl,O2 hs hox⟩
  |assign x=>
   simp only [hop,N6,lB]at hk;obtain ⟨ox,hox,hk⟩:=bind_some hk;cases hk;cases hv;exact ⟨_,rfl,O2 hs hox⟩
  |pick c x y=>
   simp only [hop,N6,lB]at hk;obtain ⟨oc,hoc,hk⟩:=bind_some hk;obtain ⟨ox,hox,hk⟩:=bind_some hk;obtain ⟨oy,hoy,hk⟩:=bind_some hk;cases hk;simp only [J1]at hv;split at hv
   ·rename_i c hc;have hr:=O2 hs hoc;rw [hc]at hr;have e:=Kb hr;cases hv;cases c
    ·exact ⟨a.eval y,by simp [e,asBool],O2 hs hoy⟩
    ·exact ⟨a.eval x,by simp [e,asBool],O2 hs hox⟩
   ·cases hv
  |load t p=>
   simp only [hop,N6,lB]at hk;obtain ⟨n,hn,hk⟩:=bind_some hk;obtain ⟨ag,hag,hk⟩:=bind_some hk;obtain ⟨op,hop',hk⟩:=bind_some hk;cases hk;simp only [J1]at hv;split at hv
   ·rename_i cs hcs;obtain ⟨A,hA,hc⟩:=Wi H (O2 hs hop') hcs
    have hrun: ∀x,(loadVar t A).run P w= .ok x w→∃y,(Sem.run P (do pure (Next.value (← Instr.loadAt t (a.eval p))):Sem Next) w)= .ok (.value y) w∧y=x:=by
      intro x hx;exact ⟨x,by simp [Instr.loadAt,hA,Instr.sureAddr,hx],rfl⟩
    cases ag with
    |true=>
     simp only [if_true]at hv;split at hv
     ·rename_i hl;cases hv;obtain ⟨x,hx,hr⟩:=CM hag hn hl hc;obtain ⟨y,hy,rfl⟩:=hrun x hx;exact ⟨y,hy,hr⟩
     ·cases hv
    |false=>
     simp only [Bool.false_eq_true,if_false]at hv;cases cs with
     |nil=>cases hv
     |cons c cs=>
      obtain rfl:c=v:=by simpa using hv
      obtain ⟨y0,h1,h2,h3⟩:=hc 0 c rfl;have e0:A.add 0=A:=by simp [Addr.add]
      rw [e0]at h1;obtain ⟨x,hx,hr⟩:=CN (P:=P) hag h1 h3;obtain ⟨y,hy,rfl⟩:=hrun x hx;exact ⟨y,hy,hr⟩
   ·cases hv
  |binOp op t x y ty=>
   simp only [hop,N6]at hk;split at hk
   ·simp only [lB]at hk;obtain ⟨ox,hox,hk⟩:=bind_some hk;obtain ⟨oy,hoy,hk⟩:=bind_some hk;cases hk;simp only [J1]at hv;split at hv
    ·rename_i k m k' n hx hy;split at hv
     ·rename_i hkk;simp only [lD]at hv;obtain ⟨r,hr,rfl⟩:=hv;have h1:=O2 hs hox;have h2:=O2 hs hoy;rw [hx]at h1;rw [hy]at h2;have hb:=MR (P:=P) (w:=w) (op:=op) (t:=t) (x:=x) (y:=y) hkk hr;refine ⟨r,?_, .d _ _ (.v _)⟩;simp only [Cf h1,Cf h2]at hb ⊢;simp only [Sem.run_bind]at hb ⊢;rw [hb];rfl
     ·cases hv
    ·cases hv
   ·split at hk
    ·rename_i hst
     have hu:P.underlying t=some .string:=by
       unfold IO at hst;split at hst
       ·assumption
       ·cases hst
     have:=EL hop hu hk hs hv;unfold Cp execOp at this;rw [hop]at this;exact this
    have main: ∀neg,(op=if neg then BinOp.neq else BinOp.eql)→OJ P neg t x y=some k→Cp P w I ρ a o v:=by
      intro neg hneg hk;unfold Cp execOp;simp only [OJ,lB]at hk;obtain ⟨ox,hox,hk⟩:=bind_some hk;obtain ⟨oy,hoy,hk⟩:=bind_some hk;have h1:=O2 hs hox;have h2:=O2 hs hoy;split at hk
      ·rename_i hb;cases hk;simp only [J1]at hv;split at hv
       ·rename_i b c hx hy;rw [hx]at h1;rw [hy]at h2;cases hv;have e1:=Kb h1;have e2:=Kb h2
        have hu:P.underlying t=some .bool:=by
          unfold FR at hb;split at hb
          ·assumption
          ·cases hb
        refine ⟨_,?_, .d _ _ (.v _)⟩;have he:(Op.equalIn Op.maxDepth t (.bool b) (.bool c)).run P w= .ok (b==c) w:=run_equalIn_bool' w 9999 t b c hu;subst hneg;simp only [hop,e1,e2];cases neg<;>simp [eqGuard,binOp,Op.equal,he]
       ·cases hv
      ·split at hk
       ·rename_i hcond;simp only [l6,l8]at hcond;obtain ⟨hag,heq⟩:=hcond;obtain ⟨ks,hks,hk⟩:=bind_some hk;cases hk;simp only [J1]at hv;split at hv
        ·rename_i ca cb hx hy;rw [hx]at h1;rw [hy]at h2;simp only [lD]at hv;obtain ⟨r,hr,rfl⟩:=hv;obtain ⟨xs,ys,rfl,rfl,hv⟩:=MS hr
         have ag: ∀{zs:List Value} {z:Value},RepV w I ρ (.d (.agg (zs.map D.v))) z→z= .agg zs.toArray:=by
           intro zs z hz;cases hz with
           |d _ _ hz=>
            cases hz with
            |agg _ vs hl _ hr=>
             congr 2;apply List.ext_getElem?;intro i;cases hi:zs[i]? with
             |none=>
              have:vs.length≤i:=by have:=List.getElem?_eq_none_iff.1 hi;simp at hl;omega
              rw [List.getElem?_eq_none this]
             |some q=>
              have:=hr i (.v q) (by simp [hi]);have hlt:i<vs.length:=by have:=(lH.1 hi).1;simp at hl;omega
              generalize hy:vs.getD i undef=y at this;cases this;rw [List.getD,lG hlt]at hy;rw [lG hlt];simpa using hy
         have e1:=ag h1;have e2:=ag h2;have he:(Op.equalIn 10000 t (.agg xs.toArray) (.agg ys.toArray)).run P w= .ok r w:=MT 8 t ks true 10000 xs ys r hks hag (by omega) hv;refine ⟨_,?_, .d _ _ (.v _)⟩;subst hneg;simp only [hop,e1,e2];cases neg
         ·simp [run_eqGuard_agg w .eql t x y xs.toArray ys.toArray heq,run_eql_struct w t xs.toArray ys.toArray,he]
         ·simp [run_eqGuard_agg w .neq t x y xs.toArray ys.toArray heq,run_neq_struct w t xs.toArray ys.toArray,he]
        ·cases hv
       ·split at hk
        ·rename_i el hu;cases hk
         have hyv:a.eval y= .slice none 0 0:=by
           cases y with
           |const v=>
            simp only [L9]at hoy;split at hoy
            ·exact (NA (by simpa using hoy):v= .slice none 0 0)
            ·cases hoy
           |tmp t=>simp [L9]at hoy
           |func f=>simp [L9]at hoy
           |global g=>simp [L9]at hoy
         have hrun: ∀A n c b,a.eval x= .slice A n c→b=A.isNone→∃r,(Sem.run P (do eqGuard op t x y (a.eval x) (a.eval y);pure (Next.value (← Go.binOp op t (a.eval x) (a.eval y))):Sem Next) w)= .ok (.value r) w∧r= .bool (if neg then !b else b):=by
           intro A n c b hxe hb
           have he:(Op.equalIn Op.maxDepth t (.slice A n c) (.slice none 0 0)).run P w= .ok b w:=by
             subst hb;exact Ud 9999 hu
           refine ⟨_,?_,rfl⟩;subst hneg;rw [hxe,hyv];cases neg<;>simp [eqGuard,binOp,Op.equal,he]
         simp only [hop];simp only [J1]at hv;split at hv
         ·rename_i e es hx;cases hv;rw [hx]at h1;generalize hz:a.eval x=z at h1;cases h1 with
          |d _ _ h1=>cases h1 with
           |list _ A cap sz X hne hcap hsz hI hone hc hr=>
            obtain ⟨r,e1,rfl⟩:=hrun (some A) _ _ false hz rfl;rw [hz]at e1;refine ⟨_,by simpa using e1,?_⟩;cases neg<;>exact .d _ _ (.v _)
         ·rename_i n c hx;cases hv;rw [hx]at h1;generalize hz:a.eval x=z at h1;cases h1 with
          |d _ _ h1=>cases h1 with
           |v _=>
            obtain ⟨r,e1,rfl⟩:=hrun none _ _ true hz rfl;rw [hz]at e1;refine ⟨_,by simpa using e1,?_⟩;cases neg<;>exact .d _ _ (.v _)
         ·rename_i A n c hx;cases hv;rw [hx]at h1;generalize hz:a.eval x=z at h1;cases h1 with
          |d _ _ h1=>cases h1 with
           |v _=>
            obtain ⟨r,e1,rfl⟩:=hrun (some A) _ _ false hz rfl;rw [hz]at e1;refine ⟨_,by simpa using e1,?_⟩;cases neg<;>exact .d _ _ (.v _)
         ·cases hv
        ·cases hk
    have fin:Cp P w I ρ a o v:=by
      cases op<;>simp only at hk<;>first
        |(cases hk;done)
        |exact main false rfl hk
        |exact main true rfl hk
    unfold Cp execOp at fin;rw [hop]at fin;exact fin
  |unOp op t x=>
   simp only [hop,N6,lB]at hk;obtain ⟨ox,hox,hk⟩:=bind_some hk;cases hk;have h1:=O2 hs hox;simp only [J1]at hv;split at hv
   ·rename_i k m hx;rw [hx]at h1;cases hv;exact ⟨_,by simp only [Cf h1];simp [Op.unary,Op.intArith], .d _ _ (.v _)⟩
   ·rename_i b hx;rw [hx]at h1;cases hv;exact ⟨_,by simp only [Kb h1];simp [Op.unary], .d _ _ (.v _)⟩
   ·cases hv
  |convert sT dT x=>
   simp only [hop,N6]at hk;split at hk
   ·rename_i k0 k1 hu1 hu2;simp only [lB]at hk;obtain ⟨ox,hox,hk⟩:=bind_some hk;cases hk;have h1:=O2 hs hox;simp only [J1]at hv;split at hv
    ·rename_i k m hx;rw [hx]at h1;cases hv;exact ⟨_,by simp only [Cf h1];simp [convert,run_underlying hu1,run_underlying hu2,Conv.intToInt], .d _ _ (.v _)⟩
    ·cases hv
   ·rename_i e hu1 hu2;split at hk
    ·rename_i hue;have:=EJ hop hu1 hue hu2 hk hs hv;unfold Cp execOp at this;rw [hop]at this;exact this
    ·cases hk
   ·split at hk
    ·simp only [CJ,lB]at hk;obtain ⟨ox,hox,hk⟩:=bind_some hk;cases hk;simp [J1,Np]at hv
    ·cases hk
   ·unfold CK at hk;split at hk
    ·split at hk
     ·obtain ⟨ox,hox,hk⟩:=bind_some hk;cases hk;simp [J1,Np]at hv
     ·cases hk
    ·cases hk
   ·cases hk
  |makeFunc f fs cs=>
   simp only [hop,N6,lB]at hk;obtain ⟨ofs,hofs,hk⟩:=bind_some hk;obtain ⟨ocs,hocs,hk⟩:=bind_some hk;cases hk;cases hv;obtain ⟨l1,r1⟩:=Ua hs hofs;obtain ⟨l2,r2⟩:=Ua hs hocs;refine ⟨.func f (fs.map a.eval) (cs.map a.eval),rfl,?_⟩;have e1:fs.map a.eval=(fs.toList.map a.eval).toArray:=by apply Array.ext';simp
   have e2:cs.map a.eval=(cs.toList.map a.eval).toArray:=by apply Array.ext';simp
   rw [e1,e2];refine IR (by simp [l1]) (by simp [l2]) (fun i d hd=> ?_) (fun i d hd=> ?_)
   ·rw [lI]at hd;cases hq:ofs[i]? with
    |none=>rw [hq]at hd;cases hd
    |some q=>rw [hq]at hd;cases hd;exact r1 i q hq
   ·rw [lI]at hd;cases hq:ocs[i]? with
    |none=>rw [hq]at hd;cases hd
    |some q=>rw [hq]at hd;cases hd;exact r2 i q hq
  |fieldAddr t x f=>
   simp only [hop,N6]at hk;split at hk
   ·rename_i fs hu;simp only [lB]at hk;obtain ⟨fd,hfd,hk⟩:=bind_some hk;obtain ⟨sz,hsz,hk⟩:=bind_some hk;split at hk
    ·cases hk
    ·rename_i hne;obtain ⟨ox,hox,hk⟩:=bind_some hk;cases hk;have h1:=O2 hs hox;have hv':EG fd.offset (ev s.t ox)=some v:=by simp only [J1]at hv;unfold EG;exact hv
     obtain ⟨A,hA,hr⟩:=MU h1 hv';refine ⟨_,?_,hr⟩;have hne': ¬sz=0:=by simpa using hne
     simp [Instr.fieldAt,run_underlying hu,hfd,hA,Instr.sureAddr,fieldPlace,Df hsz,hne']
   ·cases hk
  |field t x f=>
   simp only [hop,N6]at hk;split at hk
   ·rename_i fs hu;simp only [lB]at hk;obtain ⟨fd,hfd,hk⟩:=bind_some hk;obtain ⟨sz,hsz,hk⟩:=bind_some hk;obtain ⟨ag,hag,hk⟩:=bind_some hk;obtain ⟨ox,hox,hk⟩:=bind_some hk;cases hk;have h1:=O2 hs hox;simp only [J1]at hv;split at hv
    ·rename_i cs hcs;obtain ⟨vs,hA,hl,ho,hr⟩:=Xt h1 hcs;cases ag with
     |true=>
      simp only [if_true]at hv;split at hv
      ·rename_i hle;cases hv;refine ⟨.agg ((vs.drop fd.offset).take sz).toArray,?_,Ot (by simp;omega) (fun i hi=> ?_) (fun i d hd=> ?_)⟩
       ·simp only [hA];simp [Instr.field,run_underlying hu,hfd,asAgg,Xv hag hsz,List.extract_eq_take_drop]
       ·have hi':i<sz:=by simp at hi;omega
        have:=ho (fd.offset+i) (by omega);simpa [List.getD,lX,hi',lW] using this
       ·rw [lX]at hd;split at hd
        ·rename_i hi';rw [lW]at hd;have:=hr (fd.offset+i) d hd;simpa [List.getD,lX,hi',lW] using this
        ·cases hd
      ·cases hv
     |false=>
      simp only [Bool.false_eq_true,if_false]at hv;have hlt:fd.offset<vs.length:=by rw [← hl];exact (lH.1 hv).1
      refine ⟨vs.getD fd.offset undef,?_,hr _ _ hv⟩;simp only [hA];simp [Instr.field,run_underlying hu,hfd,asAgg,Xw hag (cs:=vs.toArray) (off:=fd.offset) (y:=vs.getD fd.offset undef) (by simp [List.getD,lG hlt])]
    ·cases hv
   ·cases hk
  |extract x i=>
   simp only [hop,N6,lB]at hk;obtain ⟨ox,hox,hk⟩:=bind_some hk;cases hk;have h1:=O2 hs hox;simp only [J1]at hv;split at hv
   ·rename_i cs hx;rw [hx]at h1;generalize hy:a.eval x=y at h1;cases h1 with
    |d _ _ hd=>
     cases hd with
     |tup _ vs hl hr=>
      simp only [lD]at hv;obtain ⟨d,hd,rfl⟩:=hv;have hlt:i<vs.length:=by rw [← hl];exact (lH.1 hd).1
      exact ⟨vs.getD i undef,by simp [hy,Instr.extract,List.getD,lG hlt], .d _ _ (hr i d hd)⟩
   ·rename_i cs hx;rw [hx]at h1;generalize hy:a.eval x=y at h1;cases h1 with
    |tup _ vs hl hr=>
     have hlt:i<vs.length:=by rw [← hl];exact (lH.1 hv).1
     exact ⟨vs.getD i undef,by simp [hy,Instr.extract,List.getD,lG hlt],hr i v hv⟩
   ·cases hv
  |nilCheck x=>
   simp only [hop,N6,lB]at hk;obtain ⟨ox,hox,hk⟩:=bind_some hk;cases hk;have h1:=O2 hs hox
   have h2:RepV w I ρ v (a.eval x)∧∃A,a.eval x= .pointer (some A):=by
     generalize a.eval x=y at h1 ⊢;simp only [J1]at hv;split at hv
     ·rename_i hx;rw [hx]at h1;cases hv;exact ⟨h1,by cases h1;exact ⟨_,rfl⟩⟩
     ·rename_i hx;rw [hx]at h1;cases hv;exact ⟨h1,by cases h1;exact ⟨_,rfl⟩⟩
     ·rename_i hx;rw [hx]at h1;cases hv;exact ⟨h1,by cases h1 with|d _ _ hd=>cases hd;exact ⟨_,rfl⟩⟩
     ·rename_i hx;rw [hx]at h1;cases hv;exact ⟨h1,by cases h1 with|d _ _ hd=>cases hd;exact ⟨_,rfl⟩⟩
     ·cases hv
   obtain ⟨h3,A,hA⟩:=h2;exact ⟨a.eval x,by simp [hA],h3⟩
  |indexAddr t x i=>
   simp only [hop,N6]at hk;split at hk
   ·rename_i e hu;simp only [lB]at hk;obtain ⟨sz,hsz,hk⟩:=bind_some hk;obtain ⟨ox,hox,hk⟩:=bind_some hk;obtain ⟨oi,hoi,hk⟩:=bind_some hk;cases hk;have h1:=O2 hs hox;have h2:=O2 hs hoi;simp only [J1]at hv;split at hv
    ·rename_i es k n hx hi;rw [hx]at h1;rw [hi]at h2;have e2:=Cf h2;split at hv
     ·rename_i el hel;split at hv
      ·rename_i hc;cases hv;obtain ⟨h0,hl⟩:=hc;have hlt:n.toNat<es.length:=(lH.1 hel).1;generalize hy:a.eval x=y at h1;cases h1 with
       |d _ _ hd=>
        cases hd with
        |lnil=>simp at hlt
        |list _ A cap sz' X hne hcap hsz' hI hone hc hr=>
         have:sz'=sz:=by rw [← hl];exact (hsz' el (lF hel)).symm
         subst this;refine ⟨.pointer (some (A.add (n.toNat*sz'))),?_, .d _ _ (by have:=RepD.lp es n.toNat 0 A sz' X hsz' hI hone hc hr;simpa using this)⟩;have hb:0≤n∧n< (es.length:Int):=⟨h0,by omega⟩;simp [hy,e2,Instr.indexAt,asIntOf,run_underlying hu,Df hsz,hb]
      ·cases hv
     ·cases hv
    ·rename_i k kk n hx hi;rw [hx]at h1;rw [hi]at h2;have e2:=Cf h2;split at hv
     ·rename_i ty sz' es hb;split at hv
      ·rename_i hc;cases hv;obtain ⟨rfl,h0,hlt⟩:=hc;obtain ⟨x0,xs,g1,g2,g3,g4⟩:=H.blk _ _ hb;generalize hy:a.eval x=y at h1;cases h1 with
       |sl _ _ hρ=>
        rw [hρ]at g1;cases g1;rcases g2.2 with ⟨_,hz⟩|⟨g,cap,cur,fz,rfl,_⟩
        ·omega
        ·refine ⟨.pointer (some ⟨g,n.toNat*sz',none⟩),?_,by have:=RepV.aptr (w:=w) (I:=I) k sz' n.toNat 0 g _ _ hρ;simpa using this⟩;have hb:0≤n∧n< (es.length:Int):=⟨h0,by omega⟩;simp [hy,e2,Instr.indexAt,asIntOf,run_underlying hu,Df hsz,hb,Addr.add_mid]
      ·cases hv
     ·cases hv
    ·rename_i k m kk n hx hi;rw [hx]at h1;rw [hi]at h2;have e2:=Cf h2;split at hv
     ·rename_i hc;cases hv;obtain ⟨h0,hlt⟩:=hc;generalize hy:a.eval x=y at h1;cases h1 with
      |bsl _ _ g hρ=>
       refine ⟨.pointer (some ⟨g,n.toNat*sz,none⟩),?_, .ptr k _ g hρ⟩;have hb:0≤n∧n< (m:Int):=⟨h0,by omega⟩;simp [hy,e2,Instr.indexAt,asIntOf,run_underlying hu,Df hsz,hb,Addr.add_mid]
     ·cases hv
    ·cases hv
   ·rename_i len e hu;simp only [lB]at hk;obtain ⟨sz,hsz,hk⟩:=bind_some hk;obtain ⟨ox,hox,hk⟩:=bind_some hk;obtain ⟨oi,hoi,hk⟩:=bind_some hk;cases hk;have h1:=O2 hs hox;have h2:=O2 hs hoi;simp only [J1]at hv;split at hv
    ·rename_i k off kk n hx hi;rw [hx]at h1;rw [hi]at h2;have e2:=Cf h2;split at hv
     ·rename_i hc;cases hv;obtain ⟨h0,hlt⟩:=hc;generalize hy:a.eval x=y at h1;cases h1 with
      |ptr _ _ g hρ=>
       refine ⟨.pointer (some ⟨g,off+n.toNat*sz,none⟩),?_, .ptr k _ g hρ⟩;have hb:0≤n∧n< (len:Int):=⟨h0,by omega⟩;simp [hy,e2,Instr.indexAt,Instr.sureAddr,asIntOf,run_underlying hu,Df hsz,hb,Addr.add_mid]
     ·cases hv
    ·cases hv
   ·cases hk
  |index t x i=>
   simp only [hop,N6]at hk;split at hk
   ·rename_i len e hu;simp only [lB]at hk;obtain ⟨sz,hsz,hk⟩:=bind_some hk;obtain ⟨ag,hag,hk⟩:=bind_some hk;obtain ⟨ox,hox,hk⟩:=bind_some hk;obtain ⟨oi,hoi,hk⟩:=bind_some hk;cases hk;have h1:=O2 hs hox;have h2:=O2 hs hoi;simp only [J1]at hv;split at hv
    ·rename_i cs k n hcs hi;rw [hi]at h2;have e2:=Cf h2;obtain ⟨vs,hA,hl,ho,hr⟩:=Xt h1 hcs;split at hv
     ·rename_i hc;obtain ⟨h0,hlt⟩:=hc;have hb:0≤n∧n< (len:Int):=⟨h0,by omega⟩;cases ag with
      |true=>
       simp only [if_true]at hv;split at hv
       ·rename_i hle;cases hv;refine ⟨.agg ((vs.drop (n.toNat*sz)).take sz).toArray,?_,Ot (by simp;omega) (fun i hi=> ?_) (fun i d hd=> ?_)⟩
        ·simp [hA,e2,Instr.index,asIntOf,run_underlying hu,hb,Df hsz,Xv hag hsz,List.extract_eq_take_drop]
        ·have hi':i<sz:=by simp at hi;omega
         have:=ho (n.toNat*sz+i) (by omega);simpa [List.getD,lX,hi',lW] using this
        ·rw [lX]at hd;split at hd
         ·rename_i hi';rw [lW]at hd;have:=hr (n.toNat*sz+i) d hd;simpa [List.getD,lX,hi',lW] using this
         ·cases hd
       ·cases hv
      |false=>
       simp only [Bool.false_eq_true,if_false]at hv;have hlt':n.toNat*sz<vs.length:=by rw [← hl];exact (lH.1 hv).1
       refine ⟨vs.getD (n.toNat*sz) undef,?_,hr _ _ hv⟩;simp [hA,e2,Instr.index,asIntOf,run_underlying hu,hb,Df hsz,Xw hag (cs:=vs.toArray) (off:=n.toNat*sz) (y:=vs.getD (n.toNat*sz) undef) (by simp [List.getD,lG hlt'])]
     ·cases hv
    ·cases hv
   ·have:=EK hop ‹_› hk hs hv;unfold Cp execOp at this;rw [hop]at this;exact this
   ·cases hk
  |build t parts=>
   simp only [hop,N6,lB]at hk;obtain ⟨z,hz,hk⟩:=bind_some hk;simp only [Zw,lB]at hz;obtain ⟨ti,hti,hz⟩:=bind_some hz;obtain ⟨zv,hzv,hz⟩:=bind_some hz;split at hz
   ·rename_i hfl;cases hz;simp only [l6,l8]at hfl;obtain ⟨hflat,hsz⟩:=hfl
    have hone: ∀y∈zv.cells.toList,y.oneCell'=true:=by
      cases zv<;>simp only [Value.cells]<;>first
        |exact lU.1 hflat
        |(intro y hy;simp at hy;subst hy;rfl)
        |(simp [IM]at hflat)
    have hzr: ∀(i:Nat) d,(List.map AV.d (List.map Sp zv.cells.toList))[i]? =some d→RepV w I ρ d (zv.cells.toList.getD i undef):=by
      intro i d hd;rw [lI]at hd;cases hq:(List.map Sp zv.cells.toList)[i]? with
      |none=>rw [hq]at hd;cases hd
      |some q=>rw [hq]at hd;cases hd;exact .d _ _ (Pl _ i q hq)
    have hzo: ∀i,i< (List.map AV.d (List.map Sp zv.cells.toList)).length→(zv.cells.toList.getD i undef).oneCell'=true:=by
      intro i hi;have hi':i<zv.cells.toList.length:=by simpa using hi
      rw [List.getD,lG hi'];exact hone _ (List.getElem_mem hi')
    have hrz:(zeroValue t).run P w= .ok zv w:=by simp [zeroValue,typeInfo,hti,hzv]
    have hmap:Array.map (fun x=>(x.fst,a.eval x.snd)) parts=((parts.toList.map fun q=>(q.1,a.eval q.2))).toArray:=by apply Array.ext';simp
    split at hk
    ·rename_i fs hu;obtain ⟨pl,hpl,hk⟩:=bind_some hk;obtain ⟨ps,hps,hk⟩:=bind_some hk;cases hk;simp only [J1,lD]at hv;obtain ⟨cs',hf,rfl⟩:=hv;obtain ⟨h1,h2⟩:=Tg hps;obtain ⟨vs',g1,g2,g3,g4⟩:=Xx H hs parts.toList ps _ cs' zv.cells.toList h2 h1 (by simp) hzo hzr hf;refine ⟨.agg vs'.toArray,?_,Ot g2 g3 g4⟩;have hp':=run_places (P:=P) w fs.toList pl hpl;have g1':Instr.fill (fun i=>pl[i]?) zv.cells (parts.toList.map fun q=>(q.1,a.eval q.2))=some vs'.toArray:=by simpa using g1
     simp [Instr.build,hrz,run_underlying hu,Array.mapM_eq_mapM_toList,hp',hmap,g1']
    ·rename_i n e hu;obtain ⟨sz,hsz,hk⟩:=bind_some hk;obtain ⟨ps,hps,hk⟩:=bind_some hk;cases hk;simp only [J1,lD]at hv;obtain ⟨cs',hf,rfl⟩:=hv;obtain ⟨h1,h2⟩:=Tg hps;obtain ⟨vs',g1,g2,g3,g4⟩:=Xx (place:=fun i=>some (i*sz,sz)) H hs parts.toList ps _ cs' zv.cells.toList h2 h1 (by simp) hzo hzr hf;refine ⟨.agg vs'.toArray,?_,Ot g2 g3 g4⟩;have g1':Instr.fill (fun i=>some (i*sz,sz)) zv.cells (parts.toList.map fun q=>(q.1,a.eval q.2))=some vs'.toArray:=by simpa using g1
     simp [Instr.build,hrz,run_underlying hu,Df hsz,hmap,g1']
    ·cases hk
   ·cases hz
  |slice t x lo hi mx=>
   have:=CQ hop hk hs hv;unfold Cp execOp at this;rw [hop]at this;exact this
  |call c=>
   have:=EM hop hk hs H hv;unfold Cp execOp at this;rw [hop]at this;exact this
  |alloc e=>
   simp only [hop,N6,lB]at hk;obtain ⟨z,hz,hk⟩:=bind_some hk;cases hk;cases hv
  |box e x=>
   simp only [hop,N6,lB]at hk;obtain ⟨z,hz,hk⟩:=bind_some hk;obtain ⟨y,hy,hk⟩:=bind_some hk;cases hk;cases hv
  |store t p x=>
   simp only [hop,N6,lB]at hk;obtain ⟨z,hz,hk⟩:=bind_some hk;obtain ⟨y,hy,hk⟩:=bind_some hk;obtain ⟨u,hu,hk⟩:=bind_some hk;cases hk;cases hv
  |buildSlice t n parts=>
   simp only [hop,N6]at hk;split at hk
   ·simp only [lB]at hk;obtain ⟨z,hz,hk⟩:=bind_some hk;split at hk
    ·cases hk
    ·obtain ⟨y,hy,hk⟩:=bind_some hk;obtain ⟨u,hu,hk⟩:=bind_some hk;cases hk;cases hv
   ·cases hk
  |makeMap t r=>
   simp only [hop]at hk;cases r with
   |some r=>simp [N6]at hk
   |none=>
    simp only [N6]at hk;split at hk
    ·cases hk;cases hv
    ·cases hk
  |insert t m x y=>
   simp only [hop,N6]at hk;split at hk
   ·split at hk
    ·simp only [lB]at hk;obtain ⟨om,_,hk⟩:=bind_some hk;obtain ⟨ox,_,hk⟩:=bind_some hk;cases hk;cases hv
    ·cases hk
   ·cases hk
  |mapUpdate t m x y=>
   simp only [hop,N6]at hk;split at hk
   ·split at hk
    ·simp only [lB]at hk;obtain ⟨om,_,hk⟩:=bind_some hk;obtain ⟨ox,_,hk⟩:=bind_some hk;cases hk;cases hv
    ·cases hk
   ·cases hk
  |lookup t m x co=>
   simp only [hop]at hk;cases co with
   |true=>simp [N6]at hk
   |false=>
    simp only [N6]at hk;split at hk
    ·rename_i ht;simp only [lB]at hk;obtain ⟨om,hom,hk⟩:=bind_some hk;obtain ⟨ox,hox,hk⟩:=bind_some hk;cases hk;simp only [J1]at hv;split at hv
     ·rename_i q n hm hx;split at hv
      ·rename_i ks hb;cases hv;have h1:=O2 hs hom;have h2:=O2 hs hox;rw [hm]at h1;rw [hx]at h2;obtain ⟨g,es,clock,g1,g2,g3⟩:=H.blk _ _ hb;have e2:=Cf h2;generalize hy:a.eval m=y at h1;cases h1 with
       |sl _ _ hρ=>
        rw [hρ]at g1;cases g1;refine ⟨.bool (ks.contains n),?_, .d _ _ (.v _)⟩;simp only [hy,e2,Sem.run_bind,Xz n ht g2 g3,Result.andThen,Sem.run_pure]
      ·cases hv
     ·cases hv
    ·cases hk
  |panic x=>
   simp only [hop,N6]at hk;cases hk;cases hv
  |makeInterface t x=>
   simp only [hop,N6]at hk;cases hk;cases hv
  |_=>simp [hop,N6]at hk
end
end Go.Abs
namespace Go.Abs
open Go
def W5:AK→Nat
  | .alloc .. =>1
  | .box .. =>2
  | .bslice .. =>3
  | .store .. =>4
  | .append .. =>5
  | .call .. =>6
  | .icall .. =>7
  | .ocall .. =>8
  | .mkmap=>1
  | .mins .. =>4
  | .oslice .. =>9
  |_=>0
def Vn:Callee→Nat
  | .builtin .append=>5
  | .value _=>6
  |_=>0
def Pm:Op→Nat
  | .alloc _=>1
  | .box .. =>2
  | .buildSlice .. =>3
  | .store .. =>4
  | .makeMap .. =>1
  | .insert .. =>4
  | .mapUpdate .. =>4
  | .call c=>Vn c.callee
  |_=>0
def ID (n:Nat)(x:Option AK):Prop:= ∀k,x=some k→W5 k=n
theorem Ih {α:Type}{n:Nat}{x:Option α}{f:α→Option AK}(h: ∀a,ID n (f a)):ID n (x.bind f):=by
  intro k hk;obtain ⟨a,_,h2⟩:=bind_some hk;exact h a k h2
theorem Ou {n:Nat}:ID n none:=fun _ h=>by cases h
theorem Jg {n:Nat}{k:AK}(h:W5 k=n):ID n (some k):=fun _ e=>by cases e;exact h
theorem IX (op:BinOp)(x y:Operand):ID 0 (Xo op x y):=by
  cases op<;>simp only [Xo,lB]<;>first|exact Ou|(refine Ih fun _=>Ih fun _=>Jg rfl)
theorem IY (x:Operand)(lo hi mx:Option Operand):ID 0 (Xp x lo hi mx):=by
  unfold Xp;cases mx<;>cases lo<;>cases hi<;>simp only [lB]<;>first|exact Ou|(repeat' first|exact Jg rfl|refine Ih fun _=> ?_)
theorem IZ (x i:Operand):ID 0 (Xq x i):=by
  simp only [Xq,lB];exact Ih fun _=>Ih fun _=>Jg rfl
theorem JA (x:Operand):ID 0 (Xr x):=by
  simp only [Xr,lB];exact Ih fun _=>Jg rfl
theorem JB (x:Operand):ID 0 (AZ x):=by
  simp only [AZ,lB];exact Ih fun _=>Jg rfl
theorem JC (x:Operand):ID 0 (CJ x):=by
  simp only [CJ,lB];exact Ih fun _=>Jg rfl
theorem JD (P:Program)(s d e:TypeId)(x:Operand):ID 0 (CK P s d e x):=by
  unfold CK;split
  ·split
   ·exact Ih fun _=>Jg rfl
   ·exact Ou
  ·exact Ou
theorem EO (P:Program)(o:Op):ID (Pm o) (N6 P o):=by
  cases o<;>simp only [N6,OJ,lB]<;>first
    |exact Ou
    |(repeat' (first|exact Ou|exact Jg rfl|exact IX _ _ _|exact IY _ _ _ _|exact IZ _ _|exact JB _|exact JC _|exact JD _ _ _ _ _|refine Ih fun _=> ?_|split))
    |skip
  all_goals (rename_i heq;first|exact Jg (by simp_all [Pm,Vn,W5])|skip)
  all_goals first|(simp only [Pm];simp_all only [Vn];exact JA _)|skip
  all_goals (exfalso;simp_all)
theorem Is {P:Program}{o:Op}{k:AK}(h:N6 P o=some k):W5 k=Pm o:=EO P o k h
def Mb (u d:Nat)(t:Nat→AV):AK→Option (AV×Blk)
  | .alloc ty z=>some (.ptr (d,u) 0, .box ty (z.map .d))
  | .mkmap=>some (.sl (d,u), .mp [])
  | .box ty agg x=>(cellsOf agg (ev t x)).map fun cs=>(.ptr (d,u) 0, .box ty cs)
  | .bslice e sz len z ps=>(Ly t ((Lg z len).map .d) ps).map fun cs=>match He cs with
    |some ds=>(.sl (d,u), .arr e sz (Fj sz len ds))
    |none=>(.bsl (d,u) len, .box e cs)
  |_=>none
theorem Vo {α:Type}(sz:Nat): ∀(n:Nat) (l:List α),(Fj sz n l).length=n
  |0,_=>rfl
  |n+1,l=>by simp [Fj,Vo sz n]
theorem Ya {α:Type}(sz:Nat): ∀(n:Nat) (l:List α),n*sz≤l.length→∀e∈Fj sz n l,e.length=sz
  |0,_,_,e,he=>by simp [Fj]at he
  |n+1,l,h,e,he=>by
   rw [bD]at h;simp only [Fj,lQ]at he;rcases he with rfl|he
   ·simp;omega
   ·exact Ya sz n (l.drop sz) (by simp;omega) e he
theorem Qv {sz:Nat}: ∀(n:Nat) (l:List D) (i j:Nat) (d:D),Lf (Fj sz n l) i j=some d→l[i*sz+j]? =some d
  |0,l,i,j,d,h=>by simp [Lf,Fj]at h
  |n+1,l,i,j,d,h=>by
   cases i with
   |zero=>
    simp only [Lf,Fj,List.getElem?_cons_zero,lA,lX]at h;split at h
    ·simpa using h
    ·cases h
   |succ i=>
    have:=Qv n (l.drop sz) i j d (by simpa [Lf,Fj] using h);rw [lW]at this;rw [← this];congr 1;rw [bD];omega
theorem Qw {α:Type}(z:List α): ∀n,(Lg z n).length=n*z.length
  |0=>by simp [Lg]
  |n+1=>by simp [Lg,Qw z n,bD];omega
theorem CR {α:Type}{z:List α}: ∀{n:Nat} {x:α},x∈Lg z n→x∈z
  |0,x,h=>by simp [Lg]at h
  |n+1,x,h=>by
   simp only [Lg,lP]at h;rcases h with h|h
   ·exact h
   ·exact CR h
theorem Ue {α β:Type}(f:α→β)(z:List α): ∀n,(Lg z n).map f=Lg (z.map f) n
  |0=>rfl
  |n+1=>by simp [Lg,Ue f z n]
theorem Yb (z:Array Value)(hz:0<z.size): ∀n,((List.range (n*z.size)).map fun i=>z[i % z.size]!)=Lg z.toList n
  |0=>by simp [Lg]
  |n+1=>by
   rw [show (n+1)*z.size=z.size+n*z.size by rw [bD];omega,List.range_add,List.map_append,Lg];congr 1
   ·apply List.ext_getElem?;intro i;by_cases hi:i<z.size
    ·simp [hi,Nat.mod_eq_of_lt hi]
    ·simp [hi]
   ·rw [← Yb z hz n,List.map_map];apply List.map_congr_left;intro i _;simp [Nat.add_mod_left]
section
variable {P:Program}{w:World}{I:Nat→Prop}{ρ:Rho}{N:Nat}{s:St}{a:Act}{h:C7}
def ON (P:Program)(w:World)(I:Nat→Prop)(ρ:Rho)(h:C7)(a:Act)(o:Oper)(k:D7)(v:AV)(b:Blk):Prop:=
  ∃x w' ρ',(execOp a.eval o).run P w= .ok (.value x) w'∧HeapOK w' I ρ' (W8 h k (some b))∧Tr w I ρ h w' I ρ' (W8 h k (some b))∧RepV w' I ρ' v x∧(∀k',k'≠k→ρ' k'=ρ k')
theorem AA {o:Oper}{k:D7}{ty:TypeId}{cs:List AV}{vs:List Value}(H:HeapOK w I ρ h)(hρ:ρ k=none)(hl:cs.length=vs.length)
    (hone: ∀i,i<vs.length→(vs.getD i undef).oneCell'=true) (hr: ∀(i:Nat) c,cs[i]? =some c→RepV w I ρ c (vs.getD i undef))
    (hrun:(execOp a.eval o).run P w= .ok (.value (.pointer (some ⟨w.heap.size,0,none⟩))) (w.alloc (.cells vs.toArray ty))):ON P w I ρ h a o k (.ptr k 0) (.box ty cs):=by
  have hle:ρ.le (W8 ρ k (some (.pointer (some ⟨w.heap.size,0,none⟩)))):=by
    intro k' v hv;by_cases e:k'=k
    ·subst e;rw [hρ]at hv;cases hv
    ·rw [K5 _ _ _ _ e];exact hv
  obtain ⟨h1,h2⟩:=Qr H k (.cells vs.toArray ty) (.pointer (some ⟨w.heap.size,0,none⟩)) (.box ty cs) hρ rfl (by intro g hg;simp [M2,C8,De]at hg;exact hg.symm)
    ⟨w.heap.size,vs,C8 _ _ _,heap_alloc_new w _,hl,hone,fun i c hc=>(hr i c hc).keep (fun b hb=>heap_alloc_old w _ b (H.ilt b hb)) (fun _ hb=>hb) hle⟩
  exact ⟨_,_,_,hrun,h1,h2, .ptr k 0 _ (C8 _ _ _),fun k' hk'=>K5 _ _ _ _ hk'⟩
theorem Yc {o:Oper}{k:AK}{v:AV}{b:Blk}{u d:Nat}(hk:N6 P o.op=some k)(hs:Sim w I ρ N s a)(H:HeapOK w I ρ h)(hρ:ρ (d,u)=none)(hv:Mb u d s.t k=some (v,b)):
    ON P w I ρ h a o (d,u) v b:=by
  have zfacts: ∀{t:TypeId} {z:List D},Zw P t=some z→∃ti zv,P.info? t=some ti∧ti.zero=some zv∧z=zv.cells.toList.map Sp∧zv.cells.size=ti.size∧(∀y∈zv.cells.toList,y.oneCell'=true)∧
   ∀w,(zeroValue t).run P w= .ok zv w:=by
    intro t z hz;simp only [Zw,lB]at hz;obtain ⟨ti,hti,hz⟩:=bind_some hz;obtain ⟨zv,hzv,hz⟩:=bind_some hz;split at hz
    ·rename_i hfl;cases hz;simp only [l6,l8]at hfl;obtain ⟨hflat,hsz⟩:=hfl;refine ⟨ti,zv,hti,hzv,rfl,hsz,?_,fun w=>by simp [zeroValue,typeInfo,hti,hzv]⟩
     cases zv<;>simp only [Value.cells]<;>first
       |exact lU.1 hflat
       |(intro y hy;simp at hy;subst hy;rfl)
       |(simp [IM]at hflat)
    ·cases hz
  cases hop:o.op with
  |alloc e=>
   simp only [hop,N6,lB]at hk;obtain ⟨z,hz,hk⟩:=bind_some hk;cases hk;simp only [Mb,Option.some.injEq,Prod.mk.injEq]at hv;obtain ⟨rfl,rfl⟩:=hv;obtain ⟨ti,zv,hti,hzv,rfl,hsz,hone,hrz⟩:=zfacts hz;refine AA (vs:=zv.cells.toList) H hρ (by simp) (fun i hi=> ?_) (fun i c hc=> ?_) ?_
   ·rw [List.getD,lG hi];exact hone _ (List.getElem_mem hi)
   ·rw [lI]at hc;cases hq:(List.map Sp zv.cells.toList)[i]? with
    |none=>rw [hq]at hc;cases hc
    |some q=>rw [hq]at hc;cases hc;exact .d _ _ (Pl _ i q hq)
   ·unfold execOp;rw [hop];simp [Instr.alloc,hrz,newVar,newRow]
  |box e x=>
   simp only [hop,N6,lB]at hk;obtain ⟨ag,hag,hk⟩:=bind_some hk;obtain ⟨ox,hox,hk⟩:=bind_some hk;cases hk;simp only [Mb,lD]at hv;obtain ⟨cs,hcs,hv⟩:=hv;cases hv;have h1:=O2 hs hox
   have hc:Gn (ev s.t ox)=some cs:=by
     unfold cellsOf at hcs;unfold Gn;cases ag with
     |true=>simp only [if_true]at hcs;rw [hcs]
     |false=>
      simp only [Bool.false_eq_true,if_false]at hcs;split at hcs
      ·rename_i ho;cases hcs
       have:Zk (ev s.t ox)=none:=by
         generalize ev s.t ox=y at ho;cases y with
         |d x=>cases x<;>first|rfl|(simp [one,D.one]at ho)
         |_=>first|rfl|(simp [one]at ho)
       rw [this];simp [ho]
      ·cases hcs
   obtain ⟨vs,g1,g2,g3,g4⟩:=Tf H h1 hc;refine AA (vs:=vs) H hρ g2 (fun i hi=>g3 i (by omega)) g4 ?_;unfold execOp;rw [hop];simp [Instr.box,newVar,newRow,g1]
  |buildSlice t len parts=>
   simp only [hop,N6]at hk;split at hk
   ·rename_i e hu;simp only [lB]at hk;obtain ⟨sz,hsz,hk⟩:=bind_some hk;split at hk
    ·cases hk
    ·rename_i hlen0;have hsz0: ¬sz=0:=fun h=>hlen0 (by simp [h]);have hlen: ¬(len*sz>100000):=fun h=>hlen0 (by simp [h]);obtain ⟨z,hz,hk⟩:=bind_some hk;obtain ⟨ps,hps,hk⟩:=bind_some hk;cases hk;simp only [Mb]at hv;simp only [lD]at hv;obtain ⟨cs,hf,hv⟩:=hv;obtain ⟨ti,zv,hti,hzv,rfl,hzs,hone,hrz⟩:=zfacts hz;have hsz':sz=ti.size:=by simp [Zi,hti]at hsz;exact hsz.symm
     obtain ⟨q1,q2⟩:=Tg hps;have hzc:zv.cells.toList.length=sz:=by simp [hzs,hsz']
     have hlz:(Lg zv.cells.toList len).length=len*sz:=by rw [Qw,hzc]
     obtain ⟨vs,g1,g2,g3,g4⟩:=Xx (place:=fun i=>some (i*sz,sz)) H hs parts.toList ps _ _ (Lg zv.cells.toList len) q2 q1
       (by rw [Ue];simp [Qw])
       (fun i hi=>by
         rw [Ue]at hi;have hi':i< (Lg zv.cells.toList len).length:=by simpa [Qw] using hi
         rw [List.getD,lG hi']
         exact hone _ (CR (List.getElem_mem hi')))
       (fun i d hd=>by
         rw [← Ue,lI]at hd;cases hq:(List.map Sp (Lg zv.cells.toList len))[i]? with
         |none=>rw [hq]at hd;cases hd
         |some q=>rw [hq]at hd;cases hd;exact .d _ _ (Pl _ i q hq)) hf
     have hvl:vs.length=len*sz:=by
       have hfl: ∀(ps:List (Nat×Nat×Opd)) (cs cs':List AV),Ly s.t cs ps=some cs'→cs'.length=cs.length:=by
         intro ps
         induction ps with
         |nil=>intro cs cs' h;simp [Ly]at h;rw [h]
         |cons p ps ih=>
          intro cs cs' h;obtain ⟨off,n,x⟩:=p;simp only [Ly]at h;split at h
          ·split at h
           ·rw [ih _ _ h,Ab]
           ·cases h
          ·cases h
       have:=hfl _ _ _ hf;rw [g2]at this;rw [this];simp [Qw,hzs,hsz']
     have hrun:(execOp a.eval o).run P w= .ok (.value (.slice (some ⟨w.heap.size,0,none⟩) len len)) (w.alloc (.cells vs.toArray e)):=by
       unfold execOp;rw [hop];have hmap:Array.map (fun x=>(x.fst,a.eval x.snd)) parts=((parts.toList.map fun q=>(q.1,a.eval q.2))).toArray:=by apply Array.ext';simp
       have hlen': ¬(16777216<len*sz):=by omega
       by_cases h0:len*sz=0
       ·have g1':Instr.fill (fun i=>some (i*sz,sz)) #[] (parts.toList.map fun q=>(q.1,a.eval q.2))=some vs.toArray:=by
          have:Lg zv.cells.toList len= []:=lV (by rw [hlz,h0]);rw [this]at g1;exact g1
        have hm0: ∀f:Nat→Value,Array.map f (Array.range 0)= #[]:=fun _=>by simp
        simp [Instr.buildSlice,run_underlying hu,Df hsz,h0,hmap,g1',newRow,hm0]
       ·have hz0:0<zv.cells.size:=by
          rcases Nat.eq_zero_or_pos sz with h|h
          ·rw [h]at h0;simp at h0
          ·omega
        have hrow:(Array.map (fun i=>zv.cells[i % zv.cells.size]!) (Array.range (len*sz)))=(Lg zv.cells.toList len).toArray:=by
          apply Array.ext';have:=Yb zv.cells hz0 len;rw [hzs,← hsz']at this;rw [← this];simp [hzs,← hsz']
        simp [Instr.buildSlice,run_underlying hu,Df hsz,hlen',h0,hrz,hrow,hmap,g1,newRow]
     have hle:ρ.le (W8 ρ (d,u) (some (.slice (some ⟨w.heap.size,0,none⟩) len len))):=by
       intro k' v hv;by_cases e:k'=(d,u)
       ·subst e;rw [hρ]at hv;cases hv
       ·rw [K5 _ _ _ _ e];exact hv
     split at hv
     case h_2=>
       cases hv
       have hle2:ρ.le (W8 ρ (d,u) (some (.pointer (some ⟨w.heap.size,0,none⟩)))):=by
         intro k' v hv;by_cases e:k'=(d,u)
         ·subst e;rw [hρ]at hv;cases hv
         ·rw [K5 _ _ _ _ e];exact hv
       obtain ⟨h1,h2⟩:=Qr H (d,u) (.cells vs.toArray e) (.pointer (some ⟨w.heap.size,0,none⟩)) (.box e cs) hρ rfl (by intro g hg;simp [M2,C8,De]at hg;exact hg.symm)
         ⟨w.heap.size,vs,C8 _ _ _,heap_alloc_new w _,g2,fun i hi=>g3 i (by rw [g2];exact hi),fun i c hc=>(g4 i c hc).keep (fun b hb=>heap_alloc_old w _ b (H.ilt b hb)) (fun _ hb=>hb) hle2⟩
       exact ⟨_,_,_,hrun,h1,h2, .bsl _ _ _ (C8 _ _ _),fun k' hk'=>K5 _ _ _ _ hk'⟩
     rename_i ds hds;cases hv;have e1:=Ml hds;subst e1;have hdl:ds.length=len*sz:=by simpa [hvl] using g2
     obtain ⟨h1,h2⟩:=Qr H (d,u) (.cells vs.toArray e) (.slice (some ⟨w.heap.size,0,none⟩) len len) (.arr e sz (Fj sz len ds)) hρ rfl (by intro g hg;simp [M2,C8,Value.ownBlock]at hg;exact hg.symm)
       ⟨_,vs,C8 _ _ _,by
         rw [Vo];refine Ny (base:=0) ⟨hvl, .inr ⟨w.heap.size,len,vs.toArray,rfl,bC _,heap_alloc_new w _,bB _,?_,by simpa using hvl,List.take_of_length_le (by simp [hvl])⟩⟩;rcases Nat.eq_zero_or_pos sz with h|h
         ·exact absurd h hsz0
         ·have:=Nat.le_mul_of_pos_right len h;unfold maxLen;omega,Ya sz len ds (by omega),fun i j d hd=>by
         have hd':=Qv len ds i j d hd;have hlt:i*sz+j<vs.length:=by rw [hvl,← hdl];exact (lH.1 hd').1
         have hr:=g4 (i*sz+j) (.d d) (by simp [hd']);cases hr with
         |d _ _ hr=>
          have ho:=g3 (i*sz+j) (by simpa [hvl,hdl] using hlt)
          exact ⟨hr.one_of ho,hr.keep (fun b hb=>heap_alloc_old w _ b (H.ilt b hb)) (fun _ hb=>hb)⟩⟩
     exact ⟨_,_,_,hrun,h1,h2, .sl _ _ (C8 _ _ _),fun k' hk'=>K5 _ _ _ _ hk'⟩
   ·cases hk
  |makeMap t r=>
   simp only [hop]at hk;cases r with
   |some r=>simp [N6]at hk
   |none=>
    simp only [N6]at hk;split at hk
    ·cases hk;simp only [Mb,Option.some.injEq,Prod.mk.injEq]at hv;obtain ⟨rfl,rfl⟩:=hv
     obtain ⟨h1,h2⟩:=Qr H (d,u) (.map #[] 0) (.map (some w.heap.size)) (.mp []) hρ rfl (by intro g hg;simp [M2,C8,Qq]at hg;exact hg.symm)
       ⟨w.heap.size,#[],0,C8 _ _ _,heap_alloc_new w _,rfl⟩
     refine ⟨_,_,_,?_,h1,h2, .sl _ _ (C8 _ _ _),fun k' hk'=>K5 _ _ _ _ hk'⟩;unfold execOp;rw [hop];simp [show (Instr.makeMap t none).run P w= .ok (.map (some w.heap.size)) (w.alloc (.map #[] 0)) from rfl,Result.andThen]
    ·cases hk
  |call c=>
   have ht:=Is hk;rw [hop]at ht;cases k<;>first|(cases hv;done)|(simp only [W5,Pm,Vn]at ht;split at ht<;>simp at ht)
  |_=>cases k<;>first|(cases hv;done)|(have:=Is hk;rw [hop]at this;simp [W5,Pm]at this)
end
end Go.Abs
namespace Go.Abs
open Go
def Ad (h:C7)(sz:Nat):AV→Option (List (List D))
  | .d (.list ys)=>if (ys.all fun e=>e.length==sz)=true then some ys else none
  | .d .nilS=>some []
  | .d (.v (.slice _ 0 _))=>some []
  | .sl k=>match h k with
    |some (.arr _ sz' ys)=>if sz'=sz then some ys else none
    |_=>none
  |_=>none
def Q0 (h:C7):List (D7×Option Blk)→C7
  | []=>h
  |(k,b)::r=>Q0 (W8 h k b) r
def Gm (u d:Nat)(t:Nat→AV)(h:C7):AK→Option (AV×List (D7×Option Blk))
  | .store n p x=>match Gn (ev t x)with
    |some cs=>if cs.length=n then (match ev t p with
     | .ptr k off=>match h k with
       |some (.box ty bs)=>if off+n≤bs.length then some (.any,[(k,some (.box ty (Gp bs off cs)))])else none
       |_=>none
     | .aptr k sz i off=>match h k with
       |some (.arr ty sz' es)=>match es[i]?,He cs with
        |some e,some ds=>if sz'=sz∧off+n≤e.length then some (.any,[(k,some (.arr ty sz' (es.set i (Gp e off ds))))])else none
        |_,_=>none
       |_=>none
     |_=>none)else none
    |none=>none
  | .mins m x=>match ev t m,ev t x with
    | .sl q, .d (.v (.int .i64 n))=>match h q with
      |some (.mp ks)=>some (.any,[(q,some (.mp (if n∈ks then ks else ks++ [n])))])
      |_=>none
    |_,_=>none
  | .append _ e sz x y=>match Ad h sz (ev t y)with
    |some ys=>match ev t x with
     | .sl k=>match h k with
       |some (.arr e' sz' es)=>if e'=e∧sz'=sz∧es.length+ys.length≤1000000000 then some (.sl (d,u),[(k,none),((d,u),some (.arr e sz (es++ys)))])else none
       |_=>none
     | .d .nilS=>match ys with
       | []=>some (.d .nilS,[])
       |y::ys=>if (y::ys).length≤1000000000 then some (.sl (d,u),[((d,u),some (.arr e sz (y::ys)))])else none
     |_=>none
    |none=>none
  | .oslice sz x none hi none=>match ev t x with
    | .sl k=>match h k with
      |some (.arr e sz' es)=>match Bl t es.length hi with
       |some j=>if sz'=sz∧j≤es.length then some (.sl (d,u),[(k,none),((d,u),some (.arr e sz (es.take j)))])else none
       |none=>none
      |_=>none
    | .d .nilS=>match Bl t 0 hi with
      |some 0=>some (.d .nilS,[])
      |_=>none
    |_=>none
  |_=>none
theorem EP {es ys:List (List D)}{i j:Nat}{d:D}(h:Lf (es++ys) i j=some d):(i<es.length∧Lf es i j=some d)∨(es.length≤i∧Lf ys (i - es.length) j=some d):=by
  unfold Lf at h ⊢;rw [List.getElem?_append]at h;split at h
  ·exact .inl ⟨‹_›,h⟩
  ·exact .inr ⟨by omega,h⟩
section
variable {P:Program}{w:World}{I:Nat→Prop}{ρ:Rho}{N:Nat}{s:St}{a:Act}{h:C7}
def Th (P:Program)(w:World)(I:Nat→Prop)(ρ:Rho)(h:C7)(a:Act)(o:Oper)(ok:D7→Prop)(v:AV)(h':C7):Prop:=
  ∃r w' ρ',(execOp a.eval o).run P w= .ok r w'∧(∃x,(r= .value x∨(r= .skip∧x=undef))∧RepV w' I ρ' v x)∧HeapOK w' I ρ' h'∧Tr w I ρ h w' I ρ' h'∧(∀k',ok k'→ρ' k'=ρ k')
theorem Io (P:Program)(g o:Nat)(t:TypeId)(fz:Nat×Nat): ∀(vs:List Value) (i:Nat) (cur:Array Value) (w:World),w.heap[g]? =some (.cells cur t fz)→(fz=(0,0)∨cur.size≤fz.1)→o+i+vs.length≤cur.size→(∀v∈vs,v.oneCell'=true)→
    (storeCells ⟨g,o,none⟩ vs i).run P w= .ok () (w.setRow g (cur.toList.take (o+i)++vs++cur.toList.drop (o+i+vs.length)).toArray)
  | [],i,cur,w,hg,_,_,_=>by
    simp only [storeCells,List.append_nil,lL,Nat.add_zero,List.take_append_drop,Array.toArray_toList];rw [setRow_self w g cur t fz hg];rfl
  |v::rest,i,cur,w,hg,hfz,hl,h1=>by
   have hi:o+i<cur.size:=by simp at hl;omega
   have hadd:(⟨g,o,none⟩:Addr).add i=⟨g,o+i,none⟩:=by unfold Addr.add;split<;>simp_all
   have hcell:w.cell? ⟨g,o+i,none⟩=some cur[o+i]:=by simp [World.cell?,hg,hi]
   have hfro:w.frozen? ⟨g,o+i,none⟩=false:=by
     obtain ⟨lo,hi'⟩:=fz;simp only [World.frozen?,hg,Bool.and_eq_false_iff,decide_eq_false_iff_not];rcases hfz with q|q
     ·cases q;right;simp
     ·left;simp only at q;omega
   have hst:(store ((⟨g,o,none⟩:Addr).add i) v).run P w= .ok () (w.setRow g (cur.setIfInBounds (o+i) v)):=by
     rw [hadd,run_store P w _ v _ (h1 v (by simp)),hcell];simp [hfro,setCell_eq_setRow w g (o+i) cur t fz v hg]
   have ih:=Io P g o t fz rest (i+1) (cur.setIfInBounds (o+i) v) (w.setRow g (cur.setIfInBounds (o+i) v)) (setRow_heap w g cur _ t _ hg) (by simpa using hfz) (by simp at hl ⊢;omega) (fun x hx=>h1 x (by simp [hx]));simp only [storeCells,Sem.run_bind,hst,Result.andThen_ok,ih,setRow_setRow];congr 3;have e:=list_seg_step cur.toList (o+i) v rest (by simp at hl ⊢;omega);simpa [Array.toList_setIfInBounds,Nat.add_assoc] using e
theorem Qx {g o:Nat}{ty:TypeId}{vs:List Value}{cur:List Value}{fz:Nat×Nat}(hg:w.heap[g]? =some (.cells cur.toArray ty fz))(hfz:fz=(0,0)∨cur.length≤fz.1)(hl:o+vs.length≤cur.length)(h1: ∀v∈vs,v.oneCell'=true):
    (storeCells ⟨g,o,none⟩ vs).run P w= .ok () (w.setRow g (Gp cur o vs).toArray):=by
  have:=Io P g o ty fz vs 0 cur.toArray w hg (by simpa using hfz) (by simpa using hl) h1;rw [this];congr 3;simp only [Nat.add_zero];apply List.ext_getElem?;intro i;rw [Dg vs cur o i hl];simp only [lM,List.getElem?_append,lR,lX,lW];have hm:min o cur.length=o:=by omega
  rw [hm];by_cases h1:i<o
  ·rw [l4 h1,l4 h1,l5 (by omega)]
  ·rw [l5 h1];by_cases h2:i - o<vs.length
   ·rw [l4 h2,l4 (by omega)]
   ·rw [l5 h2,l5 (by omega)];congr 1;omega
theorem Uf {g:Nat}{ty:TypeId}{cur cs:Array Value}{fz:Nat×Nat}(hg:w.heap[g]? =some (.cells cur ty fz)):
    (w.setRow g cs).os=w.os∧(w.setRow g cs).tape=w.tape∧(w.setRow g cs).output=w.output∧(w.setRow g cs).heap.size=w.heap.size∧(∀i,i≠g→(w.setRow g cs).heap[i]? =w.heap[i]?)∧(w.setRow g cs).heap[g]? =some (.cells cs ty fz):=by
  refine ⟨rfl,rfl,rfl,by simp [World.setRow],fun i hi=>setRow_other w g i cs hi,setRow_heap w g cur cs ty fz hg⟩
theorem CS {o:Oper}{t:TypeId}{p x:Operand}{k:AK}{v:AV}{ups:List (D7×Option Blk)}{u d:Nat}(hop:o.op= .store t p x)(hk:N6 P o.op=some k)(hs:Sim w I ρ N s a)(H:HeapOK w I ρ h)
    (hv:Gm u d s.t h k=some (v,ups)):Th P w I ρ h a o (fun _=>True) v (Q0 h ups):=by
  rw [hop]at hk;simp only [N6,lB]at hk;obtain ⟨n,hn,hk⟩:=bind_some hk;obtain ⟨op,hop',hk⟩:=bind_some hk;obtain ⟨ox,hox,hk⟩:=bind_some hk;cases hk;simp only [Gm]at hv;split at hv
  ·rename_i cs hcs;obtain ⟨vs,g1,g2,g3,g4⟩:=Tf H (O2 hs hox) hcs;split at hv
   ·rename_i hcn;have hvn:vs.length=n:=by omega
    have hone: ∀y∈vs,y.oneCell'=true:=by
      intro y hy;obtain ⟨i,hi,rfl⟩:=List.mem_iff_getElem.1 hy;have:=g3 i (by omega)
      rwa [List.getD,lG hi]at this
    have hp:=O2 hs hop'
    have hexec: ∀{g o':Nat} {w':World},a.eval p= .pointer (some ⟨g,o',none⟩)→(storeCells ⟨g,o',none⟩ vs).run P w= .ok () w'→(execOp a.eval o).run P w= .ok .skip w':=by
      intro g o' w' h1 h2;unfold execOp;rw [hop];have hsz:(a.eval x).cells.size=n:=by rw [g1];simpa using hvn
      have hc:(a.eval x).cells.toList=vs:=by rw [g1]
      simp [Instr.storeAt,h1,Instr.sureAddr,storeVar,Df hn,hsz,hc,h2]
    split at hv
    ·rename_i k off hpk;rw [hpk]at hp;split at hv
     ·rename_i ty bs hb;split at hv
      ·rename_i hle;cases hv;obtain ⟨g,ws,h1,h2,h3,h4,h5⟩:=H.blk _ _ hb;generalize hy:a.eval p=y at hp;cases hp with
       |ptr _ _ g' hρ=>
        rw [hρ]at h1;cases h1;have hrow:=Qx (P:=P) h2 (.inl rfl) (vs:=vs) (o:=off) (by omega) hone;obtain ⟨f1,f2,f3,f4,f5,f6⟩:=Uf (cs:=(Gp ws off vs).toArray) h2;have hI: ¬I g:=H.notI k _ g hb (by simp [M2,hρ,De]);have hkeep: ∀{c:AV} {y:Value},RepV w I ρ c y→RepV (w.setRow g (Gp ws off vs).toArray) I ρ c y:=fun hr=>hr.keep (fun b hb=>f5 b (fun e=>hI (e▸hb))) (fun _ hb=>hb) (fun _ _ hv=>hv)
        obtain ⟨H',T'⟩:=Qs H k (.box ty bs) (.box ty (Gp bs off cs)) g hb (by simp [M2,hρ,De]) (by simp [M2,hρ,De]) f1 f2 f3 f4 f5
          ⟨g,Gp ws off vs,hρ,f6,by rw [Ab,Ab,h3],fun i hi=>by
            rw [Ab]at hi;rw [List.getD,Dg vs ws off i (by omega)];split
            ·rename_i hc;have:=g3 (i - off) (by omega)
             rwa [List.getD]at this
            ·have:=h4 i hi
             rwa [List.getD]at this,fun i c hc=>by
            rw [Dg cs bs off i (by omega)]at hc;rw [List.getD,Dg vs ws off i (by omega)];split at hc
            ·rename_i hc';rw [l4 (by omega)];have:=g4 (i - off) c hc;rw [List.getD]at this;exact hkeep this
            ·rename_i hc';rw [l5 (by omega)];have:=h5 i c hc;rw [List.getD]at this
             exact hkeep this⟩
        exact ⟨_,_,ρ,hexec hy hrow,⟨undef, .inr ⟨rfl,rfl⟩, .any _⟩,H',T',fun _ _=>rfl⟩
      ·cases hv
     ·cases hv
    ·rename_i k sz i off hpk;rw [hpk]at hp;split at hv
     ·rename_i ty sz' es hb;split at hv
      ·rename_i e ds he hds;split at hv
       ·rename_i hc;obtain ⟨rfl,hle⟩:=hc;cases hv;have e1:=Ml hds;subst e1;obtain ⟨x0,xs,h1,h2,h3,h4⟩:=H.blk _ _ hb;generalize hy:a.eval p=y at hp;cases hp with
        |aptr _ _ _ _ g n' cap hρ=>
         rw [hρ]at h1;cases h1;have hi:i<es.length:=(lH.1 he).1;have hel:e.length=sz':=h3 e (lF he);rcases h2.2 with ⟨hn0,_⟩|⟨g0,cap0,cur,fz,hx0,hg0,hfz,hnc,hcm,hcs0,htake⟩
         ·cases hn0
         ·cases hx0;have hxl:xs.length=es.length*sz':=h2.1;have hcl:es.length*sz'≤cur.size:=by rw [hcs0];exact Nat.mul_le_mul_right _ hnc
          have hoff:i*sz'+off+vs.length≤es.length*sz':=by
            have:(i+1)*sz'≤es.length*sz':=Nat.mul_le_mul_right _ hi;rw [bD]at this;omega
          have hrow:=Qx (P:=P) (cur:=cur.toList) (g:=g) (ty:=ty) (fz:=fz) (by simpa using hg0) (by rcases hfz with q|⟨_,q⟩;exact .inl q;exact .inr (by simpa using q)) (vs:=vs) (o:=i*sz'+off) (by simp;omega) hone;obtain ⟨f1,f2,f3,f4,f5,f6⟩:=Uf (cs:=(Gp cur.toList (i*sz'+off) vs).toArray) hg0;have hI: ¬I g:=H.notI k _ g hb (by simp [M2,hρ,Value.ownBlock]);have hkeep: ∀{c:D} {y:Value},RepD w I c y→RepD (w.setRow g (Gp cur.toList (i*sz'+off) vs).toArray) I c y:=fun hr=>hr.keep (fun b hb=>f5 b (fun e=>hI (e▸hb))) (fun _ hb=>hb)
          have hxs: ∀m,m<xs.length→xs.getD m undef=cur.toList.getD m undef:=by
            intro m hm;rw [← htake]at hm ⊢;simp only [List.getD,lX];rw [l4 (by simp at hm;omega)]
          obtain ⟨H',T'⟩:=Qs H k (.arr ty sz' es) (.arr ty sz' (es.set i (Gp e off ds))) g hb (by simp [M2,hρ,Value.ownBlock]) (by simp [M2,hρ,Value.ownBlock]) f1 f2 f3 f4 f5
            ⟨_,Gp xs (i*sz'+off) vs,hρ,by
              rw [List.length_set];refine ⟨by rw [Ab];exact hxl, .inr ⟨g,cap,_,fz,rfl,f6,by simpa [Ab] using hfz,hnc,hcm,by simp [Ab,hcs0],?_⟩⟩;apply List.ext_getElem?;intro m;rw [lX];rw [Dg vs xs _ m (by omega),Dg vs cur.toList _ m (by simp;omega)];by_cases hm:m<es.length*sz'
              ·rw [l4 hm];split
               ·rfl
               ·rw [← htake,lX,l4 hm]
              ·rw [l5 hm,l5 (by omega)]
               symm
               apply List.getElem?_eq_none;omega,by
              intro e' he';rcases List.mem_or_eq_of_mem_set he' with h|h
              ·exact h3 e' h
              ·rw [h,Ab];exact hel,by
              intro i' j' d' hd';have hds':ds.length=vs.length:=by simpa using g2
              simp only [Lf,List.getElem?_set]at hd';split at hd'
              ·rename_i hii;subst hii;simp only [lA]at hd';rw [Dg ds e off j' (by omega)]at hd';rw [List.getD,Dg vs xs _ _ (by omega)];split at hd'
               ·rename_i hj;rw [l4 (by omega),show i*sz'+j' - (i*sz'+off)=j' - off by omega];have hr:=g4 (j' - off) (.d d') (by simp [hd']);cases hr with
                |d _ _ hr=>
                 have ho:=g3 (j' - off) (by simp;omega);have:=hkeep hr;rw [List.getD]at this;exact ⟨hr.one_of ho,this⟩
               ·rename_i hj;have hj':j'<sz':=by rw [← hel];exact (lH.1 hd').1
                rw [l5 (by omega)];obtain ⟨q1,q2⟩:=h4 i j' d' (by simp [Lf,he,hd']);have:=hkeep q2;rw [List.getD]at this;exact ⟨q1,this⟩
              ·rename_i hii;obtain ⟨q1,q2⟩:=h4 i' j' d' hd';refine ⟨q1,?_⟩
               have hi':i'<es.length:=by
                 cases hq:es[i']? with
                 |none=>simp [hq]at hd'
                 |some q=>exact (lH.1 hq).1
               have hj':j'<sz':=by
                 cases hq:es[i']? with
                 |none=>simp [hq]at hd'
                 |some q=>
                  simp only [hq,lA]at hd';rw [← h3 q (lF hq)];exact (lH.1 hd').1
               have hne: ¬(i*sz'+off≤i'*sz'+j'∧i'*sz'+j'<i*sz'+off+vs.length):=by
                 rintro ⟨b1,b2⟩;rcases Nat.lt_or_gt_of_ne hii with h|h
                 ·have:=Nat.mul_le_mul_right sz' (show i+1≤i' from h);rw [bD]at this;omega
                 ·have:=Nat.mul_le_mul_right sz' (show i'+1≤i from h);rw [bD]at this;omega
               rw [List.getD,Dg vs xs _ _ (by omega),l5 hne];have:=hkeep q2
               rwa [List.getD]at this⟩
          exact ⟨_,_,ρ,hexec hy hrow,⟨undef, .inr ⟨rfl,rfl⟩, .any _⟩,H',T',fun _ _=>rfl⟩
       ·cases hv
      ·cases hv
     ·cases hv
    ·cases hv
   ·cases hv
  ·cases hv
theorem JE {t:TypeId}{g:Nat}{es:Array MapEntry}{clock:Nat}{ks:List Int}(n:Int)(ht:Tz P t=true)(hg:w.heap[g]? =some (.map es clock))
    (he:es.toList.map (fun e=>(e.key,e.val))=ks.map fun n=>(Value.int .i64 n,Value.bool true)):
    ∃es' clock',(Instr.mapUpdate t (.map (some g)) (.int .i64 n) (.bool true)).run P w= .ok () {w with heap:=w.heap.setIfInBounds g (.map es' clock')}∧
     es'.toList.map (fun e=>(e.key,e.val))=(if n∈ks then ks else ks++ [n]).map fun n=>(Value.int .i64 n,Value.bool true):=by
  obtain ⟨kt,e,i,h1,h2,h3,h4⟩:=Zz ht;have hk:MapKept.IsKey (.int .i64) (.int .i64 n):=by simp [MapKept.IsKey]
  have hf:=Qu n es.toList ks 0 he;unfold Instr.mapUpdate;simp only [Sem.run_bind,run_underlying h1,Result.andThen,MapKept.run_getObj_map hg,MapKept.run_checkKey h2 hk,MapKept.run_findKey h2 hf];by_cases hn:n∈ks
  ·simp only [hn,if_true,bE];have hi:ks.idxOf n<ks.length:=List.idxOf_lt_length_iff.2 hn;have hl:es.toList.length=ks.length:=by have:=congrArg List.length he;simpa using this
   have hie:ks.idxOf n<es.size:=by simpa [← hl] using hi
   have hkey:es[ks.idxOf n].key= .int .i64 n∧es[ks.idxOf n].val= .bool true:=by
     have:=congrArg (fun l=>l[ks.idxOf n]?) he;simp only [lI]at this;rw [lG (by simpa using hie),lG hi]at this;simp only [lE,Option.some.injEq,Prod.mk.injEq,List.getElem_idxOf]at this;exact ⟨by simpa using this.1,by simpa using this.2⟩
   refine ⟨es.modify (ks.idxOf n) (fun e=>{e with key:= .int .i64 n,val:= .bool true}),clock,?_,?_⟩
   ·simp [hie,hkey.1,Instr.keyThatStays,Instr.sameBits,MapKept.run_setObj_map _ hg]
   ·have e1:(es.modify (ks.idxOf n) (fun e=>{e with key:= .int .i64 n,val:= .bool true})).toList=es.toList.modify (ks.idxOf n) (fun e=>{e with key:= .int .i64 n,val:= .bool true}):=by simp
    rw [e1];apply List.ext_getElem?;intro m;rw [← he];simp only [lI,List.getElem?_modify];by_cases em:ks.idxOf n=m
    ·subst em;have hie':ks.idxOf n<es.toList.length:=by simpa using hie
     simp only [if_true,lG hie',lE];have:=hkey;simp only [Array.getElem_toList];simp [hkey.1,hkey.2]
    ·simp [em]
  ·simp only [hn,if_false];refine ⟨es.push {key:= .int .i64 n,val:= .bool true,born:=clock},clock+1,?_,by simp [he]⟩;simp [MapKept.run_setObj_map _ hg]
theorem EQ {o:Oper}{t:TypeId}{m x y:Operand}{k:AK}{v:AV}{ups:List (D7×Option Blk)}{u d:Nat}(hop:o.op= .insert t m x y∨o.op= .mapUpdate t m x y)(hk:N6 P o.op=some k)(hs:Sim w I ρ N s a)(H:HeapOK w I ρ h)
    (hv:Gm u d s.t h k=some (v,ups)):Th P w I ρ h a o (fun _=>True) v (Q0 h ups):=by
  have hk2: ∃om ox,Tz P t=true∧y= .const (.bool true)∧L9 m=some om∧L9 x=some ox∧k= .mins om ox:=by
    rcases hop with hop|hop<;>rw [hop]at hk<;>simp only [N6]at hk
    all_goals
      split at hk
      ·split at hk
       ·simp only [lB]at hk;obtain ⟨om,h1,hk⟩:=bind_some hk;obtain ⟨ox,h2,hk⟩:=bind_some hk;cases hk;exact ⟨om,ox,‹_›,rfl,h1,h2,rfl⟩
       ·cases hk
      ·cases hk
  obtain ⟨om,ox,ht,rfl,hom,hox,rfl⟩:=hk2;simp only [Gm]at hv;split at hv
  ·rename_i q n hm hx;split at hv
   ·rename_i ks hb;cases hv;have h1:=O2 hs hom;have h2:=O2 hs hox;rw [hm]at h1;rw [hx]at h2;obtain ⟨g,es,clock,g1,g2,g3⟩:=H.blk _ _ hb;have e2:=Cf h2;generalize hy:a.eval m=y at h1;cases h1 with
    |sl _ _ hρ=>
     rw [hρ]at g1;cases g1;obtain ⟨es',clock',r1,r2⟩:=JE n ht g2 g3;have hlt:g<w.heap.size:=(Array.getElem?_eq_some_iff.1 g2).1
     obtain ⟨H',T'⟩:=Qs (w':={w with heap:=w.heap.setIfInBounds g (.map es' clock')}) H q (.mp ks) (.mp (if n∈ks then ks else ks++ [n])) g hb (by simp [M2,hρ,Qq]) (by simp [M2,hρ,Qq]) rfl rfl rfl (by simp)
       (fun i hi=>by simp [Ne.symm hi]) ⟨g,es',clock',hρ,by simp [hlt],r2⟩
     refine ⟨.skip,_,ρ,?_,⟨undef, .inr ⟨rfl,rfl⟩, .any _⟩,H',T',fun _ _=>rfl⟩;have ev:a.eval (.const (.bool true))= .bool true:=rfl;unfold execOp;rcases hop with hop|hop
     ·rw [hop];simp only [hy,e2,ev,Sem.run_bind,r1,Result.andThen,Sem.run_pure]
     ·rw [hop];simp only [hy,e2,ev,Sem.run_bind,r1,Result.andThen,Sem.run_pure]
   ·cases hv
  ·cases hv
end
end Go.Abs
namespace Go.Abs
open Go
theorem Wv {P:Program}(w:World)(t ty e:TypeId)(i:TypeInfo)(z:Value)(ht:P.underlying t=some (.slice e))(hi:P.info? e=some i)(hz:i.zero=some z)(hzs:z.cells.size=i.size)(hsz:0<i.size)
    (v:Value) (n:Nat) (xs:List Value) (hown:rowM w e i.size v n xs) (a:Addr) (m c:Nat) (news:List Value) (hl:news.length=m*i.size) (hnews: ∀j u,news[j]? =some u→w.cell? (a.add j)=some u) (h1: ∀u∈news,u.oneCell'=true)
    (h63:n+m≤maxLen) (hbytes:(n+m)*i.bytes≤140737488355328):
    ∃v' w',(Builtin.append_ #[t,t] ty #[v, .slice (some a) m c]).run P w= .ok v' w'∧rowM w' e i.size v' (n+m) (xs++news)∧w.grownBy w' v.ownBlock∧(v'.ownBlock=v.ownBlock∨v'.ownBlock=some w.heap.size):=by
  have base:w.ownsRow 0 e i.size v n xs→∃v' w',(Builtin.append_ #[t,t] ty #[v, .slice (some a) m c]).run P w= .ok v' w'∧rowM w' e i.size v' (n+m) (xs++news)∧w.grownBy w' v.ownBlock∧(v'.ownBlock=v.ownBlock∨v'.ownBlock=some w.heap.size):=by
    intro ho;obtain ⟨v',w',r1,r2,r3,_,r5⟩:=run_append_own_at (P:=P) w 0 t ty e i z i.size i.bytes ht hi hz rfl rfl hzs hsz v n xs ho a m c news hl hnews h1 h63 hbytes (bC _);exact ⟨v',w',r1,Ny r2,r3,r5⟩
  rcases hown.2 with hn|⟨g,cap,cur,fz,rfl,hg,hfz,hnc,hcm,hcs,htake⟩
  ·exact base ⟨hown.1, .inl hn⟩
  ·rcases hfz with rfl|⟨h5,hfz⟩
   ·exact base ⟨hown.1, .inr ⟨g,cap,cur,rfl,bC _,hg,hnc,hcm,hcs,htake⟩⟩
   ·have hlen:(xs++news).length=(n+m)*i.size:=by rw [lK,hown.1,hl,bD]
    by_cases hroom:n+m≤cap
    ·have hfit:n*i.size+news.length≤cur.size:=by rw [hl,hcs,← bD];exact Nat.mul_le_mul_right _ hroom
     have hf:=run_firstCells_some (P:=P) w i.size m a m c news hl hnews;have hst:=Io P g (n*i.size) e fz news 0 cur w hg (.inr hfz) (by simpa using hfit) h1;simp only [Nat.add_zero]at hst
     have hr:(Builtin.append_ #[t,t] ty #[.slice (some ⟨g,0,none⟩) n cap, .slice (some a) m c]).run P w= .ok (.slice (some ⟨g,0,none⟩) (n+m) cap) (w.setRow g (cur.toList.take (n*i.size)++news++cur.toList.drop (n*i.size+news.length)).toArray):=by
       simp [Builtin.append_,run_underlying ht,sizeOf,typeInfo,hi,Builtin.lenOf,hroom,hf,Addr.add_lit,hst]
     have hsize:(cur.toList.take (n*i.size)++news++cur.toList.drop (n*i.size+news.length)).toArray.size=cur.size:=by
       simp only [List.size_toArray,lK,lR,List.length_drop,Array.length_toList];omega
     refine ⟨_,_,hr,⟨hlen, .inr ⟨g,cap,_,fz,rfl,setRow_heap w g cur _ e _ hg, .inr ⟨h5,by rw [hsize];exact hfz⟩,hroom,hcm,by rw [hsize];exact hcs,?_⟩⟩,⟨rfl,rfl,rfl,by simp,fun k _ hk=>setRow_other w g k _ (fun e=>hk (by simp [Value.ownBlock,e]))⟩, .inl rfl⟩;rw [htake,← hlen];exact List.take_left
    ·have holds: ∀j u,xs[j]? =some u→w.cell? ((⟨g,0,none⟩:Addr).add j)=some u:=Tb hown (g:=g) rfl;have hsmall:n+m≤9223372036854775807:=by simp only [maxLen]at h63;omega
     have hr:=run_append_grow (P:=P) w t ty e i z ht hi hz ⟨g,0,none⟩ n cap xs hown.1 holds a m c news hl hnews (by omega) (by omega) (growslice_fits (by omega) hbytes);have hge:=grownCap_ge w (n+m) cap e;have hcm2:grownCap w (n+m) cap e≤maxLen:=grownCap_le_maxLen w (n+m) cap e h63;refine ⟨_,_,hr,Ny (base:=0) ⟨hlen, .inr ⟨w.heap.size,_,_,rfl,bC _,heap_alloc_new w.drew _,hge,hcm2,?_,?_⟩⟩,⟨rfl,rfl,rfl,by simp,fun k hk _=>heap_alloc_old w.drew _ k hk⟩, .inr rfl⟩
     ·simp only [Array.size_append,List.size_toArray,size_zeroCells,hzs,hown.1,hl,← bD];congr 1;omega
     ·simp only [Array.toList_append,lM];rw [← lM,← hlen];exact List.take_left
section
variable {P:Program}{w:World}{I:Nat→Prop}{ρ:Rho}{N:Nat}{s:St}{a:Act}{h:C7}
theorem Vp {k:D7}{x:Value}(hk:ρ k=none):ρ.le (W8 ρ k (some x)):=by
  intro k' v hv;by_cases e:k'=k
  ·subst e;rw [hk]at hv;cases hv
  ·rw [K5 _ _ _ _ e];exact hv
theorem Ug (H:HeapOK w I ρ h)(k:D7)(x:Value)(b:Blk)(hk:ρ k=none)(hx:x.oneCell'=true)
    (hloc: ∀g,M2 (W8 ρ k (some x)) k b=some g→¬own ρ h g∧¬I g∧g<w.heap.size) (hb:BlkOK w I (W8 ρ k (some x)) k b):HeapOK w I (W8 ρ k (some x)) (W8 h k (some b)):=by
  have hle:=Vp (x:=x) hk
  have hfr: ∃u0:Nat,∀d u,u0≤u→W8 ρ k (some x) (d,u)=none:=by
    obtain ⟨u0,hu⟩:=H.fresh;refine ⟨max u0 (k.2+1),fun d u hdu=> ?_⟩;rw [K5 _ _ _ _ (by rintro rfl;simp at hdu;omega)];exact hu d u (by omega)
  have hro: ∀k' y,W8 ρ k (some x) k'=some y→y.oneCell'=true:=by
    intro k' y h1;by_cases e:k'=k
    ·subst e;rw [C8]at h1;cases h1;exact hx
    ·rw [K5 _ _ _ _ e]at h1;exact H.rone _ _ h1
  have hne: ∀k' b',h k'=some b'→k'≠k:=by
    rintro k' b' h1 rfl;obtain ⟨y,hy⟩:=(H.blk _ _ h1).rho;rw [hk]at hy;cases hy
  have hlo: ∀k' b',h k'=some b'→M2 (W8 ρ k (some x)) k' b'=M2 ρ k' b':=fun k' b' h1=>Mr b' (K5 _ _ _ _ (hne _ _ h1));refine ⟨?_,?_,?_,?_,H.ilt,hfr,hro⟩
  ·intro k' b' h1;by_cases e:k'=k
   ·subst e;rw [C8]at h1;cases h1;exact hb
   ·rw [K5 _ _ _ _ e]at h1;exact (H.blk k' b' h1).keep (fun _ _=>rfl) (fun _ _=>rfl) (fun _ hb=>hb) hle
  ·intro k1 k2 b1 b2 g h1 h2 h3 h4;by_cases e1:k1=k<;>by_cases e2:k2=k
   ·rw [e1,e2]
   ·subst e1;rw [C8]at h1;cases h1;rw [K5 _ _ _ _ e2]at h2;rw [hlo _ _ h2]at h4;exact absurd ⟨k2,b2,h2,h4⟩ (hloc g h3).1
   ·subst e2;rw [C8]at h2;cases h2;rw [K5 _ _ _ _ e1]at h1;rw [hlo _ _ h1]at h3;exact absurd ⟨k1,b1,h1,h3⟩ (hloc g h4).1
   ·rw [K5 _ _ _ _ e1]at h1;rw [K5 _ _ _ _ e2]at h2;rw [hlo _ _ h1]at h3;rw [hlo _ _ h2]at h4;exact H.sep k1 k2 b1 b2 g h1 h2 h3 h4
  ·intro k' b' g h1 h2;by_cases e:k'=k
   ·subst e;rw [C8]at h1;cases h1;exact (hloc g h2).2.1
   ·rw [K5 _ _ _ _ e]at h1;rw [hlo _ _ h1]at h2;exact H.notI k' b' g h1 h2
  ·intro k' b' g h1 h2;by_cases e:k'=k
   ·subst e;rw [C8]at h1;cases h1;exact (hloc g h2).2.2
   ·rw [K5 _ _ _ _ e]at h1;rw [hlo _ _ h1]at h2;exact H.lt k' b' g h1 h2
theorem HeapOK.erase (H:HeapOK w I ρ h)(k:D7):HeapOK w I ρ (W8 h k none):=by
  have hh: ∀k' b,W8 h k none k'=some b→h k'=some b:=by
    intro k' b hb;by_cases e:k'=k
    ·subst e;rw [C8]at hb;cases hb
    ·rwa [K5 _ _ _ _ e]at hb
  exact ⟨fun k b hb=>H.blk k b (hh _ _ hb),fun k k' b b' g h1 h2=>H.sep k k' b b' g (hh _ _ h1) (hh _ _ h2),fun k b g h1=>H.notI k b g (hh _ _ h1),fun k b g h1=>H.lt k b g (hh _ _ h1),H.ilt,H.fresh,H.rone⟩
theorem AB (H:HeapOK w I ρ h){x:AV}{v:Value}{sz:Nat}{ys:List (List D)}(hx:RepV w I ρ x v)(hy:Ad h sz x=some ys):
    ∃(A:Option Addr) (c:Nat) (us:List Value),v= .slice A ys.length c∧us.length=ys.length*sz∧(ys≠ []→∃ad,A=some ad∧∀(j:Nat) u,us[j]? =some u→w.cell? (ad.add j)=some u)∧(∀e∈ys,e.length=sz)∧
     ∀i j d,Lf ys i j=some d→d.one=true∧RepD w I d (us.getD (i*sz+j) undef):=by
  unfold Ad at hy;split at hy
  ·rename_i ys';split at hy
   ·rename_i hall;cases hy;have hsz: ∀e∈ys,e.length=sz:=by intro e he;simpa using lU.1 hall e he
    cases hx with
    |d _ _ hd=>
     cases hd with
     |lnil A cap=>exact ⟨A,cap,[],rfl,by simp,fun h=>absurd rfl h,hsz,fun i j d hd=>by simp [Lf]at hd⟩
     |list _ A cap sz' X hne hcap hsz' hI hone hc hr=>
      have hs2:sz'=sz:=by
        cases ys with
        |nil=>exact absurd rfl hne
        |cons e r=>rw [← hsz' e (by simp),hsz e (by simp)]
      subst hs2
      have hat: ∀i j,i<ys.length→j<sz'→∃d,Lf ys i j=some d:=by
        intro i j hi hj;have hl:j< (ys[i]).length:=by rw [hsz _ (List.getElem_mem hi)];exact hj
        exact ⟨ys[i][j],by simp [Lf,hi,hl]⟩
      have hf: ∀m,m<ys.length*sz'→((List.range (ys.length*sz')).map fun m=>X (m / sz') (m % sz'))[m]? =some (X (m / sz') (m % sz')):=by
        intro m hm;simp [hm]
      have hdm: ∀i j,j<sz'→(i*sz'+j) / sz'=i∧(i*sz'+j) % sz'=j:=by
        intro i j hj;have hp:0<sz':=by omega
        constructor
        ·rw [Nat.mul_comm,Nat.mul_add_div hp,Nat.div_eq_of_lt hj];omega
        ·rw [Nat.mul_comm,Nat.mul_add_mod,Nat.mod_eq_of_lt hj]
      refine ⟨some A,cap,(List.range (ys.length*sz')).map (fun m=>X (m / sz') (m % sz')),rfl,by simp,fun _=>⟨A,rfl,fun j u hj=> ?_⟩,hsz,fun i j d hd=> ?_⟩
      ·have hlt:j<ys.length*sz':=by have:=(lH.1 hj).1;simpa using this
       rw [hf j hlt]at hj;cases hj
       have hp:0<sz':=by
         rcases Nat.eq_zero_or_pos sz' with h|h
         ·rw [h]at hlt;omega
         ·exact h
       obtain ⟨d,hd⟩:=hat (j / sz') (j % sz') (by rw [Nat.div_lt_iff_lt_mul hp];exact hlt) (Nat.mod_lt _ hp);have:=hc _ _ _ hd
       rwa [Nat.mul_comm,Nat.div_add_mod]at this
      ·have hi:i<ys.length:=by
         unfold Lf at hd;cases hq:ys[i]? with
         |none=>simp [hq]at hd
         |some q=>exact (lH.1 hq).1
       have hj:j<sz':=by
         unfold Lf at hd;cases hq:ys[i]? with
         |none=>simp [hq]at hd
         |some q=>
          simp only [hq,lA]at hd;rw [← hsz q (lF hq)];exact (lH.1 hd).1
       refine ⟨hone _ _ _ hd,?_⟩;rw [List.getD,hf _ (BA hi hj),(hdm i j hj).1,(hdm i j hj).2];exact hr _ _ _ hd
   ·cases hy
  ·cases hy;cases hx with
   |d _ _ hd=>cases hd with|nilS A=>exact ⟨A,0,[],rfl,by simp,fun h=>absurd rfl h,by simp,fun i j d hd=>by simp [Lf]at hd⟩
  ·rename_i A c;cases hy;cases hx with
   |d _ _ hd=>
    cases hd with
    |v _=>exact ⟨A,c,[],rfl,by simp,fun h=>absurd rfl h,fun e he=>by simp at he,fun i j d hd=>by simp [Lf]at hd⟩
  ·rename_i k;split at hy
   ·rename_i ty sz' es hb;split at hy
    ·rename_i hsz;subst hsz;cases hy;obtain ⟨x0,xs,h1,h2,h3,h4⟩:=H.blk _ _ hb;cases hx with
     |sl _ _ hρ=>
      rw [hρ]at h1;cases h1;rcases h2.2 with ⟨rfl,hz⟩|⟨g,cap,cur,fz,rfl,_⟩
      ·have:ys= []:=lV hz;subst this;exact ⟨none,0,xs,rfl,h2.1,fun h=>absurd rfl h,h3,h4⟩
      ·exact ⟨_,cap,xs,rfl,h2.1,fun _=>⟨_,rfl,Tb h2 (g:=g) rfl⟩,h3,h4⟩
    ·cases hy
   ·cases hy
  ·cases hy
set_option maxHeartbeats 1000000 in
theorem BC {o:Oper}{c:Call}{k:AK}{v:AV}{ups:List (D7×Option Blk)}{u d:Nat}(hop:o.op= .call c)(hcal:c.callee= .builtin .append)(hk:N6 P o.op=some k)(hs:Sim w I ρ N s a)(H:HeapOK w I ρ h)
    (hρ:ρ (d,u)=none) (hv:Gm u d s.t h k=some (v,ups)):Th P w I ρ h a o (fun k'=>k'≠(d,u)) v (Q0 h ups):=by
  obtain ⟨cal,args,tys⟩:=c;simp only at hcal;subst hcal;rw [hop]at hk;simp only [N6]at hk;split at hk
  ·rename_i x y t t' hx ht;split at hk
   ·cases hk
   ·rename_i htt;have htt':t=t':=by simpa using htt
    subst htt';split at hk
    ·rename_i e hu;simp only [lB]at hk;obtain ⟨sz,hsz,hk⟩:=bind_some hk;obtain ⟨i0,hi0,hk⟩:=bind_some hk;split at hk
     ·cases hk
     ·rename_i hcond;simp only [l7,not_or,l8,decide_eq_true_eq,bne_iff_ne,ne_eq,Decidable.not_not]at hcond;obtain ⟨⟨⟨hsz0,hby⟩,hzn⟩,hzs⟩:=hcond;obtain ⟨ox,hox,hk⟩:=bind_some hk;obtain ⟨oy,hoy,hk⟩:=bind_some hk;cases hk;cases hz:i0.zero with
      |none=>simp [hz]at hzn
      |some z=>
      have hzsz:z.cells.size=sz:=by simpa [hz] using hzs
      have hisz:i0.size=sz:=by simpa [Zi,hi0] using hsz
      have hargs:args= #[x,y]:=by apply Array.ext';simpa using hx
      have htys:tys= #[t,t]:=by apply Array.ext';simpa using ht
      subst hargs htys
      have hexec: ∀{r:Value} {w':World},(Builtin.append_ #[t,t] o.type #[a.eval x,a.eval y]).run P w= .ok r w'→(execOp a.eval o).run P w= .ok (.value r) w':=by
        intro r w' h1;unfold execOp;rw [hop];simp [resolve,invoke,builtin,h1]
      have hxr:=O2 hs hox;have hyr:=O2 hs hoy;simp only [Gm]at hv;split at hv
      ·rename_i ys hys;obtain ⟨A,c,us,hyv,hul,had,hysz,hyd⟩:=AB H hyr hys
       have huone: ∀q∈us,q.oneCell'=true:=by
         intro q hq;obtain ⟨m,hm,rfl⟩:=List.mem_iff_getElem.1 hq;have hp:0<sz:=by omega
         have h1:m / sz<ys.length:=by rw [Nat.div_lt_iff_lt_mul hp,← hul];exact hm
         have h2:m % sz< (ys[m / sz]).length:=by rw [hysz _ (List.getElem_mem h1)];exact Nat.mod_lt _ hp
         obtain ⟨g1,g2⟩:=hyd (m / sz) (m % sz) (ys[m / sz][m % sz]) (by simp [Lf,h1,h2]);rw [Nat.mul_comm,Nat.div_add_mod,List.getD,lG hm]at g2;exact g2.one g1
       have finish: ∀{v0 v1:Value} {w':World} {h1:C7} {n:Nat} {es:List (List D)} {xs:List Value},HeapOK w I ρ h1→(∀g,own ρ h1 g→own ρ h g)→(∀g,v0.ownBlock=some g→¬own ρ h1 g∧¬I g∧own ρ h g)→
        es.length=n→(∀q∈es,q.length=sz)→(∀i j d,Lf es i j=some d→d.one=true∧RepD w I d (xs.getD (i*sz+j) undef))→xs.length=n*sz→
        (Builtin.append_ #[t,t] o.type #[a.eval x,a.eval y]).run P w= .ok v1 w'→rowM w' e sz v1 (n+ys.length) (xs++us)→w.grownBy w' v0.ownBlock→(v1.ownBlock=v0.ownBlock∨v1.ownBlock=some w.heap.size)→
        v= .sl (d,u)→Q0 h ups=W8 h1 (d,u) (some (.arr e sz (es++ys)))→Th P w I ρ h a o (fun k'=>k'≠(d,u)) v (Q0 h ups):=by
         intro v0 v1 w' h1 n es xs H1 hoo hv0 hn hesz hed hxl hrun hrow hgr hob hv' hh';subst hv';rw [hh'];have hI': ∀b,I b→w'.heap[b]? =w.heap[b]?:=fun b hb=>hgr.block b (H.ilt b hb) (fun e=>(hv0 b e.symm).2.1 hb);have hO': ∀g,own ρ h1 g→w'.heap[g]? =w.heap[g]?:=fun g hg=>hgr.block g (H1.own_lt hg) (fun e=>(hv0 g e.symm).1 hg);have Hw:HeapOK w' I ρ h1:=H1.keep hO' hI' (fun _ hb=>hb) (fun _ ho=>H1.own_notI ho) (fun b hb=>bF (H.ilt b hb) hgr.size) (fun _ _ hv=>hv) hgr.size H1.fresh H1.rone
         have hv1one:v1.oneCell'=true:=by
           rcases hrow.2 with ⟨rfl,_⟩|⟨g,cap,cur,fz,rfl,_⟩<;>rfl
         have hlt1: ∀g,v1.ownBlock=some g→g<w'.heap.size:=fun g hg=>MN hrow g hg
         have hloc: ∀g,M2 (W8 ρ (d,u) (some v1)) (d,u) (.arr e sz (es++ys))=some g→v1.ownBlock=some g:=by
           intro g hg;simpa [M2,C8] using hg
         have Hn:=Ug Hw (d,u) v1 (.arr e sz (es++ys)) hρ hv1one
           (fun g hg=>by
             have hg':=hloc g hg;rcases hob with hb|hb
             ·rw [hb]at hg';exact ⟨(hv0 g hg').1,(hv0 g hg').2.1,hlt1 g (hb.trans hg')⟩
             ·rw [hb]at hg';cases hg'
              exact ⟨fun ho=>absurd (H1.own_lt ho) (Nat.lt_irrefl _),fun hi=>absurd (H.ilt _ hi) (Nat.lt_irrefl _),hlt1 _ hb⟩)
           ⟨v1,xs++us,C8 _ _ _,by rw [lK,hn];exact hrow,by
             intro q hq;rcases lP.1 hq with h|h
             ·exact hesz q h
             ·exact hysz q h,by
             intro i j d' hd';rcases EP hd' with ⟨hi,hd1⟩|⟨hi,hd1⟩
             ·obtain ⟨g1,g2⟩:=hed i j d' hd1
              have hj:j<sz:=by
                unfold Lf at hd1;cases hq:es[i]? with
                |none=>simp [hq]at hd1
                |some q=>
                 simp only [hq,lA]at hd1;rw [← hesz q (lF hq)];exact (lH.1 hd1).1
              have hlt:i*sz+j<xs.length:=by rw [hxl,← hn];exact BA hi hj
              refine ⟨g1,?_⟩;rw [List.getD,lT hlt];have:=g2.keep hI' (fun _ hb=>hb)
              rwa [List.getD]at this
             ·obtain ⟨g1,g2⟩:=hyd (i - es.length) j d' hd1;refine ⟨g1,?_⟩
              have hle:xs.length≤i*sz+j:=by
                rw [hxl,← hn];have:=Nat.mul_le_mul_right sz hi;omega
              rw [List.getD,lS hle,show i*sz+j - xs.length=(i - es.length)*sz+j by
               rw [hxl,← hn,Nat.sub_mul];have:=Nat.mul_le_mul_right sz hi
               omega]
              have:=g2.keep hI' (fun _ hb=>hb)
              rwa [List.getD]at this⟩
         refine ⟨.value v1,w',_,hexec hrun,⟨v1, .inl rfl, .sl _ _ (C8 _ _ _)⟩,Hn,⟨hgr.os,hgr.tape,hgr.output,hgr.size,fun b hb hn'=>hgr.block b hb (fun e=>hn' (hv0 b e.symm).2.2),fun _ hb=>hb,fun _ hb _=> .inl hb,?_,Vp hρ⟩,fun k' hk'=>K5 _ _ _ _ hk'⟩;rintro g ⟨k',b',q1,q2⟩ hl;by_cases ek:k'=(d,u)
         ·subst ek;rw [C8]at q1;cases q1;have hg':=hloc g q2;rcases hob with hb|hb
          ·rw [hb]at hg';exact (hv0 g hg').2.2
          ·rw [hb]at hg';cases hg';omega
         ·rw [K5 _ _ _ _ ek]at q1;exact hoo g ⟨k',b',q1,by rw [← q2];exact (Mr b' (K5 _ _ _ _ ek)).symm⟩
       have hbytes: ∀n,n≤1000000000→n*i0.bytes≤140737488355328:=by
         intro n hn;have:=Nat.mul_le_mul hn (show i0.bytes≤1024 by omega);omega
       split at hv
       ·rename_i kk hxk;rw [hxk]at hxr;split at hv
        ·rename_i e' sz' es hb;split at hv
         ·rename_i hc;obtain ⟨rfl,rfl,hlen⟩:=hc;cases hv;obtain ⟨x0,xs,q1,q2,q3,q4⟩:=H.blk _ _ hb;generalize hxv:a.eval x=xv at hxr finish;cases hxr with
          |sl _ _ hρk=>
           rw [hρk]at q1;cases q1;have hne:(kk:D7)≠(d,u):=by rintro rfl;rw [hρ]at hρk;cases hρk
           have hrun: ∃v1 w',(Builtin.append_ #[t,t] o.type #[x0,a.eval y]).run P w= .ok v1 w'∧rowM w' e' sz' v1 (es.length+ys.length) (xs++us)∧w.grownBy w' x0.ownBlock∧(v1.ownBlock=x0.ownBlock∨v1.ownBlock=some w.heap.size):=by
             rw [hyv];cases A with
             |some ad=>
              have hcells: ∀(j:Nat) q,us[j]? =some q→w.cell? (ad.add j)=some q:=by
                intro j q hq;by_cases hy0:ys= []
                ·subst hy0;have:us= []:=lV (by simpa using hul);subst this;simp at hq
                ·obtain ⟨ad',h1,h2⟩:=had hy0;cases h1;exact h2 j q hq
              obtain ⟨v1,w',r1,r2,r3,r5⟩:=Wv (P:=P) w t o.type e' i0 z hu hi0 hz (by rw [hisz];exact hzsz) (by rw [hisz];omega) x0 es.length xs (by rw [hisz];exact q2) ad ys.length c us (by rw [hisz];exact hul) hcells huone
                (by unfold maxLen;omega) (hbytes _ hlen)
              rw [hisz]at r2;exact ⟨v1,w',r1,r2,r3,r5⟩
             |none=>
              have hy0:ys= []:=by
                by_cases h:ys= []
                ·exact h
                ·obtain ⟨_,h1,_⟩:=had h;cases h1
              subst hy0;have hu0:us= []:=lV (by simpa using hul);subst hu0;refine ⟨x0,w,?_,by simpa using q2,⟨rfl,rfl,rfl,bB _,fun _ _ _=>rfl⟩, .inl rfl⟩;rcases q2.2 with ⟨rfl,_⟩|⟨g,cap,cur,fz,rfl,_,_,hnc,_⟩
              ·simp [Builtin.append_,run_underlying hu,Df hsz,Builtin.lenOf,Builtin.firstCells]
              ·simp [Builtin.append_,run_underlying hu,Df hsz,Builtin.lenOf,Builtin.firstCells,storeCells,hnc]
           obtain ⟨v1,w',r1,r2,r3,r5⟩:=hrun;refine finish (v0:=x0) (v1:=v1) (w':=w') (h1:=W8 h kk none) (n:=es.length) (es:=es) (xs:=xs) (H.erase kk) ?_ ?_ rfl q3 q4 q2.1 r1 r2 r3 r5 rfl rfl
           ·rintro g ⟨k',b',p1,p2⟩;by_cases ek:k'=kk
            ·subst ek;rw [C8]at p1;cases p1
            ·rw [K5 _ _ _ _ ek]at p1;exact ⟨k',b',p1,p2⟩
           ·intro g hg;have hl:M2 ρ kk (.arr e' sz' es)=some g:=by simp [M2,hρk,hg]
            refine ⟨?_,H.notI kk _ g hb hl,⟨kk,_,hb,hl⟩⟩;rintro ⟨k',b',p1,p2⟩;by_cases ek:k'=kk
            ·subst ek;rw [C8]at p1;cases p1
            ·rw [K5 _ _ _ _ ek]at p1;exact ek (H.sep k' kk b' _ g p1 hb p2 hl)
         ·cases hv
        ·cases hv
       ·rename_i hxk;rw [hxk]at hxr;generalize hxv:a.eval x=xv at hxr finish
        have hA: ∃A',xv= .slice A' 0 0:=by
          cases hxr with
          |d _ _ hd=>cases hd with|nilS A'=>exact ⟨A',rfl⟩
        obtain ⟨A',rfl⟩:=hA;split at hv
        ·cases hv;have hu0:us= []:=lV (by simpa using hul);refine ⟨.value (.slice A' 0 0),w,ρ,hexec ?_,⟨_, .inl rfl, .d _ _ (.nilS _)⟩,H,Tr.refl _ _ _ _,fun _ _=>rfl⟩;rw [hyv,hxv];cases A'<;>cases A<;>simp [Builtin.append_,run_underlying hu,Df hsz,Builtin.lenOf,Builtin.firstCells,storeCells,loadCells,loadCellsFrom]
        ·rename_i y0 ys0;split at hv
         ·rename_i hlen;cases hv;obtain ⟨ad,rfl,hcells⟩:=had (by simp)
          have hrun: ∃v1 w',(Builtin.append_ #[t,t] o.type #[.slice A' 0 0,a.eval y]).run P w= .ok v1 w'∧rowM w' e sz v1 (0+ (y0::ys0).length) ([]++us)∧w.grownBy w' (Value.ownBlock (.slice none 0 0))∧(v1.ownBlock=(Value.ownBlock (.slice none 0 0))∨v1.ownBlock=some w.heap.size):=by
            rw [hyv];cases A' with
            |none=>
             obtain ⟨v1,w',r1,r2,r3,_,r5⟩:=run_append_own_at (P:=P) w 0 t o.type e i0 z sz i0.bytes hu hi0 hz hisz rfl hzsz (by omega) (.slice none 0 0) 0 [] (World.ownsRow_nil w 0 e sz) ad (y0::ys0).length c us hul hcells huone
               (by unfold maxLen;omega) (hbytes _ (by omega)) (bC _)
             exact ⟨v1,w',r1,Ny r2,r3,r5⟩
            |some a0=>
             have hg:=run_append_grow (P:=P) w t o.type e i0 z hu hi0 hz a0 0 0 [] (by simp) (by simp) ad (y0::ys0).length c us (by rw [hisz];exact hul) hcells (by simp) (by simp at hlen ⊢;omega)
               (growslice_fits (by simp) (hbytes _ (by omega)))
             have hge:=grownCap_ge w (0+ (y0::ys0).length) 0 e;have hcm:=grownCap_le_maxLen w (0+ (y0::ys0).length) 0 e (by unfold maxLen;omega);refine ⟨_,_,hg,Ny (base:=0) ⟨by simpa using hul, .inr ⟨w.heap.size,_,_,rfl,bC _,heap_alloc_new w.drew _,hge,hcm,?_,?_⟩⟩,⟨rfl,rfl,rfl,by simp,fun k hk _=>heap_alloc_old w.drew _ k hk⟩, .inr rfl⟩
             ·simp only [Array.size_append,List.size_toArray,size_zeroCells,hzsz,hul,lL,bE];rw [← bD];congr 1;simp only [bE]at hge;omega
             ·simp only [bE,List.nil_append];rw [← hul];simp
          obtain ⟨v1,w',r1,r2,r3,r5⟩:=hrun;exact finish (v0:= .slice none 0 0) (v1:=v1) (w':=w') (h1:=h) (n:=0) (es:= []) (xs:= []) H (fun _ hg=>hg) (fun g hg=>by cases hg) rfl (by simp) (fun i j d hd=>by simp [Lf]at hd) (by simp) r1 r2 r3 r5 rfl rfl
         ·cases hv
       ·cases hv
      ·cases hv
    ·cases hk
  ·cases hk
end
end Go.Abs
