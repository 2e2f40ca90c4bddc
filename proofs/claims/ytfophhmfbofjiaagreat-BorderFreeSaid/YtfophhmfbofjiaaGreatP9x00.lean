/- Part. -/
import Derived.Below
import Derived.LoopN
import Derived.Tactics
import Derived.Orders
import Derived.Laws.Entries
import Derived.Laws.AppendOwn
import Derived.Laws.OwnMore
import Derived.Laws.Cells
import Derived.Laws.CopyRow
import Derived.KernelRfl
import Derived.Laws.Strings
import Derived.Maps.AppendAt
import Derived.OrdersHeld
import Derived.Laws.StructEq
import Derived.Maps.RangeRun
import Derived.Laws.MakeOwn
abbrev BA := ByteArray
abbrev Y : Bool := true
abbrev N : Bool := false
theorem R.{u} {α : Sort u} {a : α} : a = a := Eq.refl a
section
namespace Go.Gp
theorem except_bind {ε α β:Type} {m:Except ε α} {f:α→Except ε β} {r:β} (h:(m >>= f)=.ok r):∃ x,m=.ok x∧f x=.ok r:=by
 cases m with
 | error e=>cases h
 | ok x=>exact ⟨x,rfl,h⟩
theorem viewStore_drawn {p:Program} {w:World} {a:Addr} {u:TypeId} {k:Addr} {v:Value} {b:Bool} {r:World×List Addr} (h:w.viewStore p a u k v b=.ok r):r.1.drawn=w.drawn:=by
 unfold World.viewStore at h
 repeat' (first
  | (obtain ⟨x,_,h⟩:=except_bind h)
  | (split at h)
  | (cases h;rfl)
  | (cases h;done))
theorem ask_drawn {α:Type}:∀ (m:Ask α) (w:World),w.drawn≤(w.ask m).2.drawn
 | .done a,w=>Nat.le_refl _
 | .ask what range k,w=>by
  unfold World.ask
  simp only
  split
  ·exact ask_drawn (k 0) w
  ·exact Nat.le_trans (Nat.le_succ _) (ask_drawn _ { w with drawn:=w.drawn+1 })
theorem sys_drawn (w:World) (c:Sys):w.drawn≤(w.sys c).2.drawn:=by
 unfold World.sys
 split
 ·exact Nat.le_refl _
 ·rename_i r os w' _ e
  have:=ask_drawn (Kernel.perform c w.os) w
  rw [e] at this
  exact this
theorem store_aux {α : Type} {P : Program} {k : Sem α} {w w' : World} {m : Mode} {a : Addr} {v : Value} {x : α} (ih : ∀ (w : World) (a : α) (w' : World), k.run P w = .ok a w' → w.drawn ≤ w'.drawn)
  (h : (match w.cell? a with
  | some _ => if w.frozen? a then Result.halt (.unsupported (.unsafePointer "a write to bytes that a string shares")) w else k.run P (w.setCell a v)
  | none => match w.farStore P a v (m == Mode.atomic) with
   | .ok (w, _) => k.run P w
   | .error h => Result.halt h w) = Result.ok x w') : w.drawn ≤ w'.drawn := by
 split at h
 ·split at h
  ·cases h
  ·exact ih (w.setCell a v) _ _ h
 ·split at h
  ·rename_i w1 l1 e
   have e3 : w1.drawn = w.drawn := by
    unfold World.farStore at e
    split at e
    ·split at e
     ·rename_i e2
      cases e
      exact viewStore_drawn e2
     ·cases e
    ·cases e
   rw [← e3]
   exact ih _ _ _ h
  ·cases h
theorem run_drawn' {α:Type} {P:Program} (m:Sem α):∀ (w:World) (a:α) (w':World),m.run P w=.ok a w'→w.drawn≤w'.drawn:=by
 induction m with
 | pure a=>intro w _ _ h;cases h;exact Nat.le_refl _
 | load m a k ih=>
  intro w _ _ h
  unfold Sem.run at h
  split at h
  ·exact ih _ w _ _ h
  ·split at h
   ·exact ih _ w _ _ h
   ·cases h
 | store m a v k ih=>
  intro w _ _ h
  cases v<;>first | exact store_aux ih h | cases h
 | new o k ih=>intro w _ _ h;exact ih _ { w with heap:=w.heap.push o } _ _ h
 | shape r k ih=>intro w _ _ h;exact ih _ w _ _ h
 | freeze a n k ih=>
  intro w _ _ h
  have:=ih (w.freeze a n) _ _ h
  have e:(w.freeze a n).drawn=w.drawn:=by unfold World.freeze;split<;>rfl
  rw [← e];exact this
 | frozen a k ih=>intro w _ _ h;exact ih _ w _ _ h
 | getObj r k ih=>
  intro w _ _ h
  unfold Sem.run at h
  split at h
  ·cases h
  ·exact ih _ w _ _ h
  ·cases h
 | setObj r o k ih=>
  intro w _ _ h
  unfold Sem.run at h
  split at h
  ·cases h
  ·exact ih { w with heap:=w.heap.setIfInBounds r o } _ _ h
  ·cases h
 | choose q k ih=>
  intro w _ _ h
  unfold Sem.run at h
  split at h
  ·exact ih _ w _ _ h
  ·exact Nat.le_trans (Nat.le_succ _) (ih _ { w with drawn:=w.drawn+1 } _ _ h)
 | sys c k ih=>intro w _ _ h;exact Nat.le_trans (sys_drawn w c) (ih _ _ _ _ h)
 | program k ih=>intro w _ _ h;exact ih _ w _ _ h
 | mark _ k ih=>intro w _ _ h;exact ih w _ _ h
 | halt h=>intro w _ _ e;cases e
theorem run_drawn {α:Type} {P:Program} {m:Sem α} {w:World} {a:α} {w':World} (h:m.run P w=.ok a w'):w.drawn≤w'.drawn:=run_drawn' m w a w' h
end Go.Gp
end
section
set_option linter.unusedVariables false
set_option linter.unusedSimpArgs false
set_option linter.unusedSectionVars false
namespace Go.Gp
abbrev W (α:Type):Type:=(α→Prop)→Prop
def W.ret {α:Type} (x:α):W α:=fun Q=>Q x
def W.fail {α:Type}:W α:=fun _=>False
def W.bind {α β:Type} (m:W α) (f:α→W β):W β:=fun Q=>m (fun x=>f x Q)
def W.req {α:Type} (p:Prop) (m:W α):W α:=fun Q=>p∧m Q
def W.ite {α:Type} (b:Bool) (x y:W α):W α:=fun Q=>match b with | true=>x Q | false=>y Q
def W.any {α β:Type} (p:β→Prop) (f:β→W α):W α:=fun Q=>∀ b,p b→f b Q
def W.ex {α:Type} (f:Nat→W α):W α:=fun Q=>∃ n,f n Q
theorem W.ite_t {α:Type} {b:Bool} {x y:W α} {Q:α→Prop} (hb:b=true) (h:W.ite b x y Q):x Q:=by subst hb;exact h
theorem W.ite_f {α:Type} {b:Bool} {x y:W α} {Q:α→Prop} (hb:b=false) (h:W.ite b x y Q):y Q:=by subst hb;exact h
theorem W.vq {α β:Type} {m:W α} {f:α→W β} {Q:β→Prop} (h:W.bind m f Q):m (fun x=>f x Q):=h
abbrev w64 (x:Int):Int:=IntKind.wrap .i64 x
def W.iter1 {A R:Type} (b:(A→W R)→A→W R):Nat→A→W R
 | 0,_=>W.fail
 | n+1,x=>b (W.iter1 b n) x
def W.iter2 {A B R:Type} (b:(A→B→W R)→A→B→W R):Nat→A→B→W R
 | 0,_,_=>W.fail
 | n+1,x,y=>b (W.iter2 b n) x y
def W.iter3 {A B C R:Type} (b:(A→B→C→W R)→A→B→C→W R):Nat→A→B→C→W R
 | 0,_,_,_=>W.fail
 | n+1,x,y,z=>b (W.iter3 b n) x y z
def W.iter4 {A B C D R:Type} (b:(A→B→C→D→W R)→A→B→C→D→W R):Nat→A→B→C→D→W R
 | 0,_,_,_,_=>W.fail
 | n+1,x,y,z,u=>b (W.iter4 b n) x y z u
theorem W.iter1_s {A R:Type} {b:(A→W R)→A→W R} {n:Nat} {x:A} {Q:R→Prop} (h:W.iter1 b (n+1) x Q):b (W.iter1 b n) x Q:=h
theorem W.iter2_s {A B R:Type} {b:(A→B→W R)→A→B→W R} {n:Nat} {x:A} {y:B} {Q:R→Prop} (h:W.iter2 b (n+1) x y Q):b (W.iter2 b n) x y Q:=h
theorem W.iter3_s {A B C R:Type} {b:(A→B→C→W R)→A→B→C→W R} {n:Nat} {x:A} {y:B} {z:C} {Q:R→Prop} (h:W.iter3 b (n+1) x y z Q):b (W.iter3 b n) x y z Q:=h
theorem W.iter4_s {A B C D R:Type} {b:(A→B→C→D→W R)→A→B→C→D→W R} {n:Nat} {x:A} {y:B} {z:C} {u:D} {Q:R→Prop} (h:W.iter4 b (n+1) x y z u Q):b (W.iter4 b n) x y z u Q:=h
theorem g_t {b:Bool}:b=(b==true):=by cases b<;>rfl
theorem g_f {b:Bool}:(!b)=(b==false):=by cases b<;>rfl
structure Fro where
 cell:Addr→Option Value
 obj:Nat→Option Obj
def Fro.has (φ:Fro) (b:Nat):Prop:=(∃ a v,a.block=b∧φ.cell a=some v)∨∃ o,φ.obj b=some o
structure Fro.le (φ ψ:Fro):Prop where
 cell:∀ a v,φ.cell a=some v→ψ.cell a=some v
 obj:∀ b o,φ.obj b=some o→ψ.obj b=some o
theorem Fro.le.refl (φ:Fro):φ.le φ:=⟨fun _ _ h=>h,fun _ _ h=>h⟩
theorem Fro.le.trans {φ ψ χ:Fro} (h:φ.le ψ) (k:ψ.le χ):φ.le χ:=⟨fun a v e=>k.cell a v (h.cell a v e),fun b o e=>k.obj b o (h.obj b o e)⟩
structure Fro.ok (φ:Fro) (w:World):Prop where
 cell:∀ a v,φ.cell a=some v→w.cell? a=some v
 obj:∀ b o,φ.obj b=some o→w.heap[b]?=some o
theorem Fro.ok.lt {φ:Fro} {w:World} (h:φ.ok w) {b:Nat} (hb:φ.has b):b<w.heap.size:=by
 rcases hb with ⟨a,v,rfl,e⟩ | ⟨o,e⟩
 ·exact World.block_lt_of_cell? w a (h.cell a v e)
 ·exact (Array.getElem?_eq_some_iff.1 (h.obj b o e)).1
structure Kind (α:Type) where
 sz:Nat
 agg:Bool
 rep:Fro→α→List Value→Prop
 len:∀ {φ x cs},rep φ x cs→cs.length=sz
 mono:∀ {φ ψ x cs},φ.le ψ→rep φ x cs→rep ψ x cs
 one:∀ {φ x cs},rep φ x cs→∀ u∈cs,u.oneCell'=true
 sc:agg=false→sz=1
def Kind.val {α:Type} (K:Kind α) (cs:List Value):Value:=if K.agg then .agg cs.toArray else cs.headD (.tuple #[])
theorem Kind.val_cells {α:Type} (K:Kind α) {φ:Fro} {x:α} {cs:List Value} (h:K.rep φ x cs):(K.val cs).cells=cs.toArray:=by
 unfold Kind.val
 cases ha:K.agg with
 | true=>simp [Value.cells]
 | false=>
  have h1:=K.len h
  rw [K.sc ha] at h1
  match cs,h1 with
  | [u],_=>
   have:=K.one h u (by simp)
   cases u<;>simp_all [Value.cells,Value.oneCell']
def kInt (k:IntKind):Kind Int where
 sz:=1
 agg:=false
 rep:=fun _ n cs=>cs=[.int k n]
 len:=by intro _ _ _ h;rw [h];rfl
 mono:=fun _ h=>h
 one:=by intro _ _ _ h;rw [h];simp [Value.oneCell']
 sc:=fun _=>rfl
def kBool:Kind Bool where
 sz:=1
 agg:=false
 rep:=fun _ b cs=>cs=[.bool b]
 len:=by intro _ _ _ h;rw [h];rfl
 mono:=fun _ h=>h
 one:=by intro _ _ _ h;rw [h];simp [Value.oneCell']
 sc:=fun _=>rfl
def kStr:Kind ByteArray where
 sz:=1
 agg:=false
 rep:=fun _ s cs=>cs=[.string s]
 len:=by intro _ _ _ h;rw [h];rfl
 mono:=fun _ h=>h
 one:=by intro _ _ _ h;rw [h];simp [Value.oneCell']
 sc:=fun _=>rfl
def kRaw:Kind Value where
 sz:=1
 agg:=false
 rep:=fun _ v cs=>cs=[v]∧v.oneCell'=true
 len:=by intro _ _ _ h;rw [h.1];rfl
 mono:=fun _ h=>h
 one:=by intro _ _ _ h;rw [h.1];simpa using h.2
 sc:=fun _=>rfl
def kPair {α β:Type} (K:Kind α) (L:Kind β):Kind (α×β) where
 sz:=K.sz+L.sz
 agg:=true
 rep:=fun φ x cs=>∃ c d,cs=c++d∧K.rep φ x.1 c∧L.rep φ x.2 d
 len:=by
  rintro φ x cs ⟨c,d,rfl,h1,h2⟩
  rw [List.length_append,K.len h1,L.len h2]
 mono:=by
  rintro φ ψ x cs h ⟨c,d,rfl,h1,h2⟩
  exact ⟨c,d,rfl,K.mono h h1,L.mono h h2⟩
 one:=by
  rintro φ x cs ⟨c,d,rfl,h1,h2⟩ u hu
  rcases List.mem_append.1 hu with hu | hu
  ·exact K.one h1 u hu
  ·exact L.one h2 u hu
 sc:=fun h=>by cases h
def kIso {α β:Type} (K:Kind β) (f:α→β) (hK:K.agg=true):Kind α where
 sz:=K.sz
 agg:=true
 rep:=fun φ x cs=>K.rep φ (f x) cs
 len:=K.len
 mono:=K.mono
 one:=K.one
 sc:=fun h=>by cases h
def kWrap {α:Type} (K:Kind α):Kind α where
 sz:=K.sz
 agg:=true
 rep:=K.rep
 len:=K.len
 mono:=K.mono
 one:=K.one
 sc:=fun h=>by cases h
def Reps {α:Type} (K:Kind α) (φ:Fro):List α→List Value→Prop
 | [],cs=>cs=[]
 | x::xs,cs=>∃ c d,cs=c++d∧K.rep φ x c∧Reps K φ xs d
theorem Reps.len {α:Type} {K:Kind α} {φ:Fro}:∀ {xs:List α} {cs:List Value},Reps K φ xs cs→cs.length=xs.length*K.sz
 | [],cs,h=>by rw [show cs=[] from h];simp
 | x::xs,cs,h=>by
  obtain ⟨c,d,rfl,h1,h2⟩:=h
  rw [List.length_append,K.len h1,Reps.len h2,List.length_cons,Nat.add_mul,Nat.one_mul,Nat.add_comm]
theorem Reps.mono {α:Type} {K:Kind α} {φ ψ:Fro} (hl:φ.le ψ):∀ {xs:List α} {cs:List Value},Reps K φ xs cs→Reps K ψ xs cs
 | [],cs,h=>h
 | x::xs,cs,h=>by
  obtain ⟨c,d,rfl,h1,h2⟩:=h
  exact ⟨c,d,rfl,K.mono hl h1,Reps.mono hl h2⟩
theorem Reps.one {α:Type} {K:Kind α} {φ:Fro}:∀ {xs:List α} {cs:List Value},Reps K φ xs cs→∀ u∈cs,u.oneCell'=true
 | [],cs,h=>by rw [show cs=[] from h];simp
 | x::xs,cs,h=>by
  obtain ⟨c,d,rfl,h1,h2⟩:=h
  intro u hu
  rcases List.mem_append.1 hu with hu | hu
  ·exact K.one h1 u hu
  ·exact Reps.one h2 u hu
theorem Reps.append {α:Type} {K:Kind α} {φ:Fro}:∀ {xs ys:List α} {cs ds:List Value},Reps K φ xs cs→Reps K φ ys ds→Reps K φ (xs++ys) (cs++ds)
 | [],ys,cs,ds,h,k=>by rw [show cs=[] from h];exact k
 | x::xs,ys,cs,ds,h,k=>by
  obtain ⟨c,d,rfl,h1,h2⟩:=h
  exact ⟨c,d++ds,by simp,h1,Reps.append h2 k⟩
theorem Reps.single {α:Type} {K:Kind α} {φ:Fro} {x:α} {c:List Value} (h:K.rep φ x c):Reps K φ [x] c:=⟨c,[],by simp,h,rfl⟩
theorem Reps.at {α:Type} {K:Kind α} {φ:Fro}:∀ {xs:List α} {cs:List Value},Reps K φ xs cs→∀ (i:Nat) (x:α),xs[i]?=some x→∃ p c d,cs=p++c++d∧p.length=i*K.sz∧K.rep φ x c ∧
  (∀ (y:α) (c':List Value),K.rep φ y c'→Reps K φ (xs.set i y) (p++c'++d))
 | [],cs,h,i,x,e=>by simp at e
 | z::xs,cs,h,0,x,e=>by
  obtain ⟨c,d,rfl,h1,h2⟩:=h
  have:z=x:=by simpa using e
  subst this
  exact ⟨[],c,d,by simp,by simp,h1,fun y c' hy=>⟨c',d,by simp,hy,h2⟩⟩
 | z::xs,cs,h,i+1,x,e=>by
  obtain ⟨c,d,rfl,h1,h2⟩:=h
  obtain ⟨p,c1,d1,rfl,hp,hc,hs⟩:=Reps.at h2 i x (by simpa using e)
  refine ⟨c++p,c1,d1,by simp,?_,hc,fun y c' hy=>⟨c,p++c'++d1,by simp,h1,hs y c' hy⟩⟩
  rw [List.length_append,K.len h1,hp,Nat.add_mul,Nat.one_mul,Nat.add_comm]
def FroAt (φ:Fro) (a:Addr) (cs:List Value):Prop:=∀ j v,cs[j]?=some v→φ.cell (a.add j)=some v
theorem FroAt.mono {φ ψ:Fro} {a:Addr} {cs:List Value} (h:φ.le ψ) (k:FroAt φ a cs):FroAt ψ a cs:=fun j v e=>h.cell _ _ (k j v e)
def kSlice {α:Type} (K:Kind α):Kind (List α) where
 sz:=1
 agg:=false
 rep:=fun φ xs cs=>∃ A c,cs=[.slice A xs.length c]∧xs.length≤c∧c≤maxLen∧(xs≠[]→∃ a ds,A=some a∧Reps K φ xs ds∧FroAt φ a ds)
 len:=by rintro _ _ _ ⟨A,c,rfl,_⟩;rfl
 mono:=by
  rintro φ ψ x cs h ⟨A,c,rfl,h1,h2,h3⟩
  refine ⟨A,c,rfl,h1,h2,fun hne=>?_⟩
  obtain ⟨a,ds,e,h4,h5⟩:=h3 hne
  exact ⟨a,ds,e,h4.mono h,h5.mono h⟩
 one:=by rintro _ _ _ ⟨A,c,rfl,_⟩;simp [Value.oneCell']
 sc:=fun _=>rfl
inductive TA:Type 1
 | any
 | eq (v:Value)
 | tv {α:Type} (K:Kind α) (x:α)
 | tup2 (a b:TA)
 | tup3 (a b c:TA)
 | tcons (a t:TA)
 | cls (f:FuncId) (nf:Nat) (t:TA)
 | ptr {α:Type} (K:Kind α) (x:α)
 | elem (off:Nat) (v:Value)
 | when (b:Bool) (x:TA)
 | fact (p:Fro→Value→Prop) (m:∀ φ ψ v,φ.le ψ→p φ v→p ψ v)
def TA.p:TA→Fro→Value→Prop
 | .any,_,_=>True
 | .eq u,_,v=>v=u
 | .tv K x,φ,v=>∃ cs,K.rep φ x cs∧v=K.val cs
 | .tup2 a b,φ,v=>∃ x y,v=.tuple #[x,y]∧a.p φ x∧b.p φ y
 | .tup3 a b c,φ,v=>∃ x y z,v=.tuple #[x,y,z]∧a.p φ x∧b.p φ y∧c.p φ z
 | .tcons a t,φ,v=>∃ x l,v=.tuple (x::l).toArray∧a.p φ x∧t.p φ (.tuple l.toArray)
 | .cls f nf t,φ,v=>∃ l:List Value,v=.func (.func f) (l.take nf).toArray (l.drop nf).toArray∧t.p φ (.tuple l.toArray)
 | .ptr K x,φ,v=>∃ a cs,v=.pointer (some a)∧K.rep φ x cs∧FroAt φ a cs
 | .elem off u,_,v=>∃ a n c,u=.slice (some a) n c∧v=.pointer (some (a.add off))
 | .when b x,φ,v=>(b=true→x.p φ v)∧(b=false→v=undef)
 | .fact p _,φ,v=>p φ v
theorem TA.mono {φ ψ:Fro} (h:φ.le ψ):∀ {t:TA} {v:Value},t.p φ v→t.p ψ v
 | .any,_,_=>trivial
 | .eq _,_,e=>e
 | .tv K x,_,⟨cs,h1,h2⟩=>⟨cs,K.mono h h1,h2⟩
 | .tup2 a b,_,⟨x,y,e,h1,h2⟩=>⟨x,y,e,TA.mono h h1,TA.mono h h2⟩
 | .tup3 a b c,_,⟨x,y,z,e,h1,h2,h3⟩=>⟨x,y,z,e,TA.mono h h1,TA.mono h h2,TA.mono h h3⟩
 | .tcons a t,_,⟨x,l,e,h1,h2⟩=>⟨x,l,e,TA.mono h h1,TA.mono h h2⟩
 | .cls f nf t,_,⟨l,e,h1⟩=>⟨l,e,TA.mono h h1⟩
 | .ptr K x,_,⟨a,cs,e,h1,h2⟩=>⟨a,cs,e,K.mono h h1,h2.mono h⟩
 | .elem _ _,_,e=>e
 | .when b x,_,e=>⟨fun hb=>TA.mono h (e.1 hb),e.2⟩
 | .fact _ m,v,e=>m _ _ v h e
theorem tv_int {φ:Fro} {k:IntKind} {n:Int} {v:Value}:(TA.tv (kInt k) n).p φ v↔v=.int k n:=by
 constructor
 ·rintro ⟨cs,h,rfl⟩;rw [show cs=_ from h];rfl
 ·rintro rfl;exact ⟨_,rfl,rfl⟩
theorem tv_bool {φ:Fro} {b:Bool} {v:Value}:(TA.tv kBool b).p φ v↔v=.bool b:=by
 constructor
 ·rintro ⟨cs,h,rfl⟩;rw [show cs=_ from h];rfl
 ·rintro rfl;exact ⟨_,rfl,rfl⟩
theorem tv_str {φ:Fro} {s:ByteArray} {v:Value}:(TA.tv kStr s).p φ v↔v=.string s:=by
 constructor
 ·rintro ⟨cs,h,rfl⟩;rw [show cs=_ from h];rfl
 ·rintro rfl;exact ⟨_,rfl,rfl⟩
theorem tv_cells {α:Type} {K:Kind α} {φ:Fro} {x:α} {v:Value} (h:(TA.tv K x).p φ v):K.rep φ x v.cells.toList∧v=K.val v.cells.toList:=by
 obtain ⟨cs,h1,rfl⟩:=h
 rw [K.val_cells h1]
 exact ⟨h1,rfl⟩
inductive Res:Type 1
 | emp
 | box {α:Type} (g:Nat) (T:TypeId) (K:Kind α) (x:α)
 | row {α:Type} (v:Value) (E:TypeId) (K:Kind α) (xs:List α)
 | obj (g:Nat) (o:Obj)
 | map {κ ν:Type} (g:Nat) (KK:Kind κ) (KV:Kind ν) (M:List (κ×ν))
 | mrow {κ α:Type} (g:Nat) (KK:Kind κ) (E:TypeId) (K:Kind α) (vs:List Value) (x:List (κ×List α))
 | mhole {κ α:Type} (g:Nat) (KK:Kind κ) (E:TypeId) (K:Kind α) (vs:List Value) (x:List (κ×List α)) (k:κ) (j:Option Nat) (v:Value) (s:Int)
 | iter {κ ν:Type} (g:Nat) (KK:Kind κ) (KV:Kind ν) (left:List (κ×ν)) (b:Bool) (cur:κ×ν)
 | fmap {κ ν:Type} (g:Nat) (KK:Kind κ) (KV:Kind ν) (M:List (κ×ν))
 | abs (fp:List Nat) (ok:Fro→World→Prop) (stable:∀ φ w w',(∀ b∈fp,w'.heap[b]?=w.heap[b]?)→ok φ w→ok φ w') (mono:∀ φ ψ w,φ.le ψ→ok φ w→ok ψ w)
def blocksV:List Value→List Nat
 | []=>[]
 | v::vs=>v.ownBlock.toList++blocksV vs
def lessAt {α:Type} (l:List α):Option Nat→List α
 | none=>l
 | some j=>l.eraseIdx j
def Res.fp:Res→List Nat
 | .emp=>[]
 | .box g _ _ _=>[g]
 | .row v _ _ _=>v.ownBlock.toList
 | .obj g _=>[g]
 | .map g _ _ _=>[g]
 | .mrow g _ _ _ vs _=>g::blocksV vs
 | .mhole g _ _ _ vs _ _ j _ _=>g::blocksV (lessAt vs j)
 | .iter g _ _ _ _ _=>[g]
 | .fmap _ _ _ _=>[]
 | .abs fp _ _ _=>fp
def Ents {κ ν:Type} (φ:Fro) (KK:Kind κ) (KV:Kind ν):List (κ×ν)→List MapEntry→Prop
 | [],es=>es=[]
 | (k,x)::M,es=>∃ e r,es=e::r∧(TA.tv KK k).p φ e.key∧(TA.tv KV x).p φ e.val∧Ents φ KK KV M r
theorem Ents.mono {κ ν:Type} {φ ψ:Fro} {KK:Kind κ} {KV:Kind ν} (h:φ.le ψ):∀ {M:List (κ×ν)} {es:List MapEntry},Ents φ KK KV M es→Ents ψ KK KV M es
 | [],_,e=>e
 | (k,x)::M,_,⟨e,r,he,h1,h2,h3⟩=>⟨e,r,he,TA.mono h h1,TA.mono h h2,Ents.mono h h3⟩
def MapOk {κ ν:Type} (φ:Fro) (KK:Kind κ) (KV:Kind ν) (M:List (κ×ν)) (es:Array MapEntry) (clock:Nat):Prop:=
 Ents φ KK KV M es.toList∧(es.toList.map (·.born)).Pairwise (·<·)∧(∀ e∈es.toList,e.born<clock)∧(M.map (·.1)).Nodup
def RowsOk {α:Type} (φ:Fro) (w:World) (E:TypeId) (K:Kind α):List Value→List (List α)→Prop
 | [],xss=>xss=[]
 | v::vs,xss=>∃ xs r,xss=xs::r∧(∃ cs,w.ownsRow 0 E K.sz v xs.length cs∧Reps K φ xs cs)∧RowsOk φ w E K vs r
def IterOk {κ ν:Type} (φ:Fro) (KK:Kind κ) (KV:Kind ν) (left:List (κ×ν)) (b:Bool) (cur:κ×ν) (o:Obj):Prop:=
 (∃ since seen c,o=.mapIter none since seen c∧left=[]∧b=false) ∨
 ∃ bm since seen c0 es clock,o=.mapIter (some bm) since seen c0∧φ.obj bm=some (.map es clock)∧(es.toList.map (·.born)).Nodup∧(∀ e∈es.toList,e.born<since)∧(since≤c0∧since≤clock) ∧
  Ents φ KK KV left (es.filter fun e=>!seen.contains e.born).toList∧(b=true→∃ (seen':Array Nat) (e:MapEntry),seen=seen'.push e.born∧c0=clock∧e∈es.toList∧(TA.tv KK cur.1).p φ e.key∧(TA.tv KV cur.2).p φ e.val)
def Res.ok:Res→Fro→World→Prop
 | .emp,_,_=>True
 | .box g T K x,φ,w=>∃ cs:List Value,w.heap[g]?=some (.cells cs.toArray T (0,0))∧K.rep φ x cs
 | .row v E K xs,φ,w=>∃ cs,w.ownsRow 0 E K.sz v xs.length cs∧Reps K φ xs cs
 | .obj g o,_,w=>w.heap[g]?=some o
 | .map g KK KV M,φ,w=>∃ es clock,w.heap[g]?=some (.map es clock)∧MapOk φ KK KV M es clock
 | .mrow g KK E K vs x,φ,w=>∃ es clock,w.heap[g]?=some (.map es clock)∧MapOk φ KK kRaw ((x.map (·.1)).zip vs) es clock∧vs.length=x.length∧RowsOk φ w E K vs (x.map (·.2))∧(g::blocksV vs).Nodup
 | .mhole g KK E K vs x k j v s,φ,w=>∃ es clock,w.heap[g]?=some (.map es clock)∧MapOk φ KK kRaw ((x.map (·.1)).zip vs) es clock∧vs.length=x.length∧RowsOk φ w E K (lessAt vs j) ((lessAt x j).map (·.2))∧(g::blocksV vs).Nodup ∧
  (match j with | none=>v=.slice none 0 0 | some j=>vs[j]?=some v∧(∃ xs,x[j]?=some (k,xs))∧∃ e,es.toList[j]?=some e∧(e.born:Int)=s)
 | .iter g KK KV left b cur,φ,w=>∃ o,w.heap[g]?=some o∧IterOk φ KK KV left b cur o
 | .fmap g KK KV M,φ,_=>∃ es clock,φ.obj g=some (.map es clock)∧MapOk φ KK KV M es clock
 | .abs _ ok _ _,φ,w=>ok φ w
theorem ownsRow_same {w w':World} {base:Nat} {e:TypeId} {size n:Nat} {v:Value} {xs:List Value} (h:w.ownsRow base e size v n xs) (hb:∀ b∈v.ownBlock.toList,w'.heap[b]?=w.heap[b]?):w'.ownsRow base e size v n xs:=by
 refine ⟨h.1,?_⟩
 rcases h.2 with h2 | ⟨g,cap,cur,rfl,hg,hh,r⟩
 ·exact .inl h2
 ·exact .inr ⟨g,cap,cur,rfl,hg,by rw [hb g (by simp [Value.ownBlock])];exact hh,r⟩
theorem RowsOk.same {α:Type} {φ:Fro} {w w':World} {E:TypeId} {K:Kind α}:∀ {vs:List Value} {xss:List (List α)},(∀ b∈blocksV vs,w'.heap[b]?=w.heap[b]?)→RowsOk φ w E K vs xss→RowsOk φ w' E K vs xss
 | [],_,_,h=>h
 | v::vs,_,hb,⟨xs,r,e,⟨cs,h1,h2⟩,h3⟩=>⟨xs,r,e,⟨cs,ownsRow_same h1 (fun b h=>hb b (by simp only [blocksV];exact List.mem_append_left _ h)),h2⟩,RowsOk.same (fun b h=>hb b (by simp only [blocksV];exact List.mem_append_right _ h)) h3⟩
theorem RowsOk.mono {α:Type} {φ ψ:Fro} {w:World} {E:TypeId} {K:Kind α} (hl:φ.le ψ):∀ {vs:List Value} {xss:List (List α)},RowsOk φ w E K vs xss→RowsOk ψ w E K vs xss
 | [],_,h=>h
 | v::vs,_,⟨xs,r,e,⟨cs,h1,h2⟩,h3⟩=>⟨xs,r,e,⟨cs,h1,h2.mono hl⟩,RowsOk.mono hl h3⟩
theorem RowsOk.lt {α:Type} {φ:Fro} {w:World} {E:TypeId} {K:Kind α}:∀ {vs:List Value} {xss:List (List α)},RowsOk φ w E K vs xss→∀ b∈blocksV vs,b<w.heap.size
 | [],_,_,b,hb=>by simp [blocksV] at hb
 | v::vs,_,⟨xs,r,e,⟨cs,h1,h2⟩,h3⟩,b,hb=>by
  rcases List.mem_append.1 hb with hb | hb
  ·exact (h1.lt b (by simpa using hb)).2
  ·exact RowsOk.lt h3 b hb
theorem MapOk.mono {κ ν:Type} {φ ψ:Fro} {KK:Kind κ} {KV:Kind ν} {M:List (κ×ν)} {es:Array MapEntry} {clock:Nat} (hl:φ.le ψ) (h:MapOk φ KK KV M es clock):MapOk ψ KK KV M es clock:=⟨h.1.mono hl,h.2⟩
theorem IterOk.mono {κ ν:Type} {φ ψ:Fro} {KK:Kind κ} {KV:Kind ν} {left:List (κ×ν)} {b:Bool} {cur:κ×ν} {o:Obj} (hl:φ.le ψ) (h:IterOk φ KK KV left b cur o):IterOk ψ KK KV left b cur o:=by
 rcases h with h | ⟨bm,since,seen,c0,es,clock,e,h1,h2,h3,h4,h5,h6⟩
 ·exact .inl h
 ·exact .inr ⟨bm,since,seen,c0,es,clock,e,hl.obj _ _ h1,h2,h3,h4,h5.mono hl,fun hb=>let ⟨s',e',a1,a2,a3,a4,a5⟩:=h6 hb;⟨s',e',a1,a2,a3,TA.mono hl a4,TA.mono hl a5⟩⟩
theorem Res.stable {w w':World}:∀ {r:Res} {φ:Fro},(∀ b∈r.fp,w'.heap[b]?=w.heap[b]?)→r.ok φ w→r.ok φ w'
 | .emp,_,_,_=>trivial
 | .box g T K x,_,hb,⟨cs,h1,h2⟩=>⟨cs,by rw [hb g (by simp [Res.fp])];exact h1,h2⟩
 | .row v E K xs,_,hb,⟨cs,h1,h2⟩=>⟨cs,ownsRow_same h1 hb,h2⟩
 | .obj g o,_,hb,h=>by show w'.heap[g]?=some o;rw [hb g (by simp [Res.fp])];exact h
 | .map g KK KV M,_,hb,⟨es,c,h1,h2⟩=>⟨es,c,by rw [hb g (by simp [Res.fp])];exact h1,h2⟩
 | .mrow g KK E K vs x,_,hb,⟨es,c,h1,h2,h3,h4,h5⟩=>⟨es,c,by rw [hb g (by simp [Res.fp])];exact h1,h2,h3,h4.same (fun b h=>hb b (by simp only [Res.fp];exact List.mem_cons_of_mem _ h)),h5⟩
 | .mhole g KK E K vs x k j v s,_,hb,⟨es,c,h1,h2,h3,h4,h5,h6⟩=>⟨es,c,by rw [hb g (by simp [Res.fp])];exact h1,h2,h3,h4.same (fun b h=>hb b (by simp only [Res.fp];exact List.mem_cons_of_mem _ h)),h5,h6⟩
 | .iter g KK KV l b cur,_,hb,⟨o,h1,h2⟩=>⟨o,by rw [hb g (by simp [Res.fp])];exact h1,h2⟩
 | .fmap g KK KV M,_,_,h=>h
 | .abs _ _ s _,φ,hb,h=>s φ w w' hb h
theorem Res.mono {φ ψ:Fro} {w:World} (hl:φ.le ψ):∀ {r:Res},r.ok φ w→r.ok ψ w
 | .emp,_=>trivial
 | .box g T K x,⟨cs,h1,h2⟩=>⟨cs,h1,K.mono hl h2⟩
 | .row v E K xs,⟨cs,h1,h2⟩=>⟨cs,h1,h2.mono hl⟩
 | .obj g o,h=>h
 | .map g KK KV M,⟨es,c,h1,h2,h3⟩=>⟨es,c,h1,h2.mono hl,h3⟩
 | .mrow g KK E K vs x,⟨es,c,h1,h2,h3,h4,h5⟩=>⟨es,c,h1,h2.mono hl,h3,h4.mono hl,h5⟩
 | .mhole g KK E K vs x k j v s,⟨es,c,h1,h2,h3,h4,h5⟩=>⟨es,c,h1,h2.mono hl,h3,h4.mono hl,h5⟩
 | .iter g KK KV l b cur,⟨o,h1,h2⟩=>⟨o,h1,h2.mono hl⟩
 | .fmap g KK KV M,⟨es,c,h1,h2⟩=>⟨es,c,hl.obj _ _ h1,h2.mono hl⟩
 | .abs _ _ _ m,h=>m φ ψ w hl h
def nth:List Res→Nat→Res
 | [],_=>.emp
 | r::_,0=>r
 | _::l,i+1=>nth l i
def setr:List Res→Nat→Res→List Res
 | [],_,_=>[]
 | _::l,0,x=>x::l
 | r::l,i+1,x=>r::setr l i x
theorem nth_ge:∀ {l:List Res} {i:Nat},l.length≤i→nth l i=.emp
 | [],_,_=>rfl
 | r::l,0,h=>by simp at h
 | r::l,i+1,h=>nth_ge (l:=l) (by simpa using h)
theorem nth_setr_same:∀ {l:List Res} {i:Nat} {x:Res},i<l.length→nth (setr l i x) i=x
 | [],i,x,h=>by simp at h
 | r::l,0,x,h=>rfl
 | r::l,i+1,x,h=>nth_setr_same (l:=l) (by simpa using h)
theorem nth_setr_other:∀ {l:List Res} {i j:Nat} {x:Res},i≠j→nth (setr l i x) j=nth l j
 | [],i,j,x,h=>rfl
 | r::l,0,0,x,h=>absurd rfl h
 | r::l,0,j+1,x,h=>rfl
 | r::l,i+1,0,x,h=>rfl
 | r::l,i+1,j+1,x,h=>nth_setr_other (l:=l) (fun e=>h (by rw [e]))
theorem nth_setr_out:∀ {l:List Res} {i j:Nat} {x:Res},l.length≤i→nth (setr l i x) j=nth l j
 | [],i,j,x,h=>rfl
 | r::l,0,j,x,h=>by simp at h
 | r::l,i+1,0,x,h=>rfl
 | r::l,i+1,j+1,x,h=>nth_setr_out (l:=l) (by simpa using h)
structure Tp (w w':World):Prop where
 tape:w'.tape=w.tape
 drawn:w.drawn≤w'.drawn
theorem Tp.refl (w:World):Tp w w:=⟨rfl,Nat.le_refl _⟩
theorem Tp.trans {a b c:World} (k:Tp b c) (h:Tp a b):Tp a c:=⟨k.tape.trans h.tape,Nat.le_trans h.drawn k.drawn⟩
structure Ctx where
 w0:World
 S0:List Nat
 φ0:Fro
structure Good (C:Ctx) (rs:List Res) (φ:Fro) (w:World):Prop where
 os:w.os=C.w0.os
 tape:Tp C.w0 w
 output:w.output=C.w0.output
 size:C.w0.heap.size≤w.heap.size
 blk:∀ i,i<C.w0.heap.size→i∉C.S0→w.heap[i]?=C.w0.heap[i]?
 le:C.φ0.le φ
 ext:∀ b,φ.has b→C.φ0.has b∨C.w0.heap.size≤b∨b∈C.S0
 fro:φ.ok w
 res:∀ i,(nth rs i).ok φ w
 lt:∀ i,∀ b∈(nth rs i).fp,b<w.heap.size
 own:∀ i,∀ b∈(nth rs i).fp,C.w0.heap.size≤b∨b∈C.S0
 free:∀ i,∀ b∈(nth rs i).fp,¬ φ.has b
 dis:∀ i j,i≠j→∀ b∈(nth rs i).fp,b∉(nth rs j).fp
structure Step (S:List Nat) (w w':World):Prop where
 os:w'.os=w.os
 tape:Tp w w'
 output:w'.output=w.output
 size:w.heap.size≤w'.heap.size
 blk:∀ i,i<w.heap.size→i∉S→w'.heap[i]?=w.heap[i]?
theorem Step.refl (S:List Nat) (w:World):Step S w w:=⟨rfl,.refl _,rfl,Nat.le_refl _,fun _ _ _=>rfl⟩
theorem Fro.ok.step {φ:Fro} {w w':World} {S:List Nat} (h:φ.ok w) (k:Step S w w') (hS:∀ b∈S,¬ φ.has b):φ.ok w':=by
 constructor
 ·intro a v e
  have h1:=h.cell a v e
  have hb:φ.has a.block:=.inl ⟨a,v,rfl,e⟩
  rw [World.cell?_of_block (k.blk a.block (World.block_lt_of_cell? w a h1) (fun hm=>hS _ hm hb))]
  exact h1
 ·intro b o e
  have h1:=h.obj b o e
  rw [k.blk b (Array.getElem?_eq_some_iff.1 h1).1 (fun hm=>hS _ hm (.inr ⟨o,e⟩))]
  exact h1
theorem Good.step {C:Ctx} {rs:List Res} {φ:Fro} {w w':World} (h:Good C rs φ w) {i:Nat} {r r':Res} (hi:nth rs i=r) (k:Step r.fp w w') (hr:r'.ok φ w') (hlt:∀ b∈r'.fp,b<w'.heap.size) (hf:∀ b∈r'.fp,b∈r.fp∨w.heap.size≤b) :
  Good C (setr rs i r') φ w':=by
 subst hi
 have hnew:∀ b,w.heap.size≤b→¬ φ.has b:=fun b hb hh=>by have:=h.fro.lt hh;omega
 have hfree:∀ b∈(nth rs i).fp,¬ φ.has b:=h.free i
 by_cases hil:i<rs.length
 ·have hn:∀ j,nth (setr rs i r') j=if j=i then r' else nth rs j:=by
   intro j
   by_cases e:j=i
   ·subst e;rw [if_pos rfl,nth_setr_same hil]
   ·rw [if_neg e,nth_setr_other (fun h=>e h.symm)]
  refine ⟨k.os.trans h.os,k.tape.trans h.tape,k.output.trans h.output,Nat.le_trans h.size k.size,?_,h.le,h.ext,h.fro.step k hfree,?_,?_,?_,?_,?_⟩
  ·intro b hb hS
   rw [k.blk b (Nat.lt_of_lt_of_le hb h.size) (fun hm=>?_)]
   ·exact h.blk b hb hS
   ·rcases h.own i b hm with h1 | h1
    ·omega
    ·exact hS h1
  ·intro j
   rw [hn]
   split
   ·exact hr
   ·rename_i e
    exact Res.stable (fun b hb=>k.blk b (h.lt j b hb) (h.dis j i e b hb)) (h.res j)
  ·intro j b
   rw [hn]
   split
   ·exact hlt b
   ·intro hb;exact Nat.lt_of_lt_of_le (h.lt j b hb) k.size
  ·intro j b
   rw [hn]
   split
   ·intro hb
    rcases hf b hb with h1 | h1
    ·exact h.own i b h1
    ·exact .inl (Nat.le_trans h.size h1)
   ·exact h.own j b
  ·intro j b
   rw [hn]
   split
   ·intro hb
    rcases hf b hb with h1 | h1
    ·exact h.free i b h1
    ·exact hnew b h1
   ·exact h.free j b
  ·intro j l hjl b
   rw [hn,hn]
   by_cases ej:j=i
   ·rw [if_pos ej,if_neg (fun e=>hjl (ej.trans e.symm))]
    intro hb hb'
    rcases hf b hb with h1 | h1
    ·exact h.dis i l (fun e=>hjl (ej.trans e)) b h1 hb'
    ·have:=h.lt l b hb';omega
   ·rw [if_neg ej]
    by_cases el:l=i
    ·rw [if_pos el]
     intro hb hb'
     rcases hf b hb' with h1 | h1
     ·exact h.dis j i ej b hb h1
     ·have:=h.lt j b hb;omega
    ·rw [if_neg el]
     exact h.dis j l hjl b
 ·have hge:rs.length≤i:=by omega
  have hn:∀ j,nth (setr rs i r') j=nth rs j:=fun j=>nth_setr_out hge
  have he:nth rs i=.emp:=nth_ge hge
  rw [he] at k
  refine ⟨k.os.trans h.os,k.tape.trans h.tape,k.output.trans h.output,Nat.le_trans h.size k.size,?_,h.le,h.ext,h.fro.step k (fun b hb=>by simp [Res.fp] at hb),?_,?_,?_,?_,?_⟩
  ·intro b hb hS
   rw [k.blk b (Nat.lt_of_lt_of_le hb h.size) (fun hm=>by simp [Res.fp] at hm)]
   exact h.blk b hb hS
  ·intro j
   rw [hn]
   exact Res.stable (fun b hb=>k.blk b (h.lt j b hb) (fun hm=>by simp [Res.fp] at hm)) (h.res j)
  ·intro j b;rw [hn];intro hb;exact Nat.lt_of_lt_of_le (h.lt j b hb) k.size
  ·intro j b;rw [hn];exact h.own j b
  ·intro j b;rw [hn];exact h.free j b
  ·intro j l hjl b;rw [hn,hn];exact h.dis j l hjl b
theorem Good.cons_emp {C:Ctx} {rs:List Res} {φ:Fro} {w:World} (h:Good C rs φ w):Good C (.emp::rs) φ w:=by
 refine ⟨h.os,h.tape,h.output,h.size,h.blk,h.le,h.ext,h.fro,?_,?_,?_,?_,?_⟩
 ·intro i;cases i with
  | zero=>trivial
  | succ i=>exact h.res i
 ·intro i;cases i with
  | zero=>intro b hb;simp [nth,Res.fp] at hb
  | succ i=>exact h.lt i
 ·intro i;cases i with
  | zero=>intro b hb;simp [nth,Res.fp] at hb
  | succ i=>exact h.own i
 ·intro i;cases i with
  | zero=>intro b hb;simp [nth,Res.fp] at hb
  | succ i=>exact h.free i
 ·intro i j hij b
  cases i with
  | zero=>intro hb;simp [nth,Res.fp] at hb
  | succ i=>cases j with
   | zero=>intro _ hb;simp [nth,Res.fp] at hb
   | succ j=>exact h.dis i j (fun e=>hij (by rw [e])) b
theorem Good.new {C:Ctx} {rs:List Res} {φ:Fro} {w w':World} (h:Good C rs φ w) {r:Res} (k:Step [] w w') (hr:r.ok φ w') (hlt:∀ b∈r.fp,b<w'.heap.size) (hf:∀ b∈r.fp,w.heap.size≤b):Good C (r::rs) φ w':=
 Good.step (rs:=.emp::rs) (i:=0) (r:=.emp) h.cons_emp rfl k hr hlt (fun b hb=>.inr (hf b hb))
theorem Good.grow {C:Ctx} {rs:List Res} {φ:Fro} {w w':World} (h:Good C rs φ w) (k:Step [] w w'):Good C rs φ w':=by
 have:=Good.step (i:=rs.length) (r:=.emp) (r':=.emp) h (nth_ge (Nat.le_refl _)) k trivial (fun b hb=>by simp [Res.fp] at hb) (fun b hb=>by simp [Res.fp] at hb)
 have hn:∀ j,nth (setr rs rs.length .emp) j=nth rs j:=fun j=>nth_setr_out (Nat.le_refl _)
 exact ⟨this.os,this.tape,this.output,this.size,this.blk,this.le,this.ext,this.fro,fun i=>by rw [← hn];exact this.res i,fun i=>by rw [← hn];exact this.lt i,fun i=>by rw [← hn];exact this.own i,
  fun i=>by rw [← hn];exact this.free i,fun i j=>by rw [← hn,← hn];exact this.dis i j⟩
end Go.Gp
end
section
set_option linter.unusedVariables false
set_option linter.unusedSimpArgs false
set_option linter.unusedSectionVars false
namespace Go.Gp
structure Sit where
 P:Program
 C:Ctx
 n:Nat
structure Agree (n:Nat) (L:Nat→TA) (φ:Fro) (a:Act):Prop where
 defers:a.defers=[]
 size:a.tmps.size=n
 tmp:∀ t,(L t).p φ (a.tmps.getD t undef)
theorem Agree.mono {n:Nat} {L:Nat→TA} {φ ψ:Fro} {a:Act} (h:Agree n L φ a) (k:φ.le ψ):Agree n L ψ a:=⟨h.defers,h.size,fun t=>TA.mono k (h.tmp t)⟩
inductive All2 (R:TA→Value→Prop):List TA→List Value→Prop
 | nil:All2 R [] []
 | cons {t:TA} {v:Value} {tas:List TA} {vs:List Value} (h:R t v) (r:All2 R tas vs):All2 R (t::tas) (v::vs)
def upd (L:Nat→TA) (d:Nat) (x:TA):Nat→TA:=fun t=>bif Nat.beq t d then x else L t
def mkL:List (Nat×TA)→Nat→TA
 | [],_=>.any
 | (d,x)::l,t=>bif Nat.beq t d then x else mkL l t
theorem Agree.put {n:Nat} {L:Nat→TA} {φ ψ:Fro} {a:Act} (h:Agree n L φ a) (k:φ.le ψ) {d:Nat} (hd:d<n) {x:TA} {v:Value} (hv:x.p ψ v):Agree n (upd L d x) ψ (a.put (some d) v):=by
 refine ⟨h.defers,by simp [Act.put,h.size],fun t=>?_⟩
 unfold upd
 by_cases e:t=d
 ·subst e
  have:Nat.beq t t=true:=by simp
  rw [this]
  simp only [cond_true,Act.put]
  have:(a.tmps.setIfInBounds t v).getD t undef=v:=by simp [Array.getD_eq_getD_getElem?,h.size,hd]
  rw [this]
  exact hv
 ·have:Nat.beq t d=false:=by
   cases h:Nat.beq t d with
   | false=>rfl
   | true=>exact absurd (Nat.eq_of_beq_eq_true h) e
  rw [this]
  simp only [cond_false,Act.put]
  have:(a.tmps.setIfInBounds d v).getD t undef=a.tmps.getD t undef:=by simp [Array.getD_eq_getD_getElem?,Array.getElem?_setIfInBounds,Ne.symm e]
  rw [this]
  exact TA.mono k (h.tmp t)
theorem Nat.blt_lt {a b:Nat} (h:Nat.blt a b=true):a<b:=by
 unfold Nat.blt at h
 exact Nat.le_of_ble_eq_true h
def At (S:Sit) (rs:List Res) (L:Nat→TA) (G:Act→World→Prop):Prop:=∀ φ a w,Good S.C rs φ w→Agree S.n L φ a→G a w
def Reach (S:Sit) (J:List Res→(Nat→TA)→Prop) (a:Act) (w:World):Prop:=∃ rs L φ,J rs L∧Good S.C rs φ w∧Agree S.n L φ a
section
variable {S : Sit} {rs : List Res} {L : Nat → TA} {Q : Exit → Act → World → Prop}
theorem At.of_reach {J:List Res→(Nat→TA)→Prop} {G:Act→World→Prop} (h:∀ rs L,J rs L→At S rs L G) {a:Act} {w:World} (hr:Reach S J a w):G a w:=by
 obtain ⟨rs,L,φ,hj,hg,ha⟩:=hr
 exact h rs L hj φ a w hg ha
theorem At.seq {x y:Code} (h:At S rs L (x.wp S.P (Exit.then (fun a w=>y.wp S.P Q a w) Q))):At S rs L ((Code.seq x y).wp S.P Q):=fun φ a w hg ha=>wp_seq (h φ a w hg ha)
theorem At.cut {x y:Code} (J:List Res→(Nat→TA)→Prop) (h:At S rs L (x.wp S.P (Exit.then (Reach S J) Q))) (k:∀ rs L,J rs L→At S rs L (y.wp S.P Q)):At S rs L ((Code.seq x y).wp S.P Q):=
 fun φ a w hg ha=>wp_seq (Code.wp_mono (fun e a w q=>by
  cases e<;>first
   | exact q
   | exact At.of_reach k q) (h φ a w hg ha))
theorem At.skip (h:At S rs L (Q .normal)):At S rs L (Code.skip.wp S.P Q):=fun φ a w hg ha=>wp_skip (h φ a w hg ha)
theorem At.exit {id:Nat} (h:At S rs L (Q (.exit id))):At S rs L ((Code.exit id).wp S.P Q):=fun φ a w hg ha=>wp_exit (h φ a w hg ha)
theorem At.ret (h:At S rs L (Q .ret)):At S rs L (Code.ret.wp S.P Q):=fun φ a w hg ha=>wp_ret (h φ a w hg ha)
theorem At.block {id:Nat} {c:Code} (h:At S rs L (c.wp S.P (Exit.inBlock id Q))):At S rs L ((Code.block id c).wp S.P Q):=fun φ a w hg ha=>wp_block (h φ a w hg ha)
theorem At.vl {K:Act→World→Prop} (h:At S rs L K):At S rs L (Exit.then K Q .normal):=h
theorem At.x {K:Act→World→Prop} {id:Nat} (h:At S rs L (Q (.exit id))):At S rs L (Exit.then K Q (.exit id)):=h
theorem At.vm {K:Act→World→Prop} (h:At S rs L (Q .ret)):At S rs L (Exit.then K Q .ret):=h
theorem At.n {id:Nat} (h:At S rs L (Q .normal)):At S rs L (Exit.inBlock id Q .normal):=h
theorem At.q {id:Nat} (h:At S rs L (Q .ret)):At S rs L (Exit.inBlock id Q .ret):=h
theorem At.h {id:Nat} (h:At S rs L (Q .normal)):At S rs L (Exit.inBlock id Q (.exit id)):=fun φ a w hg ha=>by
 simp only [Exit.inBlock,if_true]
 exact h φ a w hg ha
theorem At.block_there {id id':Nat} (hid:Nat.beq id' id=false) (h:At S rs L (Q (.exit id'))):At S rs L (Exit.inBlock id Q (.exit id')):=fun φ a w hg ha=>by
 have:id'≠id:=fun e=>by subst e;simp at hid
 simp only [Exit.inBlock,if_neg this]
 exact h φ a w hg ha
theorem At.loop {body:Code} (I:Nat→List Res→(Nat→TA)→Prop) (hz:∀ rs L,¬ I 0 rs L) (step:∀ m rs L,I (m+1) rs L→At S rs L (body.wp S.P (Exit.then (Reach S (I m)) Q))) {m:Nat} (h:I m rs L) :
  At S rs L ((Code.loop body).wp S.P Q):=by
 have key:∀ m a w,Reach S (I m) a w→Code.rounds S.P body Q m a w:=by
  intro m
  induction m with
  | zero=>
   rintro a w ⟨rs,L,φ,hj,_,_⟩
   exact absurd hj (hz rs L)
  | succ m ih=>
   rintro a w ⟨rs,L,φ,hj,hg,ha⟩
   rw [rounds_succ]
   refine Code.wp_mono (fun e a w q=>?_) (step m rs L hj φ a w hg ha)
   cases e<;>first
    | exact q
    | exact ih _ _ q
 exact fun φ a w hg ha=>wp_loop_rounds m (key m a w ⟨rs,L,φ,h,hg,ha⟩)
def pick (rs:List Res) (is:List Nat):List Res:=is.map (nth rs)
theorem nth_map (rs:List Res):∀ (is:List Nat) (i:Nat),nth (is.map (nth rs)) i=match is[i]? with | some k=>nth rs k | none=>.emp
 | [],i=>by simp [nth]
 | k::is,0=>rfl
 | k::is,i+1=>by simpa [nth] using nth_map rs is i
def distinct':List Nat→Bool
 | []=>true
 | k::l=>!(l.any fun j=>Nat.beq j k)&&distinct' l
theorem distinct_inj:∀ {is:List Nat},distinct' is=true→∀ (i j k:Nat),is[i]?=some k→is[j]?=some k→i=j
 | [],_,i,j,k,h1,_=>by simp at h1
 | x::is,h,i,j,k,h1,h2=>by
  simp only [distinct',Bool.and_eq_true,Bool.not_eq_true',List.any_eq_false] at h
  have hx:∀ i:Nat,is[i]?≠some x:=fun i hi=>by
   have:=h.1 x (List.mem_of_getElem? hi)
   simp at this
  cases i with
  | zero=>
   cases j with
   | zero=>rfl
   | succ j=>
    have h1':x=k:=by simpa using h1
    subst h1'
    exact absurd (by simpa using h2) (hx j)
  | succ i=>
   cases j with
   | zero=>
    have h2':x=k:=by simpa using h2
    subst h2'
    exact absurd (by simpa using h1) (hx i)
   | succ j=>rw [distinct_inj h.2 i j k (by simpa using h1) (by simpa using h2)]
theorem Good.picked {C:Ctx} {φ:Fro} {w:World} (h:Good C rs φ w) (is:List Nat) (hd:distinct' is=true):Good C (pick rs is) φ w:=by
 have hn:∀ i,nth (pick rs is) i=match is[i]? with | some k=>nth rs k | none=>.emp:=nth_map rs is
 refine ⟨h.os,h.tape,h.output,h.size,h.blk,h.le,h.ext,h.fro,?_,?_,?_,?_,?_⟩
 ·intro i;rw [hn];split
  ·exact h.res _
  ·trivial
 ·intro i b;rw [hn];split
  ·exact h.lt _ b
  ·intro hb;simp [Res.fp] at hb
 ·intro i b;rw [hn];split
  ·exact h.own _ b
  ·intro hb;simp [Res.fp] at hb
 ·intro i b;rw [hn];split
  ·exact h.free _ b
  ·intro hb;simp [Res.fp] at hb
 ·intro i j hij b
  rw [hn,hn]
  cases e1:is[i]? with
  | none=>intro hb;simp [Res.fp] at hb
  | some k=>
   cases e2:is[j]? with
   | none=>intro _ hb;simp [Res.fp] at hb
   | some l=>
    refine h.dis k l (fun e=>?_) b
    subst e
    exact hij (distinct_inj hd i j k e1 e2)
def LeL (l:List (Nat×TA)) (L:Nat→TA):Prop:=match l with
 | []=>True
 | (t,x)::l=>L t=x∧LeL l L
theorem LeL.agree {n:Nat} {φ:Fro} {a:Act}:∀ {l:List (Nat×TA)},LeL l L→Agree n L φ a→Agree n (mkL l) φ a
 | [],_,h=>⟨h.defers,h.size,fun _=>trivial⟩
 | (d,x)::l,hl,h=>by
  have h2:=LeL.agree hl.2 h
  refine ⟨h.defers,h.size,fun t=>?_⟩
  unfold mkL
  cases e:Nat.beq t d with
  | false=>simp only [cond_false];exact h2.tmp t
  | true=>
   simp only [cond_true]
   have:t=d:=by simpa using e
   subst this
   rw [← hl.1]
   exact h.tmp t
theorem At.w (is:List Nat) (hd:distinct' is=true) (l:List (Nat×TA)) (hl:LeL l L) {G:Act→World→Prop} (h:At S (pick rs is) (mkL l) G):At S rs L G:=
 fun φ a w hg ha=>h φ a w (hg.picked is hd) (hl.agree ha)
theorem At.r {J:List Res→(Nat→TA)→Prop} (hj:J rs L):At S rs L (Reach S J):=fun φ a w hg ha=>⟨rs,L,φ,hj,hg,ha⟩
end
def Opd (S:Sit) (L:Nat→TA) (o:Operand) (x:TA):Prop:=∀ φ a,Agree S.n L φ a→x.p φ (a.eval o)
section
variable {S : Sit} {L : Nat → TA}
theorem ja {t:Nat} {x:TA} (h:L t=x):Opd S L (.tmp t) x:=fun φ a ha=>by rw [← h];exact ha.tmp t
theorem ji (k:IntKind) (n:Int):Opd S L (.const (.int k n)) (.tv (kInt k) n):=fun φ a _=>tv_int.2 rfl
theorem jl (b:Bool):Opd S L (.const (.bool b)) (.tv kBool b):=fun φ a _=>tv_bool.2 rfl
theorem vk (s:ByteArray):Opd S L (.const (.string s)) (.tv kStr s):=fun φ a _=>tv_str.2 rfl
theorem opd_eq (v:Value):Opd S L (.const v) (.eq v):=fun φ a _=>rfl
end
section
variable {S : Sit} {rs : List Res} {L : Nat → TA} {Q : Exit → Act → World → Prop} {ops : Array Oper} {o : Oper} {rest : List Oper}
theorem At.region {id:Nat} {l:List Oper} (h:At S rs L (wpList S.P l.toArray Q l)):At S rs L ((Code.region id l.toArray false).wp S.P Q):=fun φ a w hg ha=>wp_region_lit (h φ a w hg ha)
theorem At.done (h:At S rs L (Q .normal)):At S rs L (wpList S.P ops Q []):=h
theorem At.op (hg:o.guard=none) (h:At S rs L (fun a w=>o.wp S.P a w (wpList S.P ops Q rest) Q)):At S rs L (wpList S.P ops Q (o::rest)):=fun φ a w hgd ha=>by
 unfold wpList
 rw [if_pos (by simp [Region.wanted,hg])]
 exact .inl (h φ a w hgd ha)
theorem At.val (hg:o.guard=none) {d:Nat} (hd:o.dst=some d) (hn:Nat.blt d S.n=true) {x:TA} {rs':List Res}
  (h:∀ φ a w,Good S.C rs φ w→Agree S.n L φ a→∃ v w' φ',(execOp a.eval o).run S.P w=.ok (.value v) w'∧Good S.C rs' φ' w'∧φ.le φ'∧x.p φ' v)
  (k:At S rs' (upd L d x) (wpList S.P ops Q rest)):At S rs L (wpList S.P ops Q (o::rest)):=by
 refine At.op hg fun φ a w hgd ha=>?_
 obtain ⟨v,w',φ',hr,h1,h2,h3⟩:=h φ a w hgd ha
 show o.upon S.P a _ Q _
 rw [hr]
 show wpList S.P ops Q rest (a.put o.dst v) w'
 rw [hd]
 exact k φ' _ w' h1 (ha.put h2 (Nat.blt_lt hn) h3)
theorem At.pure (hg:o.guard=none) {d:Nat} (hd:o.dst=some d) (hn:Nat.blt d S.n=true) {x:TA}
  (h:∀ φ a w,Good S.C rs φ w→Agree S.n L φ a→∃ v,(execOp a.eval o).run S.P w=.ok (.value v) w∧x.p φ v)
  (k:At S rs (upd L d x) (wpList S.P ops Q rest)):At S rs L (wpList S.P ops Q (o::rest)):=
 At.val hg hd hn (fun φ a w hgd ha=>let ⟨v,h1,h2⟩:=h φ a w hgd ha;⟨v,w,φ,h1,hgd,.refl _,h2⟩) k
theorem At.cond {c:Operand} {x y:Code} {b:Bool} (hc:Opd S L c (.tv kBool b)) (ht:b=true→At S rs L (x.wp S.P Q)) (hf:b=false→At S rs L (y.wp S.P Q)):At S rs L ((Code.cond c x y).wp S.P Q):=
 fun φ a w hg ha=>wp_cond_split (tv_bool.1 (hc φ a ha)) (fun e=>ht e φ a w hg ha) (fun e=>hf e φ a w hg ha)
end
structure Held (φ:Fro) (rs:List Res) (w w':World):Prop where
 fro:φ.ok w'
 blk:∀ i,∀ b∈(nth rs i).fp,w'.heap[b]?=w.heap[b]?
theorem Good.held {C:Ctx} {rs:List Res} {φ:Fro} {w:World} (h:Good C rs φ w):Held φ rs w w:=⟨h.fro,fun _ _ _=>rfl⟩
section
def Does (S:Sit) (rs:List Res) (L:Nat→TA) (op:Op) (T:TypeId) (x:TA):Prop:=∀ (o:Oper),o.op=op→o.type=T→∀ φ a w,Good S.C rs φ w→Agree S.n L φ a→∃ v,x.p φ v∧∀ w',Held φ rs w w'→(execOp a.eval o).run S.P w'=.ok (.value v) w'
variable {S : Sit} {rs : List Res} {L : Nat → TA} {Q : Exit → Act → World → Prop} {ops : Array Oper} {o : Oper} {rest : List Oper}
theorem At.d (hg:o.guard=none) {d:Nat} (hd:o.dst=some d) (hn:Nat.blt d S.n=true) {x:TA} {op:Op} (ho:o.op=op) (h:Does S rs L op o.type x) (k:At S rs (upd L d x) (wpList S.P ops Q rest)):At S rs L (wpList S.P ops Q (o::rest)):=
 At.pure hg hd hn (fun φ a w hgd ha=>let ⟨v,h1,h2⟩:=h o ho rfl φ a w hgd ha;⟨v,h2 w hgd.held,h1⟩) k
theorem jb {y:Operand} {T:TypeId} {x:TA} (hy:Opd S L y x):Does S rs L (.move y) T x:=fun o ho _ φ a w _ ha=>⟨_,hy φ a ha,fun w' _=>by simp [execOp,ho]⟩
theorem jd {y:Operand} {T:TypeId} {x:TA} (hy:Opd S L y x):Does S rs L (.assign y) T x:=fun o ho _ φ a w _ ha=>⟨_,hy φ a ha,fun w' _=>by simp [execOp,ho]⟩
end
def blocksOf:List Res→List Nat
 | []=>[]
 | r::l=>r.fp++blocksOf l
theorem mem_blocksOf:∀ {rs:List Res} {b:Nat},b∈blocksOf rs↔∃ i,b∈(nth rs i).fp
 | [],b=>by simp [blocksOf,nth,Res.fp]
 | r::l,b=>by
  rw [blocksOf,List.mem_append,mem_blocksOf]
  constructor
  ·rintro (h | ⟨i,h⟩)
   ·exact ⟨0,h⟩
   ·exact ⟨i+1,h⟩
  ·rintro ⟨i,h⟩
   cases i with
   | zero=>exact .inl h
   | succ i=>exact .inr ⟨i,h⟩
def EffOk (S:Sit) (rs:List Res) (L:Nat→TA) (o:Oper) (Q:Exit→Act→World→Prop) (tp:List Nat) (Post:List Res→(Nat→TA)→Prop):Prop:=
 ∀ (φ:Fro) (a:Act) (w:World) (K:Act→World→Prop),Good S.C rs φ w→Agree S.n L φ a →
  (∀ rs' L' φ' v w',Post rs' L'→φ.le φ'→Good S.C rs' φ' w'→Agree S.n L' φ' (a.put o.dst v)→Step (blocksOf (tp.map (nth rs))) w w'→K (a.put o.dst v) w')→o.wp S.P a w K Q
theorem At.f {S:Sit} {rs:List Res} {L:Nat→TA} {Q:Exit→Act→World→Prop} {ops:Array Oper} {o:Oper} {rest:List Oper} (hg:o.guard=none) {tp:List Nat} {Post:List Res→(Nat→TA)→Prop} (h:EffOk S rs L o Q tp Post)
  (k:∀ rs' L',Post rs' L'→At S rs' L' (wpList S.P ops Q rest)):At S rs L (wpList S.P ops Q (o::rest)):=
 At.op hg fun φ a w hgd ha=>h φ a w _ hgd ha fun rs' L' φ' v w' hp _ h1 h2 _=>k rs' L' hp φ' _ w' h1 h2
theorem Agree.putE {n:Nat} {L:Nat→TA} {φ ψ:Fro} {a:Act} (h:Agree n L φ a) (k:φ.le ψ) {dd:Option Nat} {d:Nat} (hdd:dd=some d) (hd:Nat.blt d n=true) {x:TA} {v:Value} (hv:x.p ψ v):Agree n (upd L d x) ψ (a.put dd v):=by
 rw [hdd];exact h.put k (Nat.blt_lt hd) hv
theorem Agree.putN {n:Nat} {L:Nat→TA} {φ ψ:Fro} {a:Act} (h:Agree n L φ a) (k:φ.le ψ) {dd:Option Nat} (hdd:dd=none) {v:Value}:Agree n L ψ (a.put dd v):=by
 rw [hdd];exact h.mono k
def Con (P:Program) (g:FuncId) (tas:List TA) (rs:List Res) (post:TA→List Res→Prop):Prop:=
 ∀ (φ:Fro) (w:World) (vs:List Value),Good ⟨w,blocksOf rs,φ⟩ rs φ w→All2 (fun (t:TA) v=>t.p φ v) tas vs →
  Calls P g vs.toArray w fun e w'=>∃ v φ' ta rs',e=.returned v∧ta.p φ' v∧post ta rs'∧Good ⟨w,blocksOf rs,φ⟩ rs' φ' w'
def RetQ (C:Ctx) (post:TA→List Res→Prop) (e:Ending) (w':World):Prop:=∃ v φ' ta rs',e=.returned v∧ta.p φ' v∧post ta rs'∧Good C rs' φ' w'
theorem forall2_get {R:TA→Value→Prop}:∀ {tas:List TA} {vs:List Value},All2 R tas vs→∀ t,R (tas.getD t .any) (vs.getD t undef)∨(tas.getD t .any=.any)
 | _,_,.nil,t=>.inr (by simp)
 | _,_,.cons h r,0=>.inl (by simpa using h)
 | _,_,.cons h r,t+1=>by simpa using forall2_get r t
theorem forall2_length {R:TA→Value→Prop}:∀ {tas:List TA} {vs:List Value},All2 R tas vs→tas.length=vs.length
 | _,_,.nil=>rfl
 | _,_,.cons _ r=>by simp [forall2_length r]
theorem Con.intro {P:Program} {g:FuncId} {tas:List TA} {rs:List Res} {post:TA→List Res→Prop} {fn:Func} {c:Code} (hf:P.funcs[g]?=some fn) (hb:fn.body=some c) (hn:Nat.ble tas.length fn.ntmps=true)
  (h:∀ C:Ctx,At ⟨P,C,fn.ntmps⟩ rs (fun t=>tas.getD t .any) (c.wp P (bodyPost P fn (RetQ C post)))):Con P g tas rs post:=by
 intro φ w vs hg hvs
 refine calls_of_wp hf hb (h ⟨w,blocksOf rs,φ⟩ φ _ w hg ⟨rfl,?_,fun t=>?_⟩)
 ·have h1:=forall2_length hvs
  have h2:tas.length≤fn.ntmps:=by simpa using hn
  simp
  omega
 ·have h1:=forall2_get (R:=fun (t:TA) v=>t.p φ v) hvs t
  rcases h1 with h1 | h1
  ·by_cases ht:t<vs.length
   ·have:(vs.toArray++Array.replicate (fn.ntmps-vs.toArray.size) undef).getD t undef=vs.getD t undef:=by
     simp [Array.getD_eq_getD_getElem?,List.getD_eq_getElem?_getD,Array.getElem?_append,ht]
    rw [this]
    exact h1
   ·have:tas.getD t .any=.any:=by
     have:=forall2_length hvs
     simp [List.getD_eq_getElem?_getD,List.getElem?_eq_none (show tas.length≤t by omega)]
    rw [this]
    trivial
  ·rw [h1]
   trivial
theorem Con.i {P:Program} {g:FuncId} {tas:List TA} {rs:List Res} {post:TA→List Res→Prop} {fn:Func} {c:Code} {n:Nat} (hf:P.funcs[g]?=some fn) (hN:fn.ntmps=n) (hb:fn.body=some c) (hn:Nat.ble tas.length n=true)
  (h:∀ C:Ctx,At ⟨P,C,n⟩ rs (fun t=>tas.getD t .any) (c.wp P (bodyPost P fn (RetQ C post)))):Con P g tas rs post:=by
 subst hN
 exact Con.intro hf hb hn h
theorem Con.mono {P:Program} {g:FuncId} {tas:List TA} {rs:List Res} {post post':TA→List Res→Prop} (h:Con P g tas rs post) (k:∀ ta rs',post ta rs'→post' ta rs'):Con P g tas rs post':=
 fun φ w vs hg hv=>(h φ w vs hg hv).mono fun e w' ⟨v,φ',ta,rs',h1,h2,h3,h4⟩=>⟨v,φ',ta,rs',h1,h2,k _ _ h3,h4⟩
def wipe:List Res→List Nat→List Res
 | rs,[]=>rs
 | rs,i::is=>wipe (setr rs i .emp) is
theorem nth_wipe:∀ (is:List Nat) (rs:List Res) (i:Nat),nth (wipe rs is) i=if i∈is then .emp else nth rs i
 | [],rs,i=>by simp [wipe]
 | k::is,rs,i=>by
  rw [wipe,nth_wipe is]
  by_cases h:i∈is
  ·simp [h]
  ·rw [if_neg h]
   by_cases e:i=k
   ·subst e
    rw [if_pos (by simp)]
    by_cases hl:i<rs.length
    ·exact nth_setr_same hl
    ·rw [nth_setr_out (by omega)];exact nth_ge (by omega)
   ·rw [if_neg (by simp [e,h]),nth_setr_other (Ne.symm e)]
theorem nth_append:∀ (xs ys:List Res) (i:Nat),nth (xs++ys) i=if i<xs.length then nth xs i else nth ys (i-xs.length)
 | [],ys,i=>by simp
 | x::xs,ys,0=>by simp [nth]
 | x::xs,ys,i+1=>by
  rw [List.cons_append,nth,nth_append xs ys i]
  simp [nth]
theorem Good.enter {C:Ctx} {rs:List Res} {φ:Fro} {w:World} (h:Good C rs φ w) (is:List Nat) (hd:distinct' is=true):Good ⟨w,blocksOf (pick rs is),φ⟩ (pick rs is) φ w:=by
 have h2:=h.picked is hd
 exact ⟨rfl,.refl _,rfl,Nat.le_refl _,fun _ _ _=>rfl,.refl _,fun b hb=>.inl hb,h2.fro,h2.res,h2.lt,fun i b hb=>.inr (mem_blocksOf.2 ⟨i,hb⟩),h2.free,h2.dis⟩
theorem Good.leave {C:Ctx} {rs rs':List Res} {φ φ':Fro} {w w':World} (h:Good C rs φ w) (is:List Nat) (hd:distinct' is=true) (k:Good ⟨w,blocksOf (pick rs is),φ⟩ rs' φ' w'):Good C (rs'++wipe rs is) φ' w':=by
 have hn:∀ i,nth (pick rs is) i=match is[i]? with | some k=>nth rs k | none=>.emp:=nth_map rs is
 have hmem:∀ b,b∈blocksOf (pick rs is)→∃ i,i∈is∧b∈(nth rs i).fp:=by
  intro b hb
  obtain ⟨i,hi⟩:=mem_blocksOf.1 hb
  rw [hn] at hi
  split at hi
  ·rename_i k e
   exact ⟨k,List.mem_of_getElem? e,hi⟩
  ·simp [Res.fp] at hi
 have hw:∀ i,nth (wipe rs is) i=if i∈is then .emp else nth rs i:=nth_wipe is rs
 have hrest:∀ i b,b∈(nth (wipe rs is) i).fp→i∉is∧b∈(nth rs i).fp∧b∉blocksOf (pick rs is):=by
  intro i b hb
  rw [hw] at hb
  split at hb
  ·simp [Res.fp] at hb
  ·rename_i hi
   refine ⟨hi,hb,fun hm=>?_⟩
   obtain ⟨j,hj,hbj⟩:=hmem b hm
   exact h.dis i j (fun e=>hi (e ▸ hj)) b hb hbj
 refine ⟨k.os.trans h.os,k.tape.trans h.tape,k.output.trans h.output,Nat.le_trans h.size k.size,?_,h.le.trans k.le,?_,k.fro,?_,?_,?_,?_,?_⟩
 ·intro b hb hS
  have h1:w'.heap[b]?=w.heap[b]?:=k.blk b (Nat.lt_of_lt_of_le hb h.size) (fun hm=>by
   obtain ⟨i,_,hbi⟩:=hmem b hm
   rcases h.own i b hbi with h2 | h2
   ·omega
   ·exact hS h2)
  rw [h1]
  exact h.blk b hb hS
 ·intro b hb
  rcases k.ext b hb with h1 | h1 | h1
  ·exact h.ext b h1
  ·exact .inr (.inl (Nat.le_trans h.size h1))
  ·obtain ⟨i,_,hbi⟩:=hmem b h1
   exact .inr (h.own i b hbi)
 ·intro i
  rw [nth_append]
  split
  ·exact k.res i
  ·refine Res.mono k.le (Res.stable (fun b hb=>?_) (r:=nth (wipe rs is) (i-rs'.length)) (w:=w) ?_)
   ·have:=hrest _ b hb
    exact k.blk b (h.lt _ b this.2.1) this.2.2
   ·rw [hw]
    split
    ·trivial
    ·exact h.res _
 ·intro i b
  rw [nth_append]
  split
  ·exact k.lt i b
  ·intro hb
   exact Nat.lt_of_lt_of_le (h.lt _ b (hrest _ b hb).2.1) k.size
 ·intro i b
  rw [nth_append]
  split
  ·intro hb
   rcases k.own i b hb with h1 | h1
   ·exact .inl (Nat.le_trans h.size h1)
   ·obtain ⟨j,_,hbj⟩:=hmem b h1
    exact h.own j b hbj
  ·intro hb
   exact h.own _ b (hrest _ b hb).2.1
 ·intro i b
  rw [nth_append]
  split
  ·exact k.free i b
  ·intro hb hh
   have:=hrest _ b hb
   rcases k.ext b hh with h1 | h1 | h1
   ·exact h.free _ b this.2.1 h1
   ·have h2:=h.lt _ b this.2.1
    exact absurd h1 (by show ¬ w.heap.size≤b;omega)
   ·exact this.2.2 h1
 ·have hx:∀ i j b,b∈(nth rs' i).fp→b∈(nth (wipe rs is) j).fp→False:=by
   intro i j b h1 h2
   have:=hrest _ b h2
   rcases k.own i b h1 with h3 | h3
   ·have h4:=h.lt _ b this.2.1
    exact absurd h3 (by show ¬ w.heap.size≤b;omega)
   ·exact this.2.2 h3
  intro i j hij b
  rw [nth_append,nth_append]
  split
  ·split
   ·exact k.dis i j hij b
   ·exact fun h1 h2=>hx _ _ b h1 h2
  ·split
   ·exact fun h1 h2=>hx _ _ b h2 h1
   ·intro h1 h2
    have g1:=hrest _ b h1
    have g2:=hrest _ b h2
    refine h.dis _ _ ?_ b g1.2.1 g2.2.1
    omega
section
variable {S : Sit} {rs : List Res} {L : Nat → TA} {Q : Exit → Act → World → Prop} {ops : Array Oper} {o : Oper} {rest : List Oper}
def Opds (S:Sit) (L:Nat→TA) (os:List Operand) (tas:List TA):Prop:=∀ φ a,Agree S.n L φ a→All2 (fun (t:TA) v=>t.p φ v) tas (os.map a.eval)
theorem jg:Opds S L [] []:=fun _ _ _=>.nil
theorem jf {x:Operand} {t:TA} {os:List Operand} {tas:List TA} (h:Opd S L x t) (k:Opds S L os tas):Opds S L (x::os) (t::tas):=fun φ a ha=>.cons (h φ a ha) (k φ a ha)
def Enters (P:Program) (g:FuncId):Prop:=∀ (args:Array Value) (w:World),(callFunc g args).run P w=.ok (.enter g args) w
end
section
variable {S : Sit} {rs : List Res} {L : Nat → TA} {fn : Func} {post : TA → List Res → Prop}
end
end Go.Gp
end
section
set_option linter.unusedVariables false
set_option linter.unusedSimpArgs false
set_option linter.unusedSectionVars false
namespace Go.Gp
structure Ty {α:Type} (P:Program) (T:TypeId) (K:Kind α):Prop where
 agg:∀ w,(isAgg T).run P w=.ok K.agg w
 size:∀ w,(Go.sizeOf T).run P w=.ok K.sz w
structure TyZ {α:Type} (P:Program) (T:TypeId) (K:Kind α) (z:α):Prop where
 zero:∃ zv,(∀ w,(zeroValue T).run P w=.ok zv w)∧∀ φ,(TA.tv K z).p φ zv
structure Sub {α β:Type} (K:Kind α) (off:Nat) (M:Kind β) (get:α→β) (set:α→β→α):Prop where
 fits:∀ {φ:Fro} {x:α} {cs:List Value},K.rep φ x cs→∃ p c d,cs=p++c++d∧p.length=off∧M.rep φ (get x) c∧∀ y c',M.rep φ y c'→K.rep φ (set x y) (p++c'++d)
theorem Sub.self {α:Type} (K:Kind α):Sub K 0 K (fun x=>x) (fun _ y=>y):=⟨fun {φ x cs} h=>⟨[],cs,[],by simp,rfl,h,fun y c' h'=>by simpa using h'⟩⟩
section
variable {α β γ : Type}
theorem Sub.fst {K:Kind α} {L:Kind β} {M:Kind γ} {off:Nat} {get:α→γ} {set:α→γ→α} (h:Sub K off M get set):Sub (kPair K L) off M (fun x=>get x.1) (fun x y=>(set x.1 y,x.2)):=by
 constructor
 rintro φ ⟨x1,x2⟩ cs ⟨c1,c2,rfl,h1,h2⟩
 obtain ⟨p,c,d,rfl,hp,hc,hs⟩:=h.fits h1
 exact ⟨p,c,d++c2,by simp,hp,hc,fun y c' hy=>⟨p++c'++d,c2,by simp,hs y c' hy,h2⟩⟩
theorem Sub.snd {K:Kind α} {L:Kind β} {M:Kind γ} {off:Nat} {get:β→γ} {set:β→γ→β} (h:Sub L off M get set):Sub (kPair K L) (K.sz+off) M (fun x=>get x.2) (fun x y=>(x.1,set x.2 y)):=by
 constructor
 rintro φ ⟨x1,x2⟩ cs ⟨c1,c2,rfl,h1,h2⟩
 obtain ⟨p,c,d,rfl,hp,hc,hs⟩:=h.fits h2
 exact ⟨c1++p,c,d,by simp,by rw [List.length_append,K.len h1,hp],hc,fun y c' hy=>⟨c1,p++c'++d,by simp,h1,hs y c' hy⟩⟩
theorem Sub.iso {K:Kind β} {f:α→β} {hK:K.agg=true} {M:Kind γ} {off:Nat} {get:β→γ} {set:β→γ→β} (h:Sub K off M get set) {get':α→γ} {set':α→γ→α} (hg:∀ x,get' x=get (f x)) (hs:∀ x y,f (set' x y)=set (f x) y) :
  Sub (kIso K f hK) off M get' set':=by
 constructor
 intro φ x cs hr
 obtain ⟨p,c,d,rfl,hp,hc,hh⟩:=h.fits (show K.rep φ (f x) cs from hr)
 exact ⟨p,c,d,rfl,hp,by rw [hg];exact hc,fun y c' hy=>by show K.rep φ (f (set' x y)) _;rw [hs];exact hh y c' hy⟩
theorem Sub.wrap {K:Kind α} {M:Kind γ} {off:Nat} {get:α→γ} {set:α→γ→α} (h:Sub K off M get set):Sub (kWrap K) off M get set:=⟨fun {φ x cs} hr=>h.fits (show K.rep φ x cs from hr)⟩
theorem Sub.trans {K:Kind α} {L:Kind β} {M:Kind γ} {o1 o2:Nat} {g1:α→β} {s1:α→β→α} {g2:β→γ} {s2:β→γ→β} (h:Sub K o1 L g1 s1) (k:Sub L o2 M g2 s2):Sub K (o1+o2) M (fun x=>g2 (g1 x)) (fun x y=>s1 x (s2 (g1 x) y)):=by
 constructor
 intro φ x cs hr
 obtain ⟨p,c,d,rfl,hp,hc,hs⟩:=h.fits hr
 obtain ⟨p2,c2,d2,rfl,hp2,hc2,hs2⟩:=k.fits hc
 refine ⟨p++p2,c2,d2++d,by simp,by rw [List.length_append,hp,hp2],hc2,fun y c' hy=>?_⟩
 have:=hs _ _ (hs2 y c' hy)
 simpa using this
end
def FieldAt (P:Program) (T:TypeId) (i k:Nat):Prop:=∀ (a:Addr) (w:World),(Instr.fieldAt T (.pointer (some a)) i).run P w=.ok (.pointer (some (a.add k))) w
theorem run_loadVar {α:Type} {P:Program} {T:TypeId} {M:Kind α} (hT:Ty P T M) {φ:Fro} {x:α} {c:List Value} (hr:M.rep φ x c) {w:World} {a:Addr} (hc:∀ j v,c[j]?=some v→w.cell? (a.add j)=some v) :
  (loadVar T a).run P w=.ok (M.val c) w:=by
 have hl:=M.len hr
 unfold loadVar
 rw [Sem.run_bind,hT.agg w]
 simp only [Result.andThen_ok]
 cases ha:M.agg with
 | true=>
  simp only [if_true,Sem.run_bind,hT.size w,Result.andThen_ok]
  rw [← hl,run_loadCells_list w a c hc]
  simp [Kind.val,ha]
 | false=>
  rw [M.sc ha] at hl
  match c,hl with
  | [u],_=>
   have h0:=hc 0 u rfl
   simp only [Bool.false_eq_true,if_false,run_load]
   rw [show a.add 0=a from by simp [Addr.add]] at h0
   rw [h0]
   simp [Kind.val,ha]
theorem addr_add_add (a:Addr) (i j:Nat):(a.add i).add j=a.add (i+j):=by
 unfold Addr.add
 by_cases h1:i=0<;>by_cases h2:j=0<;>simp [h1,h2,Nat.add_assoc]
theorem addr_lit (b o n:Nat):Addr.add ⟨b,o,none⟩ n=⟨b,o+n,none⟩:=by
 unfold Addr.add
 split
 ·subst_vars;rfl
 ·rfl
theorem cell_of_block {w:World} {g:Nat} {cs:List Value} {T:TypeId} {f:Nat×Nat} (h:w.heap[g]?=some (.cells cs.toArray T f)) (i:Nat):w.cell? ⟨g,i,none⟩=cs[i]?:=by
 simp [World.cell?,h]
theorem run_storeVar {α:Type} {P:Program} {T:TypeId} {M:Kind α} (hT:Ty P T M) {φ:Fro} {y:α} {v:Value} (hv:(TA.tv M y).p φ v) {w:World} {g:Nat} {p c d:List Value} {T0:TypeId} (hg:w.heap[g]?=some (.cells (p++c++d).toArray T0 (0,0))) (hc:c.length=M.sz) :
  ∃ c' w',M.rep φ y c'∧(storeVar T ⟨g,p.length,none⟩ v).run P w=.ok () w'∧w'.heap[g]?=some (.cells (p++c'++d).toArray T0 (0,0))∧Step [g] w w':=by
 obtain ⟨c',hr,rfl⟩:=hv
 have hl:=M.len hr
 have hcells:=M.val_cells hr
 refine ⟨c',w.setRow g (p++c'++d).toArray,hr,?_,setRow_heap w g _ _ T0 _ hg,?_⟩
 ·unfold storeVar
  rw [Sem.run_bind,hT.size w]
  simp only [Result.andThen_ok,hcells,List.size_toArray,hl,ne_eq,not_true_eq_false,if_false]
  have h1:=run_storeCells_at P g p.length T0 c' 0 (p++c++d).toArray w hg (by simp;omega) (fun u hu=>M.one hr u hu)
  rw [h1]
  congr 3
  simp [List.take_append,List.drop_append]
  rw [show c'.length-c.length=0 by omega,List.drop_eq_nil_of_le (show c.length≤c'.length by omega),List.drop_eq_nil_of_le (show p.length≤p.length+c'.length by omega)]
  simp
 ·refine ⟨rfl,⟨rfl,Nat.le_refl _⟩,rfl,by simp [World.setRow],fun i _ hi=>?_⟩
  simp only [World.setRow,Array.getElem?_modify]
  rw [if_neg (fun e=>hi (by simp [e]))]
section
variable {S : Sit} {rs : List Res} {L : Nat → TA} {Q : Exit → Act → World → Prop} {ops : Array Oper} {o : Oper} {rest : List Oper} {α β γ : Type}
theorem step_alloc (w:World) (b:Obj):Step [] w (w.alloc b):=⟨rfl,⟨rfl,Nat.le_refl _⟩,rfl,by simp,fun i hi _=>by first | exact heap_alloc_old w b i hi | exact heap_alloc_old w b hi⟩
theorem jy {d:Nat} (hd:o.dst=some d) (hn:Nat.blt d S.n=true) {T:TypeId} {y:Operand} (ho:o.op=.box T y) {K:Kind α} {x:α} (hy:Opd S L y (.tv K x)) :
  EffOk S rs L o Q [] (fun rs' L'=>∃ g,rs'=.box g T K x::rs∧L'=upd L d (.eq (.pointer (some ⟨g,0,none⟩)))):=by
 intro φ a w KK hgd ha k
 have hv:=tv_cells (hy φ a ha)
 have hrun:(execOp a.eval o).run S.P w=.ok (.value (.pointer (some ⟨w.heap.size,0,none⟩))) (w.alloc (.cells (a.eval y).cells T)):=by
  simp [execOp,ho,Instr.box,newVar,newRow]
 show o.upon S.P a _ Q _
 rw [hrun]
 show KK (a.put o.dst _) _
 refine k _ _ φ _ _ ⟨w.heap.size,rfl,rfl⟩ (.refl _) (hgd.new (r:=.box w.heap.size T K x) (step_alloc _ _) ⟨_,?_,hv.1⟩ ?_ ?_) (ha.putE (.refl _) hd hn rfl) (step_alloc _ _)
 ·rw [heap_alloc_new]
 ·intro b hb;simp [Res.fp] at hb;subst hb;simp
 ·intro b hb;simp [Res.fp] at hb;subst hb;omega
theorem eff_alloc {d:Nat} (hd:o.dst=some d) (hn:Nat.blt d S.n=true) {T:TypeId} (ho:o.op=.alloc T) {K:Kind α} {z:α} (hz:TyZ S.P T K z) :
  EffOk S rs L o Q [] (fun rs' L'=>∃ g,rs'=.box g T K z::rs∧L'=upd L d (.eq (.pointer (some ⟨g,0,none⟩)))):=by
 intro φ a w KK hgd ha k
 obtain ⟨zv,hzr,hzp⟩:=hz.zero
 have hv:=tv_cells (hzp φ)
 have hrun:(execOp a.eval o).run S.P w=.ok (.value (.pointer (some ⟨w.heap.size,0,none⟩))) (w.alloc (.cells zv.cells T)):=by
  simp [execOp,ho,Instr.alloc,newVar,newRow,hzr]
 show o.upon S.P a _ Q _
 rw [hrun]
 show KK (a.put o.dst _) _
 refine k _ _ φ _ _ ⟨w.heap.size,rfl,rfl⟩ (.refl _) (hgd.new (r:=.box w.heap.size T K z) (step_alloc _ _) ⟨_,?_,hv.1⟩ ?_ ?_) (ha.putE (.refl _) hd hn rfl) (step_alloc _ _)
 ·rw [heap_alloc_new]
 ·intro b hb;simp [Res.fp] at hb;subst hb;simp
 ·intro b hb;simp [Res.fp] at hb;subst hb;omega
theorem jc {T T3:TypeId} {y:Operand} {g off:Nat} (hy:Opd S L y (.eq (.pointer (some ⟨g,off,none⟩)))) (i:Nat) {T0:TypeId} {K:Kind α} {x:α} (hi:nth rs i=.box g T0 K x)
  {M:Kind β} {get:α→β} {set:α→β→α} (hs:Sub K off M get set) (hT:Ty S.P T M):Does S rs L (.load T y) T3 (.tv M (get x)):=fun o ho _ φ a w hgd ha=>by
 have h1:=hgd.res i
 rw [hi] at h1
 obtain ⟨cs,hb,hr⟩:=h1
 obtain ⟨p,c,e,rfl,hp,hc,_⟩:=hs.fits hr
 have he:a.eval y=.pointer (some ⟨g,off,none⟩):=hy φ a ha
 refine ⟨M.val c,⟨c,hc,rfl⟩,fun w' hw'=>?_⟩
 have hb':w'.heap[g]?=some (.cells (p++c++e).toArray T0 (0,0)):=by rw [hw'.blk i g (by rw [hi];simp [Res.fp])];exact hb
 have:=run_loadVar (P:=S.P) hT hc (w:=w') (a:=⟨g,off,none⟩) (fun j v hj=>by
  rw [addr_lit,cell_of_block hb',← hp,List.append_assoc,List.getElem?_append_right (by omega)]
  rw [show p.length+j-p.length=j by omega,List.getElem?_append_left (List.getElem?_eq_some_iff.1 hj).1]
  exact hj)
 simp [execOp,ho,Instr.loadAt,Instr.sureAddr,he,this]
theorem vw {T T3:TypeId} {y:Operand} {K:Kind α} {x:α} (hy:Opd S L y (.ptr K x)) (hT:Ty S.P T K):Does S rs L (.load T y) T3 (.tv K x):=fun o ho _ φ a w hgd ha=>by
 obtain ⟨b,cs,he,hr,hf⟩:=hy φ a ha
 refine ⟨K.val cs,⟨cs,hr,rfl⟩,fun w' hw'=>?_⟩
 have:=run_loadVar (P:=S.P) hT hr (w:=w') (a:=b) (fun j v hj=>hw'.fro.cell _ _ (hf j v hj))
 simp [execOp,ho,Instr.loadAt,Instr.sureAddr,he,this]
theorem je {T T3:TypeId} {y:Operand} {i:Nat} {g off:Nat} (hy:Opd S L y (.eq (.pointer (some ⟨g,off,none⟩)))) {m:Nat} (hf:FieldAt S.P T i m):Does S rs L (.fieldAddr T y i) T3 (.eq (.pointer (some ⟨g,off+m,none⟩))):=fun o ho _ φ a w hgd ha=>by
 have he:a.eval y=.pointer (some ⟨g,off,none⟩):=hy φ a ha
 refine ⟨_,rfl,fun w' _=>?_⟩
 have:=hf ⟨g,off,none⟩ w'
 rw [addr_lit] at this
 simp only [execOp,ho,he,Sem.run_bind,this,Result.andThen_ok,Sem.run_pure]
theorem Ji {T T3:TypeId} {y:Operand} {i:Nat} {K:Kind α} {x:α} (hy:Opd S L y (.ptr K x)) {m:Nat} (hf:FieldAt S.P T i m)
  {M:Kind β} {get:α→β} {set:α→β→α} (hs:Sub K m M get set):Does S rs L (.fieldAddr T y i) T3 (.ptr M (get x)):=fun o ho _ φ a w hgd ha=>by
 obtain ⟨b,cs,he,hr,hfr⟩:=hy φ a ha
 obtain ⟨p,c,e,rfl,hp,hc,_⟩:=hs.fits hr
 refine ⟨_,⟨b.add m,c,rfl,hc,fun j v hj=>?_⟩,fun w' _=>by simp only [execOp,ho,he,Sem.run_bind,hf b w',Result.andThen_ok,Sem.run_pure]⟩
 rw [addr_add_add]
 refine hfr (m+j) v ?_
 rw [← hp,List.append_assoc,List.getElem?_append_right (by omega),show p.length+j-p.length=j by omega,List.getElem?_append_left (List.getElem?_eq_some_iff.1 hj).1]
 exact hj
theorem does_field_elem {T T3:TypeId} {y:Operand} {i:Nat} {v:Value} {off:Nat} (hy:Opd S L y (.elem off v)) {m:Nat} (hf:FieldAt S.P T i m):Does S rs L (.fieldAddr T y i) T3 (.elem (off+m) v):=fun o ho _ φ a w hgd ha=>by
 obtain ⟨b,n,c,rfl,he⟩:=hy φ a ha
 refine ⟨.pointer (some (b.add (off+m))),⟨b,n,c,rfl,rfl⟩,fun w' _=>?_⟩
 simp only [execOp,ho,he,Sem.run_bind,hf _ w',Result.andThen_ok,Sem.run_pure,addr_add_add]
theorem jz (hd:o.dst=none) {T:TypeId} {y z:Operand} (ho:o.op=.store T y z) {g off:Nat} (hy:Opd S L y (.eq (.pointer (some ⟨g,off,none⟩)))) (i:Nat) {T0:TypeId} {K:Kind α} {x:α} (hi:nth rs i=.box g T0 K x)
  {M:Kind β} {get:α→β} {set:α→β→α} (hs:Sub K off M get set) (hT:Ty S.P T M) {u:β} (hz:Opd S L z (.tv M u)) :
  EffOk S rs L o Q [i] (fun rs' L'=>rs'=setr rs i (.box g T0 K (set x u))∧L'=L):=by
 intro φ a w KK hgd ha k
 have h1:=hgd.res i
 have h2:=hgd.lt i
 rw [hi] at h1 h2
 obtain ⟨cs,hb,hr⟩:=h1
 obtain ⟨p,c,e,rfl,hp,hc,hset⟩:=hs.fits hr
 have he:a.eval y=.pointer (some ⟨g,off,none⟩):=hy φ a ha
 obtain ⟨c',w',hc',hrun,hw',hst⟩:=run_storeVar (P:=S.P) hT (hz φ a ha) hb (M.len hc)
 rw [hp] at hrun
 have hrun2:(execOp a.eval o).run S.P w=.ok .skip w':=by simp only [execOp,ho,he,Instr.storeAt,Instr.sureAddr,Sem.run_bind,Sem.run_pure,Result.andThen_ok,hrun]
 show o.upon S.P a _ Q _
 rw [hrun2]
 show KK (a.put o.dst undef) w'
 refine k _ _ φ _ _ ⟨rfl,rfl⟩ (.refl _) (hgd.step hi (by simpa [Res.fp] using hst) ⟨_,hw',hset u c' hc'⟩ ?_ ?_) (ha.putN (.refl _) hd) (by simpa [blocksOf,hi,Res.fp] using hst)
 ·intro b hb';exact Nat.lt_of_lt_of_le (h2 b (by simpa [Res.fp] using hb')) hst.size
 ·intro b hb';exact .inl (by simpa [Res.fp] using hb')
end
end Go.Gp
end
section
set_option linter.unusedVariables false
set_option linter.unusedSimpArgs false
set_option linter.unusedSectionVars false
namespace Go.Gp
section
variable {S : Sit} {rs : List Res} {L : Nat → TA} {Q : Exit → Act → World → Prop} {ops : Array Oper} {o : Oper} {rest : List Oper} {α β γ : Type}
def BinOk (P:Program) (op:BinOp) (T:TypeId) (x y:Operand) (s t r:TA):Prop:=∀ φ u v,s.p φ u→t.p φ v→∃ z,r.p φ z∧∀ w,(do eqGuard op T x y u v;binOp op T u v).run P w=.ok z w
theorem jk {op:BinOp} {T T2 T3:TypeId} {x y:Operand} {s t r:TA} (hx:Opd S L x s) (hy:Opd S L y t) (hb:BinOk S.P op T x y s t r):Does S rs L (.binOp op T x y T2) T3 r:=fun o ho _ φ a w hgd ha=>by
 obtain ⟨z,h2,h1⟩:=hb φ _ _ (hx φ a ha) (hy φ a ha)
 refine ⟨z,h2,fun w' _=>?_⟩
 have h1:=h1 w'
 simp only [Sem.run_bind] at h1
 simp only [execOp,ho,Sem.run_bind,h1,Result.andThen_ok,Sem.run_pure]
section
variable {P : Program} {T : TypeId} {x y : Operand} {k : IntKind} {a b : Int}
theorem vf:BinOk P .add T x y (.tv (kInt k) a) (.tv (kInt k) b) (.tv (kInt k) (k.wrap (a+b))):=fun φ u v hu hv=>by
 rw [tv_int] at hu hv;subst hu hv
 exact ⟨_,tv_int.2 rfl,fun w=>by simp [eqGuard_add,binOp_add,Op.intArith]⟩
theorem bin_sub:BinOk P .sub T x y (.tv (kInt k) a) (.tv (kInt k) b) (.tv (kInt k) (k.wrap (a-b))):=fun φ u v hu hv=>by
 rw [tv_int] at hu hv;subst hu hv
 exact ⟨_,tv_int.2 rfl,fun w=>by simp [eqGuard_sub,binOp_sub,Op.intArith]⟩
theorem bin_mul:BinOk P .mul T x y (.tv (kInt k) a) (.tv (kInt k) b) (.tv (kInt k) (k.wrap (a*b))):=fun φ u v hu hv=>by
 rw [tv_int] at hu hv;subst hu hv
 exact ⟨_,tv_int.2 rfl,fun w=>by simp [eqGuard_mul,binOp_mul,Op.intArith]⟩
theorem bin_quo (hb:b≠0):BinOk P .quo T x y (.tv (kInt k) a) (.tv (kInt k) b) (.tv (kInt k) (k.wrap (a.tdiv b))):=fun φ u v hu hv=>by
 rw [tv_int] at hu hv;subst hu hv
 exact ⟨_,tv_int.2 rfl,fun w=>by simp [eqGuard_quo,binOp_quo,Op.intDiv,hb]⟩
theorem bin_rem (hb:b≠0):BinOk P .rem T x y (.tv (kInt k) a) (.tv (kInt k) b) (.tv (kInt k) (a.tmod b)):=fun φ u v hu hv=>by
 rw [tv_int] at hu hv;subst hu hv
 exact ⟨_,tv_int.2 rfl,fun w=>by simp [eqGuard_rem,binOp_rem,Op.intDiv,hb]⟩
theorem bin_eql:BinOk P .eql T x y (.tv (kInt k) a) (.tv (kInt k) b) (.tv kBool (a==b)):=fun φ u v hu hv=>by
 rw [tv_int] at hu hv;subst hu hv
 exact ⟨_,tv_bool.2 rfl,fun w=>by simp [eqGuard_at_int,binOp_eql]⟩
theorem bin_neq:BinOk P .neq T x y (.tv (kInt k) a) (.tv (kInt k) b) (.tv kBool (a != b)):=fun φ u v hu hv=>by
 rw [tv_int] at hu hv;subst hu hv
 exact ⟨_,tv_bool.2 rfl,fun w=>by simp [eqGuard_at_int,binOp_neq]⟩
theorem vg:BinOk P .lss T x y (.tv (kInt k) a) (.tv (kInt k) b) (.tv kBool (decide (a<b))):=fun φ u v hu hv=>by
 rw [tv_int] at hu hv;subst hu hv
 exact ⟨_,tv_bool.2 rfl,fun w=>by simp [eqGuard_lss,binOp_lss]⟩
theorem bin_leq:BinOk P .leq T x y (.tv (kInt k) a) (.tv (kInt k) b) (.tv kBool (decide (a≤b))):=fun φ u v hu hv=>by
 rw [tv_int] at hu hv;subst hu hv
 exact ⟨_,tv_bool.2 rfl,fun w=>by simp [eqGuard_leq,binOp_leq]⟩
theorem bin_gtr:BinOk P .gtr T x y (.tv (kInt k) a) (.tv (kInt k) b) (.tv kBool (decide (b<a))):=fun φ u v hu hv=>by
 rw [tv_int] at hu hv;subst hu hv
 exact ⟨_,tv_bool.2 rfl,fun w=>by simp [eqGuard_gtr,binOp_gtr]⟩
theorem bin_geq:BinOk P .geq T x y (.tv (kInt k) a) (.tv (kInt k) b) (.tv kBool (decide (b≤a))):=fun φ u v hu hv=>by
 rw [tv_int] at hu hv;subst hu hv
 exact ⟨_,tv_bool.2 rfl,fun w=>by simp [eqGuard_geq,binOp_geq]⟩
theorem bin_shl {j:IntKind} (hb:0≤b):BinOk P .shl T x y (.tv (kInt k) a) (.tv (kInt j) b) (.tv (kInt k) (k.wrap (a*2 ^ min b.toNat k.bits))):=fun φ u v hu hv=>by
 rw [tv_int] at hu hv;subst hu hv
 exact ⟨_,tv_int.2 rfl,fun w=>by simp [eqGuard_shl,binOp_shl,Op.shift,show ¬ b<0 by omega]⟩
theorem bin_shr {j:IntKind} (hb:0≤b):BinOk P .shr T x y (.tv (kInt k) a) (.tv (kInt j) b) (.tv (kInt k) (a.fdiv (2 ^ min b.toNat k.bits))):=fun φ u v hu hv=>by
 rw [tv_int] at hu hv;subst hu hv
 exact ⟨_,tv_int.2 rfl,fun w=>by simp [eqGuard_shr,binOp_shr,Op.shift,show ¬ b<0 by omega]⟩
variable {p q : Bool}
theorem run_equal_bool {Tb:TypeId} (hT:P.underlying Tb=some .bool) (w:World):(Op.equal Tb (.bool p) (.bool q)).run P w=.ok (p==q) w:=by
 show (Op.equalIn (9999+1) Tb (.bool p) (.bool q)).run P w=_
 rw [Op.equalIn,Sem.run_bind,run_underlying hT]
 rfl
theorem bin_beql {Tb:TypeId} (hT:P.underlying Tb=some .bool):BinOk P .eql Tb x y (.tv kBool p) (.tv kBool q) (.tv kBool (p==q)):=fun φ u v hu hv=>by
 rw [tv_bool] at hu hv;subst hu hv
 refine ⟨.bool (p==q),tv_bool.2 rfl,fun w=>?_⟩
 rw [Sem.run_bind,eqGuard_at_bool,Sem.run_pure,Result.andThen_ok]
 show (do pure (Value.bool (← Op.equal Tb (.bool p) (.bool q)))).run P w=_
 rw [Sem.run_bind,run_equal_bool hT]
 rfl
variable {s t : ByteArray}
def sEq (s t:ByteArray):Bool:=s.toList==t.toList
def sLt (s t:ByteArray):Bool:=Op.bytesLess s.toList t.toList
theorem bin_seql:BinOk P .eql T x y (.tv kStr s) (.tv kStr t) (.tv kBool (sEq s t)):=fun φ u v hu hv=>by
 rw [tv_str] at hu hv;subst hu hv
 exact ⟨_,tv_bool.2 rfl,fun w=>by simp [eqGuard_at_string,binOp,Op.stringOp];rfl⟩
theorem bin_sneq:BinOk P .neq T x y (.tv kStr s) (.tv kStr t) (.tv kBool (!sEq s t)):=fun φ u v hu hv=>by
 rw [tv_str] at hu hv;subst hu hv
 exact ⟨_,tv_bool.2 rfl,fun w=>by simp [eqGuard_at_string,binOp,Op.stringOp];rfl⟩
theorem bin_slss:BinOk P .lss T x y (.tv kStr s) (.tv kStr t) (.tv kBool (sLt s t)):=fun φ u v hu hv=>by
 rw [tv_str] at hu hv;subst hu hv
 exact ⟨_,tv_bool.2 rfl,fun w=>by simp [eqGuard_lss,binOp,Op.stringOp];rfl⟩
theorem bin_sleq:BinOk P .leq T x y (.tv kStr s) (.tv kStr t) (.tv kBool (sLt s t||sEq s t)):=fun φ u v hu hv=>by
 rw [tv_str] at hu hv;subst hu hv
 exact ⟨_,tv_bool.2 rfl,fun w=>by simp [eqGuard_leq,binOp,Op.stringOp];rfl⟩
theorem bin_sgtr:BinOk P .gtr T x y (.tv kStr s) (.tv kStr t) (.tv kBool (!(sLt s t||sEq s t))):=fun φ u v hu hv=>by
 rw [tv_str] at hu hv;subst hu hv
 refine ⟨.bool (!(sLt s t||sEq s t)),tv_bool.2 rfl,fun w=>?_⟩
 simp only [Sem.run_bind,eqGuard_gtr,Sem.run_pure,Result.andThen_ok]
 rfl
theorem bin_sgeq:BinOk P .geq T x y (.tv kStr s) (.tv kStr t) (.tv kBool (!sLt s t)):=fun φ u v hu hv=>by
 rw [tv_str] at hu hv;subst hu hv
 exact ⟨_,tv_bool.2 rfl,fun w=>by simp [eqGuard_geq,binOp,Op.stringOp];rfl⟩
structure EqTy {α:Type} (P:Program) (T:TypeId) (K:Kind α) (eq:α→α→Bool):Prop where
 eql:∀ {φ:Fro} {x y:α} {u v:Value} (w:World),(TA.tv K x).p φ u→(TA.tv K y).p φ v→(Op.equal T u v).run P w=.ok (eq x y) w
 guard:∀ {φ:Fro} {x y:α} {u v:Value} (op:BinOp) (o1 o2:Operand) (w:World),(TA.tv K x).p φ u→(TA.tv K y).p φ v→(eqGuard op T o1 o2 u v).run P w=.ok () w
 bin:∀ {φ:Fro} {x y:α} {u v:Value},(TA.tv K x).p φ u→(TA.tv K y).p φ v→binOp .eql T u v=(do pure (.bool (← Op.equal T u v)))∧binOp .neq T u v=(do pure (.bool (!(← Op.equal T u v))))
theorem bin_eq {K:Kind α} {eq:α→α→Bool} (h:EqTy P T K eq) {m n:α}:BinOk P .eql T x y (.tv K m) (.tv K n) (.tv kBool (eq m n)):=fun φ u v hu hv=>by
 refine ⟨.bool (eq m n),tv_bool.2 rfl,fun w=>?_⟩
 rw [(h.bin hu hv).1]
 simp [h.guard .eql x y w hu hv,h.eql w hu hv]
theorem bin_ne {K:Kind α} {eq:α→α→Bool} (h:EqTy P T K eq) {m n:α}:BinOk P .neq T x y (.tv K m) (.tv K n) (.tv kBool (!eq m n)):=fun φ u v hu hv=>by
 refine ⟨.bool (!eq m n),tv_bool.2 rfl,fun w=>?_⟩
 rw [(h.bin hu hv).2]
 simp [h.guard .neq x y w hu hv,h.eql w hu hv]
end
theorem ve {T T3:TypeId} {x:Operand} {b:Bool} (hx:Opd S L x (.tv kBool b)):Does S rs L (.unOp .not T x) T3 (.tv kBool (!b)):=fun o ho _ φ a w hgd ha=>
 ⟨.bool !b,tv_bool.2 rfl,fun w' _=>by simp [execOp,ho,tv_bool.1 (hx φ a ha),Op.unary]⟩
theorem does_conv_int {T T2 T3:TypeId} {x:Operand} {k1 k2:IntKind} {b:Int} (hx:Opd S L x (.tv (kInt k1) b)) (h1:(S.P.underlying T).isSome=true) (h2:S.P.underlying T2=some (.int k2)):Does S rs L (.convert T T2 x) T3 (.tv (kInt k2) (k2.wrap b)):=fun o ho _ φ a w hgd ha=>by
 have e:S.P.intKind T2=k2:=by simp [Program.intKind,h2]
 refine ⟨.int k2 (k2.wrap b),tv_int.2 rfl,fun w' _=>?_⟩
 have:=run_convert_int (P:=S.P) w' T T2 k1 b h1 (by rw [e];exact h2)
 rw [e] at this
 simp only [execOp,ho,tv_int.1 (hx φ a ha),Sem.run_bind,this,Result.andThen_ok,Sem.run_pure]
theorem jm {T:TypeId} {c x y:Operand} {b:Bool} {s t r:TA} (hc:Opd S L c (.tv kBool b)) (hx:Opd S L x s) (hy:Opd S L y t) (hr:∀ φ v,(b=true→s.p φ v→r.p φ v)∧(b=false→t.p φ v→r.p φ v)):Does S rs L (.pick c x y) T r:=fun o ho _ φ a w hgd ha=>by
 have hb:=tv_bool.1 (hc φ a ha)
 cases hbb:b with
 | true=>exact ⟨a.eval x,(hr φ _).1 hbb (hx φ a ha),fun w' _=>by simp [execOp,ho,hb,asBool,hbb]⟩
 | false=>exact ⟨a.eval y,(hr φ _).2 hbb (hy φ a ha),fun w' _=>by simp [execOp,ho,hb,asBool,hbb]⟩
theorem vh {b c:Bool} (φ:Fro) (v:Value):(b=true→(TA.when b (.tv kBool c)).p φ v→(TA.tv kBool (b&&c)).p φ v)∧(b=false→(TA.tv kBool false).p φ v→(TA.tv kBool (b&&c)).p φ v):=
 ⟨fun hb h=>by have:=tv_bool.1 (h.1 hb);rw [tv_bool,this,hb];rfl,fun hb h=>by rw [tv_bool] at h ⊢;rw [h,hb];rfl⟩
theorem vi {b c:Bool} (φ:Fro) (v:Value):(b=true→(TA.tv kBool true).p φ v→(TA.tv kBool (b||c)).p φ v)∧(b=false→(TA.when (!b) (.tv kBool c)).p φ v→(TA.tv kBool (b||c)).p φ v):=
 ⟨fun hb h=>by rw [tv_bool] at h ⊢;rw [h,hb];rfl,fun hb h=>by have:=tv_bool.1 (h.1 (by rw [hb];rfl));rw [tv_bool,this,hb];rfl⟩
theorem yielded_some {ops:Array Oper} {j d:Nat} (h:(ops[j]?).bind (·.dst)=some d) (tmps:Array Value):yielded ops tmps j=match tmps.getD d undef with | .bool b=>some b | _=>none:=by
 unfold yielded
 cases ho:ops[j]? with
 | none=>rw [ho] at h;cases h
 | some o=>
  rw [ho] at h
  have h:o.dst=some d:=h
  rw [Option.bind_some,h,Option.bind_some,Array.getD_eq_getD_getElem?]
  cases tmps[d]? with
  | none=>rfl
  | some v=>cases v<;>rfl
def Sees (L:Nat→TA) (e:Nat) (want b:Bool):Prop:=(∃ c,L e=.tv kBool c∧b=(c==want))∨∃ b0 c,L e=.when b0 (.tv kBool c)∧b=(b0&&(c==want))
theorem jw {e:Nat} {c:Bool} (h:L e=.tv kBool c):Sees L e true c:=.inl ⟨c,h,g_t⟩
theorem jx {e:Nat} {c:Bool} (h:L e=.tv kBool c):Sees L e false (!c):=.inl ⟨c,h,g_f⟩
theorem ju {e:Nat} {b c:Bool} (h:L e=.when b (.tv kBool c)):Sees L e true (b&&c):=.inr ⟨b,c,h,by cases b<;>cases c<;>rfl⟩
theorem jv {e:Nat} {b c:Bool} (h:L e=.when b (.tv kBool c)):Sees L e false (b&&!c):=.inr ⟨b,c,h,by cases b<;>cases c<;>rfl⟩
theorem Sees.wanted {φ:Fro} {a:Act} {e:Nat} {want b:Bool} (h:Sees L e want b) {n:Nat} (ha:Agree n L φ a) {o:Oper} {j:Nat} (hg:o.guard=some (j,want)) (hj:(ops[j]?).bind (·.dst)=some e):Region.wanted o (yielded ops a.tmps)=b:=by
 have ht:=ha.tmp e
 rcases h with ⟨c,hc,rfl⟩ | ⟨b0,c,hc,rfl⟩
 ·rw [hc,tv_bool] at ht
  simp only [Region.wanted,hg,yielded_some hj,ht]
  cases c<;>cases want<;>rfl
 ·rw [hc] at ht
  cases b0 with
  | true=>
   have:=tv_bool.1 (ht.1 rfl)
   simp only [Region.wanted,hg,yielded_some hj,this]
   cases c<;>cases want<;>rfl
  | false=>
   have:=ht.2 rfl
   simp only [Region.wanted,hg,yielded_some hj,this]
   cases want<;>rfl
theorem At.guarded {j:Nat} {want:Bool} (hg:o.guard=some (j,want)) {e:Nat} (hj:(ops[j]?).bind (·.dst)=some e) {d:Nat} (hd:o.dst=some d) (hn:Nat.blt d S.n=true) {b:Bool} (hb:Sees L e want b) {x:TA}
  (h:b=true→∀ φ a w,Good S.C rs φ w→Agree S.n L φ a→∃ v,(execOp a.eval o).run S.P w=.ok (.value v) w∧x.p φ v)
  (k:At S rs (upd L d (.when b x)) (wpList S.P ops Q rest)):At S rs L (wpList S.P ops Q (o::rest)):=by
 intro φ a w hgd ha
 have hw:Region.wanted o (yielded ops a.tmps)=b:=hb.wanted ha hg hj
 unfold wpList
 cases hbb:b with
 | true=>
  rw [if_pos (by rw [hw,hbb])]
  obtain ⟨v,h1,h2⟩:=h hbb φ a w hgd ha
  refine .inl ?_
  show o.upon S.P a _ Q _
  rw [h1]
  show wpList S.P ops Q rest (a.put o.dst v) w
  rw [hd]
  exact k φ _ w hgd (ha.put (.refl _) (Nat.blt_lt hn) ⟨fun _=>h2,fun e=>by rw [hbb] at e;cases e⟩)
 | false=>
  rw [if_neg (by rw [hw,hbb];simp),hd]
  exact k φ _ w hgd (ha.put (.refl _) (Nat.blt_lt hn) ⟨(fun hb'=>by rw [hbb] at hb';cases hb'),fun _=>rfl⟩)
theorem At.vn {j:Nat} {want:Bool} (hg:o.guard=some (j,want)) {e:Nat} (hj:(ops[j]?).bind (·.dst)=some e) {d:Nat} (hd:o.dst=some d) (hn:Nat.blt d S.n=true) {b:Bool} (hb:Sees L e want b) {x:TA} {op:Op} (ho:o.op=op)
  (h:b=true→Does S rs L op o.type x) (k:At S rs (upd L d (.when b x)) (wpList S.P ops Q rest)):At S rs L (wpList S.P ops Q (o::rest)):=
 At.guarded hg hj hd hn hb (fun hbb φ a w hgd ha=>let ⟨v,h1,h2⟩:=h hbb o ho rfl φ a w hgd ha;⟨v,h2 w hgd.held,h1⟩) k
theorem jh {t:Nat} {b:Bool} {x:TA} (h:L t=.when b x) (hb:b=true):Opd S L (.tmp t) x:=fun φ a ha=>by have:=ha.tmp t;rw [h] at this;exact this.1 hb
def rd {α:Type} (z:α) (xs:List α) (i:Int):α:=xs.getD i.toNat z
theorem rd_some {α:Type} {z:α} {xs:List α} {i:Int} (h0:0≤i) (h1:i<(xs.length:Int)):xs[i.toNat]?=some (rd z xs i):=by
 have:i.toNat<xs.length:=by omega
 simp [rd,List.getD_eq_getElem?_getD,List.getElem?_eq_getElem this]
theorem slice_val {K:Kind α} {φ:Fro} {xs:List α} {v:Value} (h:(TA.tv (kSlice K) xs).p φ v):∃ A c,v=.slice A xs.length c∧xs.length≤c∧c≤maxLen∧(xs≠[]→∃ a ds,A=some a∧Reps K φ xs ds∧FroAt φ a ds):=by
 obtain ⟨cs,⟨A,c,rfl,h1,h2,h3⟩,rfl⟩:=h
 exact ⟨A,c,rfl,h1,h2,h3⟩
theorem vj {T E T3:TypeId} {x y:Operand} {K:Kind α} {xs:List α} {k:IntKind} {i:Int} (z:α) (hx:Opd S L x (.tv (kSlice K) xs)) (hy:Opd S L y (.tv (kInt k) i)) (hT:S.P.underlying T=some (.slice E)) (hE:Ty S.P E K) (h:0≤i∧i<(xs.length:Int)) :
  Does S rs L (.indexAddr T x y) T3 (.ptr K (rd z xs i)):=fun o ho _ φ a w hgd ha=>by
 obtain ⟨A,c,hv,h1,h2,h3⟩:=slice_val (hx φ a ha)
 have hne:xs≠[]:=by rintro rfl;simp at h;omega
 obtain ⟨b,ds,rfl,hr,hf⟩:=h3 hne
 obtain ⟨p,cc,d,rfl,hp,hc,_⟩:=hr.at i.toNat _ (rd_some (z:=z) h.1 h.2)
 have he:S.P.elem T=E:=by simp [Program.elem,hT]
 have hrun:∀ w,_:=fun w=>run_indexAt_slice (P:=S.P) w T b xs.length c k i (by rw [he];exact hT)
 simp only [if_pos h,he,hE.size,Result.andThen_ok] at hrun
 refine ⟨.pointer (some (b.add (i.toNat*K.sz))),⟨_,cc,rfl,hc,fun j v hj=>?_⟩,fun w' _=>by simp only [execOp,ho,hv,tv_int.1 (hy φ a ha),Sem.run_bind,hrun,Result.andThen_ok,Sem.run_pure]⟩
 rw [addr_add_add]
 refine hf _ v ?_
 rw [← hp,List.append_assoc,List.getElem?_append_right (by omega),show p.length+j-p.length=j by omega,List.getElem?_append_left (List.getElem?_eq_some_iff.1 hj).1]
 exact hj
theorem jt {T T3:TypeId} {x:Operand} {K:Kind α} {xs:List α} (hx:Opd S L x (.tv (kSlice K) xs)) {E:TypeId} (hT:S.P.underlying T=some (.slice E)):Does S rs L (.call { callee:=.builtin .len,args:=#[x],argTypes:=#[T] }) T3 (.tv (kInt .i64) (xs.length:Int)):=fun o ho _ φ a w hgd ha=>by
 obtain ⟨A,c,hv,_⟩:=slice_val (hx φ a ha)
 have he:S.P.elem T=E:=by simp [Program.elem,hT]
 have hrun:∀ w,_:=fun w=>run_len_slice (P:=S.P) w T o.type A xs.length c (by rw [he];exact hT)
 exact ⟨_,tv_int.2 rfl,fun w' _=>by simp only [execOp,ho,resolve,invoke,builtin,Sem.run_bind,Sem.run_pure,Result.andThen_ok,List.map_toArray,List.map_cons,List.map_nil,hv,hrun];rfl⟩
theorem does_len_str {T T3:TypeId} {x:Operand} {s:ByteArray} (hx:Opd S L x (.tv kStr s)) (hT:S.P.underlying T=some .string):Does S rs L (.call { callee:=.builtin .len,args:=#[x],argTypes:=#[T] }) T3 (.tv (kInt .i64) (s.size:Int)):=fun o ho _ φ a w hgd ha=>by
 have hv:=tv_str.1 (hx φ a ha)
 refine ⟨.int .i64 s.size,tv_int.2 rfl,fun w' _=>?_⟩
 simp [execOp,ho,resolve,invoke,builtin,hv,Builtin.len_,run_underlying hT,goInt]
def byteAt (s:ByteArray) (i:Int):Int:=match s[i.toNat]? with | some b=>(b.toNat:Int) | none=>0
theorem does_index_str {T T3:TypeId} {x y:Operand} {s:ByteArray} {k:IntKind} {i:Int} (hx:Opd S L x (.tv kStr s)) (hy:Opd S L y (.tv (kInt k) i)) (hT:S.P.underlying T=some .string) (h:0≤i∧i<(s.size:Int)):Does S rs L (.index T x y) T3 (.tv (kInt .u8) (byteAt s i)):=fun o ho _ φ a w hgd ha=>by
 have hv:=tv_str.1 (hx φ a ha)
 have hi:=tv_int.1 (hy φ a ha)
 have hlt:i.toNat<s.size:=by omega
 refine ⟨.int .u8 (byteAt s i),tv_int.2 rfl,fun w' _=>?_⟩
 simp [execOp,ho,hv,hi,Instr.index,asIntOf,run_underlying hT,h.1,getElem?_pos s i.toNat hlt,byteAt]
theorem does_extract20 {T:TypeId} {x:Operand} {s t:TA} (hx:Opd S L x (.tup2 s t)):Does S rs L (.extract x 0) T s:=fun o ho _ φ a w hgd ha=>by
 obtain ⟨u,v,he,h1,h2⟩:=hx φ a ha
 exact ⟨u,h1,fun w' _=>by simp [execOp,ho,he,Instr.extract]⟩
theorem does_extract21 {T:TypeId} {x:Operand} {s t:TA} (hx:Opd S L x (.tup2 s t)):Does S rs L (.extract x 1) T t:=fun o ho _ φ a w hgd ha=>by
 obtain ⟨u,v,he,h1,h2⟩:=hx φ a ha
 exact ⟨v,h2,fun w' _=>by simp [execOp,ho,he,Instr.extract]⟩
end
end Go.Gp
end
section
set_option linter.unusedVariables false
set_option linter.unusedSimpArgs false
set_option linter.unusedSectionVars false
namespace Go.Gp
structure SlTy {α:Type} (P:Program) (T E:TypeId) (K:Kind α) (bytes:Nat):Prop where
 und:P.underlying T=some (.slice E)
 ty:Ty P E K
 info:∃ i z,P.info? E=some i∧i.zero=some z∧i.size=K.sz∧i.bytes=bytes∧z.cells.size=K.sz
 pos:0<K.sz
theorem SlTy.mk' {α:Type} {P:Program} {T E:TypeId} {K:Kind α} {bytes:Nat} {z:Value} {n:Nat} (h1:P.underlying T=some (.slice E)) (h2:Ty P E K) (h3:(P.info? E).map (fun i=>(i.zero,i.size,i.bytes))=some (some z,n,bytes)) (hn:n=K.sz) (h4:Nat.beq z.cells.size n=true) (h5:Nat.blt 0 n=true):SlTy P T E K bytes:=by
 obtain ⟨i,hi,he⟩:=Option.map_eq_some_iff.1 h3
 simp only [Prod.mk.injEq] at he
 subst hn
 exact ⟨h1,h2,⟨i,z,hi,he.1,he.2.1,he.2.2,Nat.eq_of_beq_eq_true h4⟩,Nat.blt_lt h5⟩
def Fro.add (φ:Fro) (g:Nat) (cs:List Value):Fro where
 cell:=fun a=>if a.block=g∧a.spot=none∧a.off<cs.length then cs[a.off]? else φ.cell a
 obj:=φ.obj
theorem Fro.add_has {φ:Fro} {g b:Nat} {cs:List Value} (h:(φ.add g cs).has b):b=g∨φ.has b:=by
 rcases h with ⟨a,v,rfl,e⟩ | ⟨o,e⟩
 ·simp only [Fro.add] at e
  split at e
  ·rename_i h;exact .inl h.1
  ·exact .inr (.inl ⟨a,v,rfl,e⟩)
 ·exact .inr (.inr ⟨o,e⟩)
theorem Fro.le_add {φ:Fro} {g:Nat} {cs:List Value} (h:¬ φ.has g):φ.le (φ.add g cs):=by
 refine ⟨fun a v e=>?_,fun _ _ e=>e⟩
 simp only [Fro.add]
 rw [if_neg]
 ·exact e
 ·rintro ⟨h1,_⟩
  exact h (.inl ⟨a,v,h1,e⟩)
theorem addr_mk (g j:Nat):(⟨g,0,none⟩:Addr).add j=⟨g,j,none⟩:=by unfold Addr.add;split<;>simp_all
theorem Good.freeze {C:Ctx} {rs:List Res} {φ:Fro} {w:World} (h:Good C rs φ w) {i:Nat} {α:Type} {v:Value} {E:TypeId} {K:Kind α} {xs:List α} (hi:nth rs i=.row v E K xs) :
  ∃ φ',φ.le φ'∧Good C (setr rs i .emp) φ' w∧(TA.tv (kSlice K) xs).p φ' v:=by
 have h1:=h.res i
 rw [hi] at h1
 obtain ⟨cs,hown,hreps⟩:=h1
 have h0:=Good.step (r':=.emp) h hi (Step.refl _ w) trivial (fun b hb=>by simp [Res.fp] at hb) (fun b hb=>by simp [Res.fp] at hb)
 rcases hown.2 with ⟨rfl,hn⟩ | ⟨g,cap,cur,rfl,_,hh,hle,hcap,hcur,htake⟩
 ·refine ⟨φ,.refl _,h0,_,⟨none,0,rfl,by omega,by simp [maxLen],fun hne=>?_⟩,?_⟩
  ·have:xs=[]:=List.eq_nil_of_length_eq_zero hn
   exact absurd this hne
  ·rw [hn];rfl
 ·have hg:g∈(nth rs i).fp:=by rw [hi];simp [Res.fp,Value.ownBlock]
  have hnot:¬ φ.has g:=h.free i g hg
  have hle':φ.le (φ.add g cs):=Fro.le_add hnot
  have hil:i<rs.length:=by
   by_cases hl:i<rs.length
   ·exact hl
   ·rw [nth_ge (by omega)] at hi;cases hi
  have hn:∀ j,nth (setr rs i .emp) j=if j=i then .emp else nth rs j:=by
   intro j
   by_cases e:j=i
   ·subst e;rw [if_pos rfl,nth_setr_same hil]
   ·rw [if_neg e,nth_setr_other (fun h=>e h.symm)]
  have hcell:∀ j u,cs[j]?=some u→w.cell? ⟨g,j,none⟩=some u:=by
   intro j u hu
   have:=hown.cells (g:=g) rfl j u hu
   rwa [addr_mk] at this
  refine ⟨φ.add g cs,hle',⟨h0.os,h0.tape,h0.output,h0.size,h0.blk,h0.le.trans hle',?_,?_,fun j=>Res.mono hle' (h0.res j),h0.lt,h0.own,?_,h0.dis⟩,_,⟨some ⟨g,0,none⟩,cap,rfl,hle,hcap,fun _=>⟨_,cs,rfl,hreps.mono hle',fun j u hu=>?_⟩⟩,rfl⟩
  ·intro b hb
   rcases Fro.add_has hb with rfl | hb
   ·exact .inr (h.own i b hg)
   ·exact h0.ext b hb
  ·constructor
   ·intro a u e
    simp only [Fro.add] at e
    split at e
    ·rename_i hc
     obtain ⟨hb,hs,ho⟩:=hc
     have:a=⟨g,a.off,none⟩:=by cases a;simp_all
     rw [this]
     exact hcell _ _ e
    ·exact h0.fro.cell a u e
   ·exact h0.fro.obj
  ·intro j b hb hh'
   rcases Fro.add_has hh' with rfl | hh'
   ·rw [hn] at hb
    split at hb
    ·simp [Res.fp] at hb
    ·rename_i e
     exact h.dis j i e b hb hg
   ·exact h0.free j b hb hh'
  ·rw [addr_mk]
   simp only [Fro.add]
   have hj:j<cs.length:=(List.getElem?_eq_some_iff.1 hu).1
   simp [hj]
   have:=List.getElem?_eq_some_iff.1 hu
   exact this.2
section
variable {S : Sit} {rs : List Res} {L : Nat → TA} {Q : Exit → Act → World → Prop} {ops : Array Oper} {o : Oper} {rest : List Oper} {α β γ : Type}
theorem Agree.turn {n:Nat} {φ:Fro} {a:Act} (h:Agree n L φ a) {t:Nat} {x:TA} (hx:x.p φ (a.tmps.getD t undef)):Agree n (upd L t x) φ a:=by
 refine ⟨h.defers,h.size,fun s=>?_⟩
 unfold upd
 cases e:Nat.beq s t with
 | false=>exact h.tmp s
 | true=>
  have:s=t:=Nat.eq_of_beq_eq_true e
  subst this
  exact hx
theorem At.freeze {G:Act→World→Prop} (i t:Nat) {v:Value} {E:TypeId} {K:Kind α} {xs:List α} (hi:nth rs i=.row v E K xs) (ht:L t=.eq v) (k:At S (setr rs i .emp) (upd L t (.tv (kSlice K) xs)) G):At S rs L G:=fun φ a w hgd ha=>by
 obtain ⟨φ',hl,hg',hv⟩:=hgd.freeze hi
 have hat:a.tmps.getD t undef=v:=by have:=ha.tmp t;rw [ht] at this;exact this
 exact k φ' a w hg' ((ha.mono hl).turn (by rw [hat];exact hv))
theorem At.freeze2 {G:Act→World→Prop} (i t t':Nat) {v:Value} {E:TypeId} {K:Kind α} {xs:List α} (hi:nth rs i=.row v E K xs) (ht:L t=.eq v) (ht':L t'=.eq v) (k:At S (setr rs i .emp) (upd (upd L t (.tv (kSlice K) xs)) t' (.tv (kSlice K) xs)) G):At S rs L G:=fun φ a w hgd ha=>by
 obtain ⟨φ',hl,hg',hv⟩:=hgd.freeze hi
 have hat:a.tmps.getD t undef=v:=by have:=ha.tmp t;rw [ht] at this;exact this
 have hat':a.tmps.getD t' undef=v:=by have:=ha.tmp t';rw [ht'] at this;exact this
 exact k φ' a w hg' (((ha.mono hl).turn (by rw [hat];exact hv)).turn (by rw [hat'];exact hv))
theorem At.nilrow {G:Act→World→Prop} (E:TypeId) (K:Kind α) (k:At S (.row (.slice none 0 0) E K []::rs) L G):At S rs L G:=fun φ a w hgd ha=>
 k φ a w (hgd.new (Step.refl _ w) ⟨[],World.ownsRow_nil _ _ _ _,rfl⟩ (fun b hb=>by simp [Res.fp,Value.ownBlock] at hb) (fun b hb=>by simp [Res.fp,Value.ownBlock] at hb)) ha
theorem step_grownBy {w w':World} {v:Value} (h:w.grownBy w' v.ownBlock) (hd:w.drawn≤w'.drawn):Step v.ownBlock.toList w w':=
 ⟨h.os,⟨h.tape,hd⟩,h.output,h.size,fun i hi hne=>h.block i hi (fun e=>hne (by simp [← e]))⟩
theorem append_core {φ:Fro} {w:World} {C:Ctx} (hgd:Good C rs φ w) (i:Nat) {T E:TypeId} {K:Kind α} {bytes:Nat} {v:Value} {xs ys:List α} (hi:nth rs i=.row v E K xs) (hT:SlTy S.P T E K bytes) (ty:TypeId)
  {A:Option Addr} {c:Nat} (hsrc:ys≠[]→∃ ad ds,A=some ad∧Reps K φ ys ds∧∀ j u,ds[j]?=some u→w.cell? (ad.add j)=some u) (hb:(xs.length+ys.length)*bytes≤140737488355328) (hb2:xs.length+ys.length≤140737488355328) :
  ∃ v' w',(Builtin.append_ #[T,T] ty #[v,.slice A ys.length c]).run S.P w=.ok v' w'∧Good C (setr rs i (.row v' E K (xs++ys))) φ w'∧Step v.ownBlock.toList w w':=by
 have h1:=hgd.res i
 rw [hi] at h1
 obtain ⟨cs,hown,hreps⟩:=h1
 obtain ⟨inf,z,hinf,hz,hsz,hby,hzs⟩:=hT.info
 by_cases hne:ys=[]
 ·subst hne
  refine ⟨v,w,?_,?_,Step.refl _ w⟩
  ·rcases hown.2 with ⟨rfl,hn⟩ | ⟨g,cap,cur,rfl,_,_,hnc,_⟩
   ·cases A<;>simp [Builtin.append_,run_underlying hT.und,Go.sizeOf,typeInfo,hinf,Builtin.lenOf,Builtin.firstCells,loadCells,loadCellsFrom,run_underlying]
   ·cases A<;>simp [Builtin.append_,run_underlying hT.und,Go.sizeOf,typeInfo,hinf,Builtin.lenOf,Builtin.firstCells,hnc,storeCells,loadCells,loadCellsFrom]
  ·have hil:i<rs.length:=by
    by_cases hl:i<rs.length
    ·exact hl
    ·rw [nth_ge (by omega)] at hi;cases hi
   refine hgd.step hi (Step.refl _ w) ⟨cs,?_,?_⟩ (fun b hb'=>hgd.lt i b (by rw [hi];exact hb')) (fun b hb'=>.inl hb')
   ·rw [List.append_nil];exact hown
   ·rw [List.append_nil];exact hreps
 ·obtain ⟨ad,ds,rfl,hr2,hc⟩:=hsrc hne
  obtain ⟨v',w',hrun,hown',hg',_,hat⟩:=run_append_own_at (P:=S.P) w 0 T ty E inf z K.sz bytes hT.und hinf hz hsz hby hzs hT.pos v xs.length cs hown ad ys.length c ds (Reps.len hr2) hc (fun u hu=>Reps.one hr2 u hu) (by simp only [maxLen];omega) hb (Nat.zero_le _)
  refine ⟨v',w',hrun,hgd.step hi (step_grownBy hg' (run_drawn hrun)) ⟨cs++ds,by rw [List.length_append];exact hown',Reps.append hreps hr2⟩ ?_ ?_,step_grownBy hg' (run_drawn hrun)⟩
  ·intro b hb'
   exact (hown'.lt b (by simpa [Res.fp] using hb')).2
  ·intro b hb'
   rcases hat with e | e
   ·left;simpa [Res.fp,e] using hb'
   ·right
    simp [Res.fp,e] at hb'
    omega
theorem eff_append_view {d:Nat} (hd:o.dst=some d) (hn:Nat.blt d S.n=true) {T:TypeId} {x y:Operand} (ho:o.op=.call { callee:=.builtin .append,args:=#[x,y],argTypes:=#[T,T] }) (i:Nat) {E:TypeId} {K:Kind α} {bytes:Nat} {v:Value} {xs ys:List α}
  (hi:nth rs i=.row v E K xs) (hx:Opd S L x (.eq v)) (hy:Opd S L y (.tv (kSlice K) ys)) (hT:SlTy S.P T E K bytes) (hb:(xs.length+ys.length)*bytes≤140737488355328∧xs.length+ys.length≤140737488355328) :
  EffOk S rs L o Q [i] (fun rs' L'=>∃ v',rs'=setr rs i (.row v' E K (xs++ys))∧L'=upd L d (.eq v')):=by
 intro φ a w KK hgd ha k
 obtain ⟨A,c,hv,h1,h2,h3⟩:=slice_val (hy φ a ha)
 obtain ⟨v',w',hrun,hgood,hstep⟩:=append_core (S:=S) hgd i hi hT o.type (A:=A) (c:=c) (ys:=ys) (fun hne=>by
  obtain ⟨b,ds,e,hr,hf⟩:=h3 hne
  exact ⟨b,ds,e,hr,fun j u hj=>hgd.fro.cell _ _ (hf j u hj)⟩) hb.1 hb.2
 have he:a.eval x=v:=hx φ a ha
 show o.upon S.P a _ Q _
 have:(execOp a.eval o).run S.P w=.ok (.value v') w':=by
  simp only [execOp,ho,resolve,invoke,builtin,Sem.run_bind,Sem.run_pure,Result.andThen_ok,List.map_toArray,List.map_cons,List.map_nil,he,hv,hrun]
 rw [this]
 show KK (a.put o.dst v') w'
 exact k _ _ φ _ _ ⟨v',rfl,rfl⟩ (.refl _) hgood (ha.putE (.refl _) hd hn rfl) (by simpa [blocksOf,hi,Res.fp] using hstep)
theorem eff_append_row {d:Nat} (hd:o.dst=some d) (hn:Nat.blt d S.n=true) {T:TypeId} {x y:Operand} (ho:o.op=.call { callee:=.builtin .append,args:=#[x,y],argTypes:=#[T,T] }) (i j:Nat) {E E':TypeId} {K:Kind α} {bytes:Nat} {v u:Value} {xs ys:List α}
  (hi:nth rs i=.row v E K xs) (hj:nth rs j=.row u E' K ys) (hx:Opd S L x (.eq v)) (hy:Opd S L y (.eq u)) (hT:SlTy S.P T E K bytes) (hb:(xs.length+ys.length)*bytes≤140737488355328∧xs.length+ys.length≤140737488355328) :
  EffOk S rs L o Q [i] (fun rs' L'=>∃ v',rs'=setr rs i (.row v' E K (xs++ys))∧L'=upd L d (.eq v')):=by
 intro φ a w KK hgd ha k
 have hr2:=hgd.res j
 rw [hj] at hr2
 obtain ⟨ds,hown,hreps⟩:=hr2
 have hus:∃ A c,u=.slice A ys.length c:=by
  rcases hown.2 with ⟨rfl,hn⟩ | ⟨g,cap,cur,rfl,_⟩
  ·exact ⟨none,0,by rw [hn]⟩
  ·exact ⟨_,cap,rfl⟩
 obtain ⟨A,c,rfl⟩:=hus
 obtain ⟨v',w',hrun,hgood,hstep⟩:=append_core (S:=S) hgd i hi hT o.type (A:=A) (c:=c) (ys:=ys) (fun hne=>by
  rcases hown.2 with ⟨he,hn⟩ | ⟨g,cap,cur,he,hrest⟩
  ·exact absurd (List.eq_nil_of_length_eq_zero hn) hne
  ·injection he with hA _ _
   subst hA
   exact ⟨_,ds,rfl,hreps,fun j u hj=>hown.cells rfl j u hj⟩) hb.1 hb.2
 have he:a.eval x=v:=hx φ a ha
 have he2:a.eval y=.slice A ys.length c:=hy φ a ha
 show o.upon S.P a _ Q _
 have:(execOp a.eval o).run S.P w=.ok (.value v') w':=by
  simp only [execOp,ho,resolve,invoke,builtin,Sem.run_bind,Sem.run_pure,Result.andThen_ok,List.map_toArray,List.map_cons,List.map_nil,he,he2,hrun]
 rw [this]
 show KK (a.put o.dst v') w'
 exact k _ _ φ _ _ ⟨v',rfl,rfl⟩ (.refl _) hgood (ha.putE (.refl _) hd hn rfl) (by simpa [blocksOf,hi,Res.fp] using hstep)
theorem fold_set (off:Nat):∀ (c':List Value) (k:Nat) (p c d:List Value),p.length=off+k→c.length=c'.length →
  (c'.zipIdx k).foldl (fun (cs:Array Value) (x:Value×Nat)=>cs.setIfInBounds (off+x.2) x.1) (p++c++d).toArray=(p++c'++d).toArray
 | [],k,p,c,d,hp,hc=>by
  have:c=[]:=List.eq_nil_of_length_eq_zero (by simpa using hc)
  subst this
  rfl
 | x::c',k,p,c,d,hp,hc=>by
  match c,hc with
  | y::c,hc=>
   simp only [List.zipIdx_cons,List.foldl_cons]
   have:(p++y::c++d).toArray.setIfInBounds (off+k) x=((p++[x])++c++d).toArray:=by
    rw [← hp]
    apply Array.ext'
    simp
   rw [this,fold_set off c' (k+1) (p++[x]) c d (by simp [hp];omega) (by simpa using hc)]
   simp
def Fills {α:Type} (place:Nat→Option (Nat×Nat)) (K:Kind α):α→List (Nat×TA)→α→Prop
 | x,[],y=>x=y
 | x,(i,t)::l,y=>∃ (β:Type) (M:Kind β) (get:α→β) (set:α→β→α) (u:β) (off:Nat),place i=some (off,M.sz)∧t=.tv M u∧Sub K off M get set∧Fills place K (set x u) l y
theorem fills_nil {place:Nat→Option (Nat×Nat)} {K:Kind α} {x:α}:Fills place K x [] x:=rfl
theorem fills_cons {place:Nat→Option (Nat×Nat)} {K:Kind α} {x y:α} {i:Nat} {l:List (Nat×TA)} {M:Kind β} {get:α→β} {set:α→β→α} {u:β} {off:Nat} (h1:place i=some (off,M.sz)) (h2:Sub K off M get set) (h3:Fills place K (set x u) l y):Fills place K x ((i,.tv M u)::l) y:=
 ⟨β,M,get,set,u,off,h1,rfl,h2,h3⟩
def Parts (φ:Fro):List (Nat×TA)→List (Nat×Value)→Prop
 | [],vs=>vs=[]
 | (i,t)::l,vs=>∃ v r,vs=(i,v)::r∧t.p φ v∧Parts φ l r
theorem fill_run {place:Nat→Option (Nat×Nat)} {K:Kind α} {φ:Fro}:∀ {l:List (Nat×TA)} {x y:α} {cs:List Value} {vs:List (Nat×Value)},Fills place K x l y→K.rep φ x cs→Parts φ l vs→∃ cs',Instr.fill place cs.toArray vs=some cs'.toArray∧K.rep φ y cs'
 | [],x,y,cs,vs,hf,hr,hp=>by
  rw [show vs=[] from hp]
  rw [show x=y from hf] at hr
  exact ⟨cs,rfl,hr⟩
 | (i,t)::l,x,y,cs,vs,hf,hr,hp=>by
  obtain ⟨β,M,get,set,u,off,h1,rfl,h2,h3⟩:=hf
  obtain ⟨v,r,rfl,hv,hp'⟩:=hp
  obtain ⟨p,c,d,rfl,hpl,hc,hset⟩:=h2.fits hr
  have hv2:=tv_cells hv
  have hcl:=M.len hv2.1
  have hlen:v.cells.size=M.sz:=by simpa using hcl
  obtain ⟨cs',h4,h5⟩:=fill_run h3 (hset u _ hv2.1) hp'
  refine ⟨cs',?_,h5⟩
  simp only [Instr.fill,h1]
  rw [if_neg]
  ·have hz:v.cells.zipIdx.foldl (fun cs x=>cs.setIfInBounds (off+x.2) x.1) (p++c++d).toArray=(p++v.cells.toList++d).toArray:=by
    have:=fold_set off v.cells.toList 0 p c d (by simpa using hpl) (by rw [M.len hc,hcl])
    rw [← this]
    rw [← Array.foldl_toList]
    simp
   rw [hz]
   exact h4
  ·have h6:=M.len hc
   simp [hlen]
   omega
def Builds (P:Program) (T:TypeId) (zc:List Value) (place:Nat→Option (Nat×Nat)):Prop:=
 ∀ (parts:Array (Nat×Value)) (w:World) (cs:Array Value),Instr.fill place zc.toArray parts.toList=some cs→(Instr.build T parts).run P w=.ok (.agg cs) w
theorem builds_struct {P:Program} {T:TypeId} {fields:Array Field} {zv:Value} {pl:List (Nat×Nat)} (hz:∀ w,(zeroValue T).run P w=.ok zv w) (hu:P.underlying T=some (.struct fields)) (hp:∀ w,(fields.mapM (fun (f:Field)=>(do pure (f.offset,← Go.sizeOf f.type):Sem (Nat×Nat)))).run P w=.ok pl.toArray w) :
  Builds P T zv.cells.toList (fun i=>pl[i]?):=by
 intro parts w cs h
 unfold Instr.build
 simp only [Sem.run_bind,hz,Result.andThen_ok,run_underlying hu,hp]
 have:(fun (i:Nat)=>pl.toArray[i]?)=fun (i:Nat)=>pl[i]?:=by funext i;simp
 simp only [Array.toArray_toList] at h
 simp only [this,h,Sem.run_pure]
theorem builds_array {P:Program} {T E:TypeId} {n s:Nat} {zv:Value} (hz:∀ w,(zeroValue T).run P w=.ok zv w) (hu:P.underlying T=some (.array n E)) (hs:∀ w,(Go.sizeOf E).run P w=.ok s w) :
  Builds P T zv.cells.toList (fun i=>some (i*s,s)):=by
 intro parts w cs h
 unfold Instr.build
 simp only [Sem.run_bind,hz,Result.andThen_ok,run_underlying hu,hs]
 simp only [Array.toArray_toList] at h
 simp only [h,Sem.run_pure]
def OpdParts (S:Sit) (L:Nat→TA) (ps:List (Nat×Operand)) (l:List (Nat×TA)):Prop:=∀ φ a,Agree S.n L φ a→Parts φ l (ps.map fun x=>(x.1,a.eval x.2))
theorem js:OpdParts S L [] []:=fun _ _ _=>rfl
theorem jr {i:Nat} {x:Operand} {t:TA} {ps:List (Nat×Operand)} {l:List (Nat×TA)} (h:Opd S L x t) (k:OpdParts S L ps l):OpdParts S L ((i,x)::ps) ((i,t)::l):=fun φ a ha=>⟨_,_,rfl,h φ a ha,k φ a ha⟩
theorem vd {T T3:TypeId} {ps:List (Nat×Operand)} {l:List (Nat×TA)} {K:Kind α} {z y:α} {zc:List Value} {place:Nat→Option (Nat×Nat)} (hl:OpdParts S L ps l) (hz:∀ φ,K.rep φ z zc) (hB:Builds S.P T zc place) (hK:K.agg=true) (hf:Fills place K z l y):Does S rs L (.build T ps.toArray) T3 (.tv K y):=fun o ho _ φ a w hgd ha=>by
 obtain ⟨cs',h1,h2⟩:=fill_run hf (hz φ) (hl φ a ha)
 refine ⟨.agg cs'.toArray,⟨cs',h2,by simp [Kind.val,hK]⟩,fun w' _=>?_⟩
 have hrun:=hB (ps.toArray.map fun x=>(x.1,a.eval x.2)) w' cs'.toArray (by simpa using h1)
 simp only [execOp,ho,Sem.run_bind,hrun,Result.andThen_ok,Sem.run_pure]
theorem fill_all (size:Nat) {K:Kind α} (hK:K.sz=size) {φ:Fro}:∀ (xs:List α) (vs:List Value) (k:Nat) (pre post:List Value),All2 (fun t v=>t.p φ v) (xs.map (TA.tv K)) vs→pre.length=k*size→post.length=xs.length*size →
  ∃ cs,Instr.fill (fun i=>some (i*size,size)) (pre++post).toArray ((vs.zipIdx k).map fun x=>(x.2,x.1))=some (pre++cs).toArray∧Reps K φ xs cs
 | [],vs,k,pre,post,h,hp,hq=>by
  cases h
  have:post=[]:=List.eq_nil_of_length_eq_zero (by simpa using hq)
  subst this
  exact ⟨[],rfl,rfl⟩
 | x::xs,vs,k,pre,post,h,hp,hq=>by
  cases h with
  | cons hv hr=>
   rename_i v vs
   have hv2:=tv_cells hv
   have hcl:=K.len hv2.1
   rw [hK] at hcl
   have hlen:v.cells.size=size:=by simpa using hcl
   have hq':size≤post.length:=by rw [hq];simp [Nat.add_mul]
   obtain ⟨cs,h1,h2⟩:=fill_all size hK xs vs (k+1) (pre++v.cells.toList) (post.drop size) hr (by rw [List.length_append,hp,hcl,Nat.add_mul,Nat.one_mul]) (by rw [List.length_drop,hq,List.length_cons,Nat.add_mul,Nat.one_mul];omega)
   refine ⟨v.cells.toList++cs,?_,_,_,rfl,hv2.1,h2⟩
   simp only [List.zipIdx_cons,List.map_cons,Instr.fill]
   rw [if_neg]
   ·have hz:v.cells.zipIdx.foldl (fun cs x=>cs.setIfInBounds (k*size+x.2) x.1) (pre++post).toArray=(pre++v.cells.toList++post.drop size).toArray:=by
     have:=fold_set (k*size) v.cells.toList 0 pre (post.take size) (post.drop size) (by simpa using hp) (by rw [List.length_take,hcl];omega)
     rw [← this,← Array.foldl_toList]
     simp [List.append_assoc]
    rw [hz]
    simpa [List.append_assoc] using h1
   ·simp [hlen]
    omega
theorem vc {d:Nat} (hd:o.dst=some d) (hn:Nat.blt d S.n=true) {T:TypeId} {n:Nat} {ps:List (Nat×Operand)} (ho:o.op=.buildSlice T n ps.toArray) {os:List Operand} (hps:ps=(os.zipIdx 0).map fun x=>(x.2,x.1)) {K:Kind α} {E:TypeId} {bytes:Nat} (hT:SlTy S.P T E K bytes) {xs:List α}
  (hos:Opds S L os (xs.map (TA.tv K))) (hlen:xs.length=n) (hsmall:Nat.ble (n*K.sz) 16777216=true) :
  EffOk S rs L o Q [] (fun rs' L'=>∃ v,rs'=.row v E K xs::rs∧L'=upd L d (.eq v)):=by
 intro φ a w KK hgd ha k
 have hall:=hos φ a ha
 obtain ⟨inf,z,hinf,hz,hsz,hby,hzs⟩:=hT.info
 have hsm:n*K.sz≤16777216:=Nat.le_of_ble_eq_true hsmall
 have hrun:∃ cs,(execOp a.eval o).run S.P w=.ok (.value (.slice (some ⟨w.heap.size,0,none⟩) n n)) (w.alloc (.cells cs E))∧Reps K φ xs cs.toList:=by
  have hfill:∀ post:List Value,post.length=n*K.sz→∃ cs,Instr.fill (fun i=>some (i*K.sz,K.sz)) post.toArray (ps.map fun x=>(x.1,a.eval x.2))=some cs∧Reps K φ xs cs.toList:=by
   intro post hpost
   obtain ⟨cs,h1,h2⟩:=fill_all K.sz rfl xs (os.map a.eval) 0 [] post hall (by simp) (by rw [hpost,hlen])
   refine ⟨cs.toArray,?_,by simpa using h2⟩
   have e:(ps.map fun x=>(x.1,a.eval x.2))=(((os.map a.eval).zipIdx 0).map fun x=>(x.2,x.1)):=by
    subst hps
    simp [List.zipIdx_map,List.map_map,Function.comp_def]
   rw [e]
   simpa using h1
  by_cases hn0:n*K.sz=0
  ·obtain ⟨cs,h1,h2⟩:=hfill [] (by simp [hn0])
   refine ⟨cs,?_,h2⟩
   simp only [execOp,ho,Instr.buildSlice,Sem.run_bind,run_underlying hT.und,hT.ty.size,Result.andThen_ok,List.map_toArray,List.toList_toArray]
   rw [if_neg (by omega),if_pos hn0]
   simp only [hn0,Sem.run_bind,Sem.run_pure,Result.andThen_ok]
   have:(Array.map (fun i=>(#[]:Array Value)[i % (#[]:Array Value).size]!) (Array.range 0))=([]:List Value).toArray:=by simp
   rw [this,h1]
   simp [newRow]
  ·obtain ⟨cs,h1,h2⟩:=hfill ((List.range (n*K.sz)).map fun i=>z.cells[i % z.cells.size]!) (by simp)
   refine ⟨cs,?_,h2⟩
   have hzr:(zeroValue E).run S.P w=.ok z w:=by simp [zeroValue,typeInfo,hinf,hz]
   simp only [execOp,ho,Instr.buildSlice,Sem.run_bind,run_underlying hT.und,hT.ty.size,Result.andThen_ok,List.map_toArray,List.toList_toArray]
   rw [if_neg (by omega),if_neg hn0]
   simp only [Sem.run_bind,hzr,Result.andThen_ok,Sem.run_pure]
   have:(Array.map (fun i=>z.cells[i % z.cells.size]!) (Array.range (n*K.sz)))=((List.range (n*K.sz)).map fun i=>z.cells[i % z.cells.size]!).toArray:=by
    apply Array.ext'
    simp
   rw [this,h1]
   simp [newRow]
 obtain ⟨cs,hrun,hreps⟩:=hrun
 show o.upon S.P a _ Q _
 rw [hrun]
 show KK (a.put o.dst _) _
 have hcl:cs.size=n*K.sz:=by have:=Reps.len hreps;rw [hlen] at this;simpa using this
 have hmx:n≤maxLen:=by
  have h1:=hT.pos
  have h2:n*1≤n*K.sz:=Nat.mul_le_mul_left n h1
  simp only [maxLen]
  omega
 refine k _ _ φ _ _ ⟨_,rfl,rfl⟩ (.refl _) (hgd.new (r:=.row (.slice (some ⟨w.heap.size,0,none⟩) n n) E K xs) (step_alloc _ _) ⟨cs.toList,?_,hreps⟩ ?_ ?_) (ha.putE (.refl _) hd hn rfl) (step_alloc _ _)
 ·refine ⟨by rw [Reps.len hreps],.inr ⟨w.heap.size,n,cs,by rw [hlen],Nat.zero_le _,heap_alloc_new w _,by omega,hmx,hcl,?_⟩⟩
  rw [hlen,← hcl]
  exact List.take_of_length_le (by simp)
 ·intro b hb;simp [Res.fp,Value.ownBlock] at hb;subst hb;simp
 ·intro b hb;simp [Res.fp,Value.ownBlock] at hb;subst hb;omega
end
end Go.Gp
end
section
set_option linter.unusedVariables false
set_option linter.unusedSimpArgs false
set_option linter.unusedSectionVars false
namespace Go.Gp
section
variable {S : Sit} {rs : List Res} {L : Nat → TA} {Q : Exit → Act → World → Prop} {ops : Array Oper} {o : Oper} {rest : List Oper} {α β γ : Type}
def Flat (x:TA):Prop:=∀ φ ψ v,x.p φ v→x.p ψ v
theorem flat_int {k:IntKind} {n:Int}:Flat (.tv (kInt k) n):=fun φ ψ v h=>by rw [tv_int] at h ⊢;exact h
theorem vp {b:Bool}:Flat (.tv kBool b):=fun φ ψ v h=>by rw [tv_bool] at h ⊢;exact h
theorem flat_str {s:ByteArray}:Flat (.tv kStr s):=fun φ ψ v h=>by rw [tv_str] at h ⊢;exact h
theorem flat_eq {v:Value}:Flat (.eq v):=fun _ _ _ h=>h
theorem flat_tup2 {s t:TA} (h:Flat s) (k:Flat t):Flat (.tup2 s t):=fun φ ψ v ⟨x,y,e,h1,h2⟩=>⟨x,y,e,h _ _ _ h1,k _ _ _ h2⟩
def FlatK {α:Type} (K:Kind α):Prop:=∀ φ ψ x cs,K.rep φ x cs→K.rep ψ x cs
theorem flat_tv {K:Kind α} {x:α} (h:FlatK K):Flat (.tv K x):=fun φ ψ v ⟨cs,h1,h2⟩=>⟨cs,h _ _ _ _ h1,h2⟩
theorem flatK_int {k:IntKind}:FlatK (kInt k):=fun _ _ _ _ h=>h
theorem flatK_pair {K:Kind α} {M:Kind β} (h:FlatK K) (k:FlatK M):FlatK (kPair K M):=fun _ _ _ _ ⟨c,d,e,h1,h2⟩=>⟨c,d,e,h _ _ _ _ h1,k _ _ _ _ h2⟩
theorem flatK_iso {K:Kind β} {f:α→β} {hK:K.agg=true} (h:FlatK K):FlatK (kIso K f hK):=fun _ _ _ _ hr=>h _ _ _ _ hr
theorem run_enter {S:Sit} {a:Act} {w:World} {g:FuncId} {os:List Operand} {ts:Array TypeId} (ho:o.op=.call { callee:=.value (.func g),args:=os.toArray,argTypes:=ts }) (he:Enters S.P g) :
  (execOp a.eval o).run S.P w=.ok (.enter g (os.map a.eval).toArray) w:=by
 have:=he (os.map a.eval).toArray w
 simp only [execOp,ho,resolve,Deferred.ofValue,Act.eval,Sem.run_bind,Sem.run_pure,Result.andThen_ok,invoke,List.map_toArray]
 simpa [Deferred.ofValue,invoke] using this
theorem step_of_good {w w':World} {φ φ':Fro} {rs':List Res} (h:Good ⟨w,[],φ⟩ rs' φ' w'):Step [] w w':=⟨h.os,h.tape,h.output,h.size,fun i hi _=>h.blk i hi (by simp)⟩
theorem good_nil {φ:Fro} {w:World} (h:φ.ok w):Good ⟨w,[],φ⟩ [] φ w:=
 ⟨rfl,.refl _,rfl,Nat.le_refl _,fun _ _ _=>rfl,.refl _,fun _ h=>.inl h,h,fun _=>trivial,fun i b hb=>by simp [nth,Res.fp] at hb,fun i b hb=>by simp [nth,Res.fp] at hb,fun i b hb=>by simp [nth,Res.fp] at hb,fun i j _ b hb=>by simp [nth,Res.fp] at hb⟩
theorem At.effG {j:Nat} {want:Bool} (hg:o.guard=some (j,want)) {e:Nat} (hj:(ops[j]?).bind (·.dst)=some e) {d:Nat} (hd:o.dst=some d) (hn:Nat.blt d S.n=true) {b:Bool} (hb:Sees L e want b)
  {R:Type} {m:W R} {z:R} {q:R→Prop} (hF:W.ite b m (W.ret z) q) (tr:R→TA) (h:b=true→m q→EffOk S rs L o Q [] (fun rs' L'=>∃ r,q r∧rs'=rs∧L'=upd L d (tr r)))
  (k:∀ r,q r→At S rs (upd L d (.when b (tr r))) (wpList S.P ops Q rest)):At S rs L (wpList S.P ops Q (o::rest)):=by
 intro φ a w hgd ha
 have hw:Region.wanted o (yielded ops a.tmps)=b:=hb.wanted ha hg hj
 unfold wpList
 cases hbb:b with
 | true=>
  rw [if_pos (by rw [hw,hbb])]
  have h1:m q:=by rw [hbb] at hF;exact hF
  refine .inl (h hbb h1 φ a w _ hgd ha ?_)
  rintro rs' L' φ' v w' ⟨r,hr,rfl,rfl⟩ hl h1 h2 _
  refine k r hr φ' _ w' h1 ⟨h2.defers,h2.size,fun t=>?_⟩
  have:=h2.tmp t
  unfold upd at this ⊢
  cases hh:Nat.beq t d with
  | true=>rw [hh] at this;exact ⟨fun _=>this,fun e=>by rw [hbb] at e;cases e⟩
  | false=>rw [hh] at this;exact this
 | false=>
  rw [if_neg (by rw [hw,hbb];simp),hd]
  have h1:q z:=by rw [hbb] at hF;exact hF
  exact k z h1 φ _ w hgd (ha.put (.refl _) (Nat.blt_lt hn) ⟨(fun hb'=>by rw [hbb] at hb';cases hb'),fun _=>rfl⟩)
def resv (tmps:Array Value):ResultVar→Sem Value
 | .tmp t=>pure (tmps.getD t undef)
 | .cell p t=>do loadVar t (← asAddr (tmps.getD p undef))
theorem results_eq (fn:Func) (tmps:Array Value):results fn tmps=(do let vs ← fn.results.mapM (resv tmps);pure (if h:vs.size=1 then vs[0] else .tuple vs)):=by
 unfold results
 have:(fun (x:ResultVar)=>(match x with | .tmp t=>pure (tmps.getD t undef) | .cell a t=>do loadVar t (← asAddr (tmps.getD a undef)):Sem Value))=resv tmps:=by
  funext r;cases r<;>rfl
 rw [← this]
 rfl
def RV (S:Sit) (rs:List Res) (L:Nat→TA) (r:ResultVar) (x:TA):Prop:=∀ φ a w,Good S.C rs φ w→Agree S.n L φ a→∃ v,(resv a.tmps r).run S.P w=.ok v w∧x.p φ v
theorem rv_tmp {t:Nat} {x:TA} (h:L t=x):RV S rs L (.tmp t) x:=fun φ a w _ ha=>⟨_,rfl,by rw [← h];exact ha.tmp t⟩
theorem rv_cell {p:Nat} {T:TypeId} {g:Nat} (hp:L p=.eq (.pointer (some ⟨g,0,none⟩))) (i:Nat) {T0:TypeId} {K:Kind α} {x:α} (hi:nth rs i=.box g T0 K x) (hT:Ty S.P T K):RV S rs L (.cell p T) (.tv K x):=fun φ a w hgd ha=>by
 have h1:=hgd.res i
 rw [hi] at h1
 obtain ⟨cs,hb,hr⟩:=h1
 have he:a.tmps.getD p undef=.pointer (some ⟨g,0,none⟩):=by have:=ha.tmp p;rw [hp] at this;exact this
 have:=run_loadVar (P:=S.P) hT hr (w:=w) (a:=⟨g,0,none⟩) (fun j v hj=>by rw [addr_lit,cell_of_block hb];simpa using hj)
 exact ⟨_,by simp only [resv,he,asAddr,Sem.run_bind,Sem.run_pure,Result.andThen_ok,this],cs,hr,rfl⟩
variable {fn : Func} {post : TA → List Res → Prop}
theorem At.ret_0 (hr:fn.results=#[]) (is:List Nat) (hd:distinct' is=true) (hp:post (.eq (.tuple #[])) (pick rs is)):At S rs L (bodyPost S.P fn (RetQ S.C post) .ret):=fun φ a w hg ha=>
 ⟨ha.defers,.tuple #[],by simp [results,hr],_,φ,_,_,rfl,(show (TA.eq (.tuple #[])).p φ _ from rfl),hp,hg.picked is hd⟩
theorem At.j {r:ResultVar} (hr:fn.results=#[r]) {x:TA} (hx:RV S rs L r x) (is:List Nat) (hd:distinct' is=true) (hp:post x (pick rs is)):At S rs L (bodyPost S.P fn (RetQ S.C post) .ret):=fun φ a w hg ha=>by
 obtain ⟨v,hrun,hv⟩:=hx φ a w hg ha
 refine ⟨ha.defers,v,?_,v,φ,x,_,rfl,hv,hp,hg.picked is hd⟩
 rw [results_eq,hr]
 simp [hrun]
theorem At.ret_2 {r s:ResultVar} (hr:fn.results=#[r,s]) {x y:TA} (hx:RV S rs L r x) (hy:RV S rs L s y) (is:List Nat) (hd:distinct' is=true) (hp:post (.tup2 x y) (pick rs is)):At S rs L (bodyPost S.P fn (RetQ S.C post) .ret):=fun φ a w hg ha=>by
 obtain ⟨v,hrun,hv⟩:=hx φ a w hg ha
 obtain ⟨u,hrun2,hu⟩:=hy φ a w hg ha
 refine ⟨ha.defers,.tuple #[v,u],?_,_,φ,_,_,rfl,(show (TA.tup2 x y).p φ _ from ⟨v,u,rfl,hv,hu⟩),hp,hg.picked is hd⟩
 rw [results_eq,hr]
 simp [hrun,hrun2]
theorem At.norm {fn:Func} {R:Ending→World→Prop} (h:At S rs L (bodyPost S.P fn R .ret)):At S rs L (bodyPost S.P fn R .normal):=h
section
variable {P : Program} {ops : Array Oper} {Q : Exit → Act → World → Prop} {md : Region.Mode} {S : Array Bool → World → Prop}
def Closed (md:Region.Mode) (ops:Array Oper) (D:Array Bool):Prop:=∀ k ok e,ops[k]?=some ok→D.getD k false=true→e∈ok.after→Region.binds md e=true→D.getD e.on false=true
theorem getD_false_of {D:Array Bool} {i:Nat} (h:D.getD i true=false):D.getD i false=false:=by
 rcases Nat.lt_or_ge i D.size with h' | h'
 ·simp [h'] at h ⊢;exact h
 ·simp [Array.getElem?_eq_none h'] at h ⊢
theorem getD_set_back {D:Array Bool} {i k:Nat} (h:(D.setIfInBounds i true).getD k false=false):D.getD k false=false:=by
 cases e:D.getD k false with
 | false=>rfl
 | true=>rw [getD_set_true e] at h;cases h
theorem getD_set_ne' {D:Array Bool} {i k:Nat} (h:i≠k):(D.setIfInBounds i true).getD k false=D.getD k false:=getD_set_ne false h
theorem Closed.next {D:Array Bool} (h:Closed md ops D) {j:Nat} (hj:j∈Region.ready md ops D):Closed md ops (D.setIfInBounds j true):=by
 intro k ok e hk hd he hb
 by_cases hjk:j=k
 ·subst hjk
  obtain ⟨_,o,ho,hall⟩:=mem_ready.1 hj
  rw [ho] at hk
  injection hk with hk
  subst hk
  exact getD_set_true (hall e he hb)
 ·rw [getD_set_ne' hjk] at hd
  exact getD_set_true (h k ok e hk hd he hb)
def wpAnyD (P:Program) (md:Region.Mode) (ops:Array Oper) (Q:Exit→Act→World→Prop) (S:Array Bool→World→Prop):Nat→Array Bool→Act→World→Prop
 | 0,D,a,w=>Region.ready md ops D=[]∧Q .normal a w
 | fuel+1,D,a,w=>Closed md ops D→(Region.ready md ops D=[]→Q .normal a w) ∧
  ∀ i∈Region.ready md ops D,wpOp P ops Q i (fun a' w'=>S (D.setIfInBounds i true) w'∧wpAnyD P md ops Q S fuel (D.setIfInBounds i true) a' w') a w
theorem wpAny_of_D:∀ (fuel:Nat) (D:Array Bool) (a:Act) (w:World),Closed md ops D→wpAnyD P md ops Q S fuel D a w→wpAny P md ops Q fuel D a w
 | 0,_,_,_,_,h=>h
 | fuel+1,_,_,_,hc,h=>⟨(h hc).1,fun i hi=>wpOp_mono (fun a' w' h'=>wpAny_of_D fuel _ a' w' (hc.next hi) h'.2) ((h hc).2 i hi)⟩
theorem wpAnyD_first {i:Nat} {oi:Oper} {v:Value} (hi:ops[i]?=some oi) (hsel:∀ (j:Nat) (o:Oper) cs b,ops[j]?=some o→o.op≠.select cs b)
  (hQ:∀ c a w,Q (.panic c) (a.put oi.dst v) w→Q (.panic c) a w) (hmono:∀ D w,S D w→S (D.setIfInBounds i true) w) (hback:∀ D w,S (D.setIfInBounds i true) w→S D w) :
  ∀ (fuel:Nat) (D:Array Bool) (a:Act) (w:World),
   (∀ j oj,ops[j]?=some oj→j≠i→D.getD j true=false→(∀ e∈oj.after,Region.binds md e=true→e.on≠i)→oi.apart ops oj=true) →
   i∈Region.ready md ops D→YieldsIf P ops (fun w=>∃ D,Closed md ops D∧D.getD i true=false∧S D w) oi v a→S D w →
   wpAnyD P md ops Q S fuel (D.setIfInBounds i true) (a.put oi.dst v) w→wpAnyD P md ops Q S (fuel+1) D a w:=by
 intro fuel
 induction fuel with
 | zero=>
  intro D a w _ hr hy hS H hc
  refine ⟨fun h=>(by rw [h] at hr;cases hr),fun j hj=>?_⟩
  by_cases hji:j=i
  ·subst hji;exact hy.wpOp hi ⟨D,hc,(mem_ready.1 hr).1,hS⟩ ⟨hmono _ _ hS,H⟩
  ·have:=ready_mono hj hji
   rw [H.1] at this
   cases this
 | succ fuel ih=>
  intro D a w hfree hr hy hS H hc
  refine ⟨fun h=>(by rw [h] at hr;cases hr),fun j hj=>?_⟩
  by_cases hji:j=i
  ·subst hji;exact hy.wpOp hi ⟨D,hc,(mem_ready.1 hr).1,hS⟩ ⟨hmono _ _ hS,H⟩
  ·have h1:=(H (hc.next hr)).2 j (ready_mono hj hji)
   obtain ⟨hjun,oj,hoj,hall⟩:=mem_ready.1 hj
   have hnot:∀ e∈oj.after,Region.binds md e=true→e.on≠i:=fun e he hb heq=>by
    have h1:=hall e he hb
    have h0:=(mem_ready.1 hr).1
    rw [heq] at h1
    have:=getD_false_of h0
    rw [this] at h1
    cases h1
   have h2:=wpOp_putIf hoj (hfree j oj hoj hji hjun hnot) (fun cs b=>hsel i oi cs b hi) (fun cs b=>hsel j oj cs b hoj) hQ hy h1
   have hfree':∀ k ok,ops[k]?=some ok→k≠i→(D.setIfInBounds j true).getD k true=false →
     (∀ e∈ok.after,Region.binds md e=true→e.on≠i)→oi.apart ops ok=true:=fun k ok hk hki hun hno=>by
    refine hfree k ok hk hki ?_ hno
    by_cases hjk:j=k
    ·subst hjk;exact hjun
    ·rw [getD_set_ne true hjk] at hun;exact hun
   refine wpOp_mono (fun a' w' h3=>?_) h2
   have e:(D.setIfInBounds i true).setIfInBounds j true=(D.setIfInBounds j true).setIfInBounds i true:=Array.setIfInBounds_comm _ _ (Ne.symm hji)
   have hS':S (D.setIfInBounds j true) w':=hback _ _ (by rw [← e];exact h3.2.1)
   refine ⟨hS',ih (D.setIfInBounds j true) a' w' hfree' (ready_mono hr (Ne.symm hji)) h3.1 hS' ?_⟩
   rw [← e]
   exact h3.2.2
end
structure HCtx where
 φ:Fro
 w1:World
 base:List Res
 wrs:List (List Nat)
structure HeldD (H:HCtx) (D:Array Bool) (w:World):Prop where
 fro:H.φ.ok w
 blk:∀ q,(∀ k∈H.wrs.getD q [],D.getD k false=false)→∀ b∈(nth H.base q).fp,w.heap[b]?=H.w1.heap[b]?
theorem HeldD.mono {H:HCtx} {D:Array Bool} {w:World} (h:HeldD H D w) (i:Nat):HeldD H (D.setIfInBounds i true) w:=⟨h.fro,fun q hq=>h.blk q fun k hk=>getD_set_back (hq k hk)⟩
theorem HeldD.back {H:HCtx} {D:Array Bool} {w:World} {i:Nat} (hi:∀ q,i∉H.wrs.getD q []) (h:HeldD H (D.setIfInBounds i true) w):HeldD H D w:=⟨h.fro,fun q hq=>h.blk q fun k hk=>by
 rw [getD_set_ne' (fun e=>hi q (by rw [e];exact hk))]
 exact hq k hk⟩
def AtH (S:Sit) (H:HCtx) (D:Array Bool) (rs:List Res) (L0 L:Nat→TA) (G:Act→World→Prop):Prop:=∀ φ a w,H.φ.le φ→Good S.C rs φ w→Agree S.n L0 H.φ a→Agree S.n L φ a→HeldD H D w→G a w
theorem step_drew (w:World):Step [] w { w with drawn:=w.drawn+1 }:=⟨rfl,⟨rfl,Nat.le_succ _⟩,rfl,Nat.le_refl _,fun _ _ _=>rfl⟩
theorem At.draw {id:Nat} {l:List Oper} (hm:S.P.follows .mixedOrders=true) (is:List Nat) (hd:distinct' is=true) (wrs:List (List Nat))
  (k:∀ (φ:Fro) (w1:World),Good S.C (pick rs is) φ w1→AtH S ⟨φ,w1,pick rs is,wrs⟩ (Array.replicate l.length false) rs L L (wpAnyD S.P .any l.toArray Q (HeldD ⟨φ,w1,pick rs is,wrs⟩) l.length (Array.replicate l.length false))):At S rs L ((Code.region id l.toArray true).wp S.P Q):=fun φ a w hg ha=>by
 have hg':=hg.grow (step_drew w)
 refine wp_region_any hm (wpAny_of_D (S:=HeldD ⟨φ,{ w with drawn:=w.drawn+1 },pick rs is,wrs⟩) _ _ _ _ ?_ ?_)
 ·intro k ok e _ hd' _ _
  simp only [Array.getD_eq_getD_getElem?,Array.getElem?_replicate] at hd'
  split at hd'<;>simp at hd'
 ·have h1:=hg'.picked is hd
  have:=k φ { w with drawn:=w.drawn+1 } h1 φ a _ (.refl _) hg' ha ha ⟨hg'.fro,fun _ _ _ _=>rfl⟩
  simpa using this
section
variable {H : HCtx} {fuel : Nat} {D D' : Array Bool} {i : Nat}
def waits (ops:Array Oper) (k i:Nat):Bool:=match ops[k]? with | some o=>o.after.any fun e=>Region.binds .any e&&Nat.beq e.on i | none=>false
def freeB (ops:Array Oper) (wrs:List (List Nat)) (us:List Nat) (D D':Array Bool) (i:Nat):Bool:=Region.noSelect ops&&Region.free .any ops D i&&(Region.ready .any ops D).contains i&&(D.setIfInBounds i true==D') &&
 distinct' us&&(wrs.all fun l=>l.all fun k=>!(Nat.beq k i))&&us.all fun u=>(wrs.getD u []).all fun k=>waits ops k i
theorem freeB_spec {wrs:List (List Nat)} {us:List Nat} (h:freeB ops wrs us D D' i=true):Region.noSelect ops=true∧Region.free .any ops D i=true∧i∈Region.ready .any ops D∧D.setIfInBounds i true=D'∧distinct' us=true∧(∀ q,i∉wrs.getD q [])∧∀ u∈us,∀ k∈wrs.getD u [],waits ops k i=true:=by
 simp only [freeB,Bool.and_eq_true,beq_iff_eq,List.all_eq_true] at h
 obtain ⟨⟨⟨⟨⟨⟨h1,h2⟩,h3⟩,h4⟩,h5⟩,h6⟩,h7⟩:=h
 refine ⟨h1,h2,by simpa using h3,h4,h5,fun q hm=>?_,h7⟩
 rw [List.getD_eq_getElem?_getD] at hm
 cases hq:wrs[q]? with
 | none=>rw [hq] at hm;simp at hm
 | some l=>
  rw [hq] at hm
  have:=h6 l (List.mem_of_getElem? hq) i (by simpa using hm)
  simp at this
theorem held_of {us:List Nat} (hw:∀ u∈us,∀ k∈H.wrs.getD u [],waits ops k i=true) {w:World} (h:∃ D,Closed .any ops D∧D.getD i true=false∧HeldD H D w):Held H.φ (pick H.base us) H.w1 w:=by
 obtain ⟨D,hc,hi,hh⟩:=h
 refine ⟨hh.fro,fun q b hb=>?_⟩
 rw [pick,nth_map] at hb
 cases hq:us[q]? with
 | none=>rw [hq] at hb;simp [Res.fp] at hb
 | some u=>
  rw [hq] at hb
  refine hh.blk u (fun k hk=>?_) b hb
  have h1:=hw u (List.mem_of_getElem? hq) k hk
  cases e:D.getD k false with
  | false=>rfl
  | true=>
   unfold waits at h1
   split at h1
   ·rename_i o ho
    obtain ⟨m,hm,hb'⟩:=Array.any_eq_true.1 h1
    simp only [Bool.and_eq_true] at hb'
    have h2:=hc k o _ ho e (Array.getElem_mem hm) hb'.1
    rw [Nat.eq_of_beq_eq_true hb'.2,getD_false_of hi] at h2
    cases h2
   ·cases h1
theorem AtH.take {L0:Nat→TA} (us:List Nat) (hb:Good S.C H.base H.φ H.w1) (i:Nat) (hi:ops[i]?=some o) (hg:o.guard=none) {d:Nat} (hd:o.dst=some d) (hn:Nat.blt d S.n=true) (hfree:freeB ops H.wrs us D D' i=true) (hQ:∀ c a v w,Q (.panic c) (a.put (some d) v) w→Q (.panic c) a w) {x:TA} {op:Op} (ho:o.op=op) (hx:Does S (pick H.base us) L0 op o.type x)
  (k:AtH S H D' rs (upd L0 d x) (upd L d x) (wpAnyD S.P .any ops Q (HeldD H) fuel D')):AtH S H D rs L0 L (wpAnyD S.P .any ops Q (HeldD H) (fuel+1) D):=fun φ a w hle hgd ha0 ha hh=>by
 obtain ⟨h1,h2,h3,h4,h5,h6,h7⟩:=freeB_spec hfree
 obtain ⟨v,hv,hrun⟩:=hx o ho rfl H.φ a H.w1 (hb.picked us h5) ha0
 refine wpAnyD_first (v:=v) hi (Region.noSelect_spec h1) (by rw [hd];exact fun c a w=>hQ c a v w) (fun D w h=>h.mono i) (fun D w h=>h.back h6) fuel D a w (Region.free_spec hi h2) h3 (.inl ⟨by simp [Region.wanted,hg],fun w' hw'=>hrun w' (held_of h7 hw')⟩) hh ?_
 rw [hd,h4]
 exact k φ _ w hle hgd (ha0.put (.refl _) (Nat.blt_lt hn) hv) (ha.put (.refl _) (Nat.blt_lt hn) (TA.mono hle hv)) (by rw [← h4];exact hh.mono i)
theorem AtH.vo {L0:Nat→TA} (us:List Nat) (hb:Good S.C H.base H.φ H.w1) (i:Nat) (hi:ops[i]?=some o) {j:Nat} {want:Bool} (hg:o.guard=some (j,want)) {e:Nat} (hj:(ops[j]?).bind (·.dst)=some e) {b:Bool} (hbb:Sees L0 e want b) {d:Nat} (hd:o.dst=some d) (hn:Nat.blt d S.n=true) (hfree:freeB ops H.wrs us D D' i=true) (hQ:∀ c a v w,Q (.panic c) (a.put (some d) v) w→Q (.panic c) a w) {x:TA} {op:Op} (ho:o.op=op) (hx:b=true→Does S (pick H.base us) L0 op o.type x)
  (k:AtH S H D' rs (upd L0 d (.when b x)) (upd L d (.when b x)) (wpAnyD S.P .any ops Q (HeldD H) fuel D')):AtH S H D rs L0 L (wpAnyD S.P .any ops Q (HeldD H) (fuel+1) D):=fun φ a w hle hgd ha0 ha hh=>by
 obtain ⟨h1,h2,h3,h4,h5,h6,h7⟩:=freeB_spec hfree
 have hw:Region.wanted o (yielded ops a.tmps)=b:=hbb.wanted ha0 hg hj
 cases hb2:b with
 | true=>
  obtain ⟨v,hv,hrun⟩:=hx hb2 o ho rfl H.φ a H.w1 (hb.picked us h5) ha0
  refine wpAnyD_first (v:=v) hi (Region.noSelect_spec h1) (by rw [hd];exact fun c a w=>hQ c a v w) (fun D w h=>h.mono i) (fun D w h=>h.back h6) fuel D a w (Region.free_spec hi h2) h3 (.inl ⟨by rw [hw,hb2],fun w' hw'=>hrun w' (held_of h7 hw')⟩) hh ?_
  rw [hd,h4]
  exact k φ _ w hle hgd (ha0.put (.refl _) (Nat.blt_lt hn) ⟨fun _=>hv,fun e=>by rw [hb2] at e;cases e⟩) (ha.put (.refl _) (Nat.blt_lt hn) ⟨fun _=>TA.mono hle hv,fun e=>by rw [hb2] at e;cases e⟩) (by rw [← h4];exact hh.mono i)
 | false=>
  refine wpAnyD_first (v:=undef) hi (Region.noSelect_spec h1) (by rw [hd];exact fun c a w=>hQ c a undef w) (fun D w h=>h.mono i) (fun D w h=>h.back h6) fuel D a w (Region.free_spec hi h2) h3 (.inr ⟨by rw [hw,hb2],rfl⟩) hh ?_
  rw [hd,h4]
  exact k φ _ w hle hgd (ha0.put (.refl _) (Nat.blt_lt hn) ⟨(fun hb'=>by rw [hb2] at hb';cases hb'),fun _=>rfl⟩) (ha.put (.refl _) (Nat.blt_lt hn) ⟨(fun hb'=>by rw [hb2] at hb';cases hb'),fun _=>rfl⟩) (by rw [← h4];exact hh.mono i)
def readyIs (ops:Array Oper) (D:Array Bool) (l:List Nat):Bool:=Region.ready .any ops D==l
theorem AtH.all {L0:Nat→TA} (l:List Nat) (hr:readyIs ops D l=true) (hne:l.isEmpty=false) (k:∀ i,i∈l→AtH S H D rs L0 L (wpOp S.P ops Q i (fun a' w'=>HeldD H (D.setIfInBounds i true) w'∧wpAnyD S.P .any ops Q (HeldD H) fuel (D.setIfInBounds i true) a' w'))) :
  AtH S H D rs L0 L (wpAnyD S.P .any ops Q (HeldD H) (fuel+1) D):=fun φ a w hle hgd ha0 ha hh _=>by
 have hr':Region.ready .any ops D=l:=by simpa [readyIs] using hr
 refine ⟨fun h0=>?_,fun i hi=>k i (by rw [← hr'];exact hi) φ a w hle hgd ha0 ha hh⟩
 rw [hr'] at h0
 rw [h0] at hne
 simp at hne
theorem AtH.all1 {L0:Nat→TA} (i:Nat) (hr:readyIs ops D [i]=true) (k:AtH S H D rs L0 L (wpOp S.P ops Q i (fun a' w'=>HeldD H (D.setIfInBounds i true) w'∧wpAnyD S.P .any ops Q (HeldD H) fuel (D.setIfInBounds i true) a' w'))) :
  AtH S H D rs L0 L (wpAnyD S.P .any ops Q (HeldD H) (fuel+1) D):=AtH.all [i] hr rfl (by intro j hj;rw [List.mem_singleton.1 hj];exact k)
theorem AtH.all2 {L0:Nat→TA} (i j:Nat) (hr:readyIs ops D [i,j]=true) (k:AtH S H D rs L0 L (wpOp S.P ops Q i (fun a' w'=>HeldD H (D.setIfInBounds i true) w'∧wpAnyD S.P .any ops Q (HeldD H) fuel (D.setIfInBounds i true) a' w'))) (k2:AtH S H D rs L0 L (wpOp S.P ops Q j (fun a' w'=>HeldD H (D.setIfInBounds j true) w'∧wpAnyD S.P .any ops Q (HeldD H) fuel (D.setIfInBounds j true) a' w'))) :
  AtH S H D rs L0 L (wpAnyD S.P .any ops Q (HeldD H) (fuel+1) D):=AtH.all [i,j] hr rfl (by
 intro l hl
 rcases List.mem_cons.1 hl with rfl | hl
 ·exact k
 ·rw [List.mem_singleton.1 hl];exact k2)
theorem AtH.all3 {L0:Nat→TA} (i j l:Nat) (hr:readyIs ops D [i,j,l]=true) (k:AtH S H D rs L0 L (wpOp S.P ops Q i (fun a' w'=>HeldD H (D.setIfInBounds i true) w'∧wpAnyD S.P .any ops Q (HeldD H) fuel (D.setIfInBounds i true) a' w'))) (k2:AtH S H D rs L0 L (wpOp S.P ops Q j (fun a' w'=>HeldD H (D.setIfInBounds j true) w'∧wpAnyD S.P .any ops Q (HeldD H) fuel (D.setIfInBounds j true) a' w'))) (k3:AtH S H D rs L0 L (wpOp S.P ops Q l (fun a' w'=>HeldD H (D.setIfInBounds l true) w'∧wpAnyD S.P .any ops Q (HeldD H) fuel (D.setIfInBounds l true) a' w'))) :
  AtH S H D rs L0 L (wpAnyD S.P .any ops Q (HeldD H) (fuel+1) D):=AtH.all [i,j,l] hr rfl (by
 intro n hl
 rcases List.mem_cons.1 hl with rfl | hl
 ·exact k
 ·rcases List.mem_cons.1 hl with rfl | hl
  ·exact k2
  ·rw [List.mem_singleton.1 hl];exact k3)
def covB (wrs:List (List Nat)) (ps:List (Nat×Nat)) (D':Array Bool) (tp:List Nat) (n:Nat):Bool:=
 ((List.range n).all fun q=>(ps.any fun p=>Nat.beq p.1 q)||(wrs.getD q []).any fun k=>D'.getD k false)&&tp.all fun t=>ps.all fun p=>!(Nat.beq t p.2)
theorem heldD_kept {ps:List (Nat×Nat)} {n:Nat} (hn:H.base.length=n) (hps:ps.map (fun p=>nth rs p.2)=ps.map (fun p=>nth H.base p.1)) {tp:List Nat} (hc:covB H.wrs ps D' tp n=true) (hD:D.setIfInBounds i true=D') {φ φ':Fro} {w w':World} {rs':List Res} (hle:H.φ.le φ) (hle':φ.le φ') (hgd:Good S.C rs φ w) (h1:Good S.C rs' φ' w') (hh:HeldD H D w) (hst:Step (blocksOf (tp.map (nth rs))) w w'):HeldD H D' w':=by
 simp only [covB,Bool.and_eq_true,List.all_eq_true,List.mem_range,Bool.or_eq_true] at hc
 refine ⟨⟨fun a v e=>h1.fro.cell a v (hle'.cell _ _ (hle.cell _ _ e)),fun b o e=>h1.fro.obj b o (hle'.obj _ _ (hle.obj _ _ e))⟩,fun q hq b hb=>?_⟩
 subst hD
 rw [← hh.blk q (fun k hk=>getD_set_back (hq k hk)) b hb]
 by_cases hqn:q<n
 ·rcases hc.1 q hqn with h2 | h2
  ·obtain ⟨p,hp,hpq⟩:=List.any_eq_true.1 h2
   have hpq:=Nat.eq_of_beq_eq_true hpq
   have e:nth rs p.2=nth H.base p.1:=by
    obtain ⟨m,hm⟩:=List.mem_iff_getElem?.1 hp
    have h3:=congrArg (fun l=>l[m]?) hps
    simp only [List.getElem?_map,hm,Option.map_some] at h3
    injection h3
   rw [← hpq,← e] at hb
   refine hst.blk b (hgd.lt p.2 b hb) (fun hm=>?_)
   obtain ⟨r,hr⟩:=mem_blocksOf.1 hm
   rw [nth_map] at hr
   cases hp':tp[r]? with
   | none=>rw [hp'] at hr;simp [Res.fp] at hr
   | some t=>
    rw [hp'] at hr
    refine hgd.dis t p.2 (fun e=>?_) b hr hb
    have h4:=hc.2 t (List.mem_of_getElem? hp') p hp
    rw [e] at h4
    simp at h4
  ·obtain ⟨k,hk,hkd⟩:=List.any_eq_true.1 h2
   rw [hq k hk] at hkd
   cases hkd
 ·rw [nth_ge (by omega)] at hb
  simp [Res.fp] at hb
theorem AtH.f {L0:Nat→TA} (ps:List (Nat×Nat)) {n:Nat} (hbn:H.base.length=n) (hps:ps.map (fun p=>nth rs p.2)=ps.map (fun p=>nth H.base p.1)) (hi:ops[i]?=some o) (hg:o.guard=none) {d:Nat} (hd:o.dst=some d) (hn:Nat.blt d S.n=true) {tp:List Nat} {Post:List Res→(Nat→TA)→Prop} (h:EffOk S rs L o Q tp Post) (hD:(D.setIfInBounds i true==D')=true) (hc:covB H.wrs ps D' tp n=true)
  (k:∀ rs' L',Post rs' L'→∃ x0,(x0=.any∨(L' d=x0∧Flat x0))∧AtH S H D' rs' (upd L0 d x0) L' (wpAnyD S.P .any ops Q (HeldD H) fuel D')) :
  AtH S H D rs L0 L (wpOp S.P ops Q i (fun a' w'=>HeldD H (D.setIfInBounds i true) w'∧wpAnyD S.P .any ops Q (HeldD H) fuel (D.setIfInBounds i true) a' w')):=fun φ a w hle hgd ha0 ha hh=>by
 rw [beq_iff_eq] at hD
 unfold wpOp
 simp only [hi]
 rw [if_pos (by simp [Region.wanted,hg])]
 refine .inl (h φ a w _ hgd ha ?_)
 intro rs' L' φ' v w' hp hle' h1 h2 hst
 have hh':=heldD_kept hbn hps hc hD hle hle' hgd h1 hh hst
 obtain ⟨x0,hx0,hk⟩:=k rs' L' hp
 rw [hD]
 refine ⟨hh',hk φ' _ w' (hle.trans hle') h1 (ha0.putE (.refl _) hd hn ?_) h2 hh'⟩
 rcases hx0 with rfl | ⟨hx,hf⟩
 ·trivial
 ·have:=h2.tmp d
  rw [hx,hd] at this
  have hv:(a.put (some d) v).tmps.getD d undef=v:=by simp [Act.put,Array.getD_eq_getD_getElem?,ha.size,Nat.blt_lt hn]
  rw [hv] at this
  exact hf _ _ _ this
theorem AtH.eff0 {L0:Nat→TA} (ps:List (Nat×Nat)) {n:Nat} (hbn:H.base.length=n) (hps:ps.map (fun p=>nth rs p.2)=ps.map (fun p=>nth H.base p.1)) (hi:ops[i]?=some o) (hg:o.guard=none) (hd:o.dst=none) {tp:List Nat} {Post:List Res→(Nat→TA)→Prop} (h:EffOk S rs L o Q tp Post) (hD:(D.setIfInBounds i true==D')=true) (hc:covB H.wrs ps D' tp n=true)
  (k:∀ rs' L',Post rs' L'→AtH S H D' rs' L0 L' (wpAnyD S.P .any ops Q (HeldD H) fuel D')) :
  AtH S H D rs L0 L (wpOp S.P ops Q i (fun a' w'=>HeldD H (D.setIfInBounds i true) w'∧wpAnyD S.P .any ops Q (HeldD H) fuel (D.setIfInBounds i true) a' w')):=fun φ a w hle hgd ha0 ha hh=>by
 rw [beq_iff_eq] at hD
 unfold wpOp
 simp only [hi]
 rw [if_pos (by simp [Region.wanted,hg])]
 refine .inl (h φ a w _ hgd ha ?_)
 intro rs' L' φ' v w' hp hle' h1 h2 hst
 have hh':=heldD_kept hbn hps hc hD hle hle' hgd h1 hh hst
 rw [hD]
 exact ⟨hh',k rs' L' hp φ' _ w' (hle.trans hle') h1 (ha0.putN (.refl _) hd) h2 hh'⟩
theorem AtH.effG {L0:Nat→TA} (ps:List (Nat×Nat)) {n:Nat} (hbn:H.base.length=n) (hps:ps.map (fun p=>nth rs p.2)=ps.map (fun p=>nth H.base p.1)) (hi:ops[i]?=some o) {j:Nat} {want:Bool} (hg:o.guard=some (j,want)) {e:Nat} (hj:(ops[j]?).bind (·.dst)=some e) {d:Nat} (hd:o.dst=some d) (hn:Nat.blt d S.n=true) {b:Bool} (hb:Sees L e want b) (hD:(D.setIfInBounds i true==D')=true) (hc:covB H.wrs ps D' [] n=true)
  {R:Type} {m:W R} {z:R} {q:R→Prop} (hF:W.ite b m (W.ret z) q) (tr:R→TA) (hfl:∀ r,Flat (tr r)) (h:b=true→m q→EffOk S rs L o Q [] (fun rs' L'=>∃ r,q r∧rs'=rs∧L'=upd L d (tr r)))
  (k:∀ r,q r→AtH S H D' rs (upd L0 d (.when b (tr r))) (upd L d (.when b (tr r))) (wpAnyD S.P .any ops Q (HeldD H) fuel D')) :
  AtH S H D rs L0 L (wpOp S.P ops Q i (fun a' w'=>HeldD H (D.setIfInBounds i true) w'∧wpAnyD S.P .any ops Q (HeldD H) fuel (D.setIfInBounds i true) a' w')):=fun φ a w hle hgd ha0 ha hh=>by
 rw [beq_iff_eq] at hD
 have hw:Region.wanted o (yielded ops a.tmps)=b:=hb.wanted ha hg hj
 unfold wpOp
 simp only [hi]
 cases hbb:b with
 | true=>
  rw [if_pos (by rw [hw,hbb])]
  have h1:m q:=by rw [hbb] at hF;exact hF
  refine .inl (h hbb h1 φ a w _ hgd ha ?_)
  rintro rs' L' φ' v w' ⟨r,hr,rfl,rfl⟩ hle' h1 h2 hst
  have hh':=heldD_kept hbn hps hc hD hle hle' hgd h1 hh hst
  have hv:(tr r).p φ' v:=by
   have:=h2.tmp d
   rw [hd] at this
   have hv:(a.put (some d) v).tmps.getD d undef=v:=by simp [Act.put,Array.getD_eq_getD_getElem?,ha.size,Nat.blt_lt hn]
   rw [hv] at this
   unfold upd at this
   have e:Nat.beq d d=true:=by simp
   rw [e] at this
   exact this
  rw [hD]
  refine ⟨hh',k r hr φ' _ w' (hle.trans hle') h1 (ha0.putE (.refl _) hd hn ⟨fun _=>hfl r _ _ _ hv,fun e=>by rw [hbb] at e;cases e⟩) (ha.putE hle' hd hn ⟨fun _=>hv,fun e=>by rw [hbb] at e;cases e⟩) hh'⟩
 | false=>
  rw [if_neg (by rw [hw,hbb];simp),hd,hD]
  have h1:q z:=by rw [hbb] at hF;exact hF
  have hh':HeldD H D' w:=by rw [← hD];exact hh.mono i
  exact ⟨hh',k z h1 φ _ w hle hgd (ha0.put (.refl _) (Nat.blt_lt hn) ⟨(fun hb'=>by rw [hbb] at hb';cases hb'),fun _=>rfl⟩) (ha.put (.refl _) (Nat.blt_lt hn) ⟨(fun hb'=>by rw [hbb] at hb';cases hb'),fun _=>rfl⟩) hh'⟩
theorem AtH.done {L0:Nat→TA} (hr:readyIs ops D []=true) (k:At S rs L (Q .normal)):AtH S H D rs L0 L (wpAnyD S.P .any ops Q (HeldD H) fuel D):=fun φ a w _ hgd _ ha hh=>by
 have hr':Region.ready .any ops D=[]:=by simpa [readyIs] using hr
 cases fuel with
 | zero=>exact ⟨hr',k φ a w hgd ha⟩
 | succ n=>exact fun _=>⟨fun _=>k φ a w hgd ha,by rw [hr'];simp⟩
theorem eff_does {d:Nat} (hd:o.dst=some d) (hn:Nat.blt d S.n=true) {op:Op} (ho:o.op=op) {x:TA} (h:Does S rs L op o.type x):EffOk S rs L o Q [] (fun rs' L'=>rs'=rs∧L'=upd L d x):=by
 intro φ a w K hgd ha k
 obtain ⟨v,hv,hrun⟩:=h o ho rfl φ a w hgd ha
 show o.upon S.P a _ Q _
 rw [hrun w hgd.held]
 exact k _ _ φ v w ⟨rfl,rfl⟩ (.refl _) hgd (ha.putE (.refl _) hd hn hv) (Step.refl _ w)
end
theorem row_val {φ:Fro} {w:World} {v:Value} {E:TypeId} {K:Kind α} {xs:List α} (h:(Res.row v E K xs).ok φ w):∃ A c,v=.slice A xs.length c:=by
 obtain ⟨cs,hown,_⟩:=h
 rcases hown.2 with ⟨rfl,hn⟩ | ⟨g,cap,cur,rfl,_⟩
 ·exact ⟨none,0,by rw [hn]⟩
 ·exact ⟨_,cap,rfl⟩
theorem does_len_row {T T3:TypeId} {x:Operand} {v:Value} (hx:Opd S L x (.eq v)) (i:Nat) {E:TypeId} {K:Kind α} {xs:List α} (hi:nth rs i=.row v E K xs) {E':TypeId} (hT:S.P.underlying T=some (.slice E')):Does S rs L (.call { callee:=.builtin .len,args:=#[x],argTypes:=#[T] }) T3 (.tv (kInt .i64) (xs.length:Int)):=fun o ho _ φ a w hgd ha=>by
 have h1:=hgd.res i
 rw [hi] at h1
 obtain ⟨A,c,hv⟩:=row_val h1
 have he:a.eval x=v:=hx φ a ha
 have he2:S.P.elem T=E':=by simp [Program.elem,hT]
 have hrun:∀ w,_:=fun w=>run_len_slice (P:=S.P) w T o.type A xs.length c (by rw [he2];exact hT)
 exact ⟨_,tv_int.2 rfl,fun w' _=>by simp only [execOp,ho,resolve,invoke,builtin,Sem.run_bind,Sem.run_pure,Result.andThen_ok,List.map_toArray,List.map_cons,List.map_nil,he,hv,hrun];rfl⟩
theorem row_get {φ:Fro} {w:World} {v:Value} {E:TypeId} {K:Kind α} {xs:List α} (h:(Res.row v E K xs).ok φ w) {i:Int} (z:α) (h0:0≤i) (h1:i<(xs.length:Int)) :
  ∃ g c p cc d tail,v=.slice (some ⟨g,0,none⟩) xs.length c∧w.heap[g]?=some (.cells (p++cc++d++tail).toArray E (0,0))∧p.length=i.toNat*K.sz∧K.rep φ (rd z xs i) cc∧(∀ y c',K.rep φ y c'→Reps K φ (xs.set i.toNat y) (p++c'++d))∧xs.length≤c∧c≤maxLen∧(p++cc++d++tail).length=c*K.sz∧(p++cc++d).length=xs.length*K.sz:=by
 obtain ⟨cs,hown,hreps⟩:=h
 rcases hown.2 with ⟨rfl,hn⟩ | ⟨g,cap,cur,rfl,_,hh,hle,hm,hcur,htake⟩
 ·omega
 ·obtain ⟨p,cc,d,rfl,hp,hc,hs⟩:=hreps.at i.toNat _ (rd_some (z:=z) h0 h1)
  have hcurl:cur.toList=(p++cc++d)++cur.toList.drop (xs.length*K.sz):=by
   conv=>lhs;rw [← List.take_append_drop (xs.length*K.sz) cur.toList,htake]
  refine ⟨g,cap,p,cc,d,cur.toList.drop (xs.length*K.sz),rfl,?_,hp,hc,hs,hle,hm,?_,hown.1⟩
  ·rw [← hcurl];simpa using hh
  ·rw [← hcurl];simpa using hcur
theorem does_idx_row {T E T3:TypeId} {x y:Operand} {v:Value} (hx:Opd S L x (.eq v)) (j:Nat) {K:Kind α} {xs:List α} {E':TypeId} (hj:nth rs j=.row v E' K xs) {k:IntKind} {i:Int} (hy:Opd S L y (.tv (kInt k) i)) (hT:S.P.underlying T=some (.slice E)) (hE:Ty S.P E K) (h:0≤i∧i<(xs.length:Int)) :
  Does S rs L (.indexAddr T x y) T3 (.elem (i.toNat*K.sz+0) v):=fun o ho _ φ a w hgd ha=>by
 have h1:=hgd.res j
 rw [hj] at h1
 obtain ⟨cs,hown,hreps⟩:=h1
 have hsh:∃ g c,v=.slice (some ⟨g,0,none⟩) xs.length c:=by
  rcases hown.2 with ⟨rfl,hn⟩ | ⟨g,cap,cur,rfl,_⟩
  ·omega
  ·exact ⟨g,cap,rfl⟩
 obtain ⟨g,c,rfl⟩:=hsh
 have he:a.eval x=_:=hx φ a ha
 have he2:S.P.elem T=E:=by simp [Program.elem,hT]
 have hrun:∀ w,_:=fun w=>run_indexAt_slice (P:=S.P) w T ⟨g,0,none⟩ xs.length c k i (by rw [he2];exact hT)
 simp only [if_pos h,he2,hE.size,Result.andThen_ok] at hrun
 exact ⟨_,⟨_,_,_,rfl,rfl⟩,fun w' _=>by simp only [execOp,ho,he,tv_int.1 (hy φ a ha),Sem.run_bind,hrun,Result.andThen_ok,Sem.run_pure,Nat.add_zero]⟩
theorem Jh {T T3:TypeId} {y:Operand} {v:Value} {off:Nat} (hy:Opd S L y (.elem off v)) (j:Nat) {E':TypeId} {K:Kind α} {xs:List α} (hj:nth rs j=.row v E' K xs) (i:Int) (m:Nat) (hoff:off=i.toNat*K.sz+m) (z:α) (h:0≤i∧i<(xs.length:Int))
  {M:Kind β} {get:α→β} {set:α→β→α} (hs:Sub K m M get set) (hT:Ty S.P T M):Does S rs L (.load T y) T3 (.tv M (get (rd z xs i))):=fun o ho _ φ a w hgd ha=>by
 have h1:=hgd.res j
 rw [hj] at h1
 obtain ⟨g,c,p,cc,d,tail,hv,hh,hp,hr,_⟩:=row_get h1 z h.1 h.2
 obtain ⟨p2,c2,d2,rfl,hp2,hc2,_⟩:=hs.fits hr
 obtain ⟨b,n,c3,hv2,hev⟩:=hy φ a ha
 rw [hv] at hv2
 injection hv2 with hb _ _
 injection hb with hb
 subst hb
 refine ⟨M.val c2,⟨c2,hc2,rfl⟩,fun w' hw'=>?_⟩
 have hh':w'.heap[g]?=some (.cells (p++(p2++c2++d2)++d++tail).toArray E' (0,0)):=by rw [hw'.blk j g (by rw [hj,hv];simp [Res.fp,Value.ownBlock])];exact hh
 have:=run_loadVar (P:=S.P) hT hc2 (w:=w') (a:=(⟨g,0,none⟩:Addr).add off) (fun j v hj=>by
  rw [addr_add_add,addr_mk,cell_of_block hh',hoff,← hp,← hp2]
  simp only [List.append_assoc]
  rw [List.getElem?_append_right (by omega),List.getElem?_append_right (by omega),show p.length+p2.length+j-p.length-p2.length=j by omega,List.getElem?_append_left (List.getElem?_eq_some_iff.1 hj).1]
  exact hj)
 simp [execOp,ho,Instr.loadAt,Instr.sureAddr,hev,this]
theorem eff_store_elem (hd:o.dst=none) {T:TypeId} {y q:Operand} (ho:o.op=.store T y q) {v:Value} {off:Nat} (hy:Opd S L y (.elem off v)) (j:Nat) {E':TypeId} {K:Kind α} {xs:List α} (hj:nth rs j=.row v E' K xs) (i:Int) (m:Nat) (hoff:off=i.toNat*K.sz+m) (z:α) (h:0≤i∧i<(xs.length:Int))
  {M:Kind β} {get:α→β} {set:α→β→α} (hs:Sub K m M get set) (hT:Ty S.P T M) {u:β} (hq:Opd S L q (.tv M u)):EffOk S rs L o Q [j] (fun rs' L'=>rs'=setr rs j (.row v E' K (xs.set i.toNat (set (rd z xs i) u)))∧L'=L):=by
 intro φ a w KK hgd ha k
 have h1:=hgd.res j
 have h2:=hgd.lt j
 rw [hj] at h1 h2
 obtain ⟨g,c,p,cc,d,tail,hv,hh,hp,hr,hset,hle,hm,hl1,hl2⟩:=row_get h1 z h.1 h.2
 obtain ⟨p2,c2,d2,rfl,hp2,hc2,hset2⟩:=hs.fits hr
 obtain ⟨b,n,c3,hv2,hev⟩:=hy φ a ha
 rw [hv] at hv2
 injection hv2 with hb _ _
 injection hb with hb
 subst hb
 have hh2:w.heap[g]?=some (.cells ((p++p2)++c2++(d2++d++tail)).toArray E' (0,0)):=by rw [hh];simp
 obtain ⟨c',w',hc',hrun,hw',hst⟩:=run_storeVar (P:=S.P) hT (hq φ a ha) hh2 (M.len hc2)
 have hoff':(p++p2).length=off:=by rw [List.length_append,hp,hp2,hoff]
 rw [hoff'] at hrun
 have hrun2:(execOp a.eval o).run S.P w=.ok .skip w':=by simp only [execOp,ho,hev,Instr.storeAt,Instr.sureAddr,Sem.run_bind,Sem.run_pure,Result.andThen_ok,addr_mk,hrun]
 have hfp:(Res.row v E' K xs).fp=[g]:=by simp [Res.fp,hv,Value.ownBlock]
 show o.upon S.P a _ Q _
 rw [hrun2]
 show KK (a.put o.dst undef) w'
 have hcl:c'.length=c2.length:=by rw [M.len hc',M.len hc2]
 refine k _ _ φ _ _ ⟨rfl,rfl⟩ (.refl _) (hgd.step hj (by rw [hfp];exact hst) ⟨p++(p2++c'++d2)++d,⟨?_,.inr ⟨g,c,((p++p2)++c'++(d2++d++tail)).toArray,by rw [hv,List.length_set],Nat.zero_le _,hw',by rw [List.length_set];exact hle,hm,?_,?_⟩⟩,hset _ _ (hset2 u c' hc')⟩ ?_ ?_) (ha.putN (.refl _) hd) ?_
 ·rw [List.length_set,← hl2];simp only [List.length_append];omega
 ·rw [← hl1];simp only [List.size_toArray,List.length_append];omega
 ·rw [List.length_set,← hl2]
  have:(p++p2++c'++(d2++d++tail))=(p++(p2++c'++d2)++d)++tail:=by simp
  rw [List.toList_toArray,this]
  refine List.take_left' ?_
  simp only [List.length_append];omega
 ·intro b hb';exact Nat.lt_of_lt_of_le (h2 b (by simpa [Res.fp] using hb')) hst.size
 ·intro b hb';exact .inl (by simpa [Res.fp] using hb')
 ·simpa [blocksOf,hj,hfp] using hst
theorem does_min {T1 T2 T3:TypeId} {x y:Operand} {k:IntKind} {m n:Int} (hx:Opd S L x (.tv (kInt k) m)) (hy:Opd S L y (.tv (kInt k) n)):Does S rs L (.call { callee:=.builtin .min,args:=#[x,y],argTypes:=#[T1,T2] }) T3 (.tv (kInt k) (if n<m then n else m)):=fun o ho _ φ a w hgd ha=>by
 have h1:=tv_int.1 (hx φ a ha)
 have h2:=tv_int.1 (hy φ a ha)
 exact ⟨_,tv_int.2 rfl,fun w' _=>by simp [execOp,ho,resolve,invoke,builtin,h1,h2,Builtin.min_,Builtin.min2]⟩
theorem does_max {T1 T2 T3:TypeId} {x y:Operand} {k:IntKind} {m n:Int} (hx:Opd S L x (.tv (kInt k) m)) (hy:Opd S L y (.tv (kInt k) n)):Does S rs L (.call { callee:=.builtin .max,args:=#[x,y],argTypes:=#[T1,T2] }) T3 (.tv (kInt k) (if m<n then n else m)):=fun o ho _ φ a w hgd ha=>by
 have h1:=tv_int.1 (hx φ a ha)
 have h2:=tv_int.1 (hy φ a ha)
 exact ⟨_,tv_int.2 rfl,fun w' _=>by simp [execOp,ho,resolve,invoke,builtin,h1,h2,Builtin.max_,Builtin.max2]⟩
def sMin (s t:ByteArray):ByteArray:=if (sLt s t||sEq s t)=true then s else t
def sMax (s t:ByteArray):ByteArray:=if (!sLt s t)=true then s else t
theorem does_smin {T1 T2 T3:TypeId} {x y:Operand} {m n:ByteArray} (hx:Opd S L x (.tv kStr m)) (hy:Opd S L y (.tv kStr n)):Does S rs L (.call { callee:=.builtin .min,args:=#[x,y],argTypes:=#[T1,T2] }) T3 (.tv kStr (sMin m n)):=fun o ho _ φ a w hgd ha=>by
 have h1:=tv_str.1 (hx φ a ha)
 have h2:=tv_str.1 (hy φ a ha)
 refine ⟨.string (sMin m n),tv_str.2 rfl,fun w' _=>?_⟩
 simp only [execOp,ho,resolve,invoke,builtin,h1,h2,Builtin.min_,Builtin.min2,Sem.run_bind,Sem.run_pure,Result.andThen_ok,List.map_toArray,List.map_cons,List.map_nil,List.foldlM_cons,List.foldlM_nil,Op.stringOp,asBool]
 rfl
theorem does_smax {T1 T2 T3:TypeId} {x y:Operand} {m n:ByteArray} (hx:Opd S L x (.tv kStr m)) (hy:Opd S L y (.tv kStr n)):Does S rs L (.call { callee:=.builtin .max,args:=#[x,y],argTypes:=#[T1,T2] }) T3 (.tv kStr (sMax m n)):=fun o ho _ φ a w hgd ha=>by
 have h1:=tv_str.1 (hx φ a ha)
 have h2:=tv_str.1 (hy φ a ha)
 refine ⟨.string (sMax m n),tv_str.2 rfl,fun w' _=>?_⟩
 simp only [execOp,ho,resolve,invoke,builtin,h1,h2,Builtin.max_,Builtin.max2,Sem.run_bind,Sem.run_pure,Result.andThen_ok,List.map_toArray,List.map_cons,List.map_nil,List.foldlM_cons,List.foldlM_nil,Op.stringOp,asBool]
 rfl
end
end Go.Gp
end
section
set_option linter.unusedVariables false
set_option linter.unusedSimpArgs false
set_option linter.unusedSectionVars false
namespace Go.Gp
def EqIn {α:Type} (P:Program) (T:TypeId) (K:Kind α) (eq:α→α→Bool) (D:Nat):Prop:=
 ∀ {φ:Fro} {x y:α} {cs ds:List Value} (n:Nat) (w:World),K.rep φ x cs→K.rep φ y ds→(Op.equalIn (n+D) T (K.val cs) (K.val ds)).run P w=.ok (eq x y) w
section
variable {P : Program} {T : TypeId}
theorem eqin_int {k k':IntKind} (h:P.underlying T=some (.int k')):EqIn P T (kInt k) (fun x y=>x==y) 1:=fun n w h1 h2=>by
 rw [show _=_ from h1,show _=_ from h2]
 exact run_equalIn_int w n T k k' _ _ h
theorem eqin_str (h:P.underlying T=some .string):EqIn P T kStr sEq 1:=fun n w h1 h2=>by
 rw [show _=_ from h1,show _=_ from h2]
 exact run_equalIn_string w n T _ _ h
theorem EqIn.more {α:Type} {K:Kind α} {eq:α→α→Bool} {D D':Nat} (h:EqIn P T K eq D) (hd:Nat.ble D D'=true):EqIn P T K eq D':=fun n w h1 h2=>by
 have:=Nat.le_of_ble_eq_true hd
 rw [show n+D'=(n+(D'-D))+D by omega]
 exact h _ w h1 h2
theorem run_part {α:Type} {M:Kind α} (hT:Ty P T M) {φ:Fro} {x:α} {p c d:List Value} (hc:M.rep φ x c) {off:Nat} (hp:p.length=off) (w:World):(part T (p++c++d).toArray off).run P w=.ok (M.val c) w:=by
 have hl:=M.len hc
 unfold part
 rw [Sem.run_bind,hT.agg w]
 simp only [Result.andThen_ok]
 cases ha:M.agg with
 | true=>
  simp only [if_true,Sem.run_bind,hT.size w,Result.andThen_ok,Sem.run_pure]
  have:(p++c++d).toArray.extract off (off+M.sz)=c.toArray:=by
   apply Array.ext'
   simp [← hp,← hl,List.drop_append,List.take_append]
  rw [this]
  simp [Kind.val,ha]
 | false=>
  rw [M.sc ha] at hl
  match c,hl with
  | [u],_=>
   have:(p++[u]++d).toArray[off]?=some u:=by simp [← hp]
   simp only [Bool.false_eq_true,if_false,this,Sem.run_pure]
   simp [Kind.val,ha]
def EqFs {α:Type} (P:Program) (K:Kind α) (D:Nat) (fs:List Field) (eq:α→α→Bool):Prop:=
 ∀ {φ:Fro} {x y:α} {cs ds:List Value} (n:Nat) (w:World),K.rep φ x cs→K.rep φ y ds→(Op.eqFields (n+D) cs.toArray ds.toArray fs).run P w=.ok (eq x y) w
theorem eqs_last {α β : Type} {K : Kind α} {M : Kind β} {f : Field} {D D0 : Nat} {get : α → β} {set : α → β → α} {eq : β → β → Bool} (hn : (f.name == "_") = false) (hT : Ty P f.type M) (hs : Sub K f.offset M get set) (he : EqIn P f.type M eq D0) (hd : Nat.ble D0 D = true) : EqFs P K D [f] (fun x y => eq (get x) (get y)) := by
 intro φ x y cs ds n w h1 h2
 obtain ⟨p, c, d, rfl, hp, hc, _⟩ := hs.fits h1
 obtain ⟨p2, c2, d2, rfl, hp2, hc2, _⟩ := hs.fits h2
 have hn' : f.name ≠ "_" := by simpa using hn
 simp only [Op.eqFields, if_pos hn', Sem.run_bind, run_part hT hc hp, run_part hT hc2 hp2, (he.more hd) n w hc hc2, Result.andThen_ok]
 cases eq (get x) (get y) <;> simp
theorem eqs_cons {α β : Type} {K : Kind α} {M : Kind β} {f : Field} {fs : List Field} {D D0 : Nat} {get : α → β} {set : α → β → α} {eq : β → β → Bool} {eqr : α → α → Bool} (hn : (f.name == "_") = false) (hT : Ty P f.type M) (hs : Sub K f.offset M get set) (he : EqIn P f.type M eq D0) (hd : Nat.ble D0 D = true) (hr : EqFs P K D fs eqr) :
  EqFs P K D (f :: fs) (fun x y => eq (get x) (get y) && eqr x y) := by
 intro φ x y cs ds n w h1 h2
 have hr' := hr n w h1 h2
 obtain ⟨p, c, d, rfl, hp, hc, _⟩ := hs.fits h1
 obtain ⟨p2, c2, d2, rfl, hp2, hc2, _⟩ := hs.fits h2
 have hn' : f.name ≠ "_" := by simpa using hn
 rw [Op.eqFields]
 simp only [if_pos hn', Sem.run_bind, run_part hT hc hp, run_part hT hc2 hp2, (he.more hd) n w hc hc2, Result.andThen_ok]
 cases eq (get x) (get y)
 ·simp
 ·simpa using hr'
theorem eqin_struct {α:Type} {K:Kind α} {D:Nat} {fs:Array Field} {l:List Field} {eq:α→α→Bool} (hu:P.underlying T=some (.struct fs)) (hl:fs=l.toArray) (hp:P.stoodInHeld T=false) (hK:K.agg=true) (h:EqFs P K D l eq):EqIn P T K eq (D+1):=fun {φ x y cs ds} n w h1 h2=>by
 have hf:P.fieldsOf T=fs:=by simp [Program.fieldsOf,hu]
 have e:∀ zs:List Value,K.val zs=.agg zs.toArray:=fun zs=>by simp [Kind.val,hK]
 rw [e,e,show n+(D+1)=(n+D)+1 by omega,run_equalIn_struct (P:=P) w (n+D) T _ _ (by rw [hf];exact hu) hp,hf,hl]
 simpa using h n w h1 h2
theorem eqty_of {α:Type} {K:Kind α} {D:Nat} {eq:α→α→Bool} (hK:K.agg=true) (hm:P.eqGuardType P.depth T=false) (hd:Nat.ble D 10000=true) (h:EqIn P T K eq D):EqTy P T K eq:=by
 have e:∀ zs:List Value,K.val zs=.agg zs.toArray:=fun zs=>by simp [Kind.val,hK]
 refine ⟨?_,?_,?_⟩
 ·rintro φ x y _ _ w ⟨cs,h1,rfl⟩ ⟨ds,h2,rfl⟩
  exact h.more hd 0 w h1 h2
 ·rintro φ x y _ _ op o1 o2 w ⟨cs,h1,rfl⟩ ⟨ds,h2,rfl⟩
  rw [e,e]
  exact run_eqGuard_agg w op T o1 o2 _ _ hm
 ·rintro φ x y _ _ ⟨cs,h1,rfl⟩ ⟨ds,h2,rfl⟩
  rw [e,e]
  exact ⟨rfl,rfl⟩
end
section
variable {S : Sit} {rs : List Res} {L : Nat → TA} {Q : Exit → Act → World → Prop} {ops : Array Oper} {o : Oper} {rest : List Oper} {α β γ : Type}
theorem nil_view {α:Type} (K:Kind α) (φ:Fro):(TA.tv (kSlice K) ([]:List α)).p φ (.slice none 0 0):=⟨_,⟨none,0,rfl,Nat.le_refl _,by simp [maxLen],fun h=>absurd rfl h⟩,rfl⟩
def updAll (L:Nat→TA) (x:TA):List Nat→Nat→TA
 | []=>L
 | t::ts=>upd (updAll L x ts) t x
def AllEq (L:Nat→TA) (x:TA):List Nat→Prop
 | []=>True
 | t::ts=>L t=x∧AllEq L x ts
theorem Agree.turnAll {n:Nat} {φ:Fro} {a:Act} {L0:Nat→TA} {x y:TA} {ts:List Nat} (h:Agree n L φ a) (h0:∀ t,(L0 t).p φ (a.tmps.getD t undef)∨True) (hts:∀ t∈ts,y.p φ (a.tmps.getD t undef)):Agree n (updAll L y ts) φ a:=by
 induction ts with
 | nil=>exact h
 | cons t ts ih=>exact (ih (fun t' ht'=>hts t' (List.mem_cons_of_mem _ ht'))).turn (hts t (List.mem_cons_self ..))
theorem At.freezes {G:Act→World→Prop} (i:Nat) (ts:List Nat) {v:Value} {E:TypeId} {K:Kind α} {xs:List α} (hi:nth rs i=.row v E K xs) (ht:AllEq L (.eq v) ts) (k:At S (setr rs i .emp) (updAll L (.tv (kSlice K) xs) ts) G):At S rs L G:=fun φ a w hgd ha=>by
 obtain ⟨φ',hl,hg',hv⟩:=hgd.freeze hi
 refine k φ' a w hg' ((ha.mono hl).turnAll (L0:=L) (x:=.any) (fun _=>.inr trivial) ?_)
 intro t hm
 have:L t=.eq v:=by
  clear k
  induction ts with
  | nil=>cases hm
  | cons s ts ih=>
   rcases List.mem_cons.1 hm with rfl | hm
   ·exact ht.1
   ·exact ih ht.2 hm
 have h2:=ha.tmp t
 rw [this] at h2
 rw [show a.tmps.getD t undef=v from h2]
 exact hv
def cut_l {α:Type} (xs:List α) (l:Int):List α:=xs.drop l.toNat
theorem Reps.split {K:Kind α} {φ:Fro}:∀ {xs:List α} {ds:List Value} (n:Nat),Reps K φ xs ds→Reps K φ (xs.take n) (ds.take (n*K.sz))∧Reps K φ (xs.drop n) (ds.drop (n*K.sz))
 | xs,ds,0,h=>by simpa [Reps] using h
 | [],ds,n+1,h=>by rw [show ds=[] from h];simp [Reps]
 | x::xs,ds,n+1,h=>by
  obtain ⟨c,d,rfl,hc,hd⟩:=h
  obtain ⟨h1,h2⟩:=Reps.split n hd
  have e:(n+1)*K.sz=c.length+n*K.sz:=by rw [K.len hc,Nat.add_mul,Nat.one_mul,Nat.add_comm]
  refine ⟨⟨c,_,?_,hc,h1⟩,?_⟩
  ·rw [e,List.take_append,List.take_of_length_le (by omega)]
   simp
  ·rw [e,List.drop_append,List.drop_eq_nil_of_le (show c.length≤c.length+n*K.sz by omega),show c.length+n*K.sz-c.length=n*K.sz by omega]
   simpa using h2
theorem cut_core {T E T3:TypeId} {x:Operand} {K:Kind α} {xs:List α} {lo hi:Option Operand} (hx:Opd S L x (.tv (kSlice K) xs)) (hT:S.P.underlying T=some (.slice E)) (hE:Ty S.P E K) {l h:Nat} (hlh:l≤h) (hh:h≤xs.length)
  (hlo:∀ φ a w cap,Agree S.n L φ a→xs.length≤cap→(Instr.sliceBounds true xs.length cap (lo.map a.eval) (hi.map a.eval) none).run S.P w=.ok (l,h,cap) w):Does S rs L (.slice T x lo hi none) T3 (.tv (kSlice K) ((xs.take h).drop l)):=fun o ho _ φ a w hgd ha=>by
 obtain ⟨A,c,hv,h1,h2,h3⟩:=slice_val (hx φ a ha)
 refine ⟨.slice (if c=l then A else A.map (·.add (l*K.sz))) (h-l) (c-l),⟨_,⟨if c=l then A else A.map (·.add (l*K.sz)),c-l,by rw [show ((xs.take h).drop l).length=h-l by simp;omega],by simp;omega,by omega,fun hne=>?_⟩,rfl⟩,fun w' _=>?_⟩
 ·have hlt:l<h:=by
   by_cases e:l<h
   ·exact e
   ·exfalso;apply hne;apply List.drop_eq_nil_of_le;simp;omega
  obtain ⟨b,ds,rfl,hr,hf⟩:=h3 (by rintro rfl;simp at hh;omega)
  rw [if_neg (by omega)]
  refine ⟨_,(ds.take (h*K.sz)).drop (l*K.sz),rfl,((Reps.split h hr).1 |> Reps.split l).2,fun j v hj=>?_⟩
  rw [addr_add_add]
  refine hf _ v ?_
  rw [List.getElem?_drop,List.getElem?_take] at hj
  split at hj
  ·exact hj
  ·cases hj
 ·have hb:=fun cap hc=>hlo φ a w' cap ha hc
  have e1:(Option.map (fun x=>a.eval x) lo)=lo.map a.eval:=rfl
  simp only [execOp,ho,hv,Instr.sliceAt,Instr.slice,Sem.run_bind,run_underlying hT,Result.andThen_ok,hb c h1,hE.size,Sem.run_pure,Option.map_none]
theorem run_sliceBound {P:Program} {k:IntKind} {n:Int} {y:Nat} {code:BoundsCode} (h0:0≤n) (h1:n≤(y:Int)) (w:World):(Instr.sliceBound (.int k n) y code).run P w=.ok n.toNat w:=by
 simp [Instr.sliceBound,asIntOf,h0,h1]
theorem does_cut_l {T E T3:TypeId} {x y:Operand} {K:Kind α} {xs:List α} {k:IntKind} {l:Int} (hx:Opd S L x (.tv (kSlice K) xs)) (hy:Opd S L y (.tv (kInt k) l)) (hT:S.P.underlying T=some (.slice E)) (hE:Ty S.P E K) (h:0≤l∧l≤(xs.length:Int)) :
  Does S rs L (.slice T x (some y) none none) T3 (.tv (kSlice K) (cut_l xs l)):=by
 have:=cut_core (S:=S) (rs:=rs) (L:=L) (T3:=T3) (lo:=some y) (hi:=none) hx hT hE (l:=l.toNat) (h:=xs.length) (by omega) (Nat.le_refl _) (fun φ a w cap ha hc=>by
  simp only [Instr.sliceBounds,Option.map_some,Option.map_none,tv_int.1 (hy φ a ha),Sem.run_bind,Sem.run_pure,Result.andThen_ok,run_sliceBound h.1 h.2,Option.isSome_none,Bool.false_eq_true,if_false])
 rw [List.take_length] at this
 exact this
def IdxAt (P:Program) (T:TypeId) (i k:Nat):Prop:=∀ (a:Addr) (j:IntKind) (w:World),(Instr.indexAt T (.pointer (some a)) (.int j i)).run P w=.ok (.pointer (some (a.add k))) w
theorem does_aidx_box {T T3:TypeId} {x y:Operand} {g off:Nat} (hx:Opd S L x (.eq (.pointer (some ⟨g,off,none⟩)))) {k:IntKind} {i:Nat} (hy:Opd S L y (.tv (kInt k) (i:Int))) {m:Nat} (h:IdxAt S.P T i m):Does S rs L (.indexAddr T x y) T3 (.eq (.pointer (some ⟨g,off+m,none⟩))):=fun o ho _ φ a w hgd ha=>by
 have he:a.eval x=.pointer (some ⟨g,off,none⟩):=hx φ a ha
 refine ⟨_,rfl,fun w' _=>?_⟩
 have:=h ⟨g,off,none⟩ k w'
 rw [addr_lit] at this
 simp only [execOp,ho,he,tv_int.1 (hy φ a ha),Sem.run_bind,this,Result.andThen_ok,Sem.run_pure]
theorem does_aidx_elem {T T3:TypeId} {x y:Operand} {v:Value} {off:Nat} (hx:Opd S L x (.elem off v)) {k:IntKind} {i:Nat} (hy:Opd S L y (.tv (kInt k) (i:Int))) {m:Nat} (h:IdxAt S.P T i m):Does S rs L (.indexAddr T x y) T3 (.elem (off+m) v):=fun o ho _ φ a w hgd ha=>by
 obtain ⟨b,n,c,rfl,he⟩:=hx φ a ha
 refine ⟨.pointer (some (b.add (off+m))),⟨b,n,c,rfl,rfl⟩,fun w' _=>?_⟩
 simp only [execOp,ho,he,tv_int.1 (hy φ a ha),Sem.run_bind,h _ k w',Result.andThen_ok,Sem.run_pure,addr_add_add]
theorem vr {tp:List Nat} {Post Post':List Res→(Nat→TA)→Prop} (h:EffOk S rs L o Q tp Post) (k:∀ rs' L',Post rs' L'→Post' rs' L'):EffOk S rs L o Q tp Post':=fun φ a w K hg ha kk=>h φ a w K hg ha fun rs' L' φ' v w' hp=>kk rs' L' φ' v w' (k _ _ hp)
end
end Go.Gp
end
section
set_option linter.unusedVariables false
set_option linter.unusedSimpArgs false
set_option linter.unusedSectionVars false
namespace Go.Gp
def tupl:List TA→TA
 | []=>.eq (.tuple #[])
 | a::l=>.tcons a (tupl l)
theorem tupl_all {φ:Fro}:∀ {tas:List TA} {l:List Value},(tupl tas).p φ (.tuple l.toArray)→All2 (fun (t:TA) v=>t.p φ v) tas l
 | [],l,h=>by
  have:(Value.tuple l.toArray)=.tuple #[]:=h
  injection this with e
  have:l=[]:=by simpa using e
  subst this
  exact .nil
 | a::tas,l,⟨x,l',e,h1,h2⟩=>by
  injection e with e
  have:l=x::l':=by simpa using e
  subst this
  exact .cons h1 (tupl_all h2)
theorem tupl_of {φ:Fro}:∀ {tas:List TA} {l:List Value},All2 (fun (t:TA) v=>t.p φ v) tas l→(tupl tas).p φ (.tuple l.toArray)
 | _,_,.nil=>rfl
 | _,_,.cons h r=>⟨_,_,rfl,h,tupl_of r⟩
theorem All2.append {R:TA→Value→Prop}:∀ {as bs:List TA} {us vs:List Value},All2 R as us→All2 R bs vs→All2 R (as++bs) (us++vs)
 | _,_,_,_,.nil,k=>k
 | _,_,_,_,.cons h r,k=>.cons h (r.append k)
section
variable {S : Sit} {rs rs1 : List Res} {L L1 : Nat → TA} {Q : Exit → Act → World → Prop} {ops : Array Oper} {o : Oper} {rest : List Oper} {α β γ : Type}
theorem does_cls {T:TypeId} {f:FuncId} {firsts caps:List Operand} {tas:List TA} {nf:Nat} (hn:firsts.length=nf) (h:Opds S L (firsts++caps) tas):Does S rs L (.makeFunc (.func f) firsts.toArray caps.toArray) T (.cls f nf (tupl tas)):=fun o ho _ φ a w hgd ha=>by
 refine ⟨_,⟨(firsts++caps).map a.eval,rfl,tupl_of (h φ a ha)⟩,fun w' _=>?_⟩
 subst hn
 simp [execOp,ho,Instr.makeFunc]
theorem opd_fn (f:FuncId):Opd S L (.func f) (.cls f 0 (tupl [])):=fun φ a _=>⟨[],rfl,rfl⟩
def Ent (S:Sit) (L:Nat→TA) (o:Oper) (g:FuncId) (tas:List TA):Prop:=∀ φ a,Agree S.n L φ a→∃ vs:List Value,All2 (fun (t:TA) v=>t.p φ v) tas vs∧∀ w,(execOp a.eval o).run S.P w=.ok (.enter g vs.toArray) w
theorem jq {g:FuncId} {os:List Operand} {ts:Array TypeId} (ho:o.op=.call { callee:=.value (.func g),args:=os.toArray,argTypes:=ts }) (he:Enters S.P g) {tas:List TA} (hos:Opds S L os tas):Ent S L o g tas:=fun φ a ha=>
 ⟨os.map a.eval,hos φ a ha,fun w=>run_enter ho he⟩
theorem ent_val0 {x:Operand} {g:FuncId} {os:List Operand} {ts:Array TypeId} (ho:o.op=.call { callee:=.value x,args:=os.toArray,argTypes:=ts }) {cs:List TA} (hx:Opd S L x (.cls g 0 (tupl cs))) (he:Enters S.P g) {tas:List TA} (hos:Opds S L os tas):Ent S L o g (tas++cs):=fun φ a ha=>by
 obtain ⟨l,hv,hl⟩:=hx φ a ha
 refine ⟨os.map a.eval++l,(hos φ a ha).append (tupl_all hl),fun w=>?_⟩
 have:=he (os.map a.eval++l).toArray w
 simp only [execOp,ho,resolve,hv,Deferred.ofValue,Sem.run_bind,Sem.run_pure,Result.andThen_ok,invoke,List.map_toArray]
 simpa [Deferred.ofValue,invoke] using this
theorem ent_val1 {x:Operand} {g:FuncId} {os:List Operand} {ts:Array TypeId} (ho:o.op=.call { callee:=.value x,args:=os.toArray,argTypes:=ts }) {c:TA} {cs:List TA} (hx:Opd S L x (.cls g 1 (tupl (c::cs)))) (he:Enters S.P g) {tas:List TA} (hos:Opds S L os tas):Ent S L o g (c::(tas++cs)):=fun φ a ha=>by
 obtain ⟨l,hv,hl⟩:=hx φ a ha
 cases tupl_all hl with
 | cons hc hr=>
  rename_i v l
  refine ⟨v::(os.map a.eval++l),.cons hc ((hos φ a ha).append hr),fun w=>?_⟩
  have:=he (v::(os.map a.eval++l)).toArray w
  simp only [execOp,ho,resolve,hv,Deferred.ofValue,Sem.run_bind,Sem.run_pure,Result.andThen_ok,invoke,List.map_toArray]
  simpa [Deferred.ofValue,invoke] using this
def Lends (S:Sit) (rs:List Res) (L:Nat→TA) (rs1:List Res) (L1:Nat→TA):Prop:=∀ φ a w,Good S.C rs φ w→Agree S.n L φ a→∃ φ1,φ.le φ1∧Good S.C rs1 φ1 w∧Agree S.n L1 φ1 a
theorem jp:Lends S rs L rs L:=fun φ a w hg ha=>⟨φ,.refl _,hg,ha⟩
theorem lends_row (i t:Nat) {v:Value} {E:TypeId} {K:Kind α} {xs:List α} (hi:nth rs i=.row v E K xs) (ht:L t=.eq v) (k:Lends S (setr rs i .emp) (upd L t (.tv (kSlice K) xs)) rs1 L1):Lends S rs L rs1 L1:=fun φ a w hg ha=>by
 obtain ⟨φ1,hl,hg1,hv⟩:=hg.freeze hi
 have hat:a.tmps.getD t undef=v:=by have:=ha.tmp t;rw [ht] at this;exact this
 obtain ⟨φ2,hl2,h1,h2⟩:=k φ1 a w hg1 ((ha.mono hl).turn (by rw [hat];exact hv))
 exact ⟨φ2,hl.trans hl2,h1,h2⟩
theorem Good.freezeBox {C:Ctx} {rs:List Res} {φ:Fro} {w:World} (h:Good C rs φ w) {i:Nat} {α:Type} {g:Nat} {T:TypeId} {K:Kind α} {x:α} (hi:nth rs i=.box g T K x) :
  ∃ φ',φ.le φ'∧Good C (setr rs i .emp) φ' w∧(TA.ptr K x).p φ' (.pointer (some ⟨g,0,none⟩)):=by
 have h1:=h.res i
 rw [hi] at h1
 obtain ⟨cs,hh,hrep⟩:=h1
 have h0:=Good.step (r':=.emp) h hi (Step.refl _ w) trivial (fun b hb=>by simp [Res.fp] at hb) (fun b hb=>by simp [Res.fp] at hb)
 have hg:g∈(nth rs i).fp:=by rw [hi];simp [Res.fp]
 have hnot:¬ φ.has g:=h.free i g hg
 have hle':φ.le (φ.add g cs):=Fro.le_add hnot
 have hil:i<rs.length:=by
  by_cases hl:i<rs.length
  ·exact hl
  ·rw [nth_ge (by omega)] at hi;cases hi
 have hn:∀ j,nth (setr rs i .emp) j=if j=i then .emp else nth rs j:=by
  intro j
  by_cases e:j=i
  ·subst e;rw [if_pos rfl,nth_setr_same hil]
  ·rw [if_neg e,nth_setr_other (fun h=>e h.symm)]
 have hcell:∀ j u,cs[j]?=some u→w.cell? ⟨g,j,none⟩=some u:=fun j u hu=>by rw [cell_of_block hh];exact hu
 refine ⟨φ.add g cs,hle',⟨h0.os,h0.tape,h0.output,h0.size,h0.blk,h0.le.trans hle',?_,?_,fun j=>Res.mono hle' (h0.res j),h0.lt,h0.own,?_,h0.dis⟩,⟨g,0,none⟩,cs,rfl,K.mono hle' hrep,fun j u hu=>?_⟩
 ·intro b hb
  rcases Fro.add_has hb with rfl | hb
  ·exact .inr (h.own i b hg)
  ·exact h0.ext b hb
 ·constructor
  ·intro a u e
   simp only [Fro.add] at e
   split at e
   ·rename_i hc
    obtain ⟨hb,hs,ho⟩:=hc
    have:a=⟨g,a.off,none⟩:=by cases a;simp_all
    rw [this]
    exact hcell _ _ e
   ·exact h0.fro.cell a u e
  ·exact h0.fro.obj
 ·intro j b hb hh'
  rcases Fro.add_has hh' with rfl | hh'
  ·rw [hn] at hb
   split at hb
   ·simp [Res.fp] at hb
   ·rename_i e
    exact h.dis j i e b hb hg
  ·exact h0.free j b hb hh'
 ·rw [addr_mk]
  simp only [Fro.add]
  have hj:j<cs.length:=(List.getElem?_eq_some_iff.1 hu).1
  simp [hj]
  exact (List.getElem?_eq_some_iff.1 hu).2
def Lend1 (g:Nat) {α:Type} (K:Kind α) (x:α) (s s':TA):Prop:=∀ φ φ1 v,φ.le φ1→(TA.ptr K x).p φ1 (.pointer (some ⟨g,0,none⟩))→s.p φ v→s'.p φ1 v
theorem lend1_ptr {g:Nat} {K:Kind α} {x:α}:Lend1 g K x (.eq (.pointer (some ⟨g,0,none⟩))) (.ptr K x):=fun φ φ1 v hl hp h=>by rw [show v=_ from h];exact hp
theorem lend1_cls {g:Nat} {K:Kind α} {x:α} {f:FuncId} {nf:Nat} {t t':TA} (h:Lend1 g K x t t'):Lend1 g K x (.cls f nf t) (.cls f nf t'):=fun φ φ1 v hl hp ⟨l,e,hh⟩=>⟨l,e,h φ φ1 _ hl hp hh⟩
theorem lend1_here {g:Nat} {K:Kind α} {x:α} {a a' t:TA} (h:Lend1 g K x a a'):Lend1 g K x (.tcons a t) (.tcons a' t):=fun φ φ1 v hl hp ⟨y,l,e,h1,h2⟩=>⟨y,l,e,h φ φ1 _ hl hp h1,TA.mono hl h2⟩
theorem lends_box (i t:Nat) {g:Nat} {T:TypeId} {K:Kind α} {x:α} {s s':TA} (hi:nth rs i=.box g T K x) (ht:L t=s) (hl:Lend1 g K x s s') (k:Lends S (setr rs i .emp) (upd L t s') rs1 L1):Lends S rs L rs1 L1:=fun φ a w hg ha=>by
 obtain ⟨φ1,hle,hg1,hp⟩:=hg.freezeBox hi
 have hat:=ha.tmp t
 rw [ht] at hat
 obtain ⟨φ2,hl2,h1,h2⟩:=k φ1 a w hg1 ((ha.mono hle).turn (hl φ φ1 _ hle hp hat))
 exact ⟨φ2,hle.trans hl2,h1,h2⟩
theorem jn {d:Nat} (hd:o.dst=some d) (hn:Nat.blt d S.n=true) {g:FuncId} {tas:List TA} (hl:Lends S rs L rs1 L1) (he:Ent S L1 o g tas) {post:TA→List Res→Prop} (hc:Con S.P g tas [] post) (hf:∀ ta rs',post ta rs'→Flat ta) :
  EffOk S rs L o Q [] (fun rs' L'=>∃ ta rs0,post ta rs0∧rs'=rs∧L'=upd L d ta):=by
 intro φ a w KK hgd ha k
 obtain ⟨φ1,hle,hg1,ha1⟩:=hl φ a w hgd ha
 obtain ⟨vs,hvs,hrun⟩:=he φ1 a ha1
 show o.upon S.P a _ Q _
 rw [hrun w]
 refine (hc φ1 w _ (good_nil hg1.fro) hvs).mono ?_
 rintro e w' ⟨v,φ',ta,rs',rfl,h1,h2,h3⟩
 show KK (a.put o.dst v) w'
 have hst:=step_of_good h3
 exact k rs _ φ v w' ⟨ta,rs',h2,rfl,rfl⟩ (.refl _) (hgd.grow hst) (ha.putE (.refl _) hd hn (hf _ _ h2 _ _ _ h1)) hst
theorem step_of_call {w w':World} {B:List Nat} {φ φ':Fro} {rs':List Res} (h:Good ⟨w,B,φ⟩ rs' φ' w'):Step B w w':=⟨h.os,h.tape,h.output,h.size,fun i hi hn=>h.blk i hi hn⟩
theorem jo {d:Nat} (hd:o.dst=some d) (hn:Nat.blt d S.n=true) {g:FuncId} {tas:List TA} (he:Ent S L o g tas) (is:List Nat) (hdi:distinct' is=true) {post:TA→List Res→Prop} (hc:Con S.P g tas (pick rs is) post) :
  EffOk S rs L o Q is (fun rs2 L'=>∃ ta rs',post ta rs'∧rs2=rs'++wipe rs is∧L'=upd L d ta):=by
 intro φ a w KK hgd ha k
 obtain ⟨vs,hvs,hrun⟩:=he φ a ha
 show o.upon S.P a _ Q _
 rw [hrun w]
 refine (hc φ w _ (hgd.enter is hdi) hvs).mono ?_
 rintro e w' ⟨v,φ',ta,rs',rfl,h1,h2,h3⟩
 exact k _ _ φ' v w' ⟨ta,rs',h2,rfl,rfl⟩ h3.le (hgd.leave is hdi h3) (ha.putE h3.le hd hn h1) (step_of_call h3)
theorem AtH.freeze {H:HCtx} {D:Array Bool} {L0:Nat→TA} {G:Act→World→Prop} (i t:Nat) {v:Value} {E:TypeId} {K:Kind α} {xs:List α} (hi:nth rs i=.row v E K xs) (ht:L t=.eq v) (k:AtH S H D (setr rs i .emp) L0 (upd L t (.tv (kSlice K) xs)) G):AtH S H D rs L0 L G:=fun φ a w hle hgd ha0 ha hh=>by
 obtain ⟨φ',hl,hg',hv⟩:=hgd.freeze hi
 have hat:a.tmps.getD t undef=v:=by have:=ha.tmp t;rw [ht] at this;exact this
 exact k φ' a w (hle.trans hl) hg' ha0 ((ha.mono hl).turn (by rw [hat];exact hv)) hh
theorem and_of {a b:Bool} (h:a=true) (hb:b=true):(a&&b)=true:=by rw [h,hb];rfl
theorem andn_of {a b:Bool} (h:a=true) (hb:b=false):(a&&!b)=true:=by rw [h,hb];rfl
theorem pick_andG {b c w:Bool} (h:b=true→w=true) (φ:Fro) (v:Value):(b=true→(TA.when w (.tv kBool c)).p φ v→(TA.tv kBool (b&&c)).p φ v)∧(b=false→(TA.tv kBool false).p φ v→(TA.tv kBool (b&&c)).p φ v):=
 ⟨fun hb hh=>by have:=tv_bool.1 (hh.1 (h hb));rw [tv_bool,this,hb];rfl,fun hb hh=>by rw [tv_bool] at hh ⊢;rw [hh,hb];rfl⟩
theorem pick_orG {b c w:Bool} (h:b=false→w=true) (φ:Fro) (v:Value):(b=true→(TA.tv kBool true).p φ v→(TA.tv kBool (b||c)).p φ v)∧(b=false→(TA.when w (.tv kBool c)).p φ v→(TA.tv kBool (b||c)).p φ v):=
 ⟨fun hb hh=>by rw [tv_bool] at hh ⊢;rw [hh,hb];rfl,fun hb hh=>by have:=tv_bool.1 (hh.1 (h hb));rw [tv_bool,this,hb];rfl⟩
end
end Go.Gp
end
section
set_option linter.unusedVariables false
set_option linter.unusedSimpArgs false
set_option linter.unusedSectionVars false
namespace Go.Gp
section
variable {κ ν : Type} [DecidableEq κ]
def mget (k:κ) (z:ν):List (κ×ν)→ν
 | []=>z
 | (k',v)::M=>if k'=k then v else mget k z M
def mhas (k:κ):List (κ×ν)→Bool
 | []=>false
 | (k',v)::M=>if k'=k then true else mhas k M
def mset (k:κ) (v:ν):List (κ×ν)→List (κ×ν)
 | []=>[(k,v)]
 | (k',v')::M=>if k'=k then (k,v)::M else (k',v')::mset k v M
def fnd (k:κ):List (κ×Value)→Nat→Option (Nat×Value)
 | [],_=>none
 | (k',v)::M,i=>if k'=k then some (i,v) else fnd k M (i+1)
end
def KeysOk {κ:Type} (φ:Fro) (KK:Kind κ):List κ→List MapEntry→Prop
 | [],es=>es=[]
 | k::ks,es=>∃ e r,es=e::r∧(TA.tv KK k).p φ e.key∧KeysOk φ KK ks r
structure KeyTy {κ:Type} [DecidableEq κ] (P:Program) (kT:TypeId) (KK:Kind κ):Prop where
 check:∀ {φ:Fro} {k:κ} {v:Value} (b:Bool) (w:World),(TA.tv KK k).p φ v→(Instr.checkKey b 10000 kT v).run P w=.ok () w
 find:∀ {φ:Fro} {k:κ} {v:Value} {ks:List κ} {es:List MapEntry} (w:World),(TA.tv KK k).p φ v→KeysOk φ KK ks es→(Instr.findKey kT v es).run P w=.ok (fnd k (ks.zip (es.map (·.val))) 0) w
 same:∀ {φ:Fro} {k:κ} {u v:Value},(TA.tv KK k).p φ u→(TA.tv KK k).p φ v→u=v∧Instr.sameBits 10000 u v=true
section
variable {κ ν : Type} [DecidableEq κ] {P : Program} {kT : TypeId}
theorem now_find {KK:Kind κ} {d:TypeDesc} (hn:∀ {φ:Fro} {k k':κ} {u v:Value},(TA.tv KK k).p φ u→(TA.tv KK k').p φ v→Instr.sameNow d u v=some (decide (k'=k))) {φ:Fro} {k:κ} {v:Value} (hv:(TA.tv KK k).p φ v) :
  ∀ {ks:List κ} {es:List MapEntry} (i:Nat),KeysOk φ KK ks es→Instr.findNow d v es i=some (fnd k (ks.zip (es.map (·.val))) i)
 | [],es,i,h=>by rw [show es=[] from h];rfl
 | k'::ks,es,i,⟨e,r,he,h1,h2⟩=>by
  subst he
  simp only [Instr.findNow,hn hv h1,List.map_cons,List.zip_cons_cons,fnd]
  by_cases hk:k'=k
  ·simp [hk]
  ·simp only [hk,decide_false,if_false]
   exact now_find hn hv (i+1) h2
theorem keyty_now {KK:Kind κ} {d:TypeDesc} (hu:P.underlying kT=some d) (hn:∀ {φ:Fro} {k k':κ} {u v:Value},(TA.tv KK k).p φ u→(TA.tv KK k').p φ v→Instr.sameNow d u v=some (decide (k'=k)))
  (hc:∀ (b:Bool) (v:Value) (φ:Fro) (k:κ) (w:World),(TA.tv KK k).p φ v→(Instr.checkKey b 10000 kT v).run P w=.ok () w) (hs:∀ {φ:Fro} {k:κ} {u v:Value},(TA.tv KK k).p φ u→(TA.tv KK k).p φ v→u=v∧Instr.sameBits 10000 u v=true):KeyTy P kT KK where
 check:=fun b w h=>hc b _ _ _ w h
 find:=fun w hv hk=>by
  have:=now_find (d:=d) hn hv 0 hk
  simp only [Instr.findKey,Sem.run_bind,run_underlying hu,Result.andThen_ok,this,Sem.run_pure]
 same:=hs
theorem bytes_beq (a b:ByteArray):(a==b)=decide (a=b):=by
 by_cases h:a=b
 ·subst h
  rw [beq_toListBytes];simp
 ·have:(a==b)=false:=by
   cases e:(a==b) with
   | false=>rfl
   | true=>
    rw [beq_toListBytes] at e
    exfalso
    apply h
    have e:=eq_of_beq e
    rw [ByteArray.toList_eq,ByteArray.toList_eq] at e
    cases a;cases b
    simp at e
    rw [e]
  rw [this,decide_eq_false h]
theorem check_plain {d:TypeDesc} (hu:P.underlying kT=some d) (hd:(match d with | .int _ | .string | .bool=>true | _=>false)=true) (b:Bool) (n:Nat) (v:Value) (w:World):(Instr.checkKey b (n+1) kT v).run P w=.ok () w:=by
 unfold Instr.checkKey
 simp only [Sem.run_bind,run_underlying hu,Result.andThen_ok]
 cases d<;>simp_all
theorem keyty_str (hu:P.underlying kT=some .string):KeyTy P kT kStr:=by
 refine keyty_now hu ?_ ?_ ?_
 ·intro φ a b u v h1 h2
  rw [tv_str] at h1 h2;subst h1 h2
  simp only [Instr.sameNow,bytes_beq]
  by_cases e:a=b
  ·subst e;simp
  ·have:¬ b=a:=fun h=>e h.symm
   simp [e,this]
 ·intro b v φ k w h
  exact check_plain hu rfl b 9999 v w
 ·intro φ k u v h1 h2
  rw [tv_str] at h1 h2;subst h1 h2
  exact ⟨rfl,by simp [Instr.sameBits,bytes_beq]⟩
def plainV:Value→Bool
 | .int _ _ | .bool _ | .string _=>true
 | _=>false
structure DetK {α:Type} (K:Kind α):Prop where
 det:∀ {φ ψ:Fro} {x:α} {cs ds:List Value},K.rep φ x cs→K.rep ψ x ds→cs=ds
 plain:∀ {φ:Fro} {x:α} {cs:List Value},K.rep φ x cs→∀ u∈cs,plainV u=true
theorem det_int {k:IntKind}:DetK (kInt k):=⟨fun h1 h2=>by rw [show _=_ from h1,show _=_ from h2],fun h u hu=>by rw [show _=_ from h] at hu;simp at hu;subst hu;rfl⟩
theorem det_str:DetK kStr:=⟨fun h1 h2=>by rw [show _=_ from h1,show _=_ from h2],fun h u hu=>by rw [show _=_ from h] at hu;simp at hu;subst hu;rfl⟩
theorem det_pair {α β:Type} {K:Kind α} {M:Kind β} (h:DetK K) (k:DetK M):DetK (kPair K M):=by
 constructor
 ·rintro φ ψ x cs ds ⟨c,d,rfl,h1,h2⟩ ⟨c',d',rfl,h3,h4⟩
  rw [h.det h1 h3,k.det h2 h4]
 ·rintro φ x cs ⟨c,d,rfl,h1,h2⟩ u hu
  rcases List.mem_append.1 hu with hu | hu
  ·exact h.plain h1 u hu
  ·exact k.plain h2 u hu
theorem det_iso {α β:Type} {K:Kind β} {f:α→β} {hK:K.agg=true} (h:DetK K):DetK (kIso K f hK):=⟨fun h1 h2=>h.det (show K.rep _ _ _ from h1) h2,fun h1=>h.plain (show K.rep _ _ _ from h1)⟩
theorem same_plain:∀ {v:Value} (n:Nat),plainV v=true→Instr.sameBits n v v=true
 | .int _ _,n,_=>by simp [Instr.sameBits]
 | .bool _,n,_=>by simp [Instr.sameBits]
 | .string _,n,_=>by simp [Instr.sameBits,bytes_beq]
theorem ask_find {KK:Kind κ} {eq:κ→κ→Bool} {D:Nat} (hlaw:∀ x y,eq x y=true↔x=y) (he:EqIn P kT KK eq D) (hd:Nat.ble D 10000=true) {φ:Fro} {k:κ} {v:Value} (hv:(TA.tv KK k).p φ v) (w:World) :
  ∀ {ks:List κ} {es:List MapEntry} (i:Nat),KeysOk φ KK ks es→(Instr.findAsking kT v es i).run P w=.ok (fnd k (ks.zip (es.map (·.val))) i) w
 | [],es,i,h=>by rw [show es=[] from h];rfl
 | k'::ks,es,i,⟨e,r,hes,h1,h2⟩=>by
  subst hes
  obtain ⟨cs,hc,rfl⟩:=hv
  obtain ⟨ds,hd',hds⟩:=h1
  have heq:(Op.equal kT (KK.val cs) e.key).run P w=.ok (eq k k') w:=by
   rw [hds]
   exact (he.more hd) 0 w hc hd'
  simp only [Instr.findAsking,Sem.run_bind,heq,Result.andThen_ok,List.map_cons,List.zip_cons_cons,fnd]
  by_cases hk:k'=k
  ·rw [(hlaw k k').2 hk.symm,if_pos rfl,if_pos hk]
   rfl
  ·have:eq k k'=false:=by
    cases e:eq k k' with
    | false=>rfl
    | true=>exact absurd ((hlaw _ _).1 e).symm hk
   rw [this,if_neg (by simp),if_neg hk]
   exact ask_find hlaw he hd ⟨cs,hc,rfl⟩ w (i+1) h2
theorem keyty_deep {KK:Kind κ} {eq:κ→κ→Bool} {D:Nat} {d:TypeDesc} (hu:P.underlying kT=some d) (hno:(match d with | .int _ | .string | .bool=>false | _=>true)=true) (hA:KK.agg=true) (hlaw:∀ x y,eq x y=true↔x=y) (he:EqIn P kT KK eq D) (hd:Nat.ble D 10000=true) (hdet:DetK KK)
  (hc:∀ (b:Bool) (cs:List Value) (φ:Fro) (k:κ) (w:World),KK.rep φ k cs→(Instr.checkKey b 10000 kT (.agg cs.toArray)).run P w=.ok () w):KeyTy P kT KK where
 check:=fun b w h=>by
  obtain ⟨cs,hr,rfl⟩:=h
  simp only [Kind.val,hA,if_true]
  exact hc b cs _ _ w hr
 find:=fun {φ k v ks es} w hv hk=>by
  have h1:=ask_find (P:=P) hlaw he hd hv w 0 hk
  cases es with
  | nil=>
   simp only [Instr.findKey,Sem.run_bind,run_underlying hu,Result.andThen_ok,Instr.findNow,Sem.run_pure]
   cases ks with
   | nil=>rfl
   | cons k ks=>obtain ⟨e,r,he,_⟩:=hk;cases he
  | cons e es=>
   have:Instr.findNow d v (e::es) 0=none:=by
    have:Instr.sameNow d v e.key=none:=by
     obtain ⟨cs,hr,rfl⟩:=hv
     simp only [Kind.val,hA,if_true]
     cases d<;>simp_all [Instr.sameNow]
    simp [Instr.findNow,this]
   simp only [Instr.findKey,Sem.run_bind,run_underlying hu,Result.andThen_ok,this]
   exact h1
 same:=fun {φ k u v} h1 h2=>by
  obtain ⟨cs,hr,rfl⟩:=h1
  obtain ⟨ds,hr2,rfl⟩:=h2
  have:=hdet.det hr hr2
  subst this
  refine ⟨rfl,?_⟩
  simp only [Kind.val,hA,if_true]
  show (cs.toArray.size==cs.toArray.size&&(cs.toArray.toList.zip cs.toArray.toList).all fun (x,y)=>Instr.sameBits 9999 x y)=true
  simp only [BEq.rfl,Bool.true_and,List.all_eq_true]
  rintro ⟨x,y⟩ hxy
  have hx:x=y:=by
   rw [List.zip_eq_zipWith] at hxy
   simp at hxy
   exact hxy.2.symm
  subst hx
  have:x∈cs:=by
   have:=(List.of_mem_zip hxy).1
   simpa using this
  exact same_plain 9999 (hdet.plain hr x this)
def CheckIn {α:Type} (P:Program) (T:TypeId) (K:Kind α) (D:Nat):Prop:=
 ∀ {φ:Fro} {x:α} {cs:List Value} (b:Bool) (n:Nat) (w:World),K.rep φ x cs→(Instr.checkKey b (n+D) T (K.val cs)).run P w=.ok () w
theorem CheckIn.more {α:Type} {T:TypeId} {K:Kind α} {D D':Nat} (h:CheckIn P T K D) (hd:Nat.ble D D'=true):CheckIn P T K D':=fun b n w h1=>by
 have:=Nat.le_of_ble_eq_true hd
 rw [show n+D'=(n+(D'-D))+D by omega]
 exact h b _ w h1
theorem checkin_plain {α:Type} {T:TypeId} {K:Kind α} {d:TypeDesc} (hu:P.underlying T=some d) (hd:(match d with | .int _ | .string | .bool=>true | _=>false)=true):CheckIn P T K 1:=fun b n w _=>check_plain hu hd b n _ w
def checkFs (b : Bool) (d : Nat) (cs : Array Value) : List Field → Sem Unit
 | [] => pure ()
 | f :: fs => do
  if f.name ≠ "_" then Instr.checkKey b d f.type (← part f.type cs f.offset)
  checkFs b d cs fs
theorem run_checkKey_struct (b:Bool) (d:Nat) (T:TypeId) (cs:Array Value) {fs:Array Field} (hu:P.underlying T=some (.struct fs)) (w:World):(Instr.checkKey b (d+1) T (.agg cs)).run P w=(checkFs b d cs fs.toList).run P w:=by
 simp only [Instr.checkKey,Sem.run_bind,run_underlying hu,Result.andThen_ok]
 rw [← Array.forIn_toList]
 generalize fs.toList=fs
 clear hu
 induction fs generalizing w with
 | nil=>simp [checkFs]
 | cons f fs ih=>
  simp only [List.forIn_cons,checkFs,Sem.run_bind,Sem.run_ite]
  split
  ·generalize (part f.type cs f.offset).run P w=r1
   cases r1 with
   | ok a w1=>
    simp only [Result.andThen_ok]
    generalize (Instr.checkKey b d f.type a).run P w1=r2
    cases r2 with
    | ok u w2=>simp only [Result.andThen_ok,Sem.run_pure];exact ih w2
    | halt x w2=>simp [Result.andThen]
   | halt x w1=>simp [Result.andThen]
  ·simp only [Sem.run_pure,Result.andThen_ok]
   exact ih w
def CheckFs {α:Type} (P:Program) (K:Kind α) (D:Nat) (fs:List Field):Prop:=∀ {φ:Fro} {x:α} {cs:List Value} (b:Bool) (n:Nat) (w:World),K.rep φ x cs→(checkFs b (n+D) cs.toArray fs).run P w=.ok () w
theorem checks_nil {α:Type} {K:Kind α} {D:Nat}:CheckFs P K D []:=fun _ _ _ _=>rfl
theorem checks_cons {α β : Type} {K : Kind α} {M : Kind β} {f : Field} {fs : List Field} {D D0 : Nat} {get : α → β} {set : α → β → α} (hn : (f.name == "_") = false) (hT : Ty P f.type M) (hs : Sub K f.offset M get set) (he : CheckIn P f.type M D0) (hd : Nat.ble D0 D = true) (hr : CheckFs P K D fs) : CheckFs P K D (f :: fs) := by
 intro φ x cs b n w h1
 have hr' := hr b n w h1
 obtain ⟨p, c, d, rfl, hp, hc, _⟩ := hs.fits h1
 have hn' : f.name ≠ "_" := by simpa using hn
 rw [checkFs]
 simp only [if_pos hn', Sem.run_bind, run_part hT hc hp, (he.more hd) b n w hc, Result.andThen_ok]
 exact hr'
theorem checkin_struct {α:Type} {T:TypeId} {K:Kind α} {D:Nat} {fs:Array Field} {l:List Field} (hu:P.underlying T=some (.struct fs)) (hl:fs=l.toArray) (hK:K.agg=true) (h:CheckFs P K D l):CheckIn P T K (D+1):=fun {φ x cs} b n w h1=>by
 have e:K.val cs=.agg cs.toArray:=by simp [Kind.val,hK]
 rw [e,show n+(D+1)=(n+D)+1 by omega,run_checkKey_struct b (n+D) T _ hu,hl]
 exact h b n w h1
theorem checkin_arr2 {α:Type} {T E:TypeId} {K:Kind α} {D:Nat} (hu:P.underlying T=some (.array 2 E)) (hE:Ty P E K) (h:CheckIn P E K D):CheckIn P T (kPair K K) (D+1):=by
 rintro φ ⟨x,y⟩ cs b n w ⟨c,d,rfl,h1,h2⟩
 show (Instr.checkKey b ((n+D)+1) T (.agg (c++d).toArray)).run P w=_
 have e1:(part E (c++d).toArray (0*K.sz)).run P w=.ok (K.val c) w:=by
  have:=run_part hE h1 (p:=[]) (d:=d) (off:=0*K.sz) (by simp) w
  simpa using this
 have e2:(part E (c++d).toArray (1*K.sz)).run P w=.ok (K.val d) w:=by
  have:=run_part hE h2 (p:=c) (d:=[]) (off:=1*K.sz) (by rw [K.len h1,Nat.one_mul]) w
  simpa using this
 simp only [Instr.checkKey,Sem.run_bind,run_underlying hu,Result.andThen_ok,Std.Legacy.Range.forIn_eq_forIn_range',Std.Legacy.Range.size]
 simp only [List.range',Nat.sub_zero,Nat.add_one_sub_one,Nat.div_one,List.forIn_cons,List.forIn_nil,Sem.run_bind,hE.size,Result.andThen_ok,e1,Nat.zero_add,e2,h b n w h1,h b n w h2,Sem.run_pure]
theorem eqin_arr2 {α:Type} {T E:TypeId} {K:Kind α} {D:Nat} {eq:α→α→Bool} (hu:P.underlying T=some (.array 2 E)) (hE:Ty P E K) (h:EqIn P E K eq D):EqIn P T (kPair K K) (fun x y=>eq x.1 y.1&&eq x.2 y.2) (D+1):=by
 rintro φ ⟨x,y⟩ ⟨x',y'⟩ cs ds n w ⟨c,d,rfl,h1,h2⟩ ⟨c',d',rfl,h3,h4⟩
 show (Op.equalIn ((n+D)+1) T (.agg (c++d).toArray) (.agg (c'++d').toArray)).run P w=_
 have e1:∀ w,(part E (c++d).toArray (0*K.sz)).run P w=.ok (K.val c) w:=fun w=>by
  have:=run_part hE h1 (p:=[]) (d:=d) (off:=0*K.sz) (by simp) w
  simpa using this
 have e2:∀ w,(part E (c++d).toArray (1*K.sz)).run P w=.ok (K.val d) w:=fun w=>by
  have:=run_part hE h2 (p:=c) (d:=[]) (off:=1*K.sz) (by rw [K.len h1,Nat.one_mul]) w
  simpa using this
 have e3:∀ w,(part E (c'++d').toArray (0*K.sz)).run P w=.ok (K.val c') w:=fun w=>by
  have:=run_part hE h3 (p:=[]) (d:=d') (off:=0*K.sz) (by simp) w
  simpa using this
 have e4:∀ w,(part E (c'++d').toArray (1*K.sz)).run P w=.ok (K.val d') w:=fun w=>by
  have:=run_part hE h4 (p:=c') (d:=[]) (off:=1*K.sz) (by rw [K.len h3,Nat.one_mul]) w
  simpa using this
 simp only [Op.equalIn,Sem.run_bind,run_underlying hu,hE.size,Result.andThen_ok,Std.Legacy.Range.forIn_eq_forIn_range',Std.Legacy.Range.size]
 simp only [List.range',Nat.sub_zero,Nat.add_one_sub_one,Nat.div_one,List.forIn_cons,List.forIn_nil,Sem.run_bind,Result.andThen_ok,e1,e3,Nat.zero_add,h n w h1 h3]
 cases eq x x'<;>simp only [Bool.not_false,Bool.not_true,if_true,Bool.false_eq_true,if_false,Sem.run_pure,Result.andThen_ok,Bool.false_and,Bool.true_and,Sem.run_bind,e2,e4,h n w h2 h4]
 cases eq y y'<;>simp
theorem keyty_deep2 {KK:Kind κ} {eq:κ→κ→Bool} {D D2:Nat} {d:TypeDesc} (hu:P.underlying kT=some d) (hno:(match d with | .int _ | .string | .bool=>false | _=>true)=true) (hA:KK.agg=true) (hlaw:∀ x y,eq x y=true↔x=y) (he:EqIn P kT KK eq D) (hd:Nat.ble D 10000=true) (hdet:DetK KK) (hc:CheckIn P kT KK D2) (hd2:Nat.ble D2 10000=true):KeyTy P kT KK:=
 keyty_deep hu hno hA hlaw he hd hdet fun b cs φ k w h=>by
  have:=(hc.more hd2) b 0 w h
  have e:KK.val cs=.agg cs.toArray:=by simp [Kind.val,hA]
  rw [e,Nat.zero_add] at this
  exact this
theorem sEq_iff (s t:ByteArray):sEq s t=true↔s=t:=by
 have:sEq s t=(s==t):=by rw [beq_toListBytes];rfl
 rw [this,bytes_beq,decide_eq_true_iff]
end
end Go.Gp
end
section
set_option linter.unusedVariables false
set_option linter.unusedSimpArgs false
set_option linter.unusedSectionVars false
namespace Go.Gp
section
variable {κ ν : Type} [DecidableEq κ]
theorem Ents.keys {φ:Fro} {KK:Kind κ} {KV:Kind ν}:∀ {M:List (κ×ν)} {es:List MapEntry},Ents φ KK KV M es→KeysOk φ KK (M.map (·.1)) es
 | [],_,h=>h
 | (k,x)::M,_,⟨e,r,he,h1,h2,h3⟩=>⟨e,r,he,h1,h3.keys⟩
theorem Ents.append {φ:Fro} {KK:Kind κ} {KV:Kind ν}:∀ {A B:List (κ×ν)} {ea eb:List MapEntry},Ents φ KK KV A ea→Ents φ KK KV B eb→Ents φ KK KV (A++B) (ea++eb)
 | [],B,ea,eb,h,k=>by rw [show ea=[] from h];exact k
 | (k',x)::A,B,ea,eb,⟨e,r,he,h1,h2,h3⟩,k=>by subst he;exact ⟨e,r++eb,rfl,h1,h2,h3.append k⟩
theorem Ents.length {φ:Fro} {KK:Kind κ} {KV:Kind ν}:∀ {M:List (κ×ν)} {es:List MapEntry},Ents φ KK KV M es→M.length=es.length
 | [],_,h=>by rw [show _=[] from h];rfl
 | (k,x)::M,_,⟨e,r,he,h1,h2,h3⟩=>by subst he;simp [h3.length]
theorem Ents.at {φ:Fro} {KK:Kind κ} {KV:Kind ν} (k:κ):∀ {M:List (κ×ν)} {es:List MapEntry} (i:Nat),Ents φ KK KV M es →
  (fnd k ((M.map (·.1)).zip (es.map (·.val))) i=none∧mhas k M=false∧(∀ z,mget k z M=z)∧(∀ v,mset k v M=M++[(k,v)])∧k∉M.map (·.1)) ∨
  ∃ A x B ea e eb,fnd k ((M.map (·.1)).zip (es.map (·.val))) i=some (i+A.length,e.val)∧M=A++(k,x)::B∧es=ea++e::eb∧ea.length=A.length∧mhas k M=true∧(∀ z,mget k z M=x)∧(∀ v,mset k v M=A++(k,v)::B) ∧
   Ents φ KK KV A ea∧(TA.tv KK k).p φ e.key∧(TA.tv KV x).p φ e.val∧Ents φ KK KV B eb
 | [],es,i,h=>by rw [show es=[] from h];exact .inl ⟨rfl,rfl,fun _=>rfl,fun _=>rfl,by simp⟩
 | (k',x)::M,es,i,⟨e,r,he,h1,h2,h3⟩=>by
  subst he
  by_cases hk:k'=k
  ·subst hk
   exact .inr ⟨[],x,M,[],e,r,by simp [fnd],rfl,rfl,rfl,by simp [mhas],fun z=>by simp [mget],fun v=>by simp [mset],rfl,h1,h2,h3⟩
  ·rcases h3.at k (i+1) with ⟨a1,a2,a3,a4,a5⟩ | ⟨A,y,B,ea,e',eb,a1,a2,a3,a4,a5,a6,a7,a8,a9,a10,a11⟩
   ·refine .inl ⟨by simp [fnd,hk,a1],by simp [mhas,hk,a2],fun z=>by simp [mget,hk,a3],fun v=>by simp [mset,hk,a4],?_⟩
    simp only [List.map_cons,List.mem_cons,not_or]
    exact ⟨fun h=>hk h.symm,a5⟩
   ·subst a2 a3
    refine .inr ⟨(k',x)::A,y,B,e::ea,e',eb,?_,rfl,rfl,by simp [a4],by simp [mhas,hk,a5],fun z=>by simp [mget,hk,a6],fun v=>by simp [mset,hk,a7],⟨e,ea,rfl,h1,h2,a8⟩,a9,a10,a11⟩
    simp only [List.map_cons,List.zip_cons_cons,fnd,hk,if_false,a1,List.length_cons]
    congr 2
    omega
theorem modify_at {α:Type} (f:α→α):∀ (A:List α) (x:α) (B:List α),(A++x::B).modify A.length f=A++f x::B
 | [],x,B=>rfl
 | a::A,x,B=>by simp [modify_at f A x B]
end
def kMp {κ ν:Type} (KK:Kind κ) (KV:Kind ν):Kind (List (κ×ν)) where
 sz:=1
 agg:=false
 rep:=fun φ M cs=>(cs=[.map none]∧M=[])∨∃ g es clock,cs=[.map (some g)]∧φ.obj g=some (.map es clock)∧MapOk φ KK KV M es clock
 len:=by rintro _ _ _ (⟨rfl,_⟩ | ⟨_,_,_,rfl,_⟩)<;>rfl
 mono:=by
  rintro φ ψ x cs h (h1 | ⟨g,es,clock,e,h1,h2⟩)
  ·exact .inl h1
  ·exact .inr ⟨g,es,clock,e,h.obj _ _ h1,h2.mono h⟩
 one:=by rintro _ _ _ (⟨rfl,_⟩ | ⟨_,_,_,rfl,_⟩)<;>simp [Value.oneCell']
 sc:=fun _=>rfl
structure MapTy {κ ν:Type} [DecidableEq κ] (P:Program) (T kT eT:TypeId) (KK:Kind κ) (KV:Kind ν) (z:ν):Prop where
 und:P.underlying T=some (.map kT eT)
 key:KeyTy P kT KK
 zero:TyZ P eT KV z
section
variable {S : Sit} {rs : List Res} {L : Nat → TA} {Q : Exit → Act → World → Prop} {ops : Array Oper} {o : Oper} {rest : List Oper} {κ ν α : Type} [DecidableEq κ]
theorem eff_makeMap {d:Nat} (hd:o.dst=some d) (hn:Nat.blt d S.n=true) {T:TypeId} (ho:o.op=.makeMap T none) (KK:Kind κ) (KV:Kind ν) :
  EffOk S rs L o Q [] (fun rs' L'=>∃ g,rs'=.map g KK KV []::rs∧L'=upd L d (.eq (.map (some g)))):=by
 intro φ a w K hgd ha k
 have hrun:(execOp a.eval o).run S.P w=.ok (.value (.map (some w.heap.size))) (w.alloc (.map #[] 0)):=by
  simp [execOp,ho,Instr.makeMap]
 show o.upon S.P a _ Q _
 rw [hrun]
 refine k _ _ φ _ _ ⟨w.heap.size,rfl,rfl⟩ (.refl _) (hgd.new (r:=.map w.heap.size KK KV []) (step_alloc _ _) ⟨#[],0,heap_alloc_new w _,rfl,by simp,by simp,by simp⟩ ?_ ?_) (ha.putE (.refl _) hd hn rfl) (step_alloc _ _)
 ·intro b hb;simp [Res.fp] at hb;subst hb;simp
 ·intro b hb;simp [Res.fp] at hb;subst hb;omega
theorem eff_makeMapR {d:Nat} (hd:o.dst=some d) (hn:Nat.blt d S.n=true) {T:TypeId} (ho:o.op=.makeMap T none) (KK:Kind κ) (E:TypeId) (K:Kind α) :
  EffOk S rs L o Q [] (fun rs' L'=>∃ g,rs'=.mrow g KK E K [] []::rs∧L'=upd L d (.eq (.map (some g)))):=by
 intro φ a w KK' hgd ha k
 have hrun:(execOp a.eval o).run S.P w=.ok (.value (.map (some w.heap.size))) (w.alloc (.map #[] 0)):=by
  simp [execOp,ho,Instr.makeMap]
 show o.upon S.P a _ Q _
 rw [hrun]
 refine k _ _ φ _ _ ⟨w.heap.size,rfl,rfl⟩ (.refl _) (hgd.new (r:=.mrow w.heap.size KK E K [] []) (step_alloc _ _) ⟨#[],0,heap_alloc_new w _,⟨rfl,by simp,by simp,by simp⟩,rfl,rfl,by simp [blocksV]⟩ ?_ ?_) (ha.putE (.refl _) hd hn rfl) (step_alloc _ _)
 ·intro b hb;simp [Res.fp,blocksV] at hb;subst hb;simp
 ·intro b hb;simp [Res.fp,blocksV] at hb;subst hb;omega
theorem run_getObj {P:Program} {w:World} {g:Nat} {es:Array MapEntry} {c:Nat} (h:w.heap[g]?=some (.map es c)):(getObj g).run P w=.ok (.map es c) w:=by
 simp [getObj,Sem.run,h]
theorem run_setObj {P:Program} {w:World} {g:Nat} {ob:Obj} (h:w.heap[g]?=some ob) (hm:∀ c t f,ob≠.cells c t f) (ob':Obj):∃ w',(setObj g ob').run P w=.ok () w'∧w'.heap[g]?=some ob'∧Step [g] w w':=by
 have hlt:=(Array.getElem?_eq_some_iff.1 h).1
 refine ⟨{ w with heap:=w.heap.setIfInBounds g ob' },?_,?_,⟨rfl,⟨rfl,Nat.le_refl _⟩,rfl,by simp,fun i _ hi=>?_⟩⟩
 ·simp [setObj,Sem.run,h]
 ·simp [hlt]
 ·simp only [Array.getElem?_setIfInBounds]
  rw [if_neg (fun e=>hi (by simp [e]))]
theorem MapOk.set {φ:Fro} {KK:Kind κ} {KV:Kind ν} {M:List (κ×ν)} {es:Array MapEntry} {clock:Nat} (h:MapOk φ KK KV M es clock) {A B:List (κ×ν)} {k:κ} {x y:ν} {ea eb:List MapEntry} {e e':MapEntry} (hM:M=A++(k,x)::B) (he:es.toList=ea++e::eb) (hl:ea.length=A.length) (hA:Ents φ KK KV A ea) (hB:Ents φ KK KV B eb) (hb:e'.born=e.born) (hk:(TA.tv KK k).p φ e'.key) (hv:(TA.tv KV y).p φ e'.val) :
  MapOk φ KK KV (A++(k,y)::B) (ea++e'::eb).toArray clock:=by
 obtain ⟨_,h2,h3,h4⟩:=h
 subst hM
 refine ⟨hA.append ⟨e',eb,rfl,hk,hv,hB⟩,?_,?_,?_⟩
 ·rw [he] at h2
  simpa [hb] using h2
 ·intro f hf
  rw [he] at h3
  simp only [List.toList_toArray,List.mem_append,List.mem_cons] at hf
  rcases hf with hf | rfl | hf
  ·exact h3 f (by simp [hf])
  ·rw [hb];exact h3 e (by simp)
  ·exact h3 f (by simp [hf])
 ·simpa using h4
theorem MapOk.push {φ:Fro} {KK:Kind κ} {KV:Kind ν} {M:List (κ×ν)} {es:Array MapEntry} {clock:Nat} (h:MapOk φ KK KV M es clock) {k:κ} {y:ν} {e':MapEntry} (hno:k∉M.map (·.1)) (hb:e'.born=clock) (hk:(TA.tv KK k).p φ e'.key) (hv:(TA.tv KV y).p φ e'.val) :
  MapOk φ KK KV (M++[(k,y)]) (es.push e') (clock+1):=by
 obtain ⟨h1,h2,h3,h4⟩:=h
 refine ⟨?_,?_,?_,?_⟩
 ·rw [Array.toList_push]
  exact h1.append ⟨e',[],rfl,hk,hv,rfl⟩
 ·rw [Array.toList_push,List.map_append,List.pairwise_append]
  refine ⟨h2,by simp,?_⟩
  intro a ha b hb'
  simp only [List.map_cons,List.map_nil,List.mem_singleton] at hb'
  subst hb'
  obtain ⟨f,hf,rfl⟩:=List.mem_map.1 ha
  rw [hb]
  exact h3 f hf
 ·intro f hf
  rw [Array.toList_push,List.mem_append] at hf
  rcases hf with hf | hf
  ·exact Nat.lt_succ_of_lt (h3 f hf)
  ·rw [List.mem_singleton.1 hf,hb];exact Nat.lt_succ_self _
 ·rw [List.map_append,List.nodup_append]
  refine ⟨h4,by simp,?_⟩
  intro a ha b hb'
  simp only [List.map_cons,List.map_nil,List.mem_singleton] at hb'
  subst hb'
  exact fun e=>hno (e ▸ ha)
theorem run_stays {P:Program} {kT:TypeId} {KK:Kind κ} (hK:KeyTy P kT KK) {φ:Fro} {k:κ} {u v:Value} (hu:(TA.tv KK k).p φ u) (hv:(TA.tv KK k).p φ v) (w:World):(Instr.keyThatStays u v).run P w=.ok v w:=by
 obtain ⟨e,hs⟩:=hK.same hu hv
 simp [Instr.keyThatStays,hs]
theorem modify_toArray (es:Array MapEntry) {ea eb:List MapEntry} {e:MapEntry} (he:es.toList=ea++e::eb) (f:MapEntry→MapEntry):es.modify ea.length f=(ea++f e::eb).toArray:=by
 apply Array.ext'
 rw [Array.toList_modify,he,modify_at]
theorem getElem_at (es:Array MapEntry) {ea eb:List MapEntry} {e:MapEntry} (he:es.toList=ea++e::eb):es[ea.length]?=some e:=by
 rw [← Array.getElem?_toList,he]
 simp
theorem eff_mapUpdate (hd:o.dst=none) {T kT eT:TypeId} {x y z:Operand} (ho:o.op=.mapUpdate T x y z) {g:Nat} (hx:Opd S L x (.eq (.map (some g)))) (i:Nat) {KK:Kind κ} {KV:Kind ν} {M:List (κ×ν)} (hi:nth rs i=.map g KK KV M)
  {zv:ν} (hT:MapTy S.P T kT eT KK KV zv) {k:κ} {v:ν} (hy:Opd S L y (.tv KK k)) (hz:Opd S L z (.tv KV v)) :
  EffOk S rs L o Q [i] (fun rs' L'=>rs'=setr rs i (.map g KK KV (mset k v M))∧L'=L):=by
 intro φ a w K hgd ha kk
 have h1:=hgd.res i
 have h2:=hgd.lt i
 rw [hi] at h1 h2
 obtain ⟨es,clock,hb,hM⟩:=h1
 have he:a.eval x=.map (some g):=hx φ a ha
 have hky:=hy φ a ha
 have hvz:=hz φ a ha
 have hfind:=hT.key.find w hky hM.1.keys
 have hfin:∀ (ob':Obj),(∃ es' c',ob'=.map es' c'∧MapOk φ KK KV (mset k v M) es' c')→(∀ w',(setObj g ob').run S.P w=.ok () w'→(Instr.mapUpdate T (.map (some g)) (a.eval y) (a.eval z)).run S.P w=.ok () w')→o.wp S.P a w K Q:=by
  rintro ob' ⟨es',c',rfl,hM'⟩ hrun
  obtain ⟨w',hs,hg',hst⟩:=run_setObj (P:=S.P) hb (by intro _ _ _;simp) (.map es' c')
  have hrun2:(execOp a.eval o).run S.P w=.ok .skip w':=by simp only [execOp,ho,he,Sem.run_bind,hrun w' hs,Result.andThen_ok,Sem.run_pure]
  show o.upon S.P a _ Q _
  rw [hrun2]
  refine kk _ _ φ _ _ ⟨rfl,rfl⟩ (.refl _) (hgd.step hi (by simpa [Res.fp] using hst) ⟨es',c',hg',hM'⟩ ?_ ?_) (ha.putN (.refl _) hd) (by simpa [blocksOf,hi,Res.fp] using hst)
  ·intro b hb';exact Nat.lt_of_lt_of_le (h2 b hb') hst.size
  ·intro b hb';exact .inl hb'
 rcases hM.1.at k 0 with ⟨a1,a2,a3,a4,a5⟩ | ⟨A,x',B,ea,e,eb,a1,a2,a3,a4,a5,a6,a7,a8,a9,a10,a11⟩
 ·refine hfin (.map (es.push { key:=a.eval y,val:=a.eval z,born:=clock }) (clock+1)) ⟨_,_,rfl,by rw [a4];exact hM.push a5 rfl hky hvz⟩ fun w' hs=>?_
  simp only [Instr.mapUpdate,Sem.run_bind,run_underlying hT.und,Result.andThen_ok,run_getObj hb,hT.key.check _ w hky,hfind,a1,hs]
 ·have e1:=getElem_at es a3
  refine hfin (.map (ea++{ e with key:=a.eval y,val:=a.eval z }::eb).toArray clock) ⟨_,_,rfl,by rw [a7];exact hM.set a2 a3 a4 a8 a11 rfl hky hvz⟩ fun w' hs=>?_
  have e2:=modify_toArray es a3 (fun e=>{ e with key:=a.eval y,val:=a.eval z })
  rw [a4] at e1 e2
  simp only [Instr.mapUpdate,Sem.run_bind,run_underlying hT.und,Result.andThen_ok,run_getObj hb,hT.key.check _ w hky,hfind,a1,Nat.zero_add,e1,Option.map_some,Option.getD_some,run_stays hT.key a9 hky,e2,hs]
theorem run_look {P:Program} {T kT eT:TypeId} {KK:Kind κ} {KV:Kind ν} {zv:ν} (hT:MapTy P T kT eT KK KV zv) {φ:Fro} {M:List (κ×ν)} {es:Array MapEntry} {clock:Nat} (hM:MapOk φ KK KV M es clock) {g:Nat} {k:κ} {kv:Value} (hk:(TA.tv KK k).p φ kv) :
  ∃ v,(TA.tv KV (mget k zv M)).p φ v∧∀ w b,w.heap[g]?=some (.map es clock)→(Instr.lookup T (.map (some g)) kv b).run P w=.ok (if b then .tuple #[v,.bool (mhas k M)] else v) w:=by
 obtain ⟨z,hz,hzp⟩:=hT.zero.zero
 rcases hM.1.at k 0 with ⟨a1,a2,a3,a4,a5⟩ | ⟨A,x',B,ea,e,eb,a1,a2,a3,a4,a5,a6,a7,a8,a9,a10,a11⟩
 ·refine ⟨z,by rw [a3];exact hzp φ,fun w b hg=>?_⟩
  simp only [Instr.lookup,Sem.run_bind,run_underlying hT.und,Result.andThen_ok,run_getObj hg,Sem.run_pure,hT.key.check _ w hk,hT.key.find w hk hM.1.keys,a1,hz,a2]
 ·refine ⟨e.val,by rw [a6];exact a10,fun w b hg=>?_⟩
  simp only [Instr.lookup,Sem.run_bind,run_underlying hT.und,Result.andThen_ok,run_getObj hg,Sem.run_pure,hT.key.check _ w hk,hT.key.find w hk hM.1.keys,a1,a5]
theorem run_look_nil {P:Program} {T kT eT:TypeId} {KK:Kind κ} {KV:Kind ν} {zv:ν} (hT:MapTy P T kT eT KK KV zv) {φ:Fro} {k:κ} {kv:Value} (hk:(TA.tv KK k).p φ kv) :
  ∃ v,(TA.tv KV zv).p φ v∧∀ w b,(Instr.lookup T (.map none) kv b).run P w=.ok (if b then .tuple #[v,.bool false] else v) w:=by
 obtain ⟨z,hz,hzp⟩:=hT.zero.zero
 refine ⟨z,hzp φ,fun w b=>?_⟩
 have h1:=hT.key.find (es:=[]) (ks:=[]) w hk rfl
 simp only [List.map_nil,List.zip_nil_right,fnd] at h1
 simp only [Instr.lookup,Sem.run_bind,run_underlying hT.und,Result.andThen_ok,Sem.run_pure,hT.key.check _ w hk,h1,hz]
theorem does_look {T kT eT T3:TypeId} {x y:Operand} {g:Nat} (hx:Opd S L x (.eq (.map (some g)))) (i:Nat) {KK:Kind κ} {KV:Kind ν} {M:List (κ×ν)} (hi:nth rs i=.map g KK KV M) {zv:ν} (hT:MapTy S.P T kT eT KK KV zv) {k:κ} (hy:Opd S L y (.tv KK k)) :
  Does S rs L (.lookup T x y false) T3 (.tv KV (mget k zv M)):=fun o ho _ φ a w hgd ha=>by
 have h1:=hgd.res i
 rw [hi] at h1
 obtain ⟨es,clock,hb,hM⟩:=h1
 obtain ⟨v,hv,hrun⟩:=run_look hT hM (g:=g) (hy φ a ha)
 have he:a.eval x=.map (some g):=hx φ a ha
 refine ⟨v,hv,fun w' hw'=>?_⟩
 have hb':w'.heap[g]?=some (.map es clock):=by rw [hw'.blk i g (by rw [hi];simp [Res.fp])];exact hb
 simp only [execOp,ho,he,Sem.run_bind,hrun w' false hb',Result.andThen_ok,Sem.run_pure,Bool.false_eq_true,if_false]
theorem map_val {KK:Kind κ} {KV:Kind ν} {φ:Fro} {M:List (κ×ν)} {v:Value} (h:(TA.tv (kMp KK KV) M).p φ v):(v=.map none∧M=[])∨∃ g es clock,v=.map (some g)∧φ.obj g=some (.map es clock)∧MapOk φ KK KV M es clock:=by
 obtain ⟨cs,(⟨rfl,hM⟩ | ⟨g,es,clock,rfl,h1,h2⟩),rfl⟩:=h
 ·exact .inl ⟨rfl,hM⟩
 ·exact .inr ⟨g,es,clock,rfl,h1,h2⟩
theorem does_lookF {T kT eT T3:TypeId} {x y:Operand} {KK:Kind κ} {KV:Kind ν} {M:List (κ×ν)} (hx:Opd S L x (.tv (kMp KK KV) M)) {zv:ν} (hT:MapTy S.P T kT eT KK KV zv) {k:κ} (hy:Opd S L y (.tv KK k)) :
  Does S rs L (.lookup T x y false) T3 (.tv KV (mget k zv M)):=fun o ho _ φ a w hgd ha=>by
 rcases map_val (hx φ a ha) with ⟨he,rfl⟩ | ⟨g,es,clock,he,hb,hM⟩
 ·obtain ⟨v,hv,hrun⟩:=run_look_nil hT (hy φ a ha)
  exact ⟨v,hv,fun w' hw'=>by simp only [execOp,ho,he,Sem.run_bind,hrun w' false,Result.andThen_ok,Sem.run_pure,Bool.false_eq_true,if_false]⟩
 ·obtain ⟨v,hv,hrun⟩:=run_look hT hM (g:=g) (hy φ a ha)
  exact ⟨v,hv,fun w' hw'=>by simp only [execOp,ho,he,Sem.run_bind,hrun w' false (hw'.fro.obj _ _ hb),Result.andThen_ok,Sem.run_pure,Bool.false_eq_true,if_false]⟩
theorem does_lookOkF {T kT eT T3:TypeId} {x y:Operand} {KK:Kind κ} {KV:Kind ν} {M:List (κ×ν)} (hx:Opd S L x (.tv (kMp KK KV) M)) {zv:ν} (hT:MapTy S.P T kT eT KK KV zv) {k:κ} (hy:Opd S L y (.tv KK k)) :
  Does S rs L (.lookup T x y true) T3 (.tup2 (.tv KV (mget k zv M)) (.tv kBool (mhas k M))):=fun o ho _ φ a w hgd ha=>by
 rcases map_val (hx φ a ha) with ⟨he,rfl⟩ | ⟨g,es,clock,he,hb,hM⟩
 ·obtain ⟨v,hv,hrun⟩:=run_look_nil hT (hy φ a ha)
  exact ⟨_,⟨v,_,rfl,hv,tv_bool.2 rfl⟩,fun w' hw'=>by simp only [execOp,ho,he,Sem.run_bind,hrun w' true,Result.andThen_ok,Sem.run_pure,if_true,mhas]⟩
 ·obtain ⟨v,hv,hrun⟩:=run_look hT hM (g:=g) (hy φ a ha)
  exact ⟨_,⟨v,_,rfl,hv,tv_bool.2 rfl⟩,fun w' hw'=>by simp only [execOp,ho,he,Sem.run_bind,hrun w' true (hw'.fro.obj _ _ hb),Result.andThen_ok,Sem.run_pure,if_true]⟩
theorem does_len_mrow {T kT eT T3:TypeId} {x:Operand} {g:Nat} (hx:Opd S L x (.eq (.map (some g)))) (i:Nat) {KK:Kind κ} {E:TypeId} {K:Kind α} {vs:List Value} {M:List (κ×List α)} (hi:nth rs i=.mrow g KK E K vs M) (hT:S.P.underlying T=some (.map kT eT)):Does S rs L (.call { callee:=.builtin .len,args:=#[x],argTypes:=#[T] }) T3 (.tv (kInt .i64) (M.length:Int)):=fun o ho _ φ a w hgd ha=>by
 have h1:=hgd.res i
 rw [hi] at h1
 obtain ⟨es,clock,hb,hM,hl0,_⟩:=h1
 have he:a.eval x=.map (some g):=hx φ a ha
 refine ⟨_,tv_int.2 rfl,fun w' hw'=>?_⟩
 have hb':w'.heap[g]?=some (.map es clock):=by rw [hw'.blk i g (by rw [hi];simp [Res.fp])];exact hb
 have hl:=hM.1.length
 have:es.size=M.length:=by
  have h3:es.toList.length=M.length:=by rw [← hl];simp [hl0]
  simpa using h3
 simp [execOp,ho,resolve,invoke,builtin,he,Builtin.len_,run_underlying hT,run_getObj hb',goInt,this]
end
end Go.Gp
end
section
set_option linter.unusedVariables false
set_option linter.unusedSimpArgs false
set_option linter.unusedSectionVars false
namespace Go.Gp
def Fro.addObj (φ:Fro) (g:Nat) (o:Obj):Fro where
 cell:=φ.cell
 obj:=fun b=>if b=g then some o else φ.obj b
theorem Fro.addObj_has {φ:Fro} {g b:Nat} {o:Obj} (h:(φ.addObj g o).has b):b=g∨φ.has b:=by
 rcases h with ⟨a,v,rfl,e⟩ | ⟨o',e⟩
 ·exact .inr (.inl ⟨a,v,rfl,e⟩)
 ·simp only [Fro.addObj] at e
  split at e
  ·rename_i h;exact .inl h
  ·exact .inr (.inr ⟨o',e⟩)
theorem Fro.le_addObj {φ:Fro} {g:Nat} {o:Obj} (h:¬ φ.has g):φ.le (φ.addObj g o):=by
 refine ⟨fun _ _ e=>e,fun b o' e=>?_⟩
 simp only [Fro.addObj]
 rw [if_neg]
 ·exact e
 ·rintro rfl
  exact h (.inr ⟨o',e⟩)
theorem Good.freezeObj {C:Ctx} {rs:List Res} {φ:Fro} {w:World} (h:Good C rs φ w) {i:Nat} {g:Nat} {o:Obj} (hg:g∈(nth rs i).fp) (ho:w.heap[g]?=some o) {r':Res} (hr':r'.ok φ w) (hfp:∀ b∈r'.fp,b∈(nth rs i).fp∧b≠g) :
  φ.le (φ.addObj g o)∧Good C (setr rs i r') (φ.addObj g o) w∧(φ.addObj g o).obj g=some o:=by
 have h0:=Good.step (r':=r') h rfl (Step.refl _ w) hr' (fun b hb=>h.lt i b (hfp b hb).1) (fun b hb=>.inl (hfp b hb).1)
 have hnot:¬ φ.has g:=h.free i g hg
 have hle':φ.le (φ.addObj g o):=Fro.le_addObj hnot
 have hil:i<rs.length:=by
  by_cases hl:i<rs.length
  ·exact hl
  ·rw [nth_ge (by omega)] at hg;simp [Res.fp] at hg
 have hn:∀ j,nth (setr rs i r') j=if j=i then r' else nth rs j:=by
  intro j
  by_cases e:j=i
  ·subst e;rw [if_pos rfl,nth_setr_same hil]
  ·rw [if_neg e,nth_setr_other (fun h=>e h.symm)]
 refine ⟨hle',⟨h0.os,h0.tape,h0.output,h0.size,h0.blk,h0.le.trans hle',?_,?_,fun j=>Res.mono hle' (h0.res j),h0.lt,h0.own,?_,h0.dis⟩,by simp [Fro.addObj]⟩
 ·intro b hb
  rcases Fro.addObj_has hb with rfl | hb
  ·exact .inr (h.own i b hg)
  ·exact h0.ext b hb
 ·constructor
  ·exact h0.fro.cell
  ·intro b o' e
   simp only [Fro.addObj] at e
   split at e
   ·rename_i hb;subst hb;injection e with e;subst e;exact ho
   ·exact h0.fro.obj b o' e
 ·intro j b hb hh'
  rcases Fro.addObj_has hh' with rfl | hh'
  ·rw [hn] at hb
   split at hb
   ·exact (hfp b hb).2 rfl
   ·rename_i e
    exact h.dis j i e b hb hg
  ·exact h0.free j b hb hh'
section
variable {S : Sit} {rs : List Res} {L : Nat → TA} {Q : Exit → Act → World → Prop} {ops : Array Oper} {o : Oper} {rest : List Oper} {κ ν α : Type} [DecidableEq κ]
theorem Agree.turnAllOf {n:Nat} {φ:Fro} {a:Act} {v:Value} {y:TA} {ts:List Nat} {L0:Nat→TA} (h:Agree n L φ a) (h0:Agree n L0 φ a) (ht:AllEq L0 (.eq v) ts) (hy:y.p φ v):Agree n (updAll L y ts) φ a:=by
 induction ts with
 | nil=>exact h
 | cons t ts ih=>
  refine (ih ht.2).turn ?_
  have:=h0.tmp t
  rw [ht.1] at this
  rw [show a.tmps.getD t undef=v from this]
  exact hy
theorem At.mapfreeze {G:Act→World→Prop} (i:Nat) (ts:List Nat) {g:Nat} {KK:Kind κ} {KV:Kind ν} {M:List (κ×ν)} (hi:nth rs i=.map g KK KV M) (ht:AllEq L (.eq (.map (some g))) ts) (k:At S (setr rs i (.fmap g KK KV M)) (updAll L (.tv (kMp KK KV) M) ts) G):At S rs L G:=fun φ a w hgd ha=>by
 have h1:=hgd.res i
 rw [hi] at h1
 obtain ⟨es,clock,hb,hM⟩:=h1
 obtain ⟨hle,hg2,hobj⟩:=hgd.freezeObj (i:=i) (g:=g) (r':=.emp) (by rw [hi];simp [Res.fp]) hb trivial (fun b hb=>by simp [Res.fp] at hb)
 have hf:(Res.fmap g KK KV M).ok (φ.addObj g (.map es clock)) w:=⟨es,clock,hobj,hM.mono hle⟩
 have hil:i<rs.length:=by
  by_cases hl:i<rs.length
  ·exact hl
  ·rw [nth_ge (by omega)] at hi;cases hi
 have hg3:Good S.C (setr rs i (.fmap g KK KV M)) (φ.addObj g (.map es clock)) w:=by
  have hn:∀ r j,nth (setr rs i r) j=if j=i then r else nth rs j:=by
   intro r j
   by_cases e:j=i
   ·subst e;rw [if_pos rfl,nth_setr_same hil]
   ·rw [if_neg e,nth_setr_other (fun h=>e h.symm)]
  have hfp:∀ j,(nth (setr rs i (.fmap g KK KV M)) j).fp=(nth (setr rs i .emp) j).fp:=by
   intro j;rw [hn,hn];split<;>rfl
  refine ⟨hg2.os,hg2.tape,hg2.output,hg2.size,hg2.blk,hg2.le,hg2.ext,hg2.fro,?_,?_,?_,?_,?_⟩
  ·intro j
   rw [hn]
   split
   ·exact hf
   ·rename_i e
    have:=hg2.res j
    rw [hn,if_neg e] at this
    exact this
  ·intro j;rw [hfp];exact hg2.lt j
  ·intro j;rw [hfp];exact hg2.own j
  ·intro j;rw [hfp];exact hg2.free j
  ·intro j l;rw [hfp,hfp];exact hg2.dis j l
 exact k _ a w hg3 ((ha.mono hle).turnAllOf (ha.mono hle) ht ⟨_,.inr ⟨g,es,clock,rfl,hobj,hM.mono hle⟩,rfl⟩)
theorem At.boxturn {G:Act→World→Prop} (i:Nat) {β γ:Type} {g:Nat} {T:TypeId} {K:Kind β} {K':Kind γ} {x:β} {y:γ} (hi:nth rs i=.box g T K x) (hc:∀ φ w cs,(∀ j,(nth rs j).ok φ w)→K.rep φ x cs→K'.rep φ y cs) (k:At S (setr rs i (.box g T K' y)) L G):At S rs L G:=fun φ a w hgd ha=>by
 have h1:=hgd.res i
 rw [hi] at h1
 obtain ⟨cs,hb,hr⟩:=h1
 exact k φ a w (hgd.step (r':=.box g T K' y) hi (Step.refl _ w) ⟨cs,hb,hc φ w cs hgd.res hr⟩ (fun b hb'=>hgd.lt i b (by rw [hi];exact hb')) (fun b hb'=>.inl hb')) ha
theorem fmap_rep {φ:Fro} {w:World} {j:Nat} {g:Nat} {KK:Kind κ} {KV:Kind ν} {M:List (κ×ν)} (hj:nth rs j=.fmap g KK KV M) (h:∀ j,(nth rs j).ok φ w) {cs:List Value} (hr:kRaw.rep φ (.map (some g)) cs):(kMp KK KV).rep φ M cs:=by
 have h1:=h j
 rw [hj] at h1
 obtain ⟨es,c,h2,h3⟩:=h1
 rw [hr.1]
 exact .inr ⟨g,es,c,rfl,h2,h3⟩
theorem blocksV_append:∀ (A B:List Value),blocksV (A++B)=blocksV A++blocksV B
 | [],B=>rfl
 | a::A,B=>by simp [blocksV,blocksV_append A B]
theorem rowsOk_append {φ:Fro} {w:World} {E:TypeId} {K:Kind α}:∀ {A B:List Value} {xa xb:List (List α)},RowsOk φ w E K A xa→RowsOk φ w E K B xb→RowsOk φ w E K (A++B) (xa++xb)
 | [],B,xa,xb,h,k=>by rw [show xa=[] from h];exact k
 | a::A,B,_,xb,⟨xs,r,e,h1,h2⟩,k=>⟨xs,r++xb,by rw [e];rfl,h1,rowsOk_append h2 k⟩
theorem rowsOk_split {φ:Fro} {w:World} {E:TypeId} {K:Kind α}:∀ {A B:List Value} {xss:List (List α)},RowsOk φ w E K (A++B) xss→∃ xa xb,xss=xa++xb∧xa.length=A.length∧RowsOk φ w E K A xa∧RowsOk φ w E K B xb
 | [],B,xss,h=>⟨[],xss,rfl,rfl,rfl,h⟩
 | a::A,B,_,⟨xs,r,e,h1,h2⟩=>by
  obtain ⟨xa,xb,rfl,hl,h3,h4⟩:=rowsOk_split h2
  exact ⟨xs::xa,xb,e,by simp [hl],⟨xs,xa,rfl,h1,h3⟩,h4⟩
theorem zip_at:∀ {ks:List κ} {vs:List Value} {A B:List (κ×Value)} {k:κ} {v:Value},ks.zip vs=A++(k,v)::B→ks.length=vs.length→∃ ka kb va vb,ks=ka++k::kb∧vs=va++v::vb∧ka.length=A.length∧va.length=A.length∧ka.zip va=A∧kb.zip vb=B
 | [],[],A,B,k,v,h,_=>by simp at h
 | k'::ks,v'::vs,[],B,k,v,h,hl=>by
  simp only [List.zip_cons_cons,List.nil_append,List.cons.injEq,Prod.mk.injEq] at h
  obtain ⟨⟨rfl,rfl⟩,rfl⟩:=h
  exact ⟨[],ks,[],vs,rfl,rfl,rfl,rfl,rfl,rfl⟩
 | k'::ks,v'::vs,a::A,B,k,v,h,hl=>by
  simp only [List.zip_cons_cons,List.cons_append,List.cons.injEq] at h
  obtain ⟨rfl,h⟩:=h
  obtain ⟨ka,kb,va,vb,rfl,rfl,h1,h2,h3,h4⟩:=zip_at h (by simpa using hl)
  exact ⟨k'::ka,kb,v'::va,vb,rfl,rfl,by simp [h1],by simp [h2],by simp [h3],h4⟩
theorem keys_at {x:List (κ×List α)} {ka kb:List κ} {k:κ} (h:x.map (·.1)=ka++k::kb):∃ xa xs xb,x=xa++(k,xs)::xb∧xa.map (·.1)=ka∧xb.map (·.1)=kb:=by
 obtain ⟨xa,y,rfl,h1,h2⟩:=List.map_eq_append_iff.1 h
 obtain ⟨⟨k',xs⟩,xb,rfl,rfl,h3⟩:=List.map_eq_cons_iff.1 h2
 exact ⟨xa,xs,xb,rfl,h1,h3⟩
theorem mget_at {x xa xb:List (κ×List α)} {k:κ} {xs:List α} (hx:x=xa++(k,xs)::xb) (hn:(x.map (·.1)).Nodup):mget k [] x=xs∧(∀ ys,mset k ys x=xa++(k,ys)::xb)∧mhas k x=true:=by
 subst hx
 have:k∉xa.map (·.1):=by
  rw [List.map_append,List.nodup_append] at hn
  intro hm
  exact hn.2.2 k hm k (by simp) rfl
 clear hn
 induction xa with
 | nil=>exact ⟨by simp [mget],fun ys=>by simp [mset],by simp [mhas]⟩
 | cons a xa ih=>
  obtain ⟨k',ys'⟩:=a
  simp only [List.map_cons,List.mem_cons,not_or] at this
  have h1:=ih this.2
  have hk:¬ k'=k:=fun h=>this.1 h.symm
  exact ⟨by simp [mget,hk,h1.1],fun ys=>by simp [mset,hk,h1.2.1],by simp [mhas,hk,h1.2.2]⟩
theorem mget_no {x:List (κ×List α)} {k:κ} (hn:k∉x.map (·.1)):mget k [] x=[]∧(∀ ys,mset k ys x=x++[(k,ys)])∧mhas k x=false:=by
 induction x with
 | nil=>exact ⟨rfl,fun _=>rfl,rfl⟩
 | cons a x ih=>
  obtain ⟨k',ys'⟩:=a
  simp only [List.map_cons,List.mem_cons,not_or] at hn
  have h1:=ih hn.2
  have hk:¬ k'=k:=fun h=>hn.1 h.symm
  exact ⟨by simp [mget,hk,h1.1],fun ys=>by simp [mset,hk,h1.2.1],by simp [mhas,hk,h1.2.2]⟩
theorem eraseIdx_at {β:Type}:∀ (A:List β) (x:β) (B:List β),(A++x::B).eraseIdx A.length=A++B
 | [],x,B=>rfl
 | a::A,x,B=>by simp [eraseIdx_at A x B]
theorem MapOk.nodup {φ:Fro} {KK:Kind κ} {KV:Kind ν} {M:List (κ×ν)} {es:Array MapEntry} {clock:Nat} (h:MapOk φ KK KV M es clock):(M.map (·.1)).Nodup:=h.2.2.2
theorem zip_keys:∀ {ks:List κ} {vs:List Value},ks.length=vs.length→(ks.zip vs).map (·.1)=ks
 | [],vs,_=>rfl
 | k::ks,[],h=>by simp at h
 | k::ks,v::vs,h=>by simp [zip_keys (show ks.length=vs.length by simpa using h)]
theorem hole_of {φ:Fro} {w:World} {C:Ctx} (hgd:Good C rs φ w) {i g:Nat} {KK:Kind κ} {E:TypeId} {K:Kind α} {vs va vb:List Value} {x xa xb:List (κ×List α)} {v:Value} {k:κ} {xs:List α} {s:Int} {w':World} {r0:Res} (hi:nth rs i=r0) (hfp:r0.fp=g::blocksV (va++vb)∨r0.fp=g::blocksV (va++v::vb))
  (hst:Step [g] w w') (hvs:vs=va++v::vb) (hx:x=xa++(k,xs)::xb) (hl:va.length=xa.length)
  (hok:(Res.mrow g KK E K vs x).ok φ w') (hs:∀ es clock,w'.heap[g]?=some (.map es clock)→∃ e,es.toList[xa.length]?=some e∧(e.born:Int)=s) (hrow:r0.fp=g::blocksV (va++vb)→v.ownBlock=none) :
  Good C (.row v E K xs::setr rs i (.mhole g KK E K vs x k (some xa.length) v s)) φ w':=by
 obtain ⟨es,clock,hb,hM,hlen,hrows,hnd⟩:=hok
 obtain ⟨ra,rb,hra,hrl,hra2,hrb2⟩:=rowsOk_split (A:=va) (B:=v::vb) (xss:=x.map (·.2)) (by rw [← hvs];exact hrows)
 obtain ⟨xs',r,e',⟨cs,ho,hre⟩,hrb3⟩:=hrb2
 have hsplit:x.map (·.2)=xa.map (·.2)++xs::xb.map (·.2):=by rw [hx];simp
 rw [hsplit,e'] at hra
 obtain ⟨h1,h2⟩:=List.append_inj hra (by simp [hrl,hl])
 injection h2 with h2 h3
 subst h2
 have hbl:blocksV vs=blocksV va++(v.ownBlock.toList++blocksV vb):=by rw [hvs,blocksV_append];rfl
 have hless:lessAt vs (some xa.length)=va++vb:=by rw [hvs,← hl];exact eraseIdx_at va v vb
 have hlessx:(lessAt x (some xa.length)).map (·.2)=xa.map (·.2)++xb.map (·.2):=by rw [hx,lessAt,eraseIdx_at];simp
 have hg:g∈r0.fp:=by rcases hfp with h | h<;>rw [h]<;>simp
 have hsub:∀ b∈(Res.mhole g KK E K vs x k (some xa.length) v s).fp,b∈r0.fp:=by
  intro b hb'
  simp only [Res.fp,hless] at hb'
  rcases hfp with h | h
  ·rw [h];exact hb'
  ·rw [h]
   simp only [List.mem_cons,blocksV_append,List.mem_append,blocksV] at hb' ⊢
   rcases hb' with h | h | h
   ·exact .inl h
   ·exact .inr (.inl h)
   ·exact .inr (.inr (.inr h))
 have hgood:=hgd.step (w':=w') (r':=.mhole g KK E K vs x k (some xa.length) v s) hi ⟨hst.os,hst.tape,hst.output,hst.size,fun j hj hn=>hst.blk j hj (fun hm=>hn (by rw [List.mem_singleton.1 hm];exact hg))⟩
  ⟨es,clock,hb,hM,hlen,by rw [hless,hlessx,h1,h3];exact rowsOk_append hra2 hrb3,hnd,by rw [hvs,← hl];simp,⟨xs,by rw [hx];simp⟩,hs es clock hb⟩
  (fun b hb'=>Nat.lt_of_lt_of_le (hgd.lt i b (by rw [hi];exact hsub b hb')) hst.size) (fun b hb'=>.inl (hsub b hb'))
 have hvb:∀ b∈v.ownBlock.toList,b∈r0.fp∧b≠g∧b∉blocksV va∧b∉blocksV vb:=by
  intro b hb'
  rcases hfp with h | h
  ·rw [hrow h] at hb';simp at hb'
  ·rw [hbl] at hnd
   simp only [List.nodup_cons,List.nodup_append,List.mem_append] at hnd
   refine ⟨by rw [h];simp [blocksV_append,blocksV,hb'],?_,?_,?_⟩
   ·rintro rfl
    exact hnd.1 (.inr (.inl hb'))
   ·intro hm
    exact hnd.2.2.2 b hm b (.inl hb') rfl
   ·intro hm
    exact hnd.2.2.1.2.2 b hb' b hm rfl
 have hil:i<rs.length:=by
  by_cases hl':i<rs.length
  ·exact hl'
  ·rw [nth_ge (by omega)] at hi
   subst hi
   rcases hfp with h | h<;>simp [Res.fp] at h
 have hn:∀ j,nth (setr rs i (.mhole g KK E K vs x k (some xa.length) v s)) j=if j=i then .mhole g KK E K vs x k (some xa.length) v s else nth rs j:=by
  intro j
  by_cases e:j=i
  ·subst e;rw [if_pos rfl,nth_setr_same hil]
  ·rw [if_neg e,nth_setr_other (fun h=>e h.symm)]
 have hdis:∀ j,∀ b∈v.ownBlock.toList,b∉(nth (setr rs i (.mhole g KK E K vs x k (some xa.length) v s)) j).fp:=by
  intro j b hb' hm
  obtain ⟨h4,h5,h6,h7⟩:=hvb b hb'
  rw [hn] at hm
  split at hm
  ·simp only [Res.fp,hless,List.mem_cons,blocksV_append,List.mem_append] at hm
   rcases hm with h | h | h
   ·exact h5 h
   ·exact h6 h
   ·exact h7 h
  ·rename_i e
   exact hgd.dis i j (Ne.symm e) b (by rw [hi];exact h4) hm
 refine ⟨hgood.os,hgood.tape,hgood.output,hgood.size,hgood.blk,hgood.le,hgood.ext,hgood.fro,?_,?_,?_,?_,?_⟩
 ·intro j;cases j with
  | zero=>exact ⟨cs,ho,hre⟩
  | succ j=>exact hgood.res j
 ·intro j;cases j with
  | zero=>
   intro b hb'
   have:=(hvb b hb').1
   exact Nat.lt_of_lt_of_le (hgd.lt i b (by rw [hi];exact this)) hst.size
  | succ j=>exact hgood.lt j
 ·intro j;cases j with
  | zero=>intro b hb';exact hgd.own i b (by rw [hi];exact (hvb b hb').1)
  | succ j=>exact hgood.own j
 ·intro j;cases j with
  | zero=>intro b hb';exact hgd.free i b (by rw [hi];exact (hvb b hb').1)
  | succ j=>exact hgood.free j
 ·intro j l hjl b
  cases j with
  | zero=>
   cases l with
   | zero=>exact absurd rfl hjl
   | succ l=>intro hb';exact hdis l b hb'
  | succ j=>
   cases l with
   | zero=>intro hb' hm;exact hdis j b hm hb'
   | succ l=>exact hgood.dis j l (fun e=>hjl (by rw [e])) b
end
end Go.Gp
end
section
set_option linter.unusedVariables false
set_option linter.unusedSimpArgs false
set_option linter.unusedSectionVars false
namespace Go.Gp
section
variable {S : Sit} {rs : List Res} {L : Nat → TA} {Q : Exit → Act → World → Prop} {ops : Array Oper} {o : Oper} {rest : List Oper} {κ ν α : Type} [DecidableEq κ]
theorem tv_raw {φ:Fro} {x v:Value} (h:(TA.tv kRaw x).p φ v):v=x∧x.oneCell'=true:=by
 obtain ⟨cs,⟨rfl,h1⟩,rfl⟩:=h
 exact ⟨rfl,h1⟩
theorem raw_tv {φ:Fro} {x:Value} (h:x.oneCell'=true):(TA.tv kRaw x).p φ x:=⟨[x],⟨rfl,h⟩,rfl⟩
theorem blocksV_nil_append (vs:List Value):blocksV (vs++[.slice none 0 0])=blocksV vs:=by
 rw [blocksV_append];simp [blocksV,Value.ownBlock]
theorem Step.more {A B:List Nat} {w w':World} (h:Step A w w') (hs:∀ b∈A,b∈B):Step B w w':=⟨h.os,h.tape,h.output,h.size,fun i hi hn=>h.blk i hi (fun hm=>hn (hs i hm))⟩
theorem eff_mapEntry {d:Nat} (hd:o.dst=some d) (hn:Nat.blt d S.n=true) {T kT eT:TypeId} {y z:Operand} (ho:o.op=.mapEntry T y z) {g:Nat} (hy:Opd S L y (.eq (.map (some g)))) (i:Nat) {KK:Kind κ} {E:TypeId} {K:Kind α} {vs:List Value} {x:List (κ×List α)} (hi:nth rs i=.mrow g KK E K vs x)
  (hT:MapTy S.P T kT eT KK kRaw (.slice none 0 0)) {k:κ} (hz:Opd S L z (.tv KK k)) :
  EffOk S rs L o Q [i] (fun rs' L'=>∃ v vs' j s,rs'=.row v E K (mget k [] x)::setr rs i (.mhole g KK E K vs' (mset k (mget k [] x) x) k (some j) v s)∧L'=upd L d (.tup2 (.eq v) (.eq (.int .i64 s)))):=by
 intro φ a w KF hgd ha kk
 have h1:=hgd.res i
 rw [hi] at h1
 obtain ⟨es,clock,hb,hM,hlen,hrows,hnd⟩:=h1
 have he:a.eval y=.map (some g):=hy φ a ha
 have hkz:=hz φ a ha
 have hfind:=hT.key.find w hkz hM.1.keys
 have hnotin:g∉blocksV vs:=(List.nodup_cons.1 hnd).1
 have hsame:∀ {w':World},Step [g] w w'→RowsOk φ w' E K vs (x.map (·.2)):=fun hst=>hrows.same (fun b hb'=>hst.blk b (hrows.lt b hb') (fun hm=>hnotin (by rw [List.mem_singleton.1 hm] at hb';exact hb')))
 obtain ⟨zv,hzr,hzp⟩:=hT.zero.zero
 have hzv:=(tv_raw (hzp φ)).1
 subst hzv
 have hkl:(x.map (·.1)).length=vs.length:=by rw [List.length_map,hlen]
 rcases hM.1.at k 0 with ⟨a1,a2,a3,a4,a5⟩ | ⟨A,v,B,ea,e,eb,a1,a2,a3,a4,a5,a6,a7,a8,a9,a10,a11⟩
 ·obtain ⟨w',hs,hg',hst⟩:=run_setObj (P:=S.P) hb (by intro _ _ _;simp) (.map (es.push { key:=a.eval z,val:=.slice none 0 0,born:=clock }) (clock+1))
  have hno:k∉x.map (·.1):=by
   have:((x.map (·.1)).zip vs).map (·.1)=x.map (·.1):=zip_keys hkl
   rw [this] at a5;exact a5
  have hg0:=mget_no hno
  have hrun:(execOp a.eval o).run S.P w=.ok (.value (.tuple #[.slice none 0 0,.int .i64 clock])) w':=by
   simp only [execOp,ho,he,Instr.mapEntry,Sem.run_bind,run_underlying hT.und,Result.andThen_ok,run_getObj hb,hT.key.check _ w hkz,hfind,a1,hzr,hs,Sem.run_pure,goInt]
  show o.upon S.P a _ Q _
  rw [hrun]
  have hok:(Res.mrow g KK E K (vs++[.slice none 0 0]) (x++[(k,[])])).ok φ w':=by
   refine ⟨_,_,hg',?_,by simp [hlen],?_,by rw [blocksV_nil_append];exact hnd⟩
   ·have:=hM.push (k:=k) (y:=.slice none 0 0) (e':={ key:=a.eval z,val:=.slice none 0 0,born:=clock }) a5 rfl hkz (raw_tv rfl)
    have e1:((x++[(k,([]:List α))]).map (·.1)).zip (vs++[.slice none 0 0])=(x.map (·.1)).zip vs++[(k,.slice none 0 0)]:=by
     rw [List.map_append,List.zip_append (by simpa using hkl)];rfl
    rw [e1];exact this
   ·rw [List.map_append]
    exact rowsOk_append (hsame hst) ⟨[],[],rfl,⟨[],World.ownsRow_nil _ _ _ _,rfl⟩,rfl⟩
  have hG:=hole_of hgd (va:=vs) (vb:=[]) (xa:=x) (xb:=[]) (v:=.slice none 0 0) (k:=k) (xs:=[]) (s:=clock) (vs:=vs++[.slice none 0 0]) (x:=x++[(k,[])]) hi (.inl (by simp [Res.fp])) hst rfl rfl hlen hok (fun es' c' h=>by
   rw [hg'] at h
   injection h with h;injection h with h _
   subst h
   refine ⟨{ key:=a.eval z,val:=.slice none 0 0,born:=clock },?_,rfl⟩
   have hl:=hM.1.length
   have:x.length=es.toList.length:=by rw [← hl,List.length_zip,hkl,hlen];simp
   rw [Array.toList_push,this]
   simp) (fun _=>rfl)
  refine kk (.row (.slice none 0 0) E K (mget k [] x)::setr rs i (.mhole g KK E K (vs++[.slice none 0 0]) (mset k (mget k [] x) x) k (some x.length) (.slice none 0 0) clock)) _ φ _ w' ⟨_,_,_,_,rfl,rfl⟩ (.refl _) ?_ (ha.putE (.refl _) hd hn ⟨_,_,rfl,rfl,rfl⟩) (hst.more (by intro b hb';rw [List.mem_singleton.1 hb'];simp [blocksOf,hi,Res.fp]))
  rw [hg0.1,hg0.2.1]
  exact hG
 ·obtain ⟨ka,kb,va,vb,hks,hvs,hl1,hl2,hz1,hz2⟩:=zip_at a2 hkl
  obtain ⟨xa,xs,xb,hx,hxa,hxb⟩:=keys_at hks
  have hnod:(x.map (·.1)).Nodup:=by have:=hM.nodup;rwa [zip_keys hkl] at this
  have hg0:=mget_at hx hnod
  have hxl:xa.length=A.length:=by rw [← hl1,← hxa];simp
  have hval:=tv_raw a10
  have e1:=getElem_at es a3
  have e2:=modify_toArray es a3 (fun e=>{ e with key:=a.eval z })
  rw [a4] at e1 e2
  obtain ⟨w',hs,hg',hst⟩:=run_setObj (P:=S.P) hb (by intro _ _ _;simp) (.map (ea++{ e with key:=a.eval z }::eb).toArray clock)
  have hrun:(execOp a.eval o).run S.P w=.ok (.value (.tuple #[v,.int .i64 e.born])) w':=by
   simp only [execOp,ho,he,Instr.mapEntry,Sem.run_bind,run_underlying hT.und,Result.andThen_ok,run_getObj hb,hT.key.check _ w hkz,hfind,a1,Nat.zero_add,e1,Option.map_some,Option.getD_some,run_stays hT.key a9 hkz,e2,hs,Sem.run_pure,goInt]
   rw [hval.1]
  show o.upon S.P a _ Q _
  rw [hrun]
  have hok:(Res.mrow g KK E K vs x).ok φ w':=by
   refine ⟨_,_,hg',?_,hlen,hsame hst,hnd⟩
   have:=hM.set (e':={ e with key:=a.eval z }) (y:=v) a2 a3 a4 a8 a11 rfl hkz a10
   rw [a2];exact this
  have hG:=hole_of hgd (va:=va) (vb:=vb) (xa:=xa) (xb:=xb) (v:=v) (k:=k) (xs:=xs) (s:=e.born) (vs:=vs) (x:=x) hi (.inr (by simp [Res.fp,hvs])) hst hvs hx (by rw [hl2,hxl]) hok (fun es' c' h=>by
   rw [hg'] at h
   injection h with h;injection h with h _
   subst h
   refine ⟨{ e with key:=a.eval z },?_,rfl⟩
   rw [hxl,← a4]
   simp) (fun h=>by
    have h:=congrArg List.length h
    simp only [Res.fp,hvs,blocksV_append,blocksV,List.length_cons,List.length_append] at h
    cases e:v.ownBlock with
    | none=>rfl
    | some b=>rw [e] at h;simp at h)
  refine kk (.row v E K (mget k [] x)::setr rs i (.mhole g KK E K vs (mset k (mget k [] x) x) k (some xa.length) v e.born)) _ φ _ w' ⟨_,_,_,_,rfl,rfl⟩ (.refl _) ?_ (ha.putE (.refl _) hd hn ⟨_,_,rfl,rfl,rfl⟩) (hst.more (by intro b hb';rw [List.mem_singleton.1 hb'];simp [blocksOf,hi,Res.fp]))
  rw [hg0.1,hg0.2.1,← hx]
  exact hG
theorem Good.merge {C:Ctx} {rs:List Res} {φ:Fro} {w w':World} (h:Good C rs φ w) {i i2:Nat} {r1 r2 r':Res} (h1:nth rs i=r1) (h2:nth rs i2=r2) (hne:i≠i2) (k:Step (r1.fp++r2.fp) w w') (hr:r'.ok φ w') (hf:∀ b∈r'.fp,b∈r1.fp∨b∈r2.fp) (hil:i<rs.length) :
  Good C (setr (setr rs i2 .emp) i r') φ w':=by
 have hn:∀ j,nth (setr (setr rs i2 .emp) i r') j=if j=i then r' else if j=i2 then .emp else nth rs j:=by
  intro j
  have hl:∀ (l:List Res) (q:Nat) (x:Res),(setr l q x).length=l.length:=by
   intro l
   induction l with
   | nil=>intro q x;rfl
   | cons a l ih=>intro q x;cases q<;>simp [setr,ih]
  by_cases e:j=i
  ·subst e;rw [if_pos rfl,nth_setr_same (by rw [hl];exact hil)]
  ·rw [if_neg e,nth_setr_other (fun h=>e h.symm)]
   by_cases e2:j=i2
   ·subst e2
    rw [if_pos rfl]
    by_cases hl2:j<rs.length
    ·exact nth_setr_same hl2
    ·rw [nth_setr_out (by omega)];exact nth_ge (by omega)
   ·rw [if_neg e2,nth_setr_other (fun h=>e2 h.symm)]
 have hin:∀ b,b∈r1.fp++r2.fp→∃ j,(j=i∨j=i2)∧b∈(nth rs j).fp:=by
  intro b hb
  rcases List.mem_append.1 hb with hb | hb
  ·exact ⟨i,.inl rfl,by rw [h1];exact hb⟩
  ·exact ⟨i2,.inr rfl,by rw [h2];exact hb⟩
 have hf':∀ b∈r'.fp,b∈r1.fp++r2.fp:=fun b hb=>List.mem_append.2 (hf b hb)
 have hfree:∀ b∈r1.fp++r2.fp,¬ φ.has b:=fun b hb=>let ⟨j,_,hj⟩:=hin b hb;h.free j b hj
 refine ⟨k.os.trans h.os,k.tape.trans h.tape,k.output.trans h.output,Nat.le_trans h.size k.size,?_,h.le,h.ext,h.fro.step k hfree,?_,?_,?_,?_,?_⟩
 ·intro b hb hS
  rw [k.blk b (Nat.lt_of_lt_of_le hb h.size) (fun hm=>?_)]
  ·exact h.blk b hb hS
  ·obtain ⟨j,_,hj⟩:=hin b hm
   rcases h.own j b hj with h3 | h3
   ·omega
   ·exact hS h3
 ·intro j
  rw [hn]
  split
  ·exact hr
  ·split
   ·trivial
   ·rename_i e1 e2
    refine Res.stable (fun b hb=>k.blk b (h.lt j b hb) (fun hm=>?_)) (h.res j)
    rcases List.mem_append.1 hm with hm | hm
    ·exact h.dis j i e1 b hb (by rw [h1];exact hm)
    ·exact h.dis j i2 e2 b hb (by rw [h2];exact hm)
 ·intro j b
  rw [hn]
  split
  ·intro hb
   obtain ⟨j',_,hj'⟩:=hin b (hf' b hb)
   exact Nat.lt_of_lt_of_le (h.lt j' b hj') k.size
  ·split
   ·intro hb;simp [Res.fp] at hb
   ·intro hb;exact Nat.lt_of_lt_of_le (h.lt j b hb) k.size
 ·intro j b
  rw [hn]
  split
  ·intro hb
   obtain ⟨j',_,hj'⟩:=hin b (hf' b hb)
   exact h.own j' b hj'
  ·split
   ·intro hb;simp [Res.fp] at hb
   ·exact h.own j b
 ·intro j b
  rw [hn]
  split
  ·intro hb;exact hfree b (hf' b hb)
  ·split
   ·intro hb;simp [Res.fp] at hb
   ·exact h.free j b
 ·intro j l hjl b
  rw [hn,hn]
  by_cases e1:j=i
  ·rw [if_pos e1,if_neg (fun e=>hjl (e1.trans e.symm))]
   intro hb hb'
   by_cases e2:l=i2
   ·rw [if_pos e2] at hb';simp [Res.fp] at hb'
   ·rw [if_neg e2] at hb'
    rcases hf b hb with h3 | h3
    ·exact h.dis i l (fun e=>hjl (e1.trans e)) b (by rw [h1];exact h3) hb'
    ·exact h.dis i2 l (fun e=>e2 e.symm) b (by rw [h2];exact h3) hb'
  ·rw [if_neg e1]
   by_cases e2:j=i2
   ·rw [if_pos e2];intro hb;simp [Res.fp] at hb
   ·rw [if_neg e2]
    by_cases e3:l=i
    ·rw [if_pos e3]
     intro hb hb'
     rcases hf b hb' with h3 | h3
     ·exact h.dis j i e1 b hb (by rw [h1];exact h3)
     ·exact h.dis j i2 e2 b hb (by rw [h2];exact h3)
    ·rw [if_neg e3]
     by_cases e4:l=i2
     ·rw [if_pos e4];intro _ hb';simp [Res.fp] at hb'
     ·rw [if_neg e4];exact h.dis j l hjl b
theorem split_at {β:Type} {l:List β} {j:Nat} {x:β} (h:l[j]?=some x):∃ A B,l=A++x::B∧A.length=j:=by
 obtain ⟨hj,hx⟩:=List.getElem?_eq_some_iff.1 h
 exact ⟨l.take j,l.drop (j+1),by rw [← hx];simp,by simp;omega⟩
theorem nodup_swap {g:Nat} {va vb:List Value} {v v':Value} (h:(g::blocksV (va++v::vb)).Nodup) (h2:∀ b∈v'.ownBlock.toList,b≠g∧b∉blocksV va∧b∉blocksV vb):(g::blocksV (va++v'::vb)).Nodup:=by
 simp only [blocksV_append,blocksV,List.nodup_cons,List.nodup_append,List.mem_append] at h ⊢
 obtain ⟨h3,h4,⟨h5,h6,h7⟩,h8⟩:=h
 refine ⟨?_,h4,⟨?_,h6,?_⟩,?_⟩
 ·rintro (hm | hm | hm)
  ·exact h3 (.inl hm)
  ·exact (h2 g hm).1 rfl
  ·exact h3 (.inr (.inr hm))
 ·cases v'.ownBlock<;>simp
 ·rintro b hb c hc rfl
  exact (h2 b hb).2.2 hc
 ·rintro b hb c hc rfl
  rcases hc with hc | hc
  ·exact (h2 b hc).2.1 hb
  ·exact h8 b hb b (.inr hc) rfl
theorem hole_shut {φ:Fro} {w:World} {C:Ctx} (hgd:Good C rs φ w) {i i2 g j:Nat} {KK:Kind κ} {E:TypeId} {K:Kind α} {vs:List Value} {X:List (κ×List α)} {v v':Value} {k:κ} {ys:List α} {s:Int} (hi:nth rs i=.mhole g KK E K vs X k (some j) v s) (hi2:nth rs i2=.row v' E K ys) (hne:i≠i2)
  {w':World} (hst:Step [g] w w') {es:Array MapEntry} {clock:Nat} (hb:w'.heap[g]?=some (.map es clock)) (hM:MapOk φ KK kRaw ((X.map (·.1)).zip (vs.set j v')) es clock) :
  Good C (setr (setr rs i2 .emp) i (.mrow g KK E K (vs.set j v') (X.set j (k,ys)))) φ w':=by
 have h1:=hgd.res i
 have h2:=hgd.res i2
 have hd:=hgd.dis i i2 hne
 rw [hi] at h1 hd
 rw [hi2] at h2 hd
 obtain ⟨es0,clock0,hb0,hM0,hlen,hrows,hnd,hv,⟨xs,hX⟩,e,he,hes⟩:=h1
 obtain ⟨cs,hown,hreps⟩:=h2
 obtain ⟨va,vb,rfl,hva⟩:=split_at hv
 obtain ⟨xa,xb,rfl,hxa⟩:=split_at hX
 have hil:i<rs.length:=by
  by_cases hl:i<rs.length
  ·exact hl
  ·rw [nth_ge (by omega)] at hi;cases hi
 have hless:lessAt (va++v::vb) (some j)=va++vb:=by rw [← hva];exact eraseIdx_at va v vb
 have hlessx:(lessAt (xa++(k,xs)::xb) (some j)).map (·.2)=xa.map (·.2)++xb.map (·.2):=by rw [← hxa,lessAt,eraseIdx_at];simp
 have hset:(va++v::vb).set j v'=va++v'::vb:=by rw [← hva];simp
 have hsetx:(xa++(k,xs)::xb).set j (k,ys)=xa++(k,ys)::xb:=by rw [← hxa];simp
 rw [hless,hlessx] at hrows
 rw [hset] at hM ⊢
 rw [hsetx]
 simp only [Res.fp,hless] at hd
 obtain ⟨ra,rb,hra,hrl,hra2,hrb2⟩:=rowsOk_split hrows
 obtain ⟨e1,e2⟩:=List.append_inj hra (by simp [hrl,hva,hxa])
 have hvb':∀ b∈v'.ownBlock.toList,b≠g∧b∉blocksV va∧b∉blocksV vb:=by
  intro b hb'
  have h3:b∉(g::blocksV (va++vb)):=fun hm=>hd b hm hb'
  simp only [List.mem_cons,blocksV_append,List.mem_append,not_or] at h3
  exact ⟨h3.1,h3.2.1,h3.2.2⟩
 have hnd':=nodup_swap hnd hvb'
 have hnotin:g∉blocksV (va++v'::vb):=(List.nodup_cons.1 hnd').1
 have hrows':RowsOk φ w' E K (va++v'::vb) ((xa++(k,ys)::xb).map (·.2)):=by
  have h3:RowsOk φ w E K (va++v'::vb) ((xa++(k,ys)::xb).map (·.2)):=by
   have:(xa++(k,ys)::xb).map (·.2)=ra++ys::rb:=by rw [← e1,← e2];simp
   rw [this]
   exact rowsOk_append hra2 ⟨ys,rb,rfl,⟨cs,hown,hreps⟩,hrb2⟩
  exact h3.same (fun b hb'=>hst.blk b (h3.lt b hb') (fun hm=>hnotin (by rw [List.mem_singleton.1 hm] at hb';exact hb')))
 refine hgd.merge hi hi2 hne (hst.more (by intro b hb';rw [List.mem_singleton.1 hb'];simp [Res.fp])) ⟨es,clock,hb,?_,by simpa using hlen,hrows',hnd'⟩ ?_ hil
 ·simpa using hM
 ·intro b hb'
  simp only [Res.fp,hless,List.mem_cons,blocksV_append,blocksV,List.mem_append] at hb' ⊢
  rcases hb' with h | h | h | h
  ·exact .inl (.inl h)
  ·exact .inl (.inr (.inl h))
  ·exact .inr h
  ·exact .inl (.inr (.inr h))
theorem mset_mset (k:κ) (ys zs:List α):∀ (x:List (κ×List α)),mset k ys (mset k zs x)=mset k ys x
 | []=>by simp [mset]
 | (k',v)::x=>by
  by_cases h:k'=k
  ·simp [mset,h]
  ·simp [mset,h,mset_mset k ys zs x]
theorem eff_entryStore (hd:o.dst=none) {T:TypeId} {y p z:Operand} (ho:o.op=.entryStore T y p z) {g:Nat} (hy:Opd S L y (.eq (.map (some g)))) (i i2:Nat) (hne:Nat.beq i i2=false) {KK:Kind κ} {E:TypeId} {K:Kind α} {vs:List Value} {x:List (κ×List α)} {k:κ} {j:Nat} {v v':Value} {s:Int} {zs ys:List α} (hi:nth rs i=.mhole g KK E K vs (mset k zs x) k (some j) v s)
  (hp:Opd S L p (.eq (.int .i64 s))) (hi2:nth rs i2=.row v' E K ys) (hz:Opd S L z (.eq v')) :
  EffOk S rs L o Q [i,i2] (fun rs' L'=>∃ vs',rs'=setr (setr rs i2 .emp) i (.mrow g KK E K vs' (mset k ys x))∧L'=L):=by
 intro φ a w KF hgd ha kk
 have hne':i≠i2:=fun e=>by subst e;simp at hne
 have h1:=hgd.res i
 rw [hi] at h1
 obtain ⟨es,clock,hb,hM,hlen,hrows,hnd,hv,⟨xs,hX⟩,e,he,hes⟩:=h1
 have hey:a.eval y=.map (some g):=hy φ a ha
 have hep:a.eval p=.int .i64 s:=hp φ a ha
 have hez:a.eval z=v':=hz φ a ha
 obtain ⟨ea,eb,hes1,hea⟩:=split_at he
 have hfi:es.findIdx? (fun e=>(e.born:Int)==s)=some j:=by
  have e0:es.findIdx? (fun e=>(e.born:Int)==s)=es.toList.findIdx? (fun e=>(e.born:Int)==s):=by cases es;simp
  rw [e0,hes1,List.findIdx?_append]
  have hno:ea.findIdx? (fun e=>(e.born:Int)==s)=none:=by
   rw [List.findIdx?_eq_none_iff]
   intro f hf
   have h3:=hM.2.1
   rw [hes1,List.map_append,List.pairwise_append] at h3
   have h4:=h3.2.2 f.born (List.mem_map.2 ⟨f,hf,rfl⟩) e.born (by simp)
   simp only [beq_eq_false_iff_ne]
   omega
  rw [hno]
  simp [List.findIdx?_cons,hes,hea]
 obtain ⟨w',hs,hg',hst⟩:=run_setObj (P:=S.P) hb (by intro _ _ _;simp) (.map (ea++{ e with val:=v' }::eb).toArray clock)
 have e2:=modify_toArray es hes1 (fun e=>{ e with val:=v' })
 rw [hea] at e2
 have hrun:(execOp a.eval o).run S.P w=.ok .skip w':=by
  simp only [execOp,ho,hey,hep,hez,Instr.entryStore,Sem.run_bind,Result.andThen_ok,run_getObj hb,asInt,asIntOf,Sem.run_pure,hfi,e2,hs]
 show o.upon S.P a _ Q _
 rw [hrun]
 have hone:v'.oneCell'=true:=by
  have h2:=hgd.res i2
  rw [hi2] at h2
  obtain ⟨A,c,hv'⟩:=row_val h2
  rw [hv'];rfl
 obtain ⟨va,vb,hvs,hva⟩:=split_at hv
 obtain ⟨xa,xb,hXs,hxa⟩:=split_at hX
 have hkl:((mset k zs x).map (·.1)).length=vs.length:=by rw [List.length_map,hlen]
 have hMz:((mset k zs x).map (·.1)).zip vs=(xa.map (·.1)).zip va++(k,v)::(xb.map (·.1)).zip vb:=by
  rw [hXs,hvs,List.map_append,List.map_cons,List.zip_append (by simp [hva,hxa])];rfl
 have hG:=hole_shut hgd hi hi2 hne' hst hg' (ys:=ys) (by
  have e3:((mset k zs x).map (·.1)).zip (vs.set j v')=(xa.map (·.1)).zip va++(k,v')::(xb.map (·.1)).zip vb:=by
   rw [hXs,hvs,← hva]
   simp only [List.map_append,List.map_cons,List.set_append_right _ _ (Nat.le_refl _),Nat.sub_self,List.set_cons_zero]
   rw [List.zip_append (by simp [hva,hxa])];rfl
  rw [e3]
  have hent:=hM.1
  rw [hMz,hes1] at hent
  have hsp:∀ {A B:List (κ×Value)} {ea eb:List MapEntry} {e:MapEntry},ea.length=A.length→Ents φ KK kRaw (A++(k,v)::B) (ea++e::eb)→Ents φ KK kRaw A ea∧(TA.tv KK k).p φ e.key∧Ents φ KK kRaw B eb:=by
   intro A
   induction A with
   | nil=>
    intro B ea eb e hl h
    have:ea=[]:=List.eq_nil_of_length_eq_zero (by simpa using hl)
    subst this
    obtain ⟨e',r,h1,h2,h3,h4⟩:=h
    simp only [List.nil_append,List.cons.injEq] at h1
    obtain ⟨rfl,rfl⟩:=h1
    exact ⟨rfl,h2,h4⟩
   | cons q A ih=>
    intro B ea eb e hl h
    obtain ⟨qk,qv⟩:=q
    match ea,hl with
    | f::ea,hl=>
     obtain ⟨e',r,h1,h2,h3,h4⟩:=h
     simp only [List.cons_append,List.cons.injEq] at h1
     obtain ⟨rfl,rfl⟩:=h1
     obtain ⟨i1,i2,i3⟩:=ih (by simpa using hl) h4
     exact ⟨⟨_,_,rfl,h2,h3,i1⟩,i2,i3⟩
  obtain ⟨hA,hk,hB⟩:=hsp (by simp [hea,hva,hxa]) hent
  exact hM.set (e':={ e with val:=v' }) hMz hes1 (by simp [hea,hva,hxa]) hA hB rfl hk (raw_tv hone))
 refine kk (setr (setr rs i2 .emp) i (.mrow g KK E K (vs.set j v') (mset k ys x))) _ φ _ w' ⟨_,rfl,rfl⟩ (.refl _) ?_ (ha.putN (.refl _) hd) (hst.more (by intro b hb';rw [List.mem_singleton.1 hb'];simp [blocksOf,hi,Res.fp]))
 have hmm:(mset k zs x).set j (k,ys)=mset k ys x:=by
  have hnod:((mset k zs x).map (·.1)).Nodup:=by have:=hM.nodup;rwa [zip_keys hkl] at this
  rw [← mset_mset k ys zs x,(mget_at hXs hnod).2.1,hXs,← hxa]
  simp
 rw [← hmm]
 exact hG
theorem eff_lookR {d:Nat} (hd:o.dst=some d) (hn:Nat.blt d S.n=true) {T kT eT:TypeId} {y z:Operand} (ho:o.op=.lookup T y z false) {g:Nat} (hy:Opd S L y (.eq (.map (some g)))) (i:Nat) {KK:Kind κ} {E:TypeId} {K:Kind α} {vs:List Value} {x:List (κ×List α)} (hi:nth rs i=.mrow g KK E K vs x)
  (hT:MapTy S.P T kT eT KK kRaw (.slice none 0 0)) {k:κ} (hz:Opd S L z (.tv KK k)) :
  EffOk S rs L o Q [i] (fun rs' L'=>∃ v j s,rs'=.row v E K (mget k [] x)::setr rs i (.mhole g KK E K vs x k j v s)∧L'=upd L d (.eq v)):=by
 intro φ a w KF hgd ha kk
 have h1:=hgd.res i
 rw [hi] at h1
 obtain ⟨es,clock,hb,hM,hlen,hrows,hnd⟩:=h1
 have he:a.eval y=.map (some g):=hy φ a ha
 have hkz:=hz φ a ha
 have hfind:=hT.key.find w hkz hM.1.keys
 obtain ⟨zv,hzr,hzp⟩:=hT.zero.zero
 have hzv:=(tv_raw (hzp φ)).1
 subst hzv
 have hkl:(x.map (·.1)).length=vs.length:=by rw [List.length_map,hlen]
 have hil:i<rs.length:=by
  by_cases hl:i<rs.length
  ·exact hl
  ·rw [nth_ge (by omega)] at hi;cases hi
 rcases hM.1.at k 0 with ⟨a1,a2,a3,a4,a5⟩ | ⟨A,v,B,ea,e,eb,a1,a2,a3,a4,a5,a6,a7,a8,a9,a10,a11⟩
 ·have hno:k∉x.map (·.1):=by
   have:((x.map (·.1)).zip vs).map (·.1)=x.map (·.1):=zip_keys hkl
   rw [this] at a5;exact a5
  have hg0:=mget_no hno
  have hrun:(execOp a.eval o).run S.P w=.ok (.value (.slice none 0 0)) w:=by
   simp only [execOp,ho,he,Instr.lookup,Sem.run_bind,run_underlying hT.und,Result.andThen_ok,run_getObj hb,hT.key.check _ w hkz,hfind,a1,hzr,Sem.run_pure,Bool.false_eq_true,if_false]
  show o.upon S.P a _ Q _
  rw [hrun]
  have hG:=hgd.step (w':=w) (r':=.mhole g KK E K vs x k none (.slice none 0 0) 0) hi (Step.refl _ w) ⟨es,clock,hb,hM,hlen,hrows,hnd,rfl⟩ (fun b hb'=>hgd.lt i b (by rw [hi];exact hb')) (fun b hb'=>.inl hb')
  have hG2:=hG.new (r:=.row (.slice none 0 0) E K []) (Step.refl _ w) ⟨[],World.ownsRow_nil _ _ _ _,rfl⟩ (fun b hb=>by simp [Res.fp,Value.ownBlock] at hb) (fun b hb=>by simp [Res.fp,Value.ownBlock] at hb)
  refine kk (.row (.slice none 0 0) E K (mget k [] x)::setr rs i (.mhole g KK E K vs x k none (.slice none 0 0) 0)) _ φ _ w ⟨_,_,_,rfl,rfl⟩ (.refl _) ?_ (ha.putE (.refl _) hd hn rfl) (Step.refl _ w)
  rw [hg0.1]
  exact hG2
 ·obtain ⟨ka,kb,va,vb,hks,hvs,hl1,hl2,hz1,hz2⟩:=zip_at a2 hkl
  obtain ⟨xa,xs,xb,hx,hxa,hxb⟩:=keys_at hks
  have hnod:(x.map (·.1)).Nodup:=by have:=hM.nodup;rwa [zip_keys hkl] at this
  have hg0:=mget_at hx hnod
  have hxl:xa.length=A.length:=by rw [← hl1,← hxa];simp
  have hval:=tv_raw a10
  have hrun:(execOp a.eval o).run S.P w=.ok (.value v) w:=by
   simp only [execOp,ho,he,Instr.lookup,Sem.run_bind,run_underlying hT.und,Result.andThen_ok,run_getObj hb,hT.key.check _ w hkz,hfind,a1,Sem.run_pure,Bool.false_eq_true,if_false,hval.1]
  show o.upon S.P a _ Q _
  rw [hrun]
  have hG:=hole_of hgd (va:=va) (vb:=vb) (xa:=xa) (xb:=xb) (v:=v) (k:=k) (xs:=xs) (s:=e.born) (vs:=vs) (x:=x) (w':=w) hi (.inr (by simp [Res.fp,hvs])) (Step.refl _ w) hvs hx (by rw [hl2,hxl]) ⟨es,clock,hb,hM,hlen,hrows,hnd⟩ (fun es' c' h=>by
   rw [hb] at h
   injection h with h;injection h with h _
   subst h
   exact ⟨e,by rw [a3,hxl,← a4];simp,rfl⟩) (fun h=>by
    have h:=congrArg List.length h
    simp only [Res.fp,hvs,blocksV_append,blocksV,List.length_cons,List.length_append] at h
    cases e:v.ownBlock with
    | none=>rfl
    | some b=>rw [e] at h;simp at h)
  refine kk (.row v E K (mget k [] x)::setr rs i (.mhole g KK E K vs x k (some xa.length) v e.born)) _ φ _ w ⟨_,_,_,rfl,rfl⟩ (.refl _) ?_ (ha.putE (.refl _) hd hn rfl) (Step.refl _ w)
  rw [hg0.1]
  exact hG
theorem At.mclose {G:Act→World→Prop} (i i2:Nat) (hne:Nat.beq i i2=false) {g:Nat} {KK:Kind κ} {E:TypeId} {K:Kind α} {vs:List Value} {x:List (κ×List α)} {k:κ} {j:Option Nat} {v:Value} {s:Int} (hi:nth rs i=.mhole g KK E K vs x k j v s) (hi2:nth rs i2=.row v E K (mget k [] x)) (kk:At S (setr (setr rs i2 .emp) i (.mrow g KK E K vs x)) L G):At S rs L G:=fun φ a w hgd ha=>by
 have hne':i≠i2:=fun e=>by subst e;simp at hne
 have h1:=hgd.res i
 rw [hi] at h1
 obtain ⟨es,clock,hb,hM,hlen,hrows,hnd,hv⟩:=h1
 have hkl:(x.map (·.1)).length=vs.length:=by rw [List.length_map,hlen]
 cases j with
 | none=>
  have hil:i<rs.length:=by
   by_cases hl:i<rs.length
   ·exact hl
   ·rw [nth_ge (by omega)] at hi;cases hi
  exact kk φ a w (hgd.merge hi hi2 hne' (Step.refl _ w) ⟨es,clock,hb,hM,hlen,hrows,hnd⟩ (fun b hb'=>.inl hb') hil) ha
 | some j=>
  obtain ⟨hvj,⟨xs,hX⟩,hs⟩:=hv
  have hset:vs.set j v=vs:=by
   obtain ⟨hj,hx⟩:=List.getElem?_eq_some_iff.1 hvj
   rw [← hx];simp
  have hG:=hole_shut hgd hi hi2 hne' (Step.refl _ w) hb (by rw [hset];exact hM)
  obtain ⟨xa,xb,hxs,hxa⟩:=split_at hX
  have hnod:(x.map (·.1)).Nodup:=by have:=hM.nodup;rwa [zip_keys hkl] at this
  have hg0:=mget_at hxs hnod
  have hsetx:x.set j (k,mget k [] x)=x:=by
   obtain ⟨hj,hx⟩:=List.getElem?_eq_some_iff.1 hX
   rw [hg0.1,← hx];simp
  rw [hset,hsetx] at hG
  exact kk φ a w hG ha
theorem freezeRows {C:Ctx} {E:TypeId} {K:Kind α}:∀ {vs:List Value} {xss:List (List α)} {rs:List Res} {φ:Fro} {w:World} {r0:Res} {i:Nat},Good C rs φ w→nth rs i=r0→(∀ b∈blocksV vs,b∈r0.fp)→RowsOk φ w E K vs xss →
  ∃ φ',φ.le φ'∧(∀ b,φ'.has b→φ.has b∨b∈blocksV vs)∧φ'.ok w∧φ'.obj=φ.obj∧∀ (j:Nat) (v:Value) (xs:List α),vs[j]?=some v→xss[j]?=some xs→(TA.tv (kSlice K) xs).p φ' v
 | [],xss,rs,φ,w,r0,i,hg,hi,hb,h=>⟨φ,.refl _,fun b h=>.inl h,hg.fro,rfl,fun j v xs h=>by simp at h⟩
 | v::vs,_,rs,φ,w,r0,i,hg,hi,hb,⟨xs,r,e,⟨cs,hown,hreps⟩,h3⟩=>by
  subst e
  obtain ⟨φ1,hl1,hh1,hok1,hobj1,hv1⟩:=freezeRows hg hi (fun b hb'=>hb b (by simp only [blocksV];exact List.mem_append_right _ hb')) h3
  rcases hown.2 with ⟨rfl,hn⟩ | ⟨gg,cap,cur,rfl,_,hh,hle,hcap,hcur,htake⟩
  ·refine ⟨φ1,hl1,fun b h=>(hh1 b h).imp id (fun h=>by simp only [blocksV];exact List.mem_append_right _ h),hok1,hobj1,fun j v' xs' hj hx=>?_⟩
   cases j with
   | zero=>
    simp only [List.getElem?_cons_zero,Option.some.injEq] at hj hx
    subst hj hx
    have:xs=[]:=List.eq_nil_of_length_eq_zero hn
    subst this
    exact nil_view K φ1
   | succ j=>exact hv1 j v' xs' (by simpa using hj) (by simpa using hx)
  ·have hcell:∀ j u,cs[j]?=some u→w.cell? ⟨gg,j,none⟩=some u:=by
    intro j u hu
    have:=hown.cells (g:=gg) rfl j u hu
    rwa [addr_mk] at this
   have hle2:φ1.le (φ1.add gg cs):=by
    refine ⟨fun a u e=>?_,fun _ _ e=>e⟩
    simp only [Fro.add]
    split
    ·rename_i hc
     obtain ⟨hb1,hs1,ho1⟩:=hc
     have h4:=hok1.cell a u e
     have:a=⟨gg,a.off,none⟩:=by cases a;simp_all
     rw [this] at h4
     have h5:=hcell a.off (cs[a.off]) (by simp [ho1])
     rw [h4] at h5
     simp [ho1,h5]
    ·exact e
   have hok2:(φ1.add gg cs).ok w:=by
    constructor
    ·intro a u e
     simp only [Fro.add] at e
     split at e
     ·rename_i hc
      obtain ⟨hb1,hs1,ho1⟩:=hc
      have:a=⟨gg,a.off,none⟩:=by cases a;simp_all
      rw [this]
      exact hcell _ _ e
     ·exact hok1.cell a u e
    ·exact hok1.obj
   refine ⟨φ1.add gg cs,hl1.trans hle2,fun b h=>?_,hok2,hobj1,fun j v' xs' hj hx=>?_⟩
   ·rcases Fro.add_has h with rfl | h
    ·exact .inr (by simp [blocksV,Value.ownBlock])
    ·exact (hh1 b h).imp id (fun h=>by simp only [blocksV];exact List.mem_append_right _ h)
   ·cases j with
    | zero=>
     simp only [List.getElem?_cons_zero,Option.some.injEq] at hj hx
     subst hj hx
     refine ⟨_,⟨some ⟨gg,0,none⟩,cap,rfl,hle,hcap,fun _=>⟨_,cs,rfl,hreps.mono (hl1.trans hle2),fun j u hu=>?_⟩⟩,rfl⟩
     rw [addr_mk]
     simp only [Fro.add]
     have hj:j<cs.length:=(List.getElem?_eq_some_iff.1 hu).1
     simp [hj]
     exact (List.getElem?_eq_some_iff.1 hu).2
    | succ j=>exact TA.mono hle2 (hv1 j v' xs' (by simpa using hj) (by simpa using hx))
theorem ents_rows {φ φ':Fro} {KK:Kind κ} {K:Kind α} (hl:φ.le φ'):∀ {x:List (κ×List α)} {vs:List Value} {es:List MapEntry},vs.length=x.length→(∀ (j:Nat) (v:Value) (xs:List α),vs[j]?=some v→(x.map (·.2))[j]?=some xs→(TA.tv (kSlice K) xs).p φ' v)→Ents φ KK kRaw ((x.map (·.1)).zip vs) es→Ents φ' KK (kSlice K) x es
 | [],[],es,_,_,h=>h
 | (k,xs)::x,v::vs,es,hlen,hv,⟨e,r,he,h1,h2,h3⟩=>by
  refine ⟨e,r,he,TA.mono hl h1,?_,ents_rows hl (by simpa using hlen) (fun j v' xs' a b=>hv (j+1) v' xs' (by simpa using a) (by simpa using b)) h3⟩
  rw [(tv_raw h2).1]
  exact hv 0 v xs rfl rfl
theorem At.mrowfreeze {G:Act→World→Prop} (i:Nat) (ts:List Nat) {g:Nat} {KK:Kind κ} {E:TypeId} {K:Kind α} {vs:List Value} {x:List (κ×List α)} (hi:nth rs i=.mrow g KK E K vs x) (ht:AllEq L (.eq (.map (some g))) ts) (kk:At S (setr rs i (.fmap g KK (kSlice K) x)) (updAll L (.tv (kMp KK (kSlice K)) x) ts) G):At S rs L G:=fun φ a w hgd ha=>by
 have h1:=hgd.res i
 rw [hi] at h1
 obtain ⟨es,clock,hb,hM,hlen,hrows,hnd⟩:=h1
 obtain ⟨φ1,hl1,hh1,hok1,hobj1,hv1⟩:=freezeRows hgd hi (fun b hb'=>by simp only [Res.fp];exact List.mem_cons_of_mem _ hb') hrows
 have hkl:(x.map (·.1)).length=vs.length:=by rw [List.length_map,hlen]
 have hg:g∈(nth rs i).fp:=by rw [hi];simp [Res.fp]
 have hnot:¬ φ1.has g:=fun h=>by
  rcases hh1 g h with h | h
  ·exact hgd.free i g hg h
  ·exact (List.nodup_cons.1 hnd).1 h
 have hle2:=Fro.le_addObj (o:=.map es clock) hnot
 have hle:φ.le (φ1.addObj g (.map es clock)):=hl1.trans hle2
 have hMap:MapOk (φ1.addObj g (.map es clock)) KK (kSlice K) x es clock:=by
  refine ⟨ents_rows hle hlen (fun j v xs a b=>TA.mono hle2 (hv1 j v xs a b)) hM.1,hM.2.1,hM.2.2.1,?_⟩
  have:=hM.nodup
  rwa [zip_keys hkl] at this
 have hobj:(φ1.addObj g (.map es clock)).obj g=some (.map es clock):=by simp [Fro.addObj]
 have hil:i<rs.length:=by
  by_cases hl:i<rs.length
  ·exact hl
  ·rw [nth_ge (by omega)] at hi;cases hi
 have hn:∀ j,nth (setr rs i (.fmap g KK (kSlice K) x)) j=if j=i then .fmap g KK (kSlice K) x else nth rs j:=by
  intro j
  by_cases e:j=i
  ·subst e;rw [if_pos rfl,nth_setr_same hil]
  ·rw [if_neg e,nth_setr_other (fun h=>e h.symm)]
 have hhas:∀ b,(φ1.addObj g (.map es clock)).has b→φ.has b∨b∈(nth rs i).fp:=by
  intro b hb'
  rcases Fro.addObj_has hb' with rfl | hb'
  ·exact .inr hg
  ·rcases hh1 b hb' with h | h
   ·exact .inl h
   ·exact .inr (by rw [hi];simp only [Res.fp];exact List.mem_cons_of_mem _ h)
 refine kk _ a w ⟨hgd.os,hgd.tape,hgd.output,hgd.size,hgd.blk,hgd.le.trans hle,?_,?_,?_,?_,?_,?_,?_⟩ ((ha.mono hle).turnAllOf (ha.mono hle) ht ⟨_,.inr ⟨g,es,clock,rfl,hobj,hMap⟩,rfl⟩)
 ·intro b hb'
  rcases hhas b hb' with h | h
  ·exact hgd.ext b h
  ·exact .inr (hgd.own i b h)
 ·constructor
  ·exact hok1.cell
  ·intro b o' e
   simp only [Fro.addObj] at e
   split at e
   ·rename_i hb';subst hb';injection e with e;subst e;exact hb
   ·exact hok1.obj b o' e
 ·intro j
  rw [hn]
  split
  ·exact ⟨es,clock,hobj,hMap⟩
  ·exact Res.mono hle (hgd.res j)
 ·intro j b
  rw [hn]
  split
  ·intro hb';simp [Res.fp] at hb'
  ·exact hgd.lt j b
 ·intro j b
  rw [hn]
  split
  ·intro hb';simp [Res.fp] at hb'
  ·exact hgd.own j b
 ·intro j b
  rw [hn]
  split
  ·intro hb';simp [Res.fp] at hb'
  ·rename_i e
   intro hb' hh
   rcases hhas b hh with h | h
   ·exact hgd.free j b hb' h
   ·exact hgd.dis j i e b hb' h
 ·intro j l hjl b
  rw [hn,hn]
  split
  ·intro hb';simp [Res.fp] at hb'
  ·split
   ·intro _ hb';simp [Res.fp] at hb'
   ·exact hgd.dis j l hjl b
end
end Go.Gp
end
section
set_option linter.unusedVariables false
set_option linter.unusedSimpArgs false
set_option linter.unusedSectionVars false
namespace Go.Gp
open Go.ChangeMaps (setBlock)
def W.next {α R:Type} (l:List α) (z:α) (f:Bool→α→List α→W R):W R:=fun Q=>(l=[]→f false z [] Q)∧∀ A e B,l=A++e::B→f true e (A++B) Q
section
variable {S : Sit} {rs : List Res} {L : Nat → TA} {Q : Exit → Act → World → Prop} {ops : Array Oper} {o : Oper} {rest : List Oper} {κ ν α : Type} [DecidableEq κ]
theorem does_extract_tcons {T:TypeId} {x:Operand} {s t:TA} (hx:Opd S L x (.tcons s t)):Does S rs L (.extract x 0) T s:=fun o ho _ φ a w hgd ha=>by
 obtain ⟨u,l,he,h1,h2⟩:=hx φ a ha
 exact ⟨u,h1,fun w' _=>by simp [execOp,ho,he,Instr.extract]⟩
theorem eff_range {d:Nat} (hd:o.dst=some d) (hn:Nat.blt d S.n=true) {T kT eT:TypeId} {y:Operand} (ho:o.op=.range T y) {KK:Kind κ} {KV:Kind ν} {M:List (κ×ν)} (hy:Opd S L y (.tv (kMp KK KV) M)) (hT:S.P.underlying T=some (.map kT eT)) (z:κ×ν) :
  EffOk S rs L o Q [] (fun rs' L'=>∃ g,rs'=.iter g KK KV M false z::rs∧L'=upd L d (.eq (.pointer (some ⟨g,0,none⟩)))):=by
 intro φ a w KF hgd ha kk
 have hfin:∀ ob:Obj,IterOk φ KK KV M false z ob→(execOp a.eval o).run S.P w=.ok (.value (.pointer (some ⟨w.heap.size,0,none⟩))) (w.alloc ob)→o.wp S.P a w KF Q:=by
  intro ob hob hrun
  show o.upon S.P a _ Q _
  rw [hrun]
  refine kk (.iter w.heap.size KK KV M false z::rs) _ φ _ _ ⟨_,rfl,rfl⟩ (.refl _) (hgd.new (step_alloc _ _) ⟨ob,heap_alloc_new w _,hob⟩ ?_ ?_) (ha.putE (.refl _) hd hn rfl) (step_alloc _ _)
  ·intro b hb;simp [Res.fp] at hb;subst hb;simp
  ·intro b hb;simp [Res.fp] at hb;subst hb;omega
 rcases map_val (hy φ a ha) with ⟨he,rfl⟩ | ⟨g,es,clock,he,hb,hM⟩
 ·refine hfin (.mapIter none 0 #[] 0) (.inl ⟨0,#[],0,rfl,rfl,rfl⟩) ?_
  simp [execOp,ho,he,Instr.range,run_underlying hT]
 ·refine hfin (.mapIter (some g) clock #[] clock) (.inr ⟨g,clock,#[],clock,es,clock,rfl,hb,?_,hM.2.2.1,⟨Nat.le_refl _,Nat.le_refl _⟩,?_,(fun h=>by cases h)⟩) ?_
  ·exact hM.2.1.imp (fun h=>Nat.ne_of_lt h)
  ·have:(es.filter fun e=>!(#[]:Array Nat).contains e.born)=es:=by simp
   rw [this];exact hM.1
  ·simp [execOp,ho,he,Instr.range,run_underlying hT,run_getObj (hgd.fro.obj _ _ hb)]
theorem ents_split {φ:Fro} {KK:Kind κ} {KV:Kind ν}:∀ {M:List (κ×ν)} {ea eb:List MapEntry} {e:MapEntry},Ents φ KK KV M (ea++e::eb)→∃ A k x B,M=A++(k,x)::B∧Ents φ KK KV (A++B) (ea++eb)∧(TA.tv KK k).p φ e.key∧(TA.tv KV x).p φ e.val
 | [],ea,eb,e,h=>by
  have:ea++e::eb=[]:=h
  simp at this
 | (k,x)::M,[],eb,e,⟨e',r,he,h1,h2,h3⟩=>by
  simp only [List.nil_append,List.cons.injEq] at he
  obtain ⟨rfl,rfl⟩:=he
  exact ⟨[],k,x,M,rfl,h3,h1,h2⟩
 | (k,x)::M,f::ea,eb,e,⟨e',r,he,h1,h2,h3⟩=>by
  simp only [List.cons_append,List.cons.injEq] at he
  obtain ⟨rfl,rfl⟩:=he
  obtain ⟨A,k',x',B,rfl,h4,h5,h6⟩:=ents_split h3
  exact ⟨(k,x)::A,k',x',B,rfl,⟨f,ea++eb,rfl,h1,h2,h4⟩,h5,h6⟩
theorem filter_out {l ea eb:List MapEntry} {e:MapEntry} {seen:Array Nat} (h:l.filter (fun e=>!seen.contains e.born)=ea++e::eb) (hn:(l.map (·.born)).Nodup):l.filter (fun f=>!(seen.push e.born).contains f.born)=ea++eb:=by
 have h1:l.filter (fun f=>!(seen.push e.born).contains f.born)=(l.filter (fun e=>!seen.contains e.born)).filter (fun f=>!(f.born==e.born)):=by
  rw [List.filter_filter]
  apply List.filter_congr
  intro f _
  simp only [Array.contains_push,Bool.not_or]
  rw [Bool.and_comm]
 rw [h1,h,List.filter_append,List.filter_cons]
 have hsub:(ea++e::eb).Sublist l:=by rw [← h];exact List.filter_sublist
 have hn2:((ea++e::eb).map (·.born)).Nodup:=(hsub.map _).nodup hn
 rw [List.map_append,List.map_cons,List.nodup_append] at hn2
 obtain ⟨_,h3,h4⟩:=hn2
 have hA:ea.filter (fun f=>!(f.born==e.born))=ea:=by
  rw [List.filter_eq_self]
  intro f hf
  have:=h4 f.born (List.mem_map.2 ⟨f,hf,rfl⟩) e.born (by simp)
  simpa using this
 have hB:eb.filter (fun f=>!(f.born==e.born))=eb:=by
  rw [List.filter_eq_self]
  intro f hf
  have h5:=(List.nodup_cons.1 h3).1
  have:f.born≠e.born:=fun hh=>h5 (by rw [← hh];exact List.mem_map.2 ⟨f,hf,rfl⟩)
  simpa using this
 rw [hA,hB]
 simp
theorem eff_next {d:Nat} (hd:o.dst=some d) (hn:Nat.blt d S.n=true) {y:Operand} (ho:o.op=.next y false) {g:Nat} (hy:Opd S L y (.eq (.pointer (some ⟨g,0,none⟩)))) (i:Nat) {KK:Kind κ} {KV:Kind ν} {left:List (κ×ν)} {b0:Bool} {cur:κ×ν} (hi:nth rs i=.iter g KK KV left b0 cur)
  {R:Type} {z:κ×ν} {f:Bool→κ×ν→List (κ×ν)→W R} {q:R→Prop} (hF:W.next left z f q) :
  EffOk S rs L o Q [i] (fun rs' L'=>∃ b e l,f b e l q∧rs'=setr rs i (.iter g KK KV l b e)∧L'=upd L d (.tcons (.tv kBool b) .any)):=by
 intro φ a w KF hgd ha kk
 have h1:=hgd.res i
 have h2:=hgd.lt i
 rw [hi] at h1 h2
 obtain ⟨ob,hb,hok⟩:=h1
 have he:a.eval y=.pointer (some ⟨g,0,none⟩):=hy φ a ha
 have hfin:∀ (w':World) (vs:List Value) (b:Bool) (e:κ×ν) (l:List (κ×ν)) (ob':Obj),f b e l q→Step [g] w w'→w'.heap[g]?=some ob'→IterOk φ KK KV l b e ob'→(Instr.next (.pointer (some ⟨g,0,none⟩)) false o.type).run S.P w=.ok (.tuple (.bool b::vs).toArray) w'→o.wp S.P a w KF Q:=by
  intro w' vs b e l ob' hf hst hb' hok' hrun
  have hrun2:(execOp a.eval o).run S.P w=.ok (.value (.tuple (.bool b::vs).toArray)) w':=by simp only [execOp,ho,he,Sem.run_bind,hrun,Result.andThen_ok,Sem.run_pure]
  show o.upon S.P a _ Q _
  rw [hrun2]
  refine kk (setr rs i (.iter g KK KV l b e)) _ φ _ w' ⟨b,e,l,hf,rfl,rfl⟩ (.refl _) (hgd.step hi (by simpa [Res.fp] using hst) ⟨ob',hb',hok'⟩ ?_ ?_) (ha.putE (.refl _) hd hn ⟨_,vs,rfl,tv_bool.2 rfl,trivial⟩) (hst.more (by intro b hb';rw [List.mem_singleton.1 hb'];simp [blocksOf,hi,Res.fp]))
  ·intro b' hb'';exact Nat.lt_of_lt_of_le (h2 b' hb'') hst.size
  ·intro b' hb'';exact .inl hb''
 rcases hok with ⟨since,seen,c,rfl,rfl,rfl⟩ | ⟨bm,since,seen,c0,es,clock,rfl,hm,hnd,hborn,hsc,hents,_⟩
 ·refine hfin w [] false z [] _ (hF.1 rfl) (Step.refl _ w) hb (.inl ⟨_,_,_,rfl,rfl,rfl⟩) ?_
  simp [Instr.next,getObj,Sem.run,hb,Result.andThen]
 ·have hbm:=hgd.fro.obj _ _ hm
  rcases run_next_at (P:=S.P) w o.type g bm since c0 seen es clock hb hbm hborn hsc.1 with ⟨h0,hrun⟩ | ⟨e,hem,w1,hw1,hrun⟩
  ·have hleft:left=[]:=by
    have:=hents.length
    have h0':(es.filter fun e=>!seen.contains e.born).size=0:=h0
    exact List.eq_nil_of_length_eq_zero (by rw [this,Array.length_toList];exact h0')
   subst hleft
   refine hfin w [] false z [] _ (hF.1 rfl) (Step.refl _ w) hb (.inr ⟨bm,since,seen,c0,es,clock,rfl,hm,hnd,hborn,hsc,hents,fun h=>by cases h⟩) hrun
  ·have hem':e∈(es.filter fun e=>!seen.contains e.born).toList:=hem
   obtain ⟨ea,eb,hsplit⟩:=List.append_of_mem hem'
   rw [hsplit] at hents
   obtain ⟨A,k,x,B,rfl,h4,h5,h6⟩:=ents_split hents
   have hh1:w1.heap=w.heap:=by rcases hw1 with rfl | rfl<;>rfl
   have hst:Step [g] w (setBlock w1 g (.mapIter (some bm) since (seen.push e.born) clock)):=by
    refine ⟨?_,?_,?_,?_,fun j hj hnj=>?_⟩
    ·rcases hw1 with rfl | rfl<;>rfl
    ·rcases hw1 with rfl | rfl
     ·exact ⟨rfl,Nat.le_refl _⟩
     ·exact ⟨rfl,Nat.le_succ _⟩
    ·rcases hw1 with rfl | rfl<;>rfl
    ·simp [setBlock,hh1]
    ·have:g≠j:=fun e=>hnj (by simp [e])
     simp [setBlock,hh1,Array.getElem?_setIfInBounds,this]
   have hheap:(setBlock w1 g (.mapIter (some bm) since (seen.push e.born) clock)).heap[g]?=some (.mapIter (some bm) since (seen.push e.born) clock):=by
    have hlt:=(Array.getElem?_eq_some_iff.1 hb).1
    simp [setBlock,hh1,hlt]
   have hmemE:e∈es.toList:=by simp at hem';simpa using hem'.1
   refine hfin _ [e.key,e.val] true (k,x) (A++B) _ (hF.2 A (k,x) B rfl) hst hheap (.inr ⟨bm,since,seen.push e.born,clock,es,clock,rfl,hm,hnd,hborn,⟨hsc.2,hsc.2⟩,?_,fun _=>⟨seen,e,rfl,rfl,hmemE,h5,h6⟩⟩) hrun
   ·rw [Array.toList_filter] at hsplit ⊢
    rw [filter_out hsplit hnd]
    exact h4
theorem does_entry {T3:TypeId} {y:Operand} {g:Nat} (hy:Opd S L y (.eq (.pointer (some ⟨g,0,none⟩)))) (i:Nat) {KK:Kind κ} {KV:Kind ν} {left:List (κ×ν)} {b:Bool} {cur:κ×ν} (hi:nth rs i=.iter g KK KV left b cur) (hb:b=true) :
  Does S rs L (.entry y) T3 (.tup2 (.tv KK cur.1) (.tv KV cur.2)):=fun o ho _ φ a w hgd ha=>by
 have h1:=hgd.res i
 rw [hi] at h1
 obtain ⟨ob,hob,hok⟩:=h1
 have he:a.eval y=.pointer (some ⟨g,0,none⟩):=hy φ a ha
 rcases hok with ⟨since,seen,c,rfl,rfl,hf⟩ | ⟨bm,since,seen,c0,es,clock,rfl,hm,hnd,hborn,hsc,hents,hcur⟩
 ·rw [hb] at hf;cases hf
 ·obtain ⟨seen',e,rfl,rfl,hem,h5,h6⟩:=hcur hb
  refine ⟨_,⟨e.key,e.val,rfl,h5,h6⟩,fun w' hw'=>?_⟩
  have hb':w'.heap[g]?=_:=(hw'.blk i g (by rw [hi];simp [Res.fp])).trans hob
  have:=run_entry_at (P:=S.P) w' g bm since seen' es c0 e hb' (hw'.fro.obj _ _ hm) hem hnd
  simp only [execOp,ho,he,Sem.run_bind,this,Result.andThen_ok,Sem.run_pure]
theorem opd_raw {x:Operand} {v:Value} (h:Opd S L x (.eq v)) (ho:v.oneCell'=true):Opd S L x (.tv kRaw v):=fun φ a ha=>by
 have:a.eval x=v:=h φ a ha
 rw [this];exact raw_tv ho
theorem does_load_raw {T T3:TypeId} {y:Operand} {g off:Nat} (hy:Opd S L y (.eq (.pointer (some ⟨g,off,none⟩)))) (i:Nat) {T0:TypeId} {K:Kind α} {x:α} (hi:nth rs i=.box g T0 K x)
  {get:α→Value} {set:α→Value→α} (hs:Sub K off kRaw get set) (hT:Ty S.P T kRaw) {v:Value} (hv:get x=v):Does S rs L (.load T y) T3 (.eq v):=fun o ho ht φ a w hgd ha=>by
 obtain ⟨u,hu,hrun⟩:=jc (T3:=T3) hy i hi hs hT o ho ht φ a w hgd ha
 exact ⟨u,by rw [← hv];exact (tv_raw hu).1,hrun⟩
end
end Go.Gp
end
section
set_option linter.unusedVariables false
set_option linter.unusedSimpArgs false
set_option linter.unusedSectionVars false
namespace Go.Gp
def iMin:List Int→Int
 | []=>0
 | x::r=>r.foldl (fun a b=>if b<a then b else a) x
def iMax:List Int→Int
 | []=>0
 | x::r=>r.foldl (fun a b=>if a<b then b else a) x
section
variable {S : Sit} {rs : List Res} {L : Nat → TA} {Q : Exit → Act → World → Prop} {ops : Array Oper} {o : Oper} {rest : List Oper} {α : Type}
theorem ints_of {φ:Fro} {k:IntKind}:∀ {ns:List Int} {vs:List Value},All2 (fun (t:TA) v=>t.p φ v) (ns.map fun n=>TA.tv (kInt k) n) vs→vs=ns.map (.int k)
 | [],_,.nil=>rfl
 | n::ns,_,.cons h r=>by rw [tv_int.1 h,ints_of r];rfl
theorem fold_min {P:Program} {k:IntKind} (w:World):∀ (ns:List Int) (x:Int),((ns.map (Value.int k)).foldlM Builtin.min2 (Value.int k x)).run P w=.ok (.int k (ns.foldl (fun a b=>if b<a then b else a) x)) w
 | [],x=>rfl
 | n::ns,x=>by
  simp only [List.map_cons,List.foldlM_cons,Builtin.min2,Sem.run_bind,Sem.run_pure,Result.andThen_ok,List.foldl_cons]
  exact fold_min w ns _
theorem fold_max {P:Program} {k:IntKind} (w:World):∀ (ns:List Int) (x:Int),((ns.map (Value.int k)).foldlM Builtin.max2 (Value.int k x)).run P w=.ok (.int k (ns.foldl (fun a b=>if a<b then b else a) x)) w
 | [],x=>rfl
 | n::ns,x=>by
  simp only [List.map_cons,List.foldlM_cons,Builtin.max2,Sem.run_bind,Sem.run_pure,Result.andThen_ok,List.foldl_cons,gt_iff_lt]
  exact fold_max w ns _
theorem does_mins {os:List Operand} {ts:Array TypeId} {T3:TypeId} {k:IntKind} {n:Int} {ns:List Int} (h:Opds S L os ((n::ns).map fun n=>TA.tv (kInt k) n)):Does S rs L (.call { callee:=.builtin .min,args:=os.toArray,argTypes:=ts }) T3 (.tv (kInt k) (iMin (n::ns))):=fun o ho _ φ a w hgd ha=>by
 have hv:=ints_of (h φ a ha)
 refine ⟨_,tv_int.2 rfl,fun w' _=>?_⟩
 simp only [execOp,ho,resolve,invoke,builtin,List.map_toArray,hv,Builtin.min_,List.map_cons,Sem.run_bind,Sem.run_pure,Result.andThen_ok,List.toList_toArray,fold_min]
 rfl
theorem does_maxs {os:List Operand} {ts:Array TypeId} {T3:TypeId} {k:IntKind} {n:Int} {ns:List Int} (h:Opds S L os ((n::ns).map fun n=>TA.tv (kInt k) n)):Does S rs L (.call { callee:=.builtin .max,args:=os.toArray,argTypes:=ts }) T3 (.tv (kInt k) (iMax (n::ns))):=fun o ho _ φ a w hgd ha=>by
 have hv:=ints_of (h φ a ha)
 refine ⟨_,tv_int.2 rfl,fun w' _=>?_⟩
 simp only [execOp,ho,resolve,invoke,builtin,List.map_toArray,hv,Builtin.max_,List.map_cons,Sem.run_bind,Sem.run_pure,Result.andThen_ok,List.toList_toArray,fold_max]
 rfl
theorem step_grown {w w':World} (h:w.grownBy w' none) (hd:w.drawn≤w'.drawn):Step [] w w':=⟨h.os,⟨h.tape,hd⟩,h.output,h.size,fun i hi _=>h.block i hi (by simp)⟩
theorem eff_make0 {d:Nat} (hd:o.dst=some d) (hn:Nat.blt d S.n=true) {T:TypeId} {x y:Operand} (ho:o.op=.makeSlice T x y) {E:TypeId} {K:Kind α} {bytes:Nat} (hT:SlTy S.P T E K bytes) {k k2:IntKind} {c:Int} (hx:Opd S L x (.tv (kInt k) 0)) (hy:Opd S L y (.tv (kInt k2) c)) (hb:0≤c∧c*bytes≤140737488355328∧c≤140737488355328) :
  EffOk S rs L o Q [] (fun rs' L'=>∃ v,rs'=.row v E K []::rs∧L'=upd L d (.eq v)):=by
 intro φ a w KF hgd ha kk
 obtain ⟨inf,z,hinf,hz,hsz,hby,hzs⟩:=hT.info
 obtain ⟨n,rfl⟩:=Int.eq_ofNat_of_zero_le hb.1
 have e0:(n:Int)*(bytes:Int)=((n*bytes:Nat):Int):=(Int.natCast_mul n bytes).symm
 rw [e0] at hb
 have hb2:n*bytes≤140737488355328:=by omega
 have hb3:n≤140737488355328:=by omega
 obtain ⟨w',hrun,hown,hg⟩:=run_make_own (P:=S.P) w 0 T E inf z K.sz hT.und hinf hz hsz k k2 n (by rw [hby,Nat.mul_comm];omega) (by simp only [maxLen];omega) (Nat.zero_le _)
 have hrun2:(execOp a.eval o).run S.P w=.ok (.value (.slice (some ⟨w.heap.size,0,none⟩) 0 n)) w':=by
  simp only [execOp,ho,tv_int.1 (hx φ a ha),tv_int.1 (hy φ a ha),Sem.run_bind,hrun,Result.andThen_ok,Sem.run_pure]
 show o.upon S.P a _ Q _
 rw [hrun2]
 refine kk (.row (.slice (some ⟨w.heap.size,0,none⟩) 0 n) E K []::rs) _ φ _ w' ⟨_,rfl,rfl⟩ (.refl _) (hgd.new (step_grown hg (run_drawn hrun)) ⟨[],hown,rfl⟩ ?_ ?_) (ha.putE (.refl _) hd hn rfl) (step_grown hg (run_drawn hrun))
 ·intro b hb';exact (hown.lt b (by simpa [Res.fp] using hb')).2
 ·intro b hb';simp [Res.fp,Value.ownBlock] at hb';omega
theorem made_reps {K:Kind α} {φ:Fro} {z:Array Value} {zv:α} (hs:z.size=K.sz) (hr:K.rep φ zv z.toList):∀ n:Nat,Reps K φ (List.replicate n zv) (madeCells z (n*K.sz)).toList
 | 0=>by simp [madeCells,Reps]
 | n+1=>by
  refine ⟨z.toList,(madeCells z (n*K.sz)).toList,?_,hr,made_reps hs hr n⟩
  simp only [madeCells,Array.toList_map,Array.toList_range]
  rw [show (n+1)*K.sz=K.sz+n*K.sz by rw [Nat.add_mul,Nat.one_mul,Nat.add_comm],List.range_add,List.map_append]
  congr 1
  ·apply List.ext_getElem
   ·simp [hs]
   ·intro i h1 h2
    have hi:i<z.size:=by simpa [hs] using h1
    simp [Nat.mod_eq_of_lt hi,hi]
  ·rw [List.map_map]
   apply List.map_congr_left
   intro i _
   simp [hs]
theorem eff_makeN {d:Nat} (hd:o.dst=some d) (hn:Nat.blt d S.n=true) {T:TypeId} {x y:Operand} (ho:o.op=.makeSlice T x y) {E:TypeId} {K:Kind α} {bytes:Nat} (hT:SlTy S.P T E K bytes) {zv:α} (hz0:TyZ S.P E K zv) {k k2:IntKind} {c:Int} (hx:Opd S L x (.tv (kInt k) c)) (hy:Opd S L y (.tv (kInt k2) c)) (hb:0≤c∧c*bytes≤140737488355328∧c≤140737488355328) :
  EffOk S rs L o Q [] (fun rs' L'=>∃ v,rs'=.row v E K (List.replicate c.toNat zv)::rs∧L'=upd L d (.eq v)):=by
 intro φ a w KF hgd ha kk
 obtain ⟨inf,z,hinf,hz,hsz,hby,hzs⟩:=hT.info
 obtain ⟨z2,hzr,hzp⟩:=hz0.zero
 have hzz:z2=z:=by
  have h1:=hzr w
  have h2:(zeroValue E).run S.P w=.ok z w:=by simp [zeroValue,typeInfo,hinf,hz]
  rw [h1] at h2
  injection h2
 subst hzz
 obtain ⟨n,rfl⟩:=Int.eq_ofNat_of_zero_le hb.1
 have e0:(n:Int)*(bytes:Int)=((n*bytes:Nat):Int):=(Int.natCast_mul n bytes).symm
 rw [e0] at hb
 have hb2:n*bytes≤140737488355328:=by omega
 have hb3:n≤140737488355328:=by omega
 obtain ⟨w',hrun,hown,hg⟩:=run_make_full (P:=S.P) w 0 T E inf z2 K.sz hT.und hinf hz hsz k k2 n (by rw [hby,Nat.mul_comm];omega) (by simp only [maxLen];omega) (Nat.zero_le _)
 have hrun2:(execOp a.eval o).run S.P w=.ok (.value (.slice (some ⟨w.heap.size,0,none⟩) n n)) w':=by
  simp only [execOp,ho,tv_int.1 (hx φ a ha),tv_int.1 (hy φ a ha),Sem.run_bind,hrun,Result.andThen_ok,Sem.run_pure]
 show o.upon S.P a _ Q _
 rw [hrun2]
 have hrep:=made_reps (n:=n) hzs (tv_cells (hzp φ)).1
 refine kk (.row (.slice (some ⟨w.heap.size,0,none⟩) n n) E K (List.replicate n zv)::rs) _ φ _ w' ⟨_,rfl,rfl⟩ (.refl _) (hgd.new (step_grown hg (run_drawn hrun)) ⟨_,by rw [List.length_replicate];exact hown,hrep⟩ ?_ ?_) (ha.putE (.refl _) hd hn rfl) (step_grown hg (run_drawn hrun))
 ·intro b hb';exact (hown.lt b (by simpa [Res.fp] using hb')).2
 ·intro b hb';simp [Res.fp,Value.ownBlock] at hb';omega
end
end Go.Gp
end
section
set_option linter.unusedVariables false
set_option linter.unusedSimpArgs false
set_option linter.unusedSectionVars false
namespace Go.Gp
section
variable {S : Sit} {rs : List Res} {L : Nat → TA} {Q : Exit → Act → World → Prop} {ops : Array Oper} {o : Oper} {rest : List Oper} {α β : Type}
theorem run_indexAt_arr {P:Program} {T E:TypeId} {n sz:Nat} (hu:P.underlying T=some (.array n E)) (hs:∀ w,(Go.sizeOf E).run P w=.ok sz w) (a:Addr) {k:IntKind} {i:Int} (h:0≤i∧i<(n:Int)) (w:World):(Instr.indexAt T (.pointer (some a)) (.int k i)).run P w=.ok (.pointer (some (a.add (i.toNat*sz)))) w:=by
 simp only [Instr.indexAt,asIntOf,Sem.run_bind,Sem.run_pure,Result.andThen_ok,run_underlying hu,Instr.sureAddr,if_pos h,hs]
theorem does_aidxv_box {T T3 E:TypeId} {n sz:Nat} {x y:Operand} {g off:Nat} (hx:Opd S L x (.eq (.pointer (some ⟨g,off,none⟩)))) {k:IntKind} {i:Int} (hy:Opd S L y (.tv (kInt k) i)) (hu:S.P.underlying T=some (.array n E)) (hs:∀ w,(Go.sizeOf E).run S.P w=.ok sz w) (h:0≤i∧i<(n:Int)):Does S rs L (.indexAddr T x y) T3 (.eq (.pointer (some ⟨g,off+i.toNat*sz,none⟩))):=fun o ho _ φ a w hgd ha=>by
 have he:a.eval x=.pointer (some ⟨g,off,none⟩):=hx φ a ha
 refine ⟨_,rfl,fun w' _=>?_⟩
 have:=run_indexAt_arr (P:=S.P) hu hs ⟨g,off,none⟩ (k:=k) h w'
 rw [addr_lit] at this
 simp only [execOp,ho,he,tv_int.1 (hy φ a ha),Sem.run_bind,this,Result.andThen_ok,Sem.run_pure]
theorem does_index_arr {T T3 E:TypeId} {n sz:Nat} {x y:Operand} {K:Kind α} (hA:K.agg=true) {z:α} (hx:Opd S L x (.tv K z)) {k:IntKind} {i:Int} (hy:Opd S L y (.tv (kInt k) i)) (hu:S.P.underlying T=some (.array n E)) {M:Kind β} (hE:Ty S.P E M) (hsz:M.sz=sz) (h:0≤i∧i<(n:Int)) {get:α→β} {set:α→β→α} (hsub:Sub K (i.toNat*sz) M get set):Does S rs L (.index T x y) T3 (.tv M (get z)):=fun o ho _ φ a w hgd ha=>by
 obtain ⟨cs,hr,hv⟩:=hx φ a ha
 obtain ⟨p,c,e,rfl,hp,hc,_⟩:=hsub.fits hr
 refine ⟨M.val c,⟨c,hc,rfl⟩,fun w' _=>?_⟩
 have hpart:=run_part hE (p:=p) (d:=e) hc hp w'
 have hv':a.eval x=.agg (p++c++e).toArray:=by rw [hv];simp [Kind.val,hA]
 have hi:=tv_int.1 (hy φ a ha)
 subst hsz
 simp only [execOp,ho,hv',hi,Instr.index,asIntOf,Sem.run_bind,Sem.run_pure,Result.andThen_ok,run_underlying hu,if_pos h,hE.size,hpart]
def kArr (n:Nat) (K:Kind α):Kind (List α) where
 sz:=n*K.sz
 agg:=true
 rep:=fun φ xs cs=>xs.length=n∧Reps K φ xs cs
 len:=fun h=>by rw [h.2.len,h.1]
 mono:=fun h k=>⟨k.1,k.2.mono h⟩
 one:=fun h=>h.2.one
 sc:=fun h=>by cases h
theorem subA {n:Nat} {K:Kind α} (z:α) {i:Int} (h:0≤i∧i<(n:Int)):Sub (kArr n K) (i.toNat*K.sz) K (fun x=>rd z x i) (fun x y=>x.set i.toNat y):=by
 constructor
 rintro φ xs cs ⟨hl,hr⟩
 obtain ⟨p,c,d,rfl,hp,hc,hs⟩:=hr.at i.toNat _ (rd_some (z:=z) h.1 (by omega))
 exact ⟨p,c,d,rfl,hp,hc,fun y c' hy=>⟨by rw [List.length_set];exact hl,hs y c' hy⟩⟩
theorem arr_zero {n:Nat} {K:Kind α} {z:α} {φ:Fro} {zc:List Value} (hz:K.rep φ z zc):(kArr n K).rep φ (List.replicate n z) (List.replicate n zc).flatten:=by
 refine ⟨by simp,?_⟩
 induction n with
 | zero=>rfl
 | succ n ih=>exact ⟨zc,(List.replicate n zc).flatten,by simp [List.replicate_succ],hz,ih⟩
theorem reps_flat {K:Kind α} (h:FlatK K) {φ ψ:Fro}:∀ {xs:List α} {cs:List Value},Reps K φ xs cs→Reps K ψ xs cs
 | [],_,hr=>hr
 | x::xs,_,⟨c,d,e,h1,h2⟩=>⟨c,d,e,h _ _ _ _ h1,reps_flat h h2⟩
theorem flatK_arr {n:Nat} {K:Kind α} (h:FlatK K):FlatK (kArr n K):=fun _ _ _ _ hr=>⟨hr.1,reps_flat h hr.2⟩
end
end Go.Gp
end
section
set_option linter.unusedVariables false
set_option linter.unusedSimpArgs false
set_option linter.unusedSectionVars false
namespace Go.Gp
def ExtAt (P:Program) (g:FuncId) (f:Array Value→Sem Value):Prop:=∀ (args:Array Value) (w:World),(callFunc g args).run P w=((f args).run P w).andThen fun v w'=>.ok (.value v) w'
theorem ext_of {P : Program} {g : FuncId} {fn : Func} {f : Array Value → Sem Value} (hf : P.funcs[g]? = some fn) (hn : (fn.name == "runtime.NumGoroutine") = false) (hb : fn.body.isNone = true) (h1 : Extern.findNext fn = none) (h2 : Extern.find fn = some f) : ExtAt P g f := fun args w => by
 have hn' : ¬ fn.name = "runtime.NumGoroutine" := by simpa using hn
 have hb' : fn.body = none := by simpa using hb
 simp [callFunc, run_program, hf, hn', hb', h1, h2]
section
variable {S : Sit} {rs : List Res} {L : Nat → TA} {Q : Exit → Act → World → Prop} {ops : Array Oper} {o : Oper} {rest : List Oper}
def sIndexByte (s:ByteArray) (c:Int):Int:=match (List.range s.size).find? fun i=>s[i]! == c.toNat.toUInt8 with
 | some i=>(i:Int)
 | none=>-1
theorem does_ext {g:FuncId} {f:Array Value→Sem Value} {os:List Operand} {ts:Array TypeId} {T3:TypeId} {x:TA} (he:ExtAt S.P g f) {tas:List TA} (hos:Opds S L os tas) (hr:∀ φ vs,All2 (fun (t:TA) v=>t.p φ v) tas vs→∃ v,x.p φ v∧∀ w,(f vs.toArray).run S.P w=.ok v w):Does S rs L (.call { callee:=.value (.func g),args:=os.toArray,argTypes:=ts }) T3 x:=fun o ho _ φ a w hgd ha=>by
 obtain ⟨v,hv,hrun⟩:=hr φ _ (hos φ a ha)
 refine ⟨v,hv,fun w' _=>?_⟩
 have h1:=he (os.map a.eval).toArray w'
 rw [hrun w'] at h1
 simp only [execOp,ho,resolve,Act.eval,Deferred.ofValue,Sem.run_bind,Sem.run_pure,Result.andThen_ok,invoke,List.map_toArray]
 simpa using h1
theorem does_indexByte {g:FuncId} {x y:Operand} {ts:Array TypeId} {T3:TypeId} {s:ByteArray} {c:Int} (he:ExtAt S.P g Extern.BytealgIndexByte.indexByte) (hx:Opd S L x (.tv kStr s)) (hy:Opd S L y (.tv (kInt .u8) c)):Does S rs L (.call { callee:=.value (.func g),args:=[x,y].toArray,argTypes:=ts }) T3 (.tv (kInt .i64) (sIndexByte s c)):=
 does_ext he (jf hx (jf hy jg)) fun φ vs h=>by
  cases h with
  | cons h1 h=>
   cases h with
   | cons h2 h=>
    cases h
    rw [tv_str] at h1
    rw [tv_int] at h2
    subst h1 h2
    refine ⟨_,tv_int.2 rfl,fun w=>?_⟩
    have e:Extern.BytealgIndexByte.indexByte [Value.string s,Value.int .u8 c].toArray=(do
      let b ← Extern.Bytes.bytesOf (.string s)
      let c ← Extern.Bytes.asByte (.int .u8 c)
      match (List.range b.size).find? fun i=>b[i]! == c with
      | some i=>pure (goInt i)
      | none=>pure (goInt (-1))):=rfl
    rw [e]
    simp only [Extern.Bytes.bytesOf,Extern.Bytes.asByte,Sem.run_bind,Sem.run_pure,Result.andThen_ok,sIndexByte,goInt]
    split<;>rfl
theorem does_cmpstring {g:FuncId} {x y:Operand} {ts:Array TypeId} {T3:TypeId} {s t:ByteArray} (he:ExtAt S.P g Extern.BytealgCompare.compare) (hx:Opd S L x (.tv kStr s)) (hy:Opd S L y (.tv kStr t)):Does S rs L (.call { callee:=.value (.func g),args:=[x,y].toArray,argTypes:=ts }) T3 (.tv (kInt .i64) (Extern.BytealgCompare.cmp s t)):=
 does_ext he (jf hx (jf hy jg)) fun φ vs h=>by
  cases h with
  | cons h1 h=>
   cases h with
   | cons h2 h=>
    cases h
    rw [tv_str] at h1 h2
    subst h1 h2
    exact ⟨_,tv_int.2 rfl,fun w=>rfl⟩
end
end Go.Gp
end
section
set_option linter.unusedVariables false
set_option linter.unusedSimpArgs false
set_option linter.unusedSectionVars false
namespace Go.Gp
section
variable {α β γ δ : Type}
theorem Ty.turn {P:Program} {T:TypeId} {K:Kind α} {K':Kind β} (h:Ty P T K) (h1:K'.sz=K.sz) (h2:K'.agg=K.agg):Ty P T K':=⟨fun w=>by rw [h2];exact h.agg w,fun w=>by rw [h1];exact h.size w⟩
structure Swap (K:Kind α) (x:α) (off:Nat) (M:Kind γ) (y:γ) (K':Kind β) (x':β):Prop where
 fits:∀ {φ:Fro} {cs:List Value},K.rep φ x cs→∃ p c d,cs=p++c++d∧p.length=off∧c.length=M.sz∧∀ c',M.rep φ y c'→K'.rep φ x' (p++c'++d)
theorem Swap.whole {K:Kind α} {x:α} {M:Kind γ} {y:γ} (h:Nat.beq K.sz M.sz=true):Swap K x 0 M y M y:=⟨fun {φ cs} hr=>⟨[],cs,[],by simp,rfl,by rw [K.len hr,Nat.eq_of_beq_eq_true h],fun c' h'=>by simpa using h'⟩⟩
theorem Swap.wrap {K:Kind α} {x:α} {off:Nat} {M:Kind γ} {y:γ} {K':Kind β} {x':β} (h:Swap K x off M y K' x'):Swap (kWrap K) x off M y (kWrap K') x':=⟨fun {φ cs} hr=>h.fits (show K.rep φ x cs from hr)⟩
end
section
variable {S : Sit} {rs : List Res} {L : Nat → TA} {Q : Exit → Act → World → Prop} {ops : Array Oper} {o : Oper} {rest : List Oper} {α β γ δ : Type}
theorem eff_store_swap (hd:o.dst=none) {T:TypeId} {y z:Operand} (ho:o.op=.store T y z) {g off:Nat} (hy:Opd S L y (.eq (.pointer (some ⟨g,off,none⟩)))) (i:Nat) {T0:TypeId} {K:Kind α} {x:α} (hi:nth rs i=.box g T0 K x)
  {M:Kind γ} {u:γ} {K':Kind β} {x':β} (hs:Swap K x off M u K' x') (hT:Ty S.P T M) (hz:Opd S L z (.tv M u)) :
  EffOk S rs L o Q [i] (fun rs' L'=>rs'=setr rs i (.box g T0 K' x')∧L'=L):=by
 intro φ a w KK hgd ha k
 have h1:=hgd.res i
 have h2:=hgd.lt i
 rw [hi] at h1 h2
 obtain ⟨cs,hb,hr⟩:=h1
 have he:a.eval y=.pointer (some ⟨g,off,none⟩):=hy φ a ha
 obtain ⟨p,c,d,rfl,hp,hc,hset⟩:=hs.fits hr
 obtain ⟨c',w',hc',hrun,hw',hst⟩:=run_storeVar (P:=S.P) hT (hz φ a ha) hb hc
 rw [hp] at hrun
 have hrun2:(execOp a.eval o).run S.P w=.ok .skip w':=by simp only [execOp,ho,he,Instr.storeAt,Instr.sureAddr,Sem.run_bind,Sem.run_pure,Result.andThen_ok] at hrun ⊢;rw [hrun];rfl
 show o.upon S.P a _ Q _
 rw [hrun2]
 show KK (a.put o.dst undef) w'
 refine k _ _ φ _ _ ⟨rfl,rfl⟩ (.refl _) (hgd.step hi (by simpa [Res.fp] using hst) ⟨_,hw',hset c' hc'⟩ ?_ ?_) (ha.putN (.refl _) hd) (by simpa [blocksOf,hi,Res.fp] using hst)
 ·intro b hb';exact Nat.lt_of_lt_of_le (h2 b (by simpa [Res.fp] using hb')) hst.size
 ·intro b hb';exact .inl (by simpa [Res.fp] using hb')
def Turn (rs:List Res) (K:Kind α) (x:α) (K':Kind β) (y:β):Prop:=∀ φ w cs,(∀ j,(nth rs j).ok φ w)→K.rep φ x cs→K'.rep φ y cs
theorem Turn.refl (K:Kind α) (x:α):Turn rs K x K x:=fun _ _ _ _ h=>h
theorem Turn.pair {K:Kind α} {M:Kind γ} {x:α×γ} {K':Kind β} {M':Kind δ} {a:β} {b:δ} (h:Turn rs K x.1 K' a) (k:Turn rs M x.2 M' b):Turn rs (kPair K M) x (kPair K' M') (a,b):=fun φ w cs hr ⟨c,d,e,h1,h2⟩=>⟨c,d,e,h φ w c hr h1,k φ w d hr h2⟩
theorem Turn.wrap {K:Kind α} {x:α} {K':Kind β} {y:β} (h:Turn rs K x K' y):Turn rs (kWrap K) x (kWrap K') y:=fun φ w cs hr h1=>h φ w cs hr h1
theorem Turn.isoR {K:Kind α} {x:α} {K':Kind γ} {f:β→γ} {hK:K'.agg=true} {y:β} (h:Turn rs K x K' (f y)):Turn rs K x (kIso K' f hK) y:=fun φ w cs hr h1=>h φ w cs hr h1
theorem Turn.fmap {κ ν:Type} [DecidableEq κ] {j:Nat} {g:Nat} {KK:Kind κ} {KV:Kind ν} {M:List (κ×ν)} (hj:nth rs j=.fmap g KK KV M):Turn rs kRaw (.map (some g)) (kMp KK KV) M:=fun φ w cs h hr=>fmap_rep hj h hr
theorem At.boxtold {G:Act→World→Prop} (i:Nat) {g:Nat} {T:TypeId} {K:Kind α} {K':Kind β} {x:α} {y:β} (hi:nth rs i=.box g T K x) (hc:Turn rs K x K' y) (k:At S (setr rs i (.box g T K' y)) L G):At S rs L G:=At.boxturn i hi hc k
theorem At.slottold {G:Act→World→Prop} (t:Nat) {K:Kind α} {K':Kind β} {x:α} {y:β} (ht:L t=.tv K x) (hc:Turn rs K x K' y) (hag:K'.agg=K.agg) (k:At S rs (upd L t (.tv K' y)) G):At S rs L G:=fun φ a w hgd ha=>by
 refine k φ a w hgd (ha.turn ?_)
 have:=ha.tmp t
 rw [ht] at this
 obtain ⟨cs,h1,h2⟩:=this
 exact ⟨cs,hc φ w cs hgd.res h1,by rw [h2];unfold Kind.val;rw [hag]⟩
def frow (v:Value) (K:Kind α) (xs:List α):Res:=.abs [] (fun φ _=>(TA.tv (kSlice K) xs).p φ v) (fun _ _ _ _ h=>h) (fun _ _ _ hl h=>TA.mono hl h)
theorem frow_rep {j:Nat} {v:Value} {K:Kind α} {xs:List α} (hj:nth rs j=frow v K xs):Turn rs kRaw v (kSlice K) xs:=fun φ w cs h hr=>by
 have h1:=h j
 rw [hj] at h1
 obtain ⟨ds,h2,h3⟩:=h1
 rw [hr.1]
 obtain ⟨A,c,rfl,r⟩:=h2
 have:v=.slice A xs.length c:=h3
 exact ⟨A,c,by rw [this],r⟩
theorem setr_setr:∀ (rs:List Res) (i:Nat) (x y:Res),setr (setr rs i x) i y=setr rs i y
 | [],_,_,_=>rfl
 | _::_,0,_,_=>rfl
 | r::l,i+1,x,y=>by simp [setr,setr_setr l i x y]
theorem At.freezeF {G:Act→World→Prop} (i:Nat) {v:Value} {E:TypeId} {K:Kind α} {xs:List α} (hi:nth rs i=.row v E K xs) (k:At S (setr rs i (frow v K xs)) L G):At S rs L G:=fun φ a w hgd ha=>by
 obtain ⟨φ',hl,hg',hv⟩:=hgd.freeze hi
 have hil:i<rs.length:=by
  by_cases hl:i<rs.length
  ·exact hl
  ·rw [nth_ge (by omega)] at hi;cases hi
 have:=hg'.step (i:=i) (r:=.emp) (r':=frow v K xs) (nth_setr_same hil) (Step.refl _ w) hv (fun b hb=>by simp [frow,Res.fp] at hb) (fun b hb=>by simp [frow,Res.fp] at hb)
 rw [setr_setr] at this
 exact k φ' a w this (ha.mono hl)
theorem At.viewslots {G:Act→World→Prop} (i:Nat) (ts:List Nat) {v:Value} {K:Kind α} {xs:List α} (hi:nth rs i=frow v K xs) (ht:AllEq L (.eq v) ts) (k:At S rs (updAll L (.tv (kSlice K) xs) ts) G):At S rs L G:=fun φ a w hgd ha=>by
 have h1:=hgd.res i
 rw [hi] at h1
 exact k φ a w hgd (ha.turnAllOf ha ht h1)
def cutv (l h sz:Nat) (v:Value):TA:=.fact (fun _ u=>∃ A n c,v=.slice A n c∧l≤h∧h≤c∧u=.slice (if c=l then A else A.map (·.add (l*sz))) (h-l) (c-l)) (fun _ _ _ _ h=>h)
theorem cutrow_core {T E T3:TypeId} {x:Operand} {v:Value} {K:Kind α} {xs:List α} {lo hi:Option Operand} (hx:Opd S L x (.eq v)) (j:Nat) {E':TypeId} (hj:nth rs j=.row v E' K xs) (hT:S.P.underlying T=some (.slice E)) (hE:Ty S.P E K) {l h:Nat} (hlh:l≤h) (hh:h≤xs.length)
  (hlo:∀ φ a w cap,Agree S.n L φ a→xs.length≤cap→(Instr.sliceBounds true xs.length cap (lo.map a.eval) (hi.map a.eval) none).run S.P w=.ok (l,h,cap) w):Does S rs L (.slice T x lo hi none) T3 (cutv l h K.sz v):=fun o ho _ φ a w hgd ha=>by
 have h1:=hgd.res j
 rw [hj] at h1
 obtain ⟨cs,hown,hreps⟩:=h1
 have he:a.eval x=v:=hx φ a ha
 have hv:∃ A c,v=.slice A xs.length c∧xs.length≤c:=by
  rcases hown.2 with ⟨rfl,hn⟩ | ⟨g,cap,cur,rfl,_,_,hle,_⟩
  ·exact ⟨none,0,by rw [hn],by omega⟩
  ·exact ⟨_,cap,rfl,hle⟩
 obtain ⟨A,c,rfl,hle⟩:=hv
 refine ⟨.slice (if c=l then A else A.map (·.add (l*K.sz))) (h-l) (c-l),⟨A,_,c,rfl,hlh,by omega,rfl⟩,fun w' _=>?_⟩
 have hb:=fun cap hc=>hlo φ a w' cap ha hc
 have e1:(Option.map (fun x=>a.eval x) lo)=lo.map a.eval:=rfl
 simp only [execOp,ho,he,Instr.sliceAt,Instr.slice,Sem.run_bind,run_underlying hT,Result.andThen_ok,hb c hle,hE.size,Sem.run_pure,Option.map_none]
theorem does_cutrow_l {T E T3:TypeId} {x y:Operand} {v:Value} {K:Kind α} {xs:List α} {k:IntKind} {l:Int} (hx:Opd S L x (.eq v)) (j:Nat) {E':TypeId} (hj:nth rs j=.row v E' K xs) (hy:Opd S L y (.tv (kInt k) l)) (hT:S.P.underlying T=some (.slice E)) (hE:Ty S.P E K) (h:0≤l∧l≤(xs.length:Int)) :
  Does S rs L (.slice T x (some y) none none) T3 (cutv l.toNat xs.length K.sz v):=
 cutrow_core (lo:=some y) (hi:=none) hx j hj hT hE (by omega) (Nat.le_refl _) (fun φ a w cap ha hc=>by
  simp only [Instr.sliceBounds,Option.map_some,Option.map_none,tv_int.1 (hy φ a ha),Sem.run_bind,Sem.run_pure,Result.andThen_ok,run_sliceBound h.1 h.2,Option.isSome_none,Bool.false_eq_true,if_false])
theorem does_cutrow_h {T E T3:TypeId} {x y:Operand} {v:Value} {K:Kind α} {xs:List α} {k:IntKind} {h:Int} (hx:Opd S L x (.eq v)) (j:Nat) {E':TypeId} (hj:nth rs j=.row v E' K xs) (hy:Opd S L y (.tv (kInt k) h)) (hT:S.P.underlying T=some (.slice E)) (hE:Ty S.P E K) (hh:0≤h∧h≤(xs.length:Int)) :
  Does S rs L (.slice T x none (some y) none) T3 (cutv 0 h.toNat K.sz v):=
 cutrow_core (lo:=none) (hi:=some y) hx j hj hT hE (by omega) (by omega) (fun φ a w cap ha hc=>by
  simp only [Instr.sliceBounds,Option.map_some,Option.map_none,tv_int.1 (hy φ a ha),Sem.run_bind,Sem.run_pure,Result.andThen_ok,run_sliceBound hh.1 (show h≤(cap:Int) by omega),if_true])
theorem does_len_cut {T T3:TypeId} {x:Operand} {v:Value} {l h sz:Nat} (hx:Opd S L x (cutv l h sz v)) {E':TypeId} (hT:S.P.underlying T=some (.slice E')):Does S rs L (.call { callee:=.builtin .len,args:=#[x],argTypes:=#[T] }) T3 (.tv (kInt .i64) ((h-l:Nat):Int)):=fun o ho _ φ a w hgd ha=>by
 obtain ⟨A,n,c,hv,hlh,hc,he⟩:=hx φ a ha
 have he2:S.P.elem T=E':=by simp [Program.elem,hT]
 have hrun:∀ w,_:=fun w=>run_len_slice (P:=S.P) w T o.type (if c=l then A else A.map (·.add (l*sz))) (h-l) (c-l) (by rw [he2];exact hT)
 exact ⟨_,tv_int.2 rfl,fun w' _=>by simp only [execOp,ho,resolve,invoke,builtin,Sem.run_bind,Sem.run_pure,Result.andThen_ok,List.map_toArray,List.map_cons,List.map_nil,he,hrun];rfl⟩
theorem does_idx_cut {T E T3:TypeId} {x y:Operand} {v:Value} {l h:Nat} {K:Kind α} (hx:Opd S L x (cutv l h K.sz v)) (j:Nat) {xs:List α} {E':TypeId} (hj:nth rs j=.row v E' K xs) {k:IntKind} {i:Int} (hy:Opd S L y (.tv (kInt k) i)) (hT:S.P.underlying T=some (.slice E)) (hE:Ty S.P E K) (hi:0≤i∧i<((h-l:Nat):Int)) :
  Does S rs L (.indexAddr T x y) T3 (.elem (((l:Int)+i).toNat*K.sz+0) v):=fun o ho _ φ a w hgd ha=>by
 obtain ⟨A,n,c,hv,hlh,hc,he⟩:=hx φ a ha
 have h1:=hgd.res j
 rw [hj] at h1
 obtain ⟨cs,hown,hreps⟩:=h1
 have hne:c≠l:=by omega
 have hA:∃ b,A=some b:=by
  rcases hown.2 with ⟨h0,hn⟩ | ⟨g,cap,cur,h0,_⟩
  ·rw [hv] at h0;cases h0;omega
  ·rw [hv] at h0;cases h0;exact ⟨_,rfl⟩
 obtain ⟨b,rfl⟩:=hA
 rw [if_neg hne] at he
 have he2:S.P.elem T=E:=by simp [Program.elem,hT]
 have hrun:∀ w,_:=fun w=>run_indexAt_slice (P:=S.P) w T (b.add (l*K.sz)) (h-l) (c-l) k i (by rw [he2];exact hT)
 simp only [if_pos hi,he2,hE.size,Result.andThen_ok] at hrun
 refine ⟨_,⟨_,_,_,hv,rfl⟩,fun w' _=>?_⟩
 simp only [execOp,ho,he,Option.map_some,tv_int.1 (hy φ a ha),Sem.run_bind,hrun,Result.andThen_ok,Sem.run_pure,Nat.add_zero,addr_add_add]
 rw [show ((l:Int)+i).toNat=l+i.toNat by omega,Nat.add_mul]
theorem row_cut {φ:Fro} {w:World} {v:Value} {E:TypeId} {K:Kind α} {xs:List α} (h:(Res.row v E K xs).ok φ w) {l m:Nat} (hl:l<m) (hm:m≤xs.length) :
  ∃ g c p q d tail,v=.slice (some ⟨g,0,none⟩) xs.length c∧w.heap[g]?=some (.cells (p++q++d++tail).toArray E (0,0))∧p.length=l*K.sz∧q.length=(m-l)*K.sz∧Reps K φ (xs.take l) p∧Reps K φ ((xs.take m).drop l) q∧Reps K φ (xs.drop m) d ∧
   xs.length≤c∧c≤maxLen∧(p++q++d++tail).length=c*K.sz∧(p++q++d).length=xs.length*K.sz:=by
 obtain ⟨cs,hown,hreps⟩:=h
 rcases hown.2 with ⟨rfl,hn⟩ | ⟨g,cap,cur,rfl,_,hh,hle,hmx,hcur,htake⟩
 ·omega
 ·have h1:=Reps.split m hreps
  have h2:=Reps.split l h1.1
  have e:(xs.take m).take l=xs.take l:=by rw [List.take_take,Nat.min_eq_left (by omega)]
  rw [e] at h2
  have hcl:cs.length=xs.length*K.sz:=hown.1
  have hj:cs.take (m*K.sz)=(cs.take (m*K.sz)).take (l*K.sz)++(cs.take (m*K.sz)).drop (l*K.sz):=(List.take_append_drop _ _).symm
  have hj2:cs=(cs.take (m*K.sz)).take (l*K.sz)++(cs.take (m*K.sz)).drop (l*K.sz)++cs.drop (m*K.sz):=by rw [← hj,List.take_append_drop]
  have hcurl:cur.toList=cs++cur.toList.drop (xs.length*K.sz):=by
   conv=>lhs;rw [← List.take_append_drop (xs.length*K.sz) cur.toList,htake]
  refine ⟨g,cap,_,_,_,cur.toList.drop (xs.length*K.sz),rfl,?_,?_,?_,h2.1,h2.2,h1.2,hle,hmx,?_,?_⟩
  ·rw [← hj2,← hcurl];simpa using hh
  ·rw [h2.1.len,List.length_take,Nat.min_eq_left (by omega)]
  ·rw [h2.2.len];simp only [List.length_drop,List.length_take];rw [Nat.min_eq_left hm]
  ·rw [← hj2,← hcurl];simpa using hcur
  ·rw [← hj2];exact hcl
theorem setr_len {rs:List Res} {i:Nat} {r:Res} (hi:nth rs i=r) (hne:r≠.emp):i<rs.length:=by
 by_cases hl:i<rs.length
 ·exact hl
 ·rw [nth_ge (by omega)] at hi;exact absurd hi.symm hne
theorem eff_append_cut {d:Nat} (hd:o.dst=some d) (hn:Nat.blt d S.n=true) {T:TypeId} {x y:Operand} (ho:o.op=.call { callee:=.builtin .append,args:=#[x,y],argTypes:=#[T,T] }) (i j:Nat) {E E':TypeId} {K:Kind α} {bytes:Nat} {v u:Value} {xs ys:List α} {l h:Nat}
  (hi:nth rs i=.row v E K xs) (hj:nth rs j=.row u E' K ys) (hx:Opd S L x (.eq v)) (hy:Opd S L y (cutv l h K.sz u)) (hh:h≤ys.length) (hT:SlTy S.P T E K bytes) (hb:(xs.length+((ys.take h).drop l).length)*bytes≤140737488355328∧xs.length+((ys.take h).drop l).length≤140737488355328) :
  EffOk S rs L o Q [i] (fun rs' L'=>∃ v',rs'=setr rs i (.row v' E K (xs++(ys.take h).drop l))∧L'=upd L d (.eq v')):=by
 intro φ a w KK hgd ha k
 have hr2:=hgd.res j
 rw [hj] at hr2
 obtain ⟨A,n,c,hv,hlh,hc,hev⟩:=hy φ a ha
 have hlen:((ys.take h).drop l).length=h-l:=by simp;omega
 obtain ⟨v',w',hrun,hgood,hstep⟩:=append_core (S:=S) hgd i hi hT o.type (A:=if c=l then A else A.map (·.add (l*K.sz))) (c:=c-l) (ys:=(ys.take h).drop l) (fun hne=>by
  have hlt:l<h:=by
   by_cases e:l<h
   ·exact e
   ·exfalso;apply hne;apply List.drop_eq_nil_of_le;simp;omega
  obtain ⟨g,c',p,q,d',tail,hv2,hcell,hp,hq,_,hr,_⟩:=row_cut hr2 hlt hh
  rw [hv] at hv2
  cases hv2
  refine ⟨_,q,by rw [if_neg (by omega)];rfl,hr,fun jj u hjj=>?_⟩
  rw [addr_add_add,addr_mk,cell_of_block hcell,← hp]
  simp only [List.append_assoc]
  rw [List.getElem?_append_right (by omega),show p.length+jj-p.length=jj by omega,List.getElem?_append_left (List.getElem?_eq_some_iff.1 hjj).1]
  exact hjj) hb.1 hb.2
 have he:a.eval x=v:=hx φ a ha
 rw [hlen] at hrun
 show o.upon S.P a _ Q _
 have:(execOp a.eval o).run S.P w=.ok (.value v') w':=by
  simp only [execOp,ho,resolve,invoke,builtin,Sem.run_bind,Sem.run_pure,Result.andThen_ok,List.map_toArray,List.map_cons,List.map_nil,he,hev,hrun]
 rw [this]
 show KK (a.put o.dst v') w'
 exact k _ _ φ _ _ ⟨v',rfl,rfl⟩ (.refl _) hgood (ha.putE (.refl _) hd hn rfl) (by simpa [blocksOf,hi,Res.fp] using hstep)
theorem At.cutrow {G:Act→World→Prop} (i t:Nat) {v:Value} {E:TypeId} {K:Kind α} {xs:List α} {h:Nat} (hi:nth rs i=.row v E K xs) (ht:L t=cutv 0 h K.sz v) (hh:h≤xs.length) (k:∀ v',At S (setr rs i (.row v' E K (xs.take h))) (upd L t (.eq v')) G):At S rs L G:=fun φ a w hgd ha=>by
 have h1:=hgd.res i
 have h2:=hgd.lt i
 rw [hi] at h1 h2
 have h3:=ha.tmp t
 rw [ht] at h3
 obtain ⟨A,n,c,hv,_,hc,hev⟩:=h3
 obtain ⟨cs,hown,hreps⟩:=h1
 have hs:=Reps.split h hreps
 have key:(Res.row (.slice A h c) E K (xs.take h)).ok φ w:=by
  refine ⟨cs.take (h*K.sz),⟨by rw [List.length_take,hown.1,List.length_take,Nat.min_eq_left hh];exact Nat.min_eq_left (Nat.mul_le_mul_right _ hh),?_⟩,hs.1⟩
  rcases hown.2 with ⟨rfl,hn⟩ | ⟨g,cap,cur,rfl,_,hg,hle,hmx,hcur,htake⟩
  ·cases hv;left;exact ⟨by rw [show h=0 by omega],by rw [List.length_take];omega⟩
  ·cases hv
   right
   refine ⟨g,c,cur,by rw [List.length_take,Nat.min_eq_left hh],Nat.zero_le _,hg,by rw [List.length_take];omega,hmx,hcur,?_⟩
   rw [List.length_take,Nat.min_eq_left hh,← htake,List.take_take,Nat.min_eq_left (Nat.mul_le_mul_right _ hh)]
 have hA:(if c=0 then A else A.map (·.add (0*K.sz)))=A:=by
  split
  ·rfl
  ·rcases hown.2 with ⟨h0,_⟩ | ⟨g,cap,cur,h0,_⟩<;>rw [hv] at h0<;>cases h0
   ·rfl
   ·simp [addr_mk]
 rw [hA] at hev
 have hfp:(Res.row (.slice A h c) E K (xs.take h)).fp=(Res.row v E K xs).fp:=by rw [hv];cases A<;>rfl
 exact k (.slice A h c) φ a w (hgd.step hi (Step.refl _ w) key (fun b hb=>h2 b (by rw [← hfp];exact hb)) (fun b hb=>.inl (by rw [← hfp];exact hb))) (ha.turn (by rw [hev];rfl))
theorem eff_clear_cut (hd:o.dst=none) {T E0:TypeId} {x:Operand} (ho:o.op=.call { callee:=.builtin .clear,args:=#[x],argTypes:=#[T] }) (i:Nat) {E:TypeId} {K:Kind α} {v:Value} {xs:List α} {l h:Nat} (hi:nth rs i=.row v E K xs) (hx:Opd S L x (cutv l h K.sz v)) (hh:h≤xs.length)
  (hT:S.P.underlying T=some (.slice E0)) {z:α} (hz:TyZ S.P E0 K z) :
  EffOk S rs L o Q [i] (fun rs' L'=>rs'=setr rs i (.row v E K (xs.take l++(List.replicate (h-l) z++xs.drop h)))∧L'=L):=by
 intro φ a w KK hgd ha k
 have h1:=hgd.res i
 have h2:=hgd.lt i
 rw [hi] at h1 h2
 obtain ⟨A,n,c,hv,hlh,hc,hev⟩:=hx φ a ha
 show o.upon S.P a _ Q _
 by_cases hlt:l<h
 ·obtain ⟨g,c',p,q,d',tail,hv2,hcell,hp,hq,hr1,hr2,hr3,hle,hmx,hl1,hl2⟩:=row_cut h1 hlt hh
  rw [hv] at hv2
  cases hv2
  rw [if_neg (by omega)] at hev
  obtain ⟨zv,hzv,hzr⟩:=hz.zero
  have hzc:=tv_cells (hzr φ)
  have hzs:zv.cells.size=K.sz:=by have:=K.len hzc.1;simpa using this
  have hmr:=made_reps (n:=h-l) hzs hzc.1
  have hzl:(Builtin.zeroCells zv.cells (h-l)).toList=(madeCells zv.cells ((h-l)*K.sz)).toList:=by unfold Builtin.zeroCells madeCells;rw [hzs]
  have hml:(madeCells zv.cells ((h-l)*K.sz)).toList.length=q.length:=by rw [hq];simp [madeCells]
  have hst:=run_storeCells_at S.P g p.length E (madeCells zv.cells ((h-l)*K.sz)).toList 0 (p++q++d'++tail).toArray w hcell (by rw [hml];simp) (fun u hu=>Reps.one hmr u hu)
  have hnew:(p++q++d'++tail).toArray.toList.take (p.length+0)++(madeCells zv.cells ((h-l)*K.sz)).toList++(p++q++d'++tail).toArray.toList.drop (p.length+0+(madeCells zv.cells ((h-l)*K.sz)).toList.length)=p++(madeCells zv.cells ((h-l)*K.sz)).toList++d'++tail:=by
   rw [hml]
   simp [List.append_assoc,List.take_append,List.drop_append]
  rw [hnew] at hst
  have hrun2:(execOp a.eval o).run S.P w=.ok (.value (.tuple #[])) (w.setRow g (p++(madeCells zv.cells ((h-l)*K.sz)).toList++d'++tail).toArray):=by
   obtain ⟨n',hn'⟩:∃ n',h-l=n'+1:=⟨h-l-1,by omega⟩
   rw [hn'] at hev
   simp only [execOp,ho,resolve,invoke,builtin,Sem.run_bind,Sem.run_pure,Result.andThen_ok,List.map_toArray,List.map_cons,List.map_nil,hev,Builtin.clear_,Option.map_some,run_underlying hT,hzv]
   have:(0*K.sz:Nat)=0:=by omega
   simp only [List.getElem?_toArray,List.getElem?_cons_zero,Sem.run_bind,Sem.run_pure,Result.andThen_ok,run_underlying hT,hzv,addr_mk]
   rw [← hn',hzl,← hp,hst]
   rfl
  rw [hrun2]
  show KK (a.put o.dst _) _
  have hw':=setRow_heap w g (p++q++d'++tail).toArray (p++(madeCells zv.cells ((h-l)*K.sz)).toList++d'++tail).toArray E (0,0) hcell
  have hstp:Step [g] w (w.setRow g (p++(madeCells zv.cells ((h-l)*K.sz)).toList++d'++tail).toArray):=⟨rfl,⟨rfl,Nat.le_refl _⟩,rfl,by simp,fun b _ hb=>setRow_other w g b _ (fun e=>hb (by simp [e]))⟩
  have hxl:(xs.take l++(List.replicate (h-l) z++xs.drop h)).length=xs.length:=by simp;omega
  have hpl:p.length+q.length+d'.length=xs.length*K.sz:=by rw [← hl2];simp;omega
  refine k _ _ φ _ _ ⟨rfl,rfl⟩ (.refl _) (hgd.step hi (by rw [hv];simpa [Res.fp,Value.ownBlock] using hstp) ⟨p++(madeCells zv.cells ((h-l)*K.sz)).toList++d',⟨?_,.inr ⟨g,c,_,by rw [hv,hxl],Nat.zero_le _,hw',by rw [hxl];exact hle,hmx,?_,?_⟩⟩,?_⟩ ?_ ?_) (ha.putN (.refl _) hd) (by rw [show [i].map (nth rs)=[nth rs i] from rfl,hi,hv];simpa [blocksOf,Res.fp,Value.ownBlock] using hstp)
  ·rw [hxl,← hl2];simp only [List.length_append,hml]
  ·rw [← hl1];simp only [List.size_toArray,List.length_append,hml]
  ·rw [hxl,List.toList_toArray]
   refine List.take_left' ?_
   simp only [List.length_append,hml];omega
  ·rw [List.append_assoc];exact Reps.append hr1 (Reps.append hmr hr3)
  ·intro b hb';exact Nat.lt_of_lt_of_le (h2 b (by simpa [Res.fp] using hb')) hstp.size
  ·intro b hb';exact .inl (by simpa [Res.fp] using hb')
 ·have hll:l=h:=by omega
  subst hll
  have hrun2:(execOp a.eval o).run S.P w=.ok (.value (.tuple #[])) w:=by
   simp only [execOp,ho,resolve,invoke,builtin,Sem.run_bind,Sem.run_pure,Result.andThen_ok,List.map_toArray,List.map_cons,List.map_nil,hev,Builtin.clear_]
   cases (if c=l then A else A.map (·.add (l*K.sz)))<;>simp [run_underlying hT,Result.andThen]
  rw [hrun2]
  show KK (a.put o.dst _) _
  have e:xs.take l++(List.replicate (l-l) z++xs.drop l)=xs:=by simp
  refine k _ _ φ _ _ ⟨rfl,rfl⟩ (.refl _) ?_ (ha.putN (.refl _) hd) (by simpa [blocksOf,hi] using Step.refl _ w)
  rw [e]
  exact hgd.step hi (Step.refl _ w) h1 h2 (fun b hb=>.inl hb)
def ArrL (A:Kind α) (x:α) (K:Kind β) (xs:List β):Prop:=∀ φ cs,A.rep φ x cs→Reps K φ xs cs
theorem arrl_one (K:Kind α) (x:α):ArrL K x K [x]:=fun φ cs h=>Reps.single h
theorem arrl_cons {K:Kind α} {M:Kind β} {x:α×β} {xs:List α} (h:ArrL M x.2 K xs):ArrL (kPair K M) x K (x.1::xs):=fun φ cs ⟨c,d,e,h1,h2⟩=>⟨c,d,e,h1,h _ _ h2⟩
theorem addr_add_zero (g off n:Nat):(⟨g,off,none⟩:Addr).add 0=⟨g,off,none⟩:=by rw [addr_lit];simp
theorem does_slice_arr {T E T3:TypeId} {x:Operand} {g off n sz:Nat} (hx:Opd S L x (.eq (.pointer (some ⟨g,off,none⟩)))) (hu:S.P.underlying T=some (.array n E)) (hs:∀ w,(Go.sizeOf E).run S.P w=.ok sz w):Does S rs L (.slice T x none none none) T3 (.eq (.slice (some ⟨g,off,none⟩) n n)):=fun o ho _ φ a w hgd ha=>by
 have he:a.eval x=.pointer (some ⟨g,off,none⟩):=hx φ a ha
 refine ⟨_,rfl,fun w' _=>?_⟩
 simp [execOp,ho,he,Instr.sliceAt,run_underlying hu,Instr.sureAddr,Instr.sliceBounds,hs]
 exact fun _=>addr_add_zero g off 0
theorem does_slice_ptr {T E T3:TypeId} {x:Operand} {n sz:Nat} {A:Kind α} {y:α} {K:Kind β} {xs:List β} (hx:Opd S L x (.ptr A y)) (hu:S.P.underlying T=some (.array n E)) (hs:∀ w,(Go.sizeOf E).run S.P w=.ok sz w) (hl:ArrL A y K xs) (hn:xs.length=n) (hm:Nat.ble n 1000000=true) :
  Does S rs L (.slice T x none none none) T3 (.tv (kSlice K) xs):=fun o ho _ φ a w hgd ha=>by
 obtain ⟨ad,cs,he,hr,hf⟩:=hx φ a ha
 have hm':n≤1000000:=by simpa using hm
 refine ⟨.slice (some (if n=0 then ad else ad.add (0*sz))) n n,⟨_,⟨some (if n=0 then ad else ad.add (0*sz)),n,by rw [hn],by omega,by simp [maxLen];omega,fun hne=>⟨_,cs,rfl,hl φ cs hr,fun j v hj=>?_⟩⟩,rfl⟩,fun w' _=>?_⟩
 ·have:n≠0:=fun e=>hne (List.eq_nil_of_length_eq_zero (by omega))
  rw [if_neg this,addr_add_add,Nat.zero_mul,Nat.zero_add]
  exact hf j v hj
 ·simp [execOp,ho,he,Instr.sliceAt,run_underlying hu,Instr.sureAddr,Instr.sliceBounds,hs]
theorem At.boxrow {G:Act→World→Prop} (i:Nat) {g:Nat} {T:TypeId} {A:Kind α} {x:α} {K:Kind β} {xs:List β} {n:Nat} (hi:nth rs i=.box g T A x) (hl:ArrL A x K xs) (hn:xs.length=n) (hm:Nat.ble n 1000000=true) (k:At S (setr rs i (.row (.slice (some ⟨g,0,none⟩) n n) T K xs)) L G):At S rs L G:=fun φ a w hgd ha=>by
 have h1:=hgd.res i
 have h2:=hgd.lt i
 rw [hi] at h1 h2
 obtain ⟨cs,hb,hr⟩:=h1
 have hm':n≤1000000:=by simpa using hm
 have hrs:=hl φ cs hr
 have hlen:=hrs.len
 refine k φ a w (hgd.step hi (Step.refl _ w) (r':=.row (.slice (some ⟨g,0,none⟩) n n) T K xs) ⟨cs,⟨hlen,.inr ⟨g,n,cs.toArray,by rw [hn],Nat.zero_le _,hb,by omega,by simp [maxLen];omega,by rw [← hn];simpa using hlen,?_⟩⟩,hrs⟩ ?_ ?_) ha
 ·rw [List.toList_toArray];exact List.take_of_length_le (by omega)
 ·intro b hb';exact h2 b (by simpa [Res.fp,Value.ownBlock] using hb')
 ·intro b hb';exact .inl (by simpa [Res.fp,Value.ownBlock] using hb')
def fbox (g:Nat) (K:Kind α) (x:α):Res:=.abs [] (fun φ _=>(TA.ptr K x).p φ (.pointer (some ⟨g,0,none⟩))) (fun _ _ _ _ h=>h) (fun _ _ _ hl h=>TA.mono hl h)
theorem At.freezebox {G:Act→World→Prop} (i:Nat) {g:Nat} {T:TypeId} {K:Kind α} {x:α} (hi:nth rs i=.box g T K x) (k:At S (setr rs i (fbox g K x)) L G):At S rs L G:=fun φ a w hgd ha=>by
 obtain ⟨φ',hl,hg',hv⟩:=hgd.freezeBox hi
 have:=hg'.step (i:=i) (r:=.emp) (r':=fbox g K x) (nth_setr_same (setr_len hi (by intro h;cases h))) (Step.refl _ w) hv (fun b hb=>by simp [fbox,Res.fp] at hb) (fun b hb=>by simp [fbox,Res.fp] at hb)
 rw [setr_setr] at this
 exact k φ' a w this (ha.mono hl)
theorem At.ptrslot {G:Act→World→Prop} (i t:Nat) {g off:Nat} {K:Kind α} {x:α} (hi:nth rs i=fbox g K x) (ht:L t=.eq (.pointer (some ⟨g,off,none⟩))) {M:Kind β} {get:α→β} {set:α→β→α} (hs:Sub K off M get set) (k:At S rs (upd L t (.ptr M (get x))) G):At S rs L G:=fun φ a w hgd ha=>by
 have h1:=hgd.res i
 rw [hi] at h1
 obtain ⟨ad,cs,he,hr,hf⟩:=h1
 have h3:=ha.tmp t
 rw [ht] at h3
 injection he with he
 injection he with he
 subst he
 obtain ⟨p,c,d,rfl,hp,hc,_⟩:=hs.fits hr
 refine k φ a w hgd (ha.turn ⟨_,c,h3,hc,fun j v hj=>?_⟩)
 have:=hf (off+j) v (by rw [← hp,List.append_assoc,List.getElem?_append_right (by omega),show p.length+j-p.length=j by omega,List.getElem?_append_left (List.getElem?_eq_some_iff.1 hj).1];exact hj)
 rw [addr_lit]
 rw [addr_lit] at this
 simpa using this
theorem run_equal_nil {P:Program} {T E:TypeId} (hT:P.underlying T=some (.slice E)) {A:Option Addr} {n c:Nat} (w:World):(Op.equal T (.slice A n c) (.slice none 0 0)).run P w=.ok A.isNone w:=by
 show (Op.equalIn (9999+1) T (.slice A n c) (.slice none 0 0)).run P w=_
 rw [Op.equalIn,Sem.run_bind,run_underlying hT]
 cases A<;>rfl
theorem eff_nileq {d:Nat} (hd:o.dst=some d) (hn:Nat.blt d S.n=true) {T T2 E:TypeId} {x:Operand} {ne:Bool} (ho:o.op=.binOp (if ne then .neq else .eql) T x (.const (.slice none 0 0)) T2) {K:Kind α} {xs:List α} (hx:Opd S L x (.tv (kSlice K) xs)) (hT:S.P.underlying T=some (.slice E)) :
  EffOk S rs L o Q [] (fun rs' L'=>∃ b,(b=true→xs=[])∧rs'=rs∧L'=upd L d (.tv kBool (if ne then !b else b))):=by
 intro φ a w KK hgd ha k
 obtain ⟨A,c,hv,h1,h2,h3⟩:=slice_val (hx φ a ha)
 show o.upon S.P a _ Q _
 have:∃ b:Bool,(b=true→xs=[])∧(execOp a.eval o).run S.P w=.ok (.value (.bool (if ne then !b else b))) w:=by
  refine ⟨A.isNone,fun h=>?_,?_⟩
  ·by_cases e:xs=[]
   ·exact e
   ·obtain ⟨b,ds,rfl,_⟩:=h3 e
    cases h
  ·have hk:a.eval (.const (.slice none 0 0))=.slice none 0 0:=rfl
   cases ne
   ·have hq:(binOp .eql T (.slice A xs.length c) (.slice none 0 0)).run S.P w=.ok (.bool A.isNone) w:=by
     show (do pure (Value.bool (← Op.equal T (.slice A xs.length c) (.slice none 0 0)))).run S.P w=_
     rw [Sem.run_bind,run_equal_nil hT]
     rfl
    simp only [execOp,ho,hv,hk,Bool.false_eq_true,if_false,Sem.run_bind]
    show Result.andThen (Result.andThen (.ok () w) _) _=_
    simp only [Result.andThen_ok,hq,Sem.run_pure]
   ·have hq:(binOp .neq T (.slice A xs.length c) (.slice none 0 0)).run S.P w=.ok (.bool (!A.isNone)) w:=by
     show (do pure (Value.bool (!(← Op.equal T (.slice A xs.length c) (.slice none 0 0))))).run S.P w=_
     rw [Sem.run_bind,run_equal_nil hT]
     rfl
    simp only [execOp,ho,hv,hk,if_true,Sem.run_bind]
    show Result.andThen (Result.andThen (.ok () w) _) _=_
    simp only [Result.andThen_ok,hq,Sem.run_pure]
 obtain ⟨b,hb,hrun⟩:=this
 rw [hrun]
 exact k _ _ φ _ w ⟨b,hb,rfl,rfl⟩ (.refl _) hgd (ha.putE (.refl _) hd hn (tv_bool.2 rfl)) (Step.refl _ w)
end
end Go.Gp
end
