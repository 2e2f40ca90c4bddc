/- Part. -/
import Derived.Test.YtfophhmfbofjiaaGreatP9x00
import Derived.Shelf.SlSortCmp.NoneTotal
import Derived.WalkKit
import Derived.ProofKit
import Derived.OpenShut
import Derived.ShutString
import Derived.ChangeOld
import Derived.Lib.Overlaps
import Derived.Lib.AppendZerosOnto
import Derived.Laws.Slices
import Derived.Test.YtfophhmfbofjiaaGreatProg
import Derived.Ground.SlsfProg
section
set_option linter.unusedVariables false
set_option linter.unusedSimpArgs false
set_option linter.unusedSectionVars false
namespace Go.Gp
open Go.Proofs Go.Shelf Go.RowKit Go.Lib Go.Sort
structure SWOn {α:Type} (cf:α→α→Int) (xs:List α):Prop where
 irrefl:∀ x,x∈xs→¬ cf x x<0
 trans:∀ x y z,x∈xs→y∈xs→z∈xs→cf x y<0→cf y z<0→cf x z<0
 ntrans:∀ x y z,x∈xs→y∈xs→z∈xs→¬ cf x y<0→¬ cf y z<0→¬ cf x z<0
def W.sort {α R:Type} (cmp:α→α→W Int) (xs:List α) (k:List α→W R):W R:=fun Q=>
 xs.length<4611686018427387904∧∃ cf:α→α→Int,SWOn cf xs∧(∀ x y,x∈xs→y∈xs→cmp x y (fun r=>r=cf x y))∧∀ ys,ys.Perm xs→ys.Pairwise (fun x y=>¬ cf y x<0)→k ys Q
theorem Reps.pairs {α:Type} {K:Kind α} {φ:Fro}:∀ {xs:List α} {cs:List Value},Reps K φ xs cs→∃ l:List (α×List Value),l.map (·.1)=xs∧(l.map (·.2)).flatten=cs∧∀ p∈l,K.rep φ p.1 p.2
 | [],cs,h=>⟨[],rfl,by rw [show cs=[] from h];rfl,by simp⟩
 | x::xs,cs,h=>by
  obtain ⟨c,d,rfl,h1,h2⟩:=h
  obtain ⟨l,e1,e2,h3⟩:=Reps.pairs h2
  refine ⟨(x,c)::l,by simp [e1],by simp [e2],fun p hp=>?_⟩
  rcases List.mem_cons.1 hp with rfl | hp
  ·exact h1
  ·exact h3 p hp
theorem Reps.ofPairs {α:Type} {K:Kind α} {φ:Fro}:∀ {l:List (α×List Value)},(∀ p∈l,K.rep φ p.1 p.2)→Reps K φ (l.map (·.1)) (l.map (·.2)).flatten
 | [],_=>rfl
 | p::l,h=>⟨p.2,(l.map (·.2)).flatten,by simp,h p (by simp),Reps.ofPairs (fun q hq=>h q (by simp [hq]))⟩
theorem flat_get {k:Nat} (hk:0<k):∀ (ls:List (List Value)) (j:Nat),(∀ l∈ls,l.length=k)→ls.flatten[j]?=(ls[j / k]?).bind (fun l=>l[j % k]?)
 | [],j,_=>by simp
 | l::ls,j,h=>by
  have hl:l.length=k:=h l (by simp)
  rw [List.flatten_cons]
  by_cases hj:j<k
  ·rw [List.getElem?_append_left (by omega),Nat.div_eq_of_lt hj,Nat.mod_eq_of_lt hj]
   simp
  ·have e:j=(j-k)+k:=by omega
   rw [List.getElem?_append_right (by omega),hl,flat_get hk ls (j-k) (fun m hm=>h m (by simp [hm]))]
   conv=>rhs;rw [e,Nat.add_div_right _ hk,Nat.add_mod_right]
   simp
theorem flat_len {k:Nat}:∀ (ls:List (List Value)),(∀ l∈ls,l.length=k)→ls.flatten.length=ls.length*k
 | [],_=>by simp
 | l::ls,h=>by rw [List.flatten_cons,List.length_append,h l (by simp),flat_len ls (fun m hm=>h m (by simp [hm])),List.length_cons,Nat.add_mul,Nat.one_mul,Nat.add_comm]
theorem flatK_list {α:Type} [Inhabited α] (enc:α→List Value) {k:Nat} (hk:0<k) (hl:∀ x,(enc x).length=k) (d:Array α):(flatK enc k d).toList=(d.toList.map enc).flatten:=by
 have hlen:∀ l∈d.toList.map enc,l.length=k:=by
  intro l hm
  obtain ⟨x,_,rfl⟩:=List.mem_map.1 hm
  exact hl x
 apply List.ext_getElem?
 intro j
 rw [flat_get hk _ _ hlen]
 by_cases hj:j<d.size*k
 ·have hjd:j / k<d.size:=(Nat.div_lt_iff_lt_mul hk).2 hj
  have hm:j % k<k:=Nat.mod_lt _ hk
  have hd:d[j / k]! = d[j / k]:=getElem!_pos d _ hjd
  simp [flatK,hj,hjd,hd,hl,hm]
 ·have hjd:¬ j / k<d.size:=fun h=>hj ((Nat.div_lt_iff_lt_mul hk).1 h)
  simp [flatK,hj,hjd]
theorem world_grow {w w':World} (hos:w'.os=w.os) (ht:w'.tape=w.tape) (ho:w'.output=w.output) (hd:w.drawn≤w'.drawn) (hs:w.heap.size≤w'.heap.size) (hb:∀ i,i<w.heap.size→w'.heap[i]?=w.heap[i]?):∃ q os',w'=grow (w.drewN q) os':=by
 refine ⟨w'.drawn-w.drawn,w'.heap.extract w.heap.size w'.heap.size,?_⟩
 have h1:w.heap++w'.heap.extract w.heap.size w'.heap.size=w'.heap:=by
  apply Array.ext_getElem?
  intro i
  by_cases hi:i<w.heap.size
  ·rw [Array.getElem?_append_left hi,hb i hi]
  ·rw [Array.getElem?_append_right (by omega),Array.getElem?_extract]
   by_cases hi2:i<w'.heap.size
   ·rw [if_pos (by omega),show w.heap.size+(i-w.heap.size)=i by omega]
   ·rw [if_neg (by omega),Array.getElem?_eq_none (by omega)]
 obtain ⟨heap,tape,drawn,os,output⟩:=w'
 simp only at hos ht ho hd hs h1
 subst hos ht ho
 simp only [grow,World.drewN,h1]
 congr
 omega
section
variable {P : Program} {ρ : Ren} {α : Type}
theorem con_sortFunc (L:SlLaysF0.n6 P ρ) {K:Kind α} (hag:K.agg=true) (hsz:Nat.blt 0 K.sz=true) (hT:Ty P (ρ.t 24) K) {g:FuncId} (eg:Enters P g) {cf:α→α→Int} {caps:List TA} {xs:List α} {v:Value} {E0:TypeId}
  (hcmp:∀ x y,x∈xs→y∈xs→Con P g (.tv K x::.tv K y::caps) [] (fun ta _=>ta=.tv (kInt .i64) (cf x y))) (hO:SWOn cf xs) (hlen:xs.length<4611686018427387904) :
  Con P (ρ.f 6) [.eq v,.cls g 0 (tupl caps)] [.row v E0 K xs] (fun ta rs'=>∃ ys,ys.Perm xs∧ys.Pairwise (fun x y=>¬ cf y x<0)∧ta=.eq (.tuple #[])∧rs'=[.row v E0 K ys]):=by
 intro φ w vs hgd hvs
 have hk:0<K.sz:=by simpa using hsz
 cases hvs with
 | cons h1 r1=>
 cases r1 with
 | cons h2 r2=>
 cases r2
 rename_i v1 v2
 have e1:v1=v:=h1
 subst e1
 obtain ⟨l,rfl,hl⟩:=h2
 have hcaps:All2 (fun (t:TA) v=>t.p φ v) caps l:=tupl_all hl
 have hrow:=hgd.res 0
 obtain ⟨cs,hown,hreps⟩:(Res.row v1 E0 K xs).ok φ w:=hrow
 rcases hown.2 with ⟨rfl,hn⟩ | ⟨blk,cap,cur,rfl,_,hheap,hle,hmx,hcs,htake⟩
 ·have hx:xs=[]:=List.eq_nil_of_length_eq_zero hn
  subst hx
  refine (AnyF.slices_SortFunc_none L none 0 _ w).mono ?_
  rintro e w' ⟨rfl,rfl⟩
  exact ⟨_,φ,.eq (.tuple #[]),_,rfl,rfl,⟨[],.refl _,.nil,rfl,rfl⟩,hgd⟩
 ·obtain ⟨ps,hps1,hps2,hps3⟩:=Reps.pairs hreps
  by_cases hx:xs=[]
  ·subst hx
   refine (AnyF.slices_SortFunc_none L _ _ _ w).mono ?_
   rintro e w' ⟨rfl,rfl⟩
   exact ⟨_,φ,.eq (.tuple #[]),_,rfl,rfl,⟨[],.refl _,.nil,rfl,rfl⟩,hgd⟩
  ·have hpne:ps≠[]:=fun e=>hx (by rw [← hps1,e];rfl)
   obtain ⟨p0,hp0⟩:=List.exists_mem_of_ne_nil ps hpne
   let β:={ p:α×List Value // p∈ps }
   haveI:Inhabited β:=⟨⟨p0,hp0⟩⟩
   let enc:β→List Value:=fun p=>p.1.2
   let cfb:β→β→Int:=fun p q=>cf p.1.1 q.1.1
   let d:Array β:=ps.attach.toArray
   have hmem:∀ p:β,p.1.1∈xs:=fun p=>by rw [← hps1];exact List.mem_map.2 ⟨p.1,p.2,rfl⟩
   have henc:∀ p:β,(enc p).length=K.sz:=fun p=>K.len (hps3 p.1 p.2)
   have hone:∀ p:β,∀ u∈enc p,u.oneCell'=true:=fun p=>K.one (hps3 p.1 p.2)
   have hOb:SWO (ltOf cfb):=⟨fun x=>by simpa [ltOf] using hO.irrefl _ (hmem x),fun x y z a b=>by
     simp only [ltOf,decide_eq_true_eq] at *
     exact hO.trans _ _ _ (hmem x) (hmem y) (hmem z) a b,fun x y z a b=>by
     simp only [ltOf,decide_eq_false_iff_not] at *
     exact hO.ntrans _ _ _ (hmem x) (hmem y) (hmem z) a b⟩
   have hdl:d.toList.map enc=ps.map (·.2):=by
    show ps.attach.map (fun p=>p.1.2)=_
    conv=>rhs;rw [← List.attach_map_val (l:=ps)]
   have hdsz:d.size=xs.length:=by show ps.attach.toArray.size=_;rw [← hps1];simp
   have hflat:(flatK enc K.sz d).toList=cs:=by rw [flatK_list enc hk henc,hdl,hps2]
   have hcsl:cs.length=xs.length*K.sz:=hown.1
   have hH:HoldsK enc K.sz w blk 0 d:=by
    intro j hj
    have hj':j<cs.length:=by rw [← hflat];simpa using hj
    have hcur:cur[j]?=some (flatK enc K.sz d)[j]!:=by
     rw [getElem!_pos _ j hj]
     have:(flatK enc K.sz d).toList[j]?=cur.toList[j]?:=by rw [hflat,← htake,List.getElem?_take,if_pos (by rw [← hcsl];exact hj')]
     rw [Array.getElem?_toList,Array.getElem?_toList] at this
     rw [← this,Array.getElem?_eq_getElem hj]
    refine ⟨?_,?_⟩
    ·simp only [World.cell?,hheap,Nat.zero_add,Option.isSome_none,Bool.false_eq_true,if_false]
     exact hcur
    ·simp [World.frozen?,hheap]
   have hblk:blk<w.heap.size:=(Array.getElem?_eq_some_iff.1 hheap).1
   have hfree:¬ φ.has blk:=hgd.free 0 blk (by simp [nth,Res.fp,Value.ownBlock])
   have hother:∀ (m:Nat) (os:Array Obj) (dk:Array β) (i:Nat),i<w.heap.size→i≠blk→(sortWorldK enc K.sz w blk 0 m dk os).heap[i]?=w.heap[i]?:=by
    intro m os dk i hi hne
    simp only [sortWorldK,grow,putRowK,putRow,mapBlock,Sort.ahead]
    rw [Array.getElem?_append_left (by simpa using hi),Array.getElem?_modify,if_neg (Ne.symm hne)]
   have hfro:∀ (m:Nat) (os:Array Obj) (dk:Array β),φ.ok (sortWorldK enc K.sz w blk 0 m dk os):=by
    intro m os dk
    refine ⟨fun a u e=>?_,fun b ob e=>?_⟩
    ·have h1:=hgd.fro.cell a u e
     rw [World.cell?_of_block (hother m os dk a.block (World.block_lt_of_cell? w a h1) (fun hh=>hfree (hh ▸ .inl ⟨a,u,rfl,e⟩)))]
     exact h1
    ·have h1:=hgd.fro.obj b ob e
     rw [hother m os dk b (Array.getElem?_eq_some_iff.1 h1).1 (fun hh=>hfree (hh ▸ .inr ⟨ob,e⟩))]
     exact h1
   have hcl:CmpLays P g l.toArray enc K.sz cfb blk 0 d.size w:=by
    intro m os dk hdk x y
    have hv:∀ p:β,(TA.tv K p.1.1).p φ (.agg (enc p).toArray):=fun p=>⟨enc p,hps3 p.1 p.2,by simp [Kind.val,hag]⟩
    have hall:All2 (fun (t:TA) v=>t.p φ v) (.tv K x.1.1::.tv K y.1.1::caps) (.agg (enc x).toArray::.agg (enc y).toArray::l):=.cons (hv x) (.cons (hv y) hcaps)
    have hc:=hcmp _ _ (hmem x) (hmem y) φ (sortWorldK enc K.sz w blk 0 m dk os) _ (good_nil (hfro m os dk)) hall
    have hargs:(#[.agg (enc x).toArray,.agg (enc y).toArray]++l.toArray:Array Value)=(.agg (enc x).toArray::.agg (enc y).toArray::l).toArray:=by simp
    rw [hargs]
    refine hc.mono ?_
    rintro e w' ⟨u,φ',ta,rs',rfl,hta,rfl,hg'⟩
    refine ⟨by rw [tv_int.1 hta],?_⟩
    exact world_grow hg'.os hg'.tape.tape hg'.output hg'.tape.drawn hg'.size (fun i hi=>hg'.blk i hi (by simp [blocksOf]))
   have hmain:=AnyQ.slices_SortFunc (α:=β) L K.sz (fun w=>by rw [hT.agg w,hag]) hT.size enc henc hone cfb hOb g l.toArray blk 0 cap d w eg hcl hH hblk (by rw [hdsz];exact hlen)
   rw [hdsz] at hmain
   have hargs:[Value.slice (some ⟨blk,0,none⟩) xs.length cap,.func (.func g) (l.take 0).toArray (l.drop 0).toArray].toArray=#[Value.slice (some ⟨blk,0,none⟩) xs.length cap,.func (.func g) #[] l.toArray]:=by simp
   rw [hargs]
   refine hmain.mono ?_
   rintro e w' ⟨rfl,d',n,os,hperm,hsorted,rfl⟩
   have hds':d'.size=xs.length:=by rw [hperm.1,hdsz]
   have hpm:d'.toList.Perm d.toList:=by
    have:=hperm.2.2
    rw [← hdsz] at this
    have e1:d'.extract 0 d.size=d':=by rw [hdsz,← hds'];simp
    have e2:d.extract 0 d.size=d:=by simp
    rwa [e1,e2] at this
   have hys:(d'.toList.map fun p=>p.1.1).Perm xs:=by
    have h3:d.toList.map (fun p:β=>p.1.1)=xs:=by
     show ps.attach.map (fun p=>(fun q:α×List Value=>q.1) p.1)=_
     rw [List.attach_map_val]
     exact hps1
    have h4:=hpm.map (fun p:β=>p.1.1)
    rw [h3] at h4
    exact h4
   refine ⟨_,φ,.eq (.tuple #[]),[.row (.slice (some ⟨blk,0,none⟩) xs.length cap) E0 K (d'.toList.map fun p=>p.1.1)],rfl,rfl,⟨_,hys,?_,rfl,rfl⟩,?_⟩
   ·rw [List.pairwise_iff_getElem]
    intro i j hi hj hij
    simp only [List.length_map,Array.length_toList] at hi hj
    have h4:=hsorted i j (Nat.zero_le _) hij (by rw [← hds'];exact hj)
    rw [getElem!_pos d' j hj,getElem!_pos d' i hi] at h4
    simp only [List.getElem_map,Array.getElem_toList]
    simpa [ltOf] using h4
   ·have hstep:Step [blk] w (sortWorldK enc K.sz w blk 0 n d' os):=by
     refine ⟨rfl,⟨rfl,?_⟩,rfl,size_sortWorldK_c enc K.sz w blk 0 n d' os,fun i hi hne=>hother n os d' i hi (fun e=>hne (by simp [e]))⟩
     simp [sortWorldK,grow,putRowK,putRow,mapBlock,Sort.ahead]
    have hcell:(sortWorldK enc K.sz w blk 0 n d' os).heap[blk]?=some (.cells (putCells id 0 (flatK enc K.sz d') cur) E0 (0,0)):=by
     simp only [sortWorldK,grow,putRowK,putRow,mapBlock,Sort.ahead]
     rw [Array.getElem?_append_left (by simpa using hblk),Array.getElem?_modify,if_pos rfl,hheap]
     rfl
    have hfl:(flatK enc K.sz d').toList=(d'.toList.map enc).flatten:=flatK_list enc hk henc d'
    have hsz':(flatK enc K.sz d').size=xs.length*K.sz:=by rw [size_flatK,hds']
    have hle2:xs.length*K.sz≤cur.size:=by rw [hcs];exact Nat.mul_le_mul_right _ hle
    have htk:(putCells id 0 (flatK enc K.sz d') cur).toList.take (xs.length*K.sz)=(d'.toList.map enc).flatten:=by
     rw [← hfl]
     apply List.ext_getElem?
     intro j
     rw [List.getElem?_take]
     by_cases hj:j<xs.length*K.sz
     ·rw [if_pos hj,Array.getElem?_toList,Array.getElem?_toList]
      have hjc:j<cur.size:=by omega
      have hjf:j<(flatK enc K.sz d').size:=by rw [hsz'];exact hj
      simp only [putCells,Array.getElem?_mapIdx,Array.getElem?_eq_getElem hjc,Option.map_some,Nat.zero_add,Nat.zero_le,true_and,if_pos hjf,id,Nat.sub_zero]
      rw [Array.getElem?_eq_getElem hjf,getElem!_pos _ j hjf]
     ·rw [if_neg hj,Array.getElem?_toList,Array.getElem?_eq_none (by rw [hsz'];omega)]
    have hpair:∀ q∈d'.toList.map (fun p:β=>p.1),K.rep φ q.1 q.2:=by
     intro q hq
     obtain ⟨p,_,rfl⟩:=List.mem_map.1 hq
     exact hps3 p.1 p.2
    have hrr:=Reps.ofPairs hpair
    rw [List.map_map,List.map_map] at hrr
    have hok:(Res.row (.slice (some ⟨blk,0,none⟩) xs.length cap) E0 K (d'.toList.map fun p=>p.1.1)).ok φ (sortWorldK enc K.sz w blk 0 n d' os):=by
     have hyl:(d'.toList.map fun p:β=>p.1.1).length=xs.length:=by simp [hds']
     refine ⟨(d'.toList.map enc).flatten,⟨?_,.inr ⟨blk,cap,_,by rw [hyl],Nat.zero_le _,hcell,by rw [hyl];exact hle,hmx,?_,by rw [hyl];exact htk⟩⟩,hrr⟩
     ·rw [hyl,← hfl,Array.length_toList,hsz']
     ·simp [putCells,hcs]
    have hlt:=hgd.lt 0
    exact hgd.step (i:=0) (r:=.row (.slice (some ⟨blk,0,none⟩) xs.length cap) E0 K xs) rfl (by simpa [Res.fp,Value.ownBlock] using hstep) hok (fun b hb=>Nat.lt_of_lt_of_le (hlt b (by simpa [nth,Res.fp,Value.ownBlock] using hb)) hstep.size) (fun b hb=>.inl (by simpa [Res.fp,Value.ownBlock] using hb))
end
end Go.Gp
end
section
set_option linter.unusedVariables false
set_option linter.unusedSimpArgs false
set_option linter.unusedSectionVars false
namespace Go.Gp
section
variable {S : Sit} {rs : List Res} {L : Nat → TA} {Q : Exit → Act → World → Prop} {ops : Array Oper} {o : Oper} {rest : List Oper} {G : Act → World → Prop}
theorem At.split (b:Bool) (ht:b=true→At S rs L G) (hf:b=false→At S rs L G):At S rs L G:=by
 cases h:b with
 | true=>exact ht h
 | false=>exact hf h
theorem At.whenT (t:Nat) {b:Bool} {x:TA} (ht:L t=.when b x) (hb:b=true) (k:At S rs (upd L t x) G):At S rs L G:=fun φ a w hgd ha=>by
 have:=ha.tmp t
 rw [ht] at this
 exact k φ a w hgd (ha.turn (this.1 hb))
theorem At.effT {j:Nat} {want:Bool} (hg:o.guard=some (j,want)) {e:Nat} (hj:(ops[j]?).bind (·.dst)=some e) {b:Bool} (hb:Sees L e want b) (ht:b=true) {tp:List Nat} {Post:List Res→(Nat→TA)→Prop} (h:EffOk S rs L o Q tp Post)
  (k:∀ rs' L',Post rs' L'→At S rs' L' (wpList S.P ops Q rest)):At S rs L (wpList S.P ops Q (o::rest)):=by
 intro φ a w hgd ha
 have hw:Region.wanted o (yielded ops a.tmps)=b:=hb.wanted ha hg hj
 unfold wpList
 rw [if_pos (by rw [hw,ht])]
 exact .inl (h φ a w _ hgd ha fun rs' L' φ' v w' hp _ h1 h2 _=>k rs' L' hp φ' _ w' h1 h2)
theorem At.doesT {j:Nat} {want:Bool} (hg:o.guard=some (j,want)) {e:Nat} (hj:(ops[j]?).bind (·.dst)=some e) {b:Bool} (hb:Sees L e want b) (ht:b=true) {d:Nat} (hd:o.dst=some d) (hn:Nat.blt d S.n=true) {x:TA} {op:Op} (ho:o.op=op)
  (h:Does S rs L op o.type x) (k:At S rs (upd L d x) (wpList S.P ops Q rest)):At S rs L (wpList S.P ops Q (o::rest)):=
 At.effT hg hj hb ht (eff_does hd hn ho h) (by rintro _ _ ⟨rfl,rfl⟩;exact k)
theorem At.skipG {j:Nat} {want:Bool} (hg:o.guard=some (j,want)) {e:Nat} (hj:(ops[j]?).bind (·.dst)=some e) {b:Bool} (hb:Sees L e want b) (hf:b=false) {d:Nat} (hd:o.dst=some d) (hn:Nat.blt d S.n=true)
  (k:At S rs (upd L d .any) (wpList S.P ops Q rest)):At S rs L (wpList S.P ops Q (o::rest)):=by
 intro φ a w hgd ha
 have hw:Region.wanted o (yielded ops a.tmps)=b:=hb.wanted ha hg hj
 unfold wpList
 rw [if_neg (by rw [hw,hf];simp),hd]
 exact k φ _ w hgd (ha.put (.refl _) (Nat.blt_lt hn) trivial)
theorem does_pickT {T:TypeId} {c x y:Operand} {b:Bool} {s:TA} (hc:Opd S L c (.tv kBool b)) (hb:b=true) (hx:Opd S L x s):Does S rs L (.pick c x y) T s:=fun o ho _ φ a w hgd ha=>by
 have h1:a.eval c=.bool b:=tv_bool.1 (hc φ a ha)
 exact ⟨_,hx φ a ha,fun w' _=>by simp [execOp,ho,h1,hb,asBool]⟩
theorem does_pickF {T:TypeId} {c x y:Operand} {b:Bool} {s:TA} (hc:Opd S L c (.tv kBool b)) (hb:b=false) (hy:Opd S L y s):Does S rs L (.pick c x y) T s:=fun o ho _ φ a w hgd ha=>by
 have h1:a.eval c=.bool b:=tv_bool.1 (hc φ a ha)
 exact ⟨_,hy φ a ha,fun w' _=>by simp [execOp,ho,h1,hb,asBool]⟩
theorem and_l {a b:Bool} (h:(a&&b)=true):a=true:=by cases a<;>simp_all
theorem Good.tail {C:Ctx} {rs:List Res} {φ:Fro} {w:World} (h:Good C (.emp::rs) φ w):Good C rs φ w:=
 ⟨h.os,h.tape,h.output,h.size,h.blk,h.le,h.ext,h.fro,fun i=>h.res (i+1),fun i=>h.lt (i+1),fun i=>h.own (i+1),fun i=>h.free (i+1),fun i j hij=>h.dis (i+1) (j+1) (by omega)⟩
theorem eff_own1 {α R:Type} {d:Nat} (hd:o.dst=some d) (hn:Nat.blt d S.n=true) {q:R→Prop} {E:TypeId} {K:Kind α} {f:R→List α} {tp:List Nat} (h:EffOk S rs L o Q tp (fun rs' L'=>∃ r v,q r∧rs'=.row v E K (f r)::rs∧L'=upd L d (.eq v))) :
  EffOk S rs L o Q tp (fun rs' L'=>∃ r,q r∧rs'=rs∧L'=upd L d (.tv (kSlice K) (f r))):=by
 intro φ a w K' hg ha k
 refine h φ a w K' hg ha ?_
 rintro rs' L' φ' v w' ⟨r,v0,hq,rfl,rfl⟩ hle hgood hag hstep
 obtain ⟨φ'',hle2,hg2,hv⟩:=hgood.freeze (i:=0) rfl
 have e:v0=v:=by
  have:=hag.tmp d
  unfold upd at this
  have e:Nat.beq d d=true:=by simp
  rw [e,hd] at this
  have hv:(a.put (some d) v).tmps.getD d undef=v:=by simp [Act.put,Array.getD_eq_getD_getElem?,ha.size,Nat.blt_lt hn]
  rw [hv] at this
  exact Eq.symm this
 subst e
 exact k rs _ φ'' v0 w' ⟨r,hq,rfl,rfl⟩ (hle.trans hle2) hg2.tail (ha.putE (hle.trans hle2) hd hn hv) hstep
variable {H : HCtx} {D D' : Array Bool} {i fuel : Nat}
theorem AtH.effGv {L0:Nat→TA} (ps:List (Nat×Nat)) {n:Nat} (hbn:H.base.length=n) (hps:ps.map (fun p=>nth rs p.2)=ps.map (fun p=>nth H.base p.1)) (hi:ops[i]?=some o) {j:Nat} {want:Bool} (hg:o.guard=some (j,want)) {e:Nat} (hj:(ops[j]?).bind (·.dst)=some e) {d:Nat} (hd:o.dst=some d) (hn:Nat.blt d S.n=true) {b:Bool} (hb:Sees L e want b) (hD:(D.setIfInBounds i true==D')=true) (hc:covB H.wrs ps D' [] n=true)
  {R:Type} {m:W R} {z:R} {q:R→Prop} (hF:W.ite b m (W.ret z) q) (tr:R→TA) (h:b=true→m q→EffOk S rs L o Q [] (fun rs' L'=>∃ r,q r∧rs'=rs∧L'=upd L d (tr r)))
  (k:∀ r,q r→AtH S H D' rs (upd L0 d .any) (upd L d (.when b (tr r))) (wpAnyD S.P .any ops Q (HeldD H) fuel D')) :
  AtH S H D rs L0 L (wpOp S.P ops Q i (fun a' w'=>HeldD H (D.setIfInBounds i true) w'∧wpAnyD S.P .any ops Q (HeldD H) fuel (D.setIfInBounds i true) a' w')):=fun φ a w hle hgd ha0 ha hh=>by
 rw [beq_iff_eq] at hD
 have hw:Region.wanted o (yielded ops a.tmps)=b:=hb.wanted ha hg hj
 unfold wpOp
 simp only [hi]
 cases hbb:b with
 | true=>
  rw [if_pos (by rw [hw,hbb])]
  have h1:m q:=by rw [hbb] at hF;exact hF
  refine .inl (h hbb h1 φ a w _ hgd ha ?_)
  rintro rs' L' φ' v w' ⟨r,hr,rfl,rfl⟩ hle' h1 h2 hst
  have hh':=heldD_kept hbn hps hc hD hle hle' hgd h1 hh hst
  have hv:(tr r).p φ' v:=by
   have:=h2.tmp d
   rw [hd] at this
   have hv:(a.put (some d) v).tmps.getD d undef=v:=by simp [Act.put,Array.getD_eq_getD_getElem?,ha.size,Nat.blt_lt hn]
   rw [hv] at this
   unfold upd at this
   have e:Nat.beq d d=true:=by simp
   rw [e] at this
   exact this
  rw [hD]
  exact ⟨hh',k r hr φ' _ w' (hle.trans hle') h1 (ha0.putE (.refl _) hd hn trivial) (ha.putE hle' hd hn ⟨fun _=>hv,fun e=>by rw [hbb] at e;cases e⟩) hh'⟩
 | false=>
  rw [if_neg (by rw [hw,hbb];simp),hd,hD]
  have h1:q z:=by rw [hbb] at hF;exact hF
  have hh':HeldD H D' w:=by rw [← hD];exact hh.mono i
  exact ⟨hh',k z h1 φ _ w hle hgd (ha0.put (.refl _) (Nat.blt_lt hn) trivial) (ha.put (.refl _) (Nat.blt_lt hn) ⟨(fun hb'=>by rw [hbb] at hb';cases hb'),fun _=>rfl⟩) hh'⟩
theorem row_one {φ:Fro} {w:World} {α:Type} {v:Value} {E:TypeId} {K:Kind α} {xs:List α} (h:(Res.row v E K xs).ok φ w):v.oneCell'=true:=by
 obtain ⟨A,c,rfl⟩:=row_val h
 rfl
theorem At.rowone {α:Type} (i:Nat) {v:Value} {E:TypeId} {K:Kind α} {xs:List α} (hi:nth rs i=.row v E K xs) (k:v.oneCell'=true→At S rs L G):At S rs L G:=fun φ a w hgd ha=>by
 have:=hgd.res i
 rw [hi] at this
 exact k (row_one this) φ a w hgd ha
end
end Go.Gp
end
section
set_option linter.unusedVariables false
set_option linter.unusedSimpArgs false
set_option linter.unusedSectionVars false
namespace Go.Gp
def full (w:World):Fro:=⟨w.cell?,fun b=>w.heap[b]?⟩
theorem full_ok (w:World):(full w).ok w:=⟨fun _ _ h=>h,fun _ _ h=>h⟩
section
variable {P : Program} {α β γ : Type}
def Opens (P:Program) (T:TypeId) (K:Kind α) (ok:α→Prop):Prop:=∀ (H:Type) (enc:TypeId×Value→H) (w:World) (fuel:Nat) (cs:List Value) (x:DataW H×List MemPlace),DataW.trod enc P w 0 (fun _=>true) true fuel T cs=some x→∃ y:α,K.rep (full w) y cs∧ok y
def okI (k:IntKind) (n:Int):Prop:=(Lit.int k n).wf=true
def okS (s:ByteArray):Prop:=s.size≤maxLen
def okL (ok:α→Prop) (xs:List α):Prop:=xs.length≤maxLen∧∀ x∈xs,ok x
theorem opens_int {T:TypeId} {k:IntKind} (hu:P.underlying T=some (.int k)):Opens P T (kInt k) (okI k):=fun H enc w fuel cs x h=>by
 obtain ⟨n,rfl,hx,hw⟩:=DataW.trod_int hu h
 exact ⟨n,rfl,hw⟩
theorem opens_str {T:TypeId} (hu:P.underlying T=some .string):Opens P T kStr okS:=fun H enc w fuel cs x h=>by
 obtain ⟨s,rfl,hx,hs⟩:=DataW.trod_string hu h
 exact ⟨s,rfl,hs⟩
theorem reps_each {K:Kind α} {φ:Fro} {a:Addr} {ok:α→Prop}:∀ (n:Nat) (a:Addr),(∀ i,i<n→∃ (y:α) (c:List Value),K.rep φ y c∧FroAt φ (a.add (i*K.sz)) c∧ok y)→∃ (xs:List α) (ds:List Value),xs.length=n∧Reps K φ xs ds∧FroAt φ a ds∧∀ x∈xs,ok x
 | 0,a,_=>⟨[],[],rfl,rfl,fun j v h=>by simp at h,by simp⟩
 | n+1,a,h=>by
  obtain ⟨y,c,h1,h2,h3⟩:=h 0 (by omega)
  obtain ⟨xs,ds,e,k1,k2,k3⟩:=reps_each (a:=a) n (a.add K.sz) (fun i hi=>by
   obtain ⟨y,c,g1,g2,g3⟩:=h (i+1) (by omega)
   refine ⟨y,c,g1,fun j v hj=>?_,g3⟩
   have:=g2 j v hj
   rw [addr_add_add] at this ⊢
   rw [addr_add_add,show K.sz+(i*K.sz+j)=(i+1)*K.sz+j by rw [Nat.add_mul];omega]
   exact this)
  refine ⟨y::xs,c++ds,by simp [e],⟨c,ds,rfl,h1,k1⟩,fun j v hj=>?_,fun x hx=>?_⟩
  ·by_cases hl:j<c.length
   ·have:=h2 j v (by rwa [List.getElem?_append_left hl] at hj)
    rw [addr_add_add,Nat.zero_mul,Nat.zero_add] at this
    exact this
   ·rw [List.getElem?_append_right (by omega)] at hj
    have:=k2 _ v hj
    rw [addr_add_add,← K.len h1,show c.length+(j-c.length)=j by omega] at this
    exact this
  ·rcases List.mem_cons.1 hx with rfl | hx
   ·exact h3
   ·exact k3 x hx
theorem opens_slice {T E:TypeId} {K:Kind α} {ok:α→Prop} (hu:P.underlying T=some (.slice E)) (hc:P.cellsOf E=K.sz) (h:Opens P E K ok):Opens P T (kSlice K) (okL ok):=fun H enc w fuel cs x hx=>by
 rcases DataW.trod_slice hu hx with ⟨rfl,_⟩ | ⟨a,len,cap,elems,rest,n,_,rfl,_,_,hl,hm,hlen,hel,_,_⟩
 ·exact ⟨[],⟨none,0,rfl,Nat.le_refl _,by simp [maxLen],fun h=>absurd rfl h⟩,by simp [maxLen],by simp⟩
 ·obtain ⟨xs,ds,e,h1,h2,h3⟩:=reps_each (K:=K) (φ:=full w) (a:=a) (ok:=ok) len a (fun i hi=>by
   have h0:=hel i hi
   rw [List.getElem?_eq_getElem (by omega)] at h0
   obtain ⟨c,hcells,htr⟩:=Option.bind_eq_some_iff.1 h0
   obtain ⟨y,g1,g2⟩:=h H enc w n c _ htr
   refine ⟨y,c,g1,fun j v hj=>?_,g2⟩
   rw [hc] at hcells
   obtain ⟨_,hl2,hg⟩:=World.cells?_some hcells
   have hj2:j<K.sz:=by have:=(List.getElem?_eq_some_iff.1 hj).1;omega
   have:=hg j hj2
   rw [hj] at this
   exact this)
  exact ⟨xs,⟨some a,cap,by rw [e],by omega,hm,fun _=>⟨a,ds,rfl,h1,h2⟩⟩,by omega,h3⟩
def OpensFs (P:Program) (off:Nat) (fs:List Field) (K:Kind α) (ok:α→Prop):Prop:=∀ (H:Type) (enc:TypeId×Value→H) (w:World) (fuel:Nat) (cs:List Value),(∀ f∈fs,∃ x,DataW.trod enc P w 0 (fun _=>true) true fuel f.type ((cs.drop f.offset).take (P.cellsOf f.type))=some x)→∃ y:α,K.rep (full w) y ((cs.drop off).take K.sz)∧ok y
theorem fs_last {f:Field} {off:Nat} {K:Kind α} {ok:α→Prop} (ho:f.offset=off) (hc:P.cellsOf f.type=K.sz) (h:Opens P f.type K ok):OpensFs P off [f] K ok:=fun H enc w fuel cs hx=>by
 obtain ⟨x,h1⟩:=hx f (by simp)
 rw [ho,hc] at h1
 exact h H enc w fuel _ x h1
theorem fs_cons {f:Field} {fs:List Field} {off off2:Nat} {K:Kind α} {M:Kind β} {ok:α→Prop} {ok2:β→Prop} (ho:f.offset=off) (hc:P.cellsOf f.type=K.sz) (h:Opens P f.type K ok) (h2:OpensFs P off2 fs M ok2) (he:off2=off+K.sz):OpensFs P off (f::fs) (kPair K M) (fun x=>ok x.1∧ok2 x.2):=fun H enc w fuel cs hx=>by
 subst he
 obtain ⟨x,h1⟩:=hx f (by simp)
 rw [ho,hc] at h1
 obtain ⟨y,k1,k2⟩:=h H enc w fuel _ x h1
 obtain ⟨z,l1,l2⟩:=h2 H enc w fuel cs (fun g hg=>hx g (by simp [hg]))
 refine ⟨(y,z),⟨_,_,?_,k1,l1⟩,k2,l2⟩
 show (cs.drop off).take (K.sz+M.sz)=_
 rw [List.take_add,List.drop_drop]
theorem fs_wrap {off:Nat} {fs:List Field} {K:Kind α} {ok:α→Prop} (h:OpensFs P off fs K ok):OpensFs P off fs (kWrap K) ok:=h
theorem opens_struct {T:TypeId} {fs:Array Field} {l:List Field} {K:Kind β} {hK:K.agg=true} {f:α→β} {ok:β→Prop} (hu:P.underlying T=some (.struct fs)) (hl:fs=l.toArray) (hc:P.cellsOf T=K.sz) (h:OpensFs P 0 l K ok) (g:β→α) (hg:∀ z,f (g z)=z):Opens P T (kIso K f hK) (fun x=>ok (f x)):=fun H enc w fuel cs x hx=>by
 obtain ⟨xs,n,_,_,hcl,hxl,hfs⟩:=DataW.trod_struct hu hx
 subst hl
 obtain ⟨y,h1,h2⟩:=h H enc w n cs (fun fd hfd=>by
  obtain ⟨i,hi⟩:=List.getElem?_of_mem hfd
  have:=hfs i fd (by simpa using hi)
  have hi2:i<xs.length:=by rw [hxl];simpa using (List.getElem?_eq_some_iff.1 hi).1
  rw [List.getElem?_eq_getElem hi2] at this
  exact ⟨_,this⟩)
 have e:(cs.drop 0).take K.sz=cs:=by rw [List.drop_zero,← hc,← hcl,List.take_length]
 rw [e] at h1
 exact ⟨g y,by show K.rep (full w) (f (g y)) cs;rw [hg];exact h1,by show ok (f (g y));rw [hg];exact h2⟩
theorem opens_arg {T:TypeId} {K:Kind α} {ok:α→Prop} (h:Opens P T K ok) {H:Type} {enc:TypeId×Value→H} {w:World} {v:Value} {d:DataW H} {ps:List MemPlace} (ht:DataW.Trod enc P w 0 (fun _=>true) true T v d ps) (hag:if K.agg then ∃ cs:Array Value,v=.agg cs else v.oneCell'=true):∃ x:α,(TA.tv K x).p (full w) v∧ok x:=by
 obtain ⟨fuel,hf⟩:=ht
 obtain ⟨y,h1,h2⟩:=h H enc w fuel _ _ hf
 refine ⟨y,⟨_,h1,?_⟩,h2⟩
 unfold Kind.val
 cases ha:K.agg with
 | true=>
  rw [if_pos ha] at hag
  obtain ⟨cs,rfl⟩:=hag
  simp [Value.cells]
 | false=>
  rw [if_neg (by simp [ha])] at hag
  cases v<;>simp_all [Value.cells,Value.oneCell']
theorem below_of_good {w w':World} {φ φ':Fro} {rs':List Res} (h:Good ⟨w,[],φ⟩ rs' φ' w'):Go.RowKit.Below w.heap.size w w':=⟨h.os,h.tape.tape,h.output,h.size,fun k hk=>h.blk k hk (by simp)⟩
theorem law_walk {g:FuncId} {tas:List TA} {vs:List Value} {w:World} (hc:Con P g tas [] (fun ta rs'=>∃ r:Bool,r=true∧ta=.tv kBool r∧rs'=[])) (hv:All2 (fun (t:TA) v=>t.p (full w) v) tas vs):Calls P g vs.toArray w fun e w'=>e=.returned (.bool true)∧Go.RowKit.Below w.heap.size w w':=by
 refine (hc (full w) w vs (good_nil (full_ok w)) hv).mono ?_
 rintro e w' ⟨v,φ',ta,rs',rfl,h1,⟨r,rfl,rfl,rfl⟩,hg⟩
 exact ⟨by rw [tv_bool.1 h1],below_of_good hg⟩
end
end Go.Gp
end
section
set_option linter.unusedVariables false
set_option linter.unusedSimpArgs false
set_option linter.unusedSectionVars false
namespace Go.Gp
section
variable {S : Sit} {rs : List Res} {L : Nat → TA} {Q : Exit → Act → World → Prop} {ops : Array Oper} {o : Oper} {rest : List Oper} {α β γ : Type}
theorem At.rowcap {G:Act→World→Prop} (i:Nat) {v:Value} {E:TypeId} {K:Kind α} {xs:List α} (hi:nth rs i=.row v E K xs) (hne:0<xs.length)
  (k:∀ g c,v=.slice (some ⟨g,0,none⟩) xs.length c→xs.length≤c→At S rs L G):At S rs L G:=fun φ a w hgd ha=>by
 have h1:=hgd.res i
 rw [hi] at h1
 obtain ⟨cs,hown,_⟩:=h1
 rcases hown.2 with ⟨_,hn⟩ | ⟨g,cap,cur,hv,_,_,hle,_⟩
 ·omega
 ·exact k g cap hv hle φ a w hgd ha
theorem does_cap {T T3:TypeId} {x:Operand} {A:Option Addr} {n c:Nat} (hx:Opd S L x (.eq (.slice A n c))) {E':TypeId} (hT:S.P.underlying T=some (.slice E')):Does S rs L (.call { callee:=.builtin .cap,args:=#[x],argTypes:=#[T] }) T3 (.tv (kInt .i64) (c:Int)):=fun o ho _ φ a w hgd ha=>by
 have he:a.eval x=.slice A n c:=hx φ a ha
 have he2:S.P.elem T=E':=by simp [Program.elem,hT]
 have hrun:∀ w,_:=fun w=>run_cap_slice (P:=S.P) w T o.type A n c (by rw [he2];exact hT)
 exact ⟨_,tv_int.2 rfl,fun w' _=>by simp only [execOp,ho,resolve,invoke,builtin,Sem.run_bind,Sem.run_pure,Result.andThen_ok,List.map_toArray,List.map_cons,List.map_nil,he,hrun];rfl⟩
theorem does_stretch {T E T3:TypeId} {x y:Operand} {g n c:Nat} {k:IntKind} {h:Int} {α:Type} {K:Kind α} (hx:Opd S L x (.eq (.slice (some ⟨g,0,none⟩) n c))) (hy:Opd S L y (.tv (kInt k) h)) (hT:S.P.underlying T=some (.slice E)) (hE:Ty S.P E K) (hh:0≤h∧h≤(c:Int)) :
  Does S rs L (.slice T x none (some y) none) T3 (.eq (.slice (some ⟨g,0,none⟩) h.toNat c)):=fun o ho _ φ a w hgd ha=>by
 have he:a.eval x=.slice (some ⟨g,0,none⟩) n c:=hx φ a ha
 have hb:∀ w,(Instr.sliceBounds true n c none (some (a.eval y)) none).run S.P w=.ok (0,h.toNat,c) w:=fun w=>by
  simp only [Instr.sliceBounds,tv_int.1 (hy φ a ha),Sem.run_bind,Sem.run_pure,Result.andThen_ok,run_sliceBound hh.1 hh.2,if_true]
 refine ⟨_,rfl,fun w' _=>?_⟩
 simp only [execOp,ho,he,Instr.sliceAt,Instr.slice,Sem.run_bind,run_underlying hT,Result.andThen_ok,Option.map_none,Option.map_some,hb,hE.size,Sem.run_pure,Nat.sub_zero]
 split<;>simp [addr_mk]
theorem does_cutlit {T E T3:TypeId} {x y:Operand} {A:Option Addr} {n c:Nat} {k:IntKind} {l:Int} {α:Type} {K:Kind α} (hx:Opd S L x (.eq (.slice A n c))) (hy:Opd S L y (.tv (kInt k) l)) (hT:S.P.underlying T=some (.slice E)) (hE:Ty S.P E K) (hh:0≤l∧l≤(n:Int)∧n≤c) :
  Does S rs L (.slice T x (some y) none none) T3 (cutv l.toNat n K.sz (.slice A n c)):=fun o ho _ φ a w hgd ha=>by
 have he:a.eval x=.slice A n c:=hx φ a ha
 have hb:∀ w,(Instr.sliceBounds true n c (some (a.eval y)) none none).run S.P w=.ok (l.toNat,n,c) w:=fun w=>by
  simp only [Instr.sliceBounds,tv_int.1 (hy φ a ha),Sem.run_bind,Sem.run_pure,Result.andThen_ok,run_sliceBound hh.1 hh.2.1,Option.isSome_none,Bool.false_eq_true,if_false]
 refine ⟨_,⟨A,n,c,rfl,by omega,hh.2.2,rfl⟩,fun w' _=>?_⟩
 simp only [execOp,ho,he,Instr.sliceAt,Instr.slice,Sem.run_bind,run_underlying hT,Result.andThen_ok,Option.map_none,Option.map_some,hb,hE.size,Sem.run_pure]
def Src (S:Sit) (rs:List Res) (L:Nat→TA) (y:Operand) (K:Kind α) (zs:List α):Prop:=∀ φ a w,Good S.C rs φ w→Agree S.n L φ a→∃ ad c ds,a.eval y=.slice (some ad) zs.length c∧Reps K φ zs ds∧∀ j u,ds[j]?=some u→w.cell? (ad.add j)=some u
theorem src_row {y:Operand} (j:Nat) {u:Value} {E:TypeId} {K:Kind α} {zs:List α} (hj:nth rs j=.row u E K zs) (hy:Opd S L y (.eq u)) (hne:0<zs.length):Src S rs L y K zs:=fun φ a w hgd ha=>by
 have hr2:=hgd.res j
 rw [hj] at hr2
 obtain ⟨ds,hown,hreps⟩:=hr2
 have he:a.eval y=u:=hy φ a ha
 rcases hown.2 with ⟨_,hn⟩ | ⟨g,cap,cur,rfl,_⟩
 ·omega
 ·exact ⟨_,cap,ds,he,hreps,fun j u hj=>hown.cells rfl j u hj⟩
theorem src_cut {y:Operand} (j:Nat) {u:Value} {E:TypeId} {K:Kind α} {ys:List α} {l h:Nat} (hj:nth rs j=.row u E K ys) (hy:Opd S L y (cutv l h K.sz u)) (hl:l<h∧h≤ys.length):Src S rs L y K ((ys.take h).drop l):=fun φ a w hgd ha=>by
 have hr2:=hgd.res j
 rw [hj] at hr2
 obtain ⟨A,n,c,hv,hlh,hc,hev⟩:=hy φ a ha
 have hlen:((ys.take h).drop l).length=h-l:=by simp;omega
 obtain ⟨g,c',p,q,d',tail,hv2,hcell,hp,hq,_,hr,_⟩:=row_cut hr2 hl.1 hl.2
 rw [hv] at hv2
 cases hv2
 refine ⟨_,_,q,by rw [hev,if_neg (by omega),hlen];rfl,hr,fun jj u hjj=>?_⟩
 rw [addr_add_add,addr_mk,cell_of_block hcell,← hp]
 simp only [List.append_assoc]
 rw [List.getElem?_append_right (by omega),show p.length+jj-p.length=jj by omega,List.getElem?_append_left (List.getElem?_eq_some_iff.1 hjj).1]
 exact hjj
theorem run_copy_at {P:Program} (w:World) (dT sT ty E:TypeId) (sz:Nat) (hT:P.underlying dT=some (.slice E)) (hs:∀ w,(Go.sizeOf E).run P w=.ok sz w) (g o dLen dCap:Nat) (a:Addr) (sLen sCap:Nat) (cur:Array Value) (t:TypeId) (cs:List Value)
  (hg:w.heap[g]?=some (.cells cur t (0,0))) (hn:cs.length=Nat.min sLen dLen*sz) (hsrc:∀ j v,cs[j]?=some v→w.cell? (a.add j)=some v) (hfit:o+cs.length≤cur.size) (h1:∀ v∈cs,v.oneCell'=true) :
  (Builtin.copy_ #[dT,sT] ty #[.slice (some ⟨g,o,none⟩) dLen dCap,.slice (some a) sLen sCap]).run P w=.ok (goInt (Nat.min sLen dLen)) (w.setRow g (cur.toList.take o++cs++cur.toList.drop (o+cs.length)).toArray):=by
 have hl:=run_loadCells_list (P:=P) w a cs hsrc
 have hst:=run_storeCells_at P g o t cs 0 cur w hg (by simpa using hfit) h1
 rw [hn] at hl
 simp [Builtin.copy_,run_underlying hT,Builtin.lenOf,Builtin.firstCells,hs,hl,hst]
theorem eff_copy {d:Nat} (hd:o.dst=some d) (hn:Nat.blt d S.n=true) {T T2:TypeId} {x y:Operand} (ho:o.op=.call { callee:=.builtin .copy,args:=#[x,y],argTypes:=#[T,T2] }) (i:Nat) {E E0:TypeId} {K:Kind α} {v:Value} {xs zs:List α} {lo hi:Nat}
  (hi':nth rs i=.row v E K xs) (hx:Opd S L x (cutv lo hi K.sz v)) (hT:S.P.underlying T=some (.slice E0)) (hE:Ty S.P E0 K) (hs:Src S rs L y K zs) (h:0<zs.length∧lo+zs.length≤hi∧hi≤xs.length) :
  EffOk S rs L o Q [i] (fun rs' L'=>rs'=setr rs i (.row v E K (xs.take lo++zs++xs.drop (lo+zs.length)))∧L'=upd L d (.tv (kInt .i64) (zs.length:Int))):=by
 intro φ a w KK hgd ha k
 have h1:=hgd.res i
 have h2:=hgd.lt i
 rw [hi'] at h1 h2
 obtain ⟨A,n,c,hv,hlh,hc,hev⟩:=hx φ a ha
 obtain ⟨ad,sc,ds,hsv,hr,hcells⟩:=hs φ a w hgd ha
 obtain ⟨g,c',p,q,d',tail,hv2,hcell,hp,hq,hr1,hr2,hr3,hle,hmx,hl1,hl2⟩:=row_cut h1 (l:=lo) (m:=lo+zs.length) (by omega) (by omega)
 rw [hv] at hv2
 cases hv2
 rw [if_neg (by omega)] at hev
 have hdl:ds.length=q.length:=by rw [hr.len,hq];congr 1;omega
 have hmin:Nat.min zs.length (hi-lo)=zs.length:=Nat.min_eq_left (by omega)
 have hrun:=run_copy_at (P:=S.P) w T T2 o.type E0 K.sz hT hE.size g (lo*K.sz) (hi-lo) (c-lo) ad zs.length sc _ E ds hcell (by rw [hmin,hr.len]) hcells (by rw [← hp,hdl];simp) (fun u hu=>Reps.one hr u hu)
 have hnew:(p++q++d'++tail).toArray.toList.take (lo*K.sz)++ds++(p++q++d'++tail).toArray.toList.drop (lo*K.sz+ds.length)=p++ds++d'++tail:=by
  rw [← hp,hdl]
  simp [List.append_assoc,List.take_append,List.drop_append]
 rw [hnew,hmin] at hrun
 have hrun2:(execOp a.eval o).run S.P w=.ok (.value (.int .i64 (zs.length:Int))) (w.setRow g (p++ds++d'++tail).toArray):=by
  have e:(some (⟨g,0,none⟩:Addr)).map (·.add (lo*K.sz))=some ⟨g,lo*K.sz,none⟩:=by simp [addr_mk]
  rw [e] at hev
  simp only [execOp,ho,resolve,invoke,builtin,Sem.run_bind,Sem.run_pure,Result.andThen_ok,List.map_toArray,List.map_cons,List.map_nil,hev,hsv,hrun]
  rfl
 show o.upon S.P a _ Q _
 rw [hrun2]
 show KK (a.put o.dst _) _
 have hw':=setRow_heap w g (p++q++d'++tail).toArray (p++ds++d'++tail).toArray E (0,0) hcell
 have hstp:Step [g] w (w.setRow g (p++ds++d'++tail).toArray):=⟨rfl,⟨rfl,Nat.le_refl _⟩,rfl,by simp,fun b _ hb=>setRow_other w g b _ (fun e=>hb (by simp [e]))⟩
 have hxl:(xs.take lo++zs++xs.drop (lo+zs.length)).length=xs.length:=by simp;omega
 have hpl:p.length+q.length+d'.length=xs.length*K.sz:=by rw [← hl2];simp;omega
 refine k _ _ φ _ _ ⟨rfl,rfl⟩ (.refl _) (hgd.step hi' (by rw [hv];simpa [Res.fp,Value.ownBlock] using hstp) ⟨p++ds++d',⟨?_,.inr ⟨g,c,_,by rw [hv,hxl],Nat.zero_le _,hw',by rw [hxl];exact hle,hmx,?_,?_⟩⟩,?_⟩ ?_ ?_) (ha.putE (.refl _) hd hn (tv_int.2 rfl)) (by rw [show [i].map (nth rs)=[nth rs i] from rfl,hi',hv];simpa [blocksOf,Res.fp,Value.ownBlock] using hstp)
 ·rw [hxl,← hl2];simp only [List.length_append,hdl]
 ·rw [← hl1];simp only [List.size_toArray,List.length_append,hdl]
 ·rw [hxl,List.toList_toArray]
  refine List.take_left' ?_
  simp only [List.length_append,hdl];omega
 ·exact Reps.append (Reps.append hr1 hr) hr3
 ·intro b hb';exact Nat.lt_of_lt_of_le (h2 b (by simpa [Res.fp] using hb')) hstp.size
 ·intro b hb';exact .inl (by simpa [Res.fp] using hb')
theorem eff_shift {d:Nat} (hd:o.dst=some d) (hn:Nat.blt d S.n=true) {T T2:TypeId} {x y:Operand} (ho:o.op=.call { callee:=.builtin .copy,args:=#[x,y],argTypes:=#[T,T2] }) (i:Nat) {E E0:TypeId} {K:Kind α} {g n c:Nat} {xs:List α} {lo l H:Nat}
  (hi':nth rs i=.row (.slice (some ⟨g,0,none⟩) n c) E K xs) (hx:Opd S L x (cutv lo H K.sz (.slice (some ⟨g,0,none⟩) H c))) (hy:Opd S L y (cutv l H K.sz (.slice (some ⟨g,0,none⟩) H c))) (hT:S.P.underlying T=some (.slice E0)) (hE:Ty S.P E0 K)
  (h:l<lo∧lo≤xs.length∧H=xs.length+(lo-l)∧H≤c) :
  EffOk S rs L o Q [i] (fun rs' L'=>rs'=setr rs i (.row (.slice (some ⟨g,0,none⟩) H c) E K (xs.take lo++xs.drop l))∧L'=upd L d (.tv (kInt .i64) ((xs.length-l:Nat):Int))):=by
 intro φ a w KK hgd ha k
 have h1:=hgd.res i
 have h2:=hgd.lt i
 rw [hi'] at h1 h2
 obtain ⟨A,n',c',hv,_,_,hev⟩:=hx φ a ha
 cases hv
 obtain ⟨A,n',c',hv,_,_,hev2⟩:=hy φ a ha
 cases hv
 obtain ⟨cs,hown,hreps⟩:=h1
 rcases hown.2 with ⟨hv0,_⟩ | ⟨g',cap,cur,hv,_,hh,hle,hmx,hcur,htake⟩
 ·cases hv0
 cases hv
 rw [if_neg (by omega)] at hev hev2
 have hd1:=Reps.split l hreps
 have hd2:=Reps.split lo hreps
 have hcl:cs.length=xs.length*K.sz:=hown.1
 have hmin:Nat.min (H-l) (H-lo)=xs.length-l:=by rw [h.2.2.1];show min _ _=_;omega
 have hsl:(cs.drop (l*K.sz)).length=(xs.length-l)*K.sz:=by rw [List.length_drop,hcl,Nat.sub_mul]
 have hadd:lo*K.sz+(xs.length-l)*K.sz=H*K.sz:=by rw [← Nat.add_mul];congr 1;omega
 have hle2:H*K.sz≤cur.size:=by rw [hcur];exact Nat.mul_le_mul_right _ h.2.2.2
 have hle3:lo*K.sz≤xs.length*K.sz:=Nat.mul_le_mul_right _ h.2.1
 have hle4:xs.length*K.sz≤cur.size:=by rw [hcur];exact Nat.mul_le_mul_right _ hle
 have hrun:=run_copy_at (P:=S.P) w T T2 o.type E0 K.sz hT hE.size g (lo*K.sz) (H-lo) (c-lo) ⟨g,l*K.sz,none⟩ (H-l) (c-l) cur E (cs.drop (l*K.sz)) hh (by rw [hmin,hsl]) (fun j u hj=>by
   rw [addr_lit,cell_of_block hh]
   rw [List.getElem?_drop,← htake,List.getElem?_take] at hj
   split at hj
   ·simpa using hj
   ·cases hj) (by rw [hsl,hadd];exact hle2) (fun u hu=>Reps.one hd1.2 u hu)
 rw [hmin] at hrun
 obtain ⟨new,hnew⟩:∃ new,new=(cur.toList.take (lo*K.sz)++cs.drop (l*K.sz)++cur.toList.drop (lo*K.sz+(cs.drop (l*K.sz)).length)).toArray:=⟨_,rfl⟩
 rw [← hnew] at hrun
 have hrun2:(execOp a.eval o).run S.P w=.ok (.value (.int .i64 ((xs.length-l:Nat):Int))) (w.setRow g new):=by
  have e:∀ z,(some (⟨g,0,none⟩:Addr)).map (·.add z)=some ⟨g,z,none⟩:=fun z=>by simp [addr_mk]
  rw [e] at hev hev2
  simp only [execOp,ho,resolve,invoke,builtin,Sem.run_bind,Sem.run_pure,Result.andThen_ok,List.map_toArray,List.map_cons,List.map_nil,hev,hev2,hrun]
  rfl
 show o.upon S.P a _ Q _
 rw [hrun2]
 show KK (a.put o.dst _) _
 have hw':=setRow_heap w g cur new E (0,0) hh
 have hstp:Step [g] w (w.setRow g new):=⟨rfl,⟨rfl,Nat.le_refl _⟩,rfl,by simp,fun b _ hb=>setRow_other w g b _ (fun e=>hb (by simp [e]))⟩
 have hxl:(xs.take lo++xs.drop l).length=H:=by simp;omega
 have hct:cs.take (lo*K.sz)=cur.toList.take (lo*K.sz):=by rw [← htake,List.take_take,Nat.min_eq_left hle3]
 have hts:(cur.toList.take (lo*K.sz)).length=lo*K.sz:=by rw [List.length_take,Nat.min_eq_left (by simp;omega)]
 refine k _ _ φ _ _ ⟨rfl,rfl⟩ (.refl _) (hgd.step hi' (by simpa [Res.fp,Value.ownBlock] using hstp) ⟨cs.take (lo*K.sz)++cs.drop (l*K.sz),⟨?_,.inr ⟨g,c,new,by rw [hxl],Nat.zero_le _,hw',by rw [hxl];exact h.2.2.2,hmx,?_,?_⟩⟩,Reps.append hd2.1 hd1.2⟩ ?_ ?_) (ha.putE (.refl _) hd hn (tv_int.2 rfl)) (by rw [show [i].map (nth rs)=[nth rs i] from rfl,hi'];simpa [blocksOf,Res.fp,Value.ownBlock] using hstp)
 ·rw [hxl,List.length_append,hsl,hct,hts,hadd]
 ·rw [hnew,List.size_toArray]
  simp only [List.length_append,hts,hsl,List.length_drop,Array.length_toList]
  rw [hadd,← hcur];omega
 ·rw [hxl,hct,hnew,List.toList_toArray]
  refine List.take_left' ?_
  rw [List.length_append,hts,hsl,hadd]
 ·intro b hb';exact Nat.lt_of_lt_of_le (h2 b (by simpa [Res.fp,Value.ownBlock] using hb')) hstp.size
 ·intro b hb';exact .inl (by simpa [Res.fp,Value.ownBlock] using hb')
theorem eff_append_zeros {d:Nat} (hd:o.dst=some d) (hn:Nat.blt d S.n=true) {T T2:TypeId} {x y:Operand} (ho:o.op=.call { callee:=.builtin .append,args:=#[x,y],argTypes:=#[T,T2] }) (i:Nat) {E E':TypeId} {K:Kind α} {bytes g n c h:Nat} {k2 kn:IntKind} {kk:Int} {xs:List α} {z:α}
  (hi:nth rs i=.row (.slice (some ⟨g,0,none⟩) n c) E' K xs) (hx:Opd S L x (cutv 0 h K.sz (.slice (some ⟨g,0,none⟩) n c))) (hy:Opd S L y (.tv (kInt k2) kk)) (hT:SlTy S.P T E K bytes) (hT2:S.P.underlying T2=some (.int kn)) (hz:TyZ S.P E K z)
  (hb:0<kk∧h≤xs.length∧c<h+kk.toNat∧(h+kk.toNat)*bytes≤140737488355328∧h+kk.toNat≤140737488355328) :
  EffOk S rs L o Q [] (fun rs' L'=>∃ v',rs'=.row v' E K (xs.take h++List.replicate kk.toNat z)::rs∧L'=upd L d (.eq v')):=by
 intro φ a w KF hgd ha kkk
 have h1:=hgd.res i
 rw [hi] at h1
 obtain ⟨A,n',c',hv,_,hc,hev⟩:=hx φ a ha
 cases hv
 obtain ⟨cs,hown,hreps⟩:=h1
 rcases hown.2 with ⟨hv0,_⟩ | ⟨g',cap,cur,hv,_,hh,hle,hmx,hcur,htake⟩
 ·cases hv0
 cases hv
 obtain ⟨inf,zv,hinf,hzv,hsz,hby,hzs⟩:=hT.info
 obtain ⟨z2,hzr,hzp⟩:=hz.zero
 have hzz:z2=zv:=by
  have h1:=hzr w
  have h2:(zeroValue E).run S.P w=.ok zv w:=by simp [zeroValue,typeInfo,hinf,hzv]
  rw [h1] at h2
  injection h2
 subst hzz
 obtain ⟨m,rfl⟩:=Int.eq_ofNat_of_zero_le (show 0≤kk by omega)
 have hm:((m:Nat):Int).toNat=m:=by simp
 rw [hm] at hb
 have e0:(if c=0 then (some (⟨g,0,none⟩:Addr)) else (some (⟨g,0,none⟩:Addr)).map (·.add (0*K.sz)))=some ⟨g,0,none⟩:=by split<;>simp [addr_mk]
 rw [e0] at hev
 have hsp:=Reps.split h hreps
 have holds:(Builtin.firstCells inf.size h (.slice (some ⟨g,0,none⟩) h c)).run S.P w.drew=.ok (cs.take (h*K.sz)).toArray w.drew:=by
  have hl:=run_loadCells_list (P:=S.P) w.drew ⟨g,0,none⟩ (cs.take (h*K.sz)) (fun j u hj=>by
   rw [List.getElem?_take] at hj
   split at hj
   ·exact hown.cells (g:=g) rfl j u hj
   ·cases hj)
  have:(cs.take (h*K.sz)).length=h*K.sz:=by rw [hsp.1.len,List.length_take,Nat.min_eq_left hb.2.1]
  rw [this] at hl
  rw [hsz]
  exact hl
 have hrun:=Lib.run_append_grow_zeros (P:=S.P) w T T2 o.type E inf z2 k2 kn hT.und hT2 hinf hzv (some ⟨g,0,none⟩) h c _ holds m (by omega) (by rw [hsz];exact hT.pos) hb.2.2.1 (by omega) (by rw [hby];exact Nat.le_trans (Nat.mul_le_mul_right _ (show m≤h+m by omega)) (by omega)) (by rw [hby];exact growslice_fits hb.2.2.1 hb.2.2.2.1)
 have hge:=grownCap_ge w (h+m) c E
 have hcm:grownCap w (h+m) c E≤maxLen:=grownCap_le_maxLen w (h+m) c E (by simp only [maxLen];omega)
 obtain ⟨G,hG⟩:∃ G,G=grownCap w (h+m) c E:=⟨_,rfl⟩
 rw [← hG] at hrun hge hcm
 have hrun2:(execOp a.eval o).run S.P w=.ok (.value (.slice (some ⟨w.heap.size,0,none⟩) (h+m) G)) (w.drew.alloc (.cells ((cs.take (h*K.sz)).toArray++Builtin.zeroCells z2.cells m++Builtin.zeroCells z2.cells (G-(h+m))) E)):=by
  have hey:a.eval y=.int k2 (m:Int):=tv_int.1 (hy φ a ha)
  simp only [execOp,ho,resolve,invoke,builtin,Sem.run_bind,Sem.run_pure,Result.andThen_ok,List.map_toArray,List.map_cons,List.map_nil,hev,hey,Nat.sub_zero,hrun]
 have hmr:=made_reps (n:=m) hzs (tv_cells (hzp φ)).1
 have hzl:(Builtin.zeroCells z2.cells m).toList=(madeCells z2.cells (m*K.sz)).toList:=by unfold Builtin.zeroCells madeCells;rw [hzs]
 have hzn:∀ n,(Builtin.zeroCells z2.cells n).size=n*K.sz:=fun n=>by simp [Builtin.zeroCells,hzs]
 have hcsl:(cs.take (h*K.sz)).length=h*K.sz:=by rw [hsp.1.len,List.length_take,Nat.min_eq_left hb.2.1]
 show o.upon S.P a _ Q _
 rw [hrun2]
 have hstp:Step [] w (w.drew.alloc (.cells ((cs.take (h*K.sz)).toArray++Builtin.zeroCells z2.cells m++Builtin.zeroCells z2.cells (G-(h+m))) E)):=⟨rfl,⟨rfl,run_drawn hrun2⟩,rfl,by simp,fun b hb _=>by first | exact heap_alloc_old w.drew _ hb | exact heap_alloc_old w.drew _ b hb⟩
 have hxl:(xs.take h++List.replicate m z).length=h+m:=by rw [List.length_append,List.length_take,List.length_replicate,Nat.min_eq_left hb.2.1]
 refine kkk (.row (.slice (some ⟨w.heap.size,0,none⟩) (h+m) G) E K (xs.take h++List.replicate m z)::rs) _ φ _ _ ⟨_,rfl,rfl⟩ (.refl _) (hgd.new hstp ⟨cs.take (h*K.sz)++(Builtin.zeroCells z2.cells m).toList,⟨?_,.inr ⟨w.heap.size,G,_,by rw [hxl],Nat.zero_le _,heap_alloc_new w.drew _,by rw [hxl];exact hge,hcm,?_,?_⟩⟩,Reps.append hsp.1 (by rw [hzl];exact hmr)⟩ ?_ ?_) (ha.putE (.refl _) hd hn rfl) (by simpa [blocksOf] using hstp)
 ·rw [hxl,List.length_append,hcsl,Array.length_toList,hzn,Nat.add_mul]
 ·simp only [Array.size_append,List.size_toArray,hcsl,hzn]
  rw [← Nat.add_mul,← Nat.add_mul];congr 1;omega
 ·rw [hxl]
  simp only [Array.toList_append,List.toList_toArray]
  refine List.take_left' ?_
  rw [List.length_append,hcsl,Array.length_toList,hzn,Nat.add_mul]
 ·intro b hb';simp [Res.fp,Value.ownBlock] at hb';subst hb';simp
 ·intro b hb';simp [Res.fp,Value.ownBlock] at hb';omega
theorem does_overlaps {gf:FuncId} {T T3:TypeId} {ts:Array TypeId} {E0:TypeId} {x y:Operand} {tR:TypeId} (he:ExtAt S.P gf (Extern.SlicesOverlaps.overlaps #[T,T] #[tR])) (i j:Nat) {E E':TypeId} {K K':Kind α} {u:Value} {g n c H l h sz:Nat} {xs ys:List α}
  (hi:nth rs i=.row u E K xs) (hj:nth rs j=.row (.slice (some ⟨g,0,none⟩) n c) E' K' ys) (hx:Opd S L x (.eq u)) (hy:Opd S L y (cutv l h sz (.slice (some ⟨g,0,none⟩) H c))) (hT:S.P.underlying T=some (.slice E0)) (hE:Ty S.P E0 K) (hp:0<K'.sz∧0<ys.length∧0<xs.length) (hij:i≠j) :
  Does S rs L (.call { callee:=.value (.func gf),args:=[x,y].toArray,argTypes:=ts }) T3 (.tv kBool false):=fun o ho _ φ a w hgd ha=>by
 refine ⟨.bool false,tv_bool.2 rfl,fun w' hld=>?_⟩
 have h1:=hgd.res i
 have h2:=hgd.res j
 have hdis:=hgd.dis i j hij
 have b1:=hld.blk i
 have b2:=hld.blk j
 rw [hi] at h1 hdis b1
 rw [hj] at h2 hdis b2
 obtain ⟨cs,hown,_⟩:=h1
 obtain ⟨ds,hown2,_⟩:=h2
 rcases hown.2 with ⟨_,hn⟩ | ⟨g1,cap1,cur1,rfl,_,hh1,hle1,_,hcur1,_⟩
 ·omega
 rcases hown2.2 with ⟨hv0,_⟩ | ⟨g2,cap2,cur2,hv,_,hh2,hle2,_,hcur2,_⟩
 ·cases hv0
 cases hv
 have hne:g1≠g:=fun e=>hdis g1 (by simp [Res.fp,Value.ownBlock]) (by simp [Res.fp,Value.ownBlock,e])
 obtain ⟨A,n',c',hv,_,_,hev⟩:=hy φ a ha
 cases hv
 have hA:∃ b:Addr,(if c=l then (some (⟨g,0,none⟩:Addr)) else (some (⟨g,0,none⟩:Addr)).map (·.add (l*sz)))=some b∧b.block=g:=by
  split
  ·exact ⟨_,rfl,rfl⟩
  ·exact ⟨_,rfl,show ((⟨g,0,none⟩:Addr).add (l*sz)).block=g by rw [addr_mk]⟩
 obtain ⟨b,hb,hbg⟩:=hA
 rw [hb] at hev
 have e1:w'.heap[g1]?=some (.cells cur1 E (0,0)):=by rw [b1 g1 (by simp [Res.fp,Value.ownBlock])];exact hh1
 have e2:w'.heap[g]?=some (.cells cur2 E' (0,0)):=by rw [b2 g (by simp [Res.fp,Value.ownBlock])];exact hh2
 have hrun:=Lib.run_overlaps_apart (P:=S.P) w' T tR E0 hT K.sz hE.size ⟨g1,0,none⟩ b xs.length cap1 (h-l) (c-l) (by rw [hbg];exact hne) E E' cur1.size cur2.size (by simp [World.shape?,e1]) (by rw [hbg];simp [World.shape?,e2]) (by rw [hcur2];exact Nat.ne_of_gt (Nat.mul_pos (by omega) hp.1)) (by simp [World.frozen?,e1]) (by simp [World.frozen?,e1])
 have h3:=he (List.map a.eval [x,y]).toArray w'
 have ex:a.eval x=.slice (some ⟨g1,0,none⟩) xs.length cap1:=hx φ a ha
 simp only [List.map_cons,List.map_nil,ex,hev] at h3
 rw [hrun] at h3
 have ef:a.eval (.func gf)=.func (.func gf) #[] #[]:=rfl
 simp only [execOp,ho,resolve,ef,Deferred.ofValue,Sem.run_bind,Sem.run_pure,Result.andThen_ok,invoke,List.map_toArray,List.map_cons,List.map_nil,ex,hev]
 simpa using h3
variable {H : HCtx} {D D' : Array Bool} {i fuel : Nat}
theorem AtH.doesGv {L0:Nat→TA} (ps:List (Nat×Nat)) {n:Nat} (hbn:H.base.length=n) (hps:ps.map (fun p=>nth rs p.2)=ps.map (fun p=>nth H.base p.1)) (hi:ops[i]?=some o) {j:Nat} {want:Bool} (hg:o.guard=some (j,want)) {e:Nat} (hj:(ops[j]?).bind (·.dst)=some e) {d:Nat} (hd:o.dst=some d) (hn:Nat.blt d S.n=true) {b:Bool} (hb:Sees L e want b) (hD:(D.setIfInBounds i true==D')=true) (hc:covB H.wrs ps D' [] n=true)
  {op:Op} (ho:o.op=op) {x:TA} (h:b=true→Does S rs L op o.type x) (k:AtH S H D' rs (upd L0 d .any) (upd L d (.when b x)) (wpAnyD S.P .any ops Q (HeldD H) fuel D')) :
  AtH S H D rs L0 L (wpOp S.P ops Q i (fun a' w'=>HeldD H (D.setIfInBounds i true) w'∧wpAnyD S.P .any ops Q (HeldD H) fuel (D.setIfInBounds i true) a' w')):=
 AtH.effGv ps hbn hps hi hg hj hd hn hb hD hc (m:=W.ret ()) (z:=()) (q:=fun _=>True) (by cases b<;>trivial) (fun _=>x) (fun hb _=>vr (eff_does hd hn ho (h hb)) (fun rs' L' ⟨h1,h2⟩=>⟨(),trivial,h1,h2⟩)) (fun _ _=>k)
end
end Go.Gp
end
section
set_option linter.unusedVariables false
set_option linter.unusedSimpArgs false
set_option maxRecDepth 100000
namespace Go.Gp.Gb
structure Point where
 X:Int
 Y:Int
 deriving DecidableEq
def zPoint:Point:=⟨(0:Int),(0:Int)⟩
def kPoint:Kind Point:=kIso (kPair (kInt .i64) (kInt .i64)) (fun x=>(x.X,x.Y)) rfl
theorem ja5:FlatK kPoint:=(flatK_iso (flatK_pair flatK_int flatK_int))
def Vg (x y:Point):Bool:=(x.X==y.X)&&((x.Y==y.Y))
structure Tag where
 Key:ByteArray
 Value:ByteArray
 deriving DecidableEq
def zTag:Tag:=⟨(⟨#[]⟩:ByteArray),(⟨#[]⟩:ByteArray)⟩
def kTag:Kind Tag:=kIso (kPair kStr kStr) (fun x=>(x.Key,x.Value)) rfl
structure Object where
 Id:ByteArray
 Kind:Int
 At:Point
 Refs:(List ByteArray)
 Tags:(List Tag)
def zObject:Object:=⟨(⟨#[]⟩:ByteArray),(0:Int),zPoint,([]:List ByteArray),([]:List Tag)⟩
def kObject:Kind Object:=kIso (kPair kStr (kPair (kInt .i64) (kPair kPoint (kPair (kSlice kStr) (kSlice kTag))))) (fun x=>(x.Id,(x.Kind,(x.At,(x.Refs,x.Tags))))) rfl
structure Map where
 Objects:(List Object)
def zMap:Map:=⟨([]:List Object)⟩
def kMap:Kind Map:=kIso (kWrap (kSlice kObject)) (fun x=>x.Objects) rfl
structure Segment where
 A:Point
 B:Point
 deriving DecidableEq
def zSegment:Segment:=⟨zPoint,zPoint⟩
def kSegment:Kind Segment:=kIso (kPair kPoint kPoint) (fun x=>(x.A,x.B)) rfl
theorem jb8:FlatK kSegment:=(flatK_iso (flatK_pair ja5 ja5))
def ja2 (x y:Segment):Bool:=(Vg x.A y.A)&&((Vg x.B y.B))
structure Violation where
 View:ByteArray
 Kind:Int
 Ids:(List ByteArray)
def zViolation:Violation:=⟨(⟨#[]⟩:ByteArray),(0:Int),([]:List ByteArray)⟩
def kViolation:Kind Violation:=kIso (kPair kStr (kPair (kInt .i64) (kSlice kStr))) (fun x=>(x.View,(x.Kind,x.Ids))) rfl
structure Jr where
 A:ByteArray
 B:ByteArray
 P:Point
 Q:Point
 Owners:(List ByteArray)
def Je:Jr:=⟨(⟨#[]⟩:ByteArray),(⟨#[]⟩:ByteArray),zPoint,zPoint,([]:List ByteArray)⟩
def Vk:Kind Jr:=kIso (kPair kStr (kPair kStr (kPair kPoint (kPair kPoint (kSlice kStr))))) (fun x=>(x.A,(x.B,(x.P,(x.Q,x.Owners))))) rfl
structure Va where
 m:Map
 at_:(List (ByteArray×Int))
def zt:Va:=⟨zMap,([]:List (ByteArray×Int))⟩
def Jy:Kind Va:=kIso (kPair kMap (kMp kStr (kInt .i64))) (fun x=>(x.m,x.at_)) rfl
structure Jv where
 nodes:(ByteArray×ByteArray)
 owners:(List ByteArray)
def Vd:Jv:=⟨((⟨#[]⟩:ByteArray),(⟨#[]⟩:ByteArray)),([]:List ByteArray)⟩
def Ju:Kind Jv:=kIso (kPair (kPair kStr kStr) (kSlice kStr)) (fun x=>(x.nodes,x.owners)) rfl
structure Meet where
 A:Int
 B:Int
 Kind:Int
 deriving DecidableEq
def zMeet:Meet:=⟨(0:Int),(0:Int),(0:Int)⟩
def kMeet:Kind Meet:=kIso (kPair (kInt .i64) (kPair (kInt .i64) (kInt .i64))) (fun x=>(x.A,(x.B,x.Kind))) rfl
structure ws where
 x:Int
 y:Int
 deriving DecidableEq
def zgeom_vector:ws:=⟨(0:Int),(0:Int)⟩
def wn:Kind ws:=kIso (kPair (kInt .i64) (kInt .i64)) (fun x=>(x.x,x.y)) rfl
theorem flat_geom_vector:FlatK wn:=(flatK_iso (flatK_pair flatK_int flatK_int))
structure Vt where
 low:Int
 high:Int
 deriving DecidableEq
def zp:Vt:=⟨(0:Int),(0:Int)⟩
def Vz:Kind Vt:=kIso (kPair (kInt .i64) (kInt .i64)) (fun x=>(x.low,x.high)) rfl
theorem yv:FlatK Vz:=(flatK_iso (flatK_pair flatK_int flatK_int))
structure Jw where
 index:Int
 s:Segment
 x:Vt
 y:Vt
 deriving DecidableEq
def Jz:Jw:=⟨(0:Int),zSegment,zp,zp⟩
def Vc:Kind Jw:=kIso (kPair (kInt .i64) (kPair kSegment (kPair Vz Vz))) (fun x=>(x.index,(x.s,(x.x,x.y)))) rfl
def eq_a50 (x y:(ByteArray×ByteArray)):Bool:=((sEq x.1 y.1)&&(sEq x.2 y.2))
def aget_175 (x:(ByteArray×ByteArray×ByteArray×ByteArray×ByteArray×ByteArray)) (i:Int):ByteArray:=if i=0 then x.1 else if i=1 then x.2.1 else if i=2 then x.2.2.1 else if i=3 then x.2.2.2.1 else if i=4 then x.2.2.2.2.1 else x.2.2.2.2.2
def aset_175 (x:(ByteArray×ByteArray×ByteArray×ByteArray×ByteArray×ByteArray)) (i:Int) (y:ByteArray):(ByteArray×ByteArray×ByteArray×ByteArray×ByteArray×ByteArray):=if i=0 then (y,x.2.1,x.2.2.1,x.2.2.2.1,x.2.2.2.2.1,x.2.2.2.2.2) else if i=1 then (x.1,y,x.2.2.1,x.2.2.2.1,x.2.2.2.2.1,x.2.2.2.2.2) else if i=2 then (x.1,x.2.1,y,x.2.2.2.1,x.2.2.2.2.1,x.2.2.2.2.2) else if i=3 then (x.1,x.2.1,x.2.2.1,y,x.2.2.2.2.1,x.2.2.2.2.2) else if i=4 then (x.1,x.2.1,x.2.2.1,x.2.2.2.1,y,x.2.2.2.2.2) else (x.1,x.2.1,x.2.2.1,x.2.2.2.1,x.2.2.2.2.1,y)
def zr (x:(List Int)) (i:Int):Int:=rd (0:Int) x i
def yi (x:(List Int)) (i:Int) (y:Int):(List Int):=x.set i.toNat y
def aget_178 (x:(Int×Int×Int×Int×Int×Int)) (i:Int):Int:=if i=0 then x.1 else if i=1 then x.2.1 else if i=2 then x.2.2.1 else if i=3 then x.2.2.2.1 else if i=4 then x.2.2.2.2.1 else x.2.2.2.2.2
def aset_178 (x:(Int×Int×Int×Int×Int×Int)) (i:Int) (y:Int):(Int×Int×Int×Int×Int×Int):=if i=0 then (y,x.2.1,x.2.2.1,x.2.2.2.1,x.2.2.2.2.1,x.2.2.2.2.2) else if i=1 then (x.1,y,x.2.2.1,x.2.2.2.1,x.2.2.2.2.1,x.2.2.2.2.2) else if i=2 then (x.1,x.2.1,y,x.2.2.2.1,x.2.2.2.2.1,x.2.2.2.2.2) else if i=3 then (x.1,x.2.1,x.2.2.1,y,x.2.2.2.2.1,x.2.2.2.2.2) else if i=4 then (x.1,x.2.1,x.2.2.1,x.2.2.2.1,y,x.2.2.2.2.2) else (x.1,x.2.1,x.2.2.1,x.2.2.2.1,x.2.2.2.2.1,y)
def yh (x:(ByteArray×ByteArray)) (i:Int):ByteArray:=if i=0 then x.1 else x.2
def aset_50 (x:(ByteArray×ByteArray)) (i:Int) (y:ByteArray):(ByteArray×ByteArray):=if i=0 then (y,x.2) else (x.1,y)
def ok_Point (x:Point):Prop:=(okI .i64) x.X∧(okI .i64) x.Y
def ok_Tag (x:Tag):Prop:=okS x.Key∧okS x.Value
def ok_Object (x:Object):Prop:=okS x.Id∧(okI .i64) x.Kind∧ok_Point x.At∧(okL okS) x.Refs∧(okL ok_Tag) x.Tags
def ok_Map (x:Map):Prop:=(okL ok_Object) x.Objects
end Go.Gp.Gb
end
section
set_option linter.unusedVariables false
set_option linter.unusedSimpArgs false
set_option maxRecDepth 100000
namespace Go.Gp.Gb
open Go.Proofs
theorem op_37:Opens Tryz.prog 37 kPoint ok_Point:=opens_struct Tryz.underlying37 rfl (by kernel_rfl) (fs_cons rfl (by kernel_rfl) (opens_int Tryz.underlying3) (fs_last rfl (by kernel_rfl) (opens_int Tryz.underlying3)) rfl) (fun z=>⟨z.1,z.2⟩) (fun _=>rfl)
theorem op_41:Opens Tryz.prog 41 (kSlice kStr) (okL okS):=opens_slice Tryz.underlying41 (by kernel_rfl) (opens_str Tryz.underlying9)
theorem op_73:Opens Tryz.prog 73 kTag ok_Tag:=opens_struct Tryz.underlying73 rfl (by kernel_rfl) (fs_cons rfl (by kernel_rfl) (opens_str Tryz.underlying9) (fs_last rfl (by kernel_rfl) (opens_str Tryz.underlying9)) rfl) (fun z=>⟨z.1,z.2⟩) (fun _=>rfl)
theorem op_57:Opens Tryz.prog 57 (kSlice kTag) (okL ok_Tag):=opens_slice Tryz.underlying57 (by kernel_rfl) op_73
theorem op_59:Opens Tryz.prog 59 kObject ok_Object:=opens_struct Tryz.underlying59 rfl (by kernel_rfl) (fs_cons rfl (by kernel_rfl) (opens_str Tryz.underlying9) (fs_cons rfl (by kernel_rfl) (opens_int Tryz.underlying3) (fs_cons rfl (by kernel_rfl) op_37 (fs_cons rfl (by kernel_rfl) op_41 (fs_last rfl (by kernel_rfl) op_57) rfl) rfl) rfl) rfl) (fun z=>⟨z.1,z.2.1,z.2.2.1,z.2.2.2.1,z.2.2.2.2⟩) (fun _=>rfl)
theorem op_22:Opens Tryz.prog 22 (kSlice kObject) (okL ok_Object):=opens_slice Tryz.underlying22 (by kernel_rfl) op_59
theorem op_24:Opens Tryz.prog 24 kMap ok_Map:=opens_struct Tryz.underlying24 rfl (by kernel_rfl) (fs_wrap (fs_last rfl (by kernel_rfl) op_22)) (fun z=>⟨z⟩) (fun _=>rfl)
end Go.Gp.Gb
end
section
namespace Go.Proofs
open Go.Shelf
def Tryz.sort39_ren:Go.Shelf.Ren:=⟨fun | 6=>39 | 15=>72 | 14=>71 | 28=>120 | 29=>121 | 20=>112 | 21=>113 | 22=>114 | 23=>115 | 24=>116 | 25=>117 | 26=>118 | 27=>119 | 46=>148 | 47=>149 | 48=>150 | 49=>151 | 50=>152 | 57=>177 | n=>n,fun | 22=>33 | 24=>43 | 25=>96 | 3=>3 | 39=>61 | 0=>0 | 53=>60 | 55=>174 | 4=>4 | 46=>167 | 45=>166 | 50=>111 | 5=>5 | 9=>9 | 66=>191 | 70=>195 | 76=>213 | 77=>214 | n=>n,fun | n=>n⟩
theorem Tryz.sort39:Go.Proofs.SlLaysF0.n6 Tryz.prog Tryz.sort39_ren:={
 mixed:=by kernel_rfl
 f6:=⟨Tryz.f39.name,by decide,Tryz.func39.trans (congrArg some (by kernel_rfl))⟩
 f14:=⟨Tryz.f71.name,by decide,Tryz.func71.trans (congrArg some (by kernel_rfl))⟩
 f15:=Tryz.func72.trans (congrArg some (by kernel_rfl))
 f20:=⟨Tryz.f112.name,by decide,Tryz.func112.trans (congrArg some (by kernel_rfl))⟩
 f21:=⟨Tryz.f113.name,by decide,Tryz.func113.trans (congrArg some (by kernel_rfl))⟩
 f22:=⟨Tryz.f114.name,by decide,Tryz.func114.trans (congrArg some (by kernel_rfl))⟩
 f23:=⟨Tryz.f115.name,by decide,Tryz.func115.trans (congrArg some (by kernel_rfl))⟩
 f24:=⟨Tryz.f116.name,by decide,Tryz.func116.trans (congrArg some (by kernel_rfl))⟩
 f25:=⟨Tryz.f117.name,by decide,Tryz.func117.trans (congrArg some (by kernel_rfl))⟩
 f26:=⟨Tryz.f118.name,by decide,Tryz.func118.trans (congrArg some (by kernel_rfl))⟩
 f27:=⟨Tryz.f119.name,by decide,Tryz.func119.trans (congrArg some (by kernel_rfl))⟩
 f28:=Tryz.func120.trans (congrArg some (by kernel_rfl))
 f29:=Tryz.func121.trans (congrArg some (by kernel_rfl))
 f46:=⟨Tryz.f148.name,by decide,Tryz.func148.trans (congrArg some (by kernel_rfl))⟩
 f47:=Tryz.func149.trans (congrArg some (by kernel_rfl))
 f48:=Tryz.func150.trans (congrArg some (by kernel_rfl))
 f49:=⟨Tryz.f151.name,by decide,Tryz.func151.trans (congrArg some (by kernel_rfl))⟩
 f50:=⟨Tryz.f152.name,by decide,Tryz.func152.trans (congrArg some (by kernel_rfl))⟩
 f57:=⟨Tryz.f177.name,by decide,Tryz.func177.trans (congrArg some (by kernel_rfl))⟩
 t0:=Tryz.underlying0
 a0:=Tryz.isAgg0
 z0:=Tryz.sizeOf0
 v0:=Tryz.zeroValue0
 t3:=Tryz.underlying3
 a3:=Tryz.isAgg3
 z3:=Tryz.sizeOf3
 v3:=Tryz.zeroValue3
 t4:=Tryz.underlying4
 a4:=Tryz.isAgg4
 z4:=Tryz.sizeOf4
 v4:=Tryz.zeroValue4
 t5:=Tryz.underlying5
 a5:=Tryz.isAgg5
 z5:=Tryz.sizeOf5
 v5:=Tryz.zeroValue5
 t9:=Tryz.underlying9
 a9:=Tryz.isAgg9
 z9:=Tryz.sizeOf9
 v9:=Tryz.zeroValue9
 t22:=Tryz.underlying33
 a22:=Tryz.isAgg33
 z22:=Tryz.sizeOf33
 v22:=Tryz.zeroValue33
 t25:=Tryz.underlying96
 a25:=Tryz.isAgg96
 z25:=Tryz.sizeOf96
 v25:=Tryz.zeroValue96
 t39:=Tryz.underlying61
 a39:=Tryz.isAgg61
 z39:=Tryz.sizeOf61
 v39:=Tryz.zeroValue61
 t45:=Tryz.underlying166
 a45:=Tryz.isAgg166
 z45:=Tryz.sizeOf166
 v45:=Tryz.zeroValue166
 t46:=Tryz.underlying167
 a46:=Tryz.isAgg167
 z46:=Tryz.sizeOf167
 v46:=Tryz.zeroValue167
 t50:=Tryz.underlying111
 a50:=Tryz.isAgg111
 z50:=Tryz.sizeOf111
 v50:=Tryz.zeroValue111
 t53:=Tryz.underlying60
 a53:=Tryz.isAgg60
 z53:=Tryz.sizeOf60
 v53:=Tryz.zeroValue60
 t55:=Tryz.underlying174
 a55:=Tryz.isAgg174
 z55:=Tryz.sizeOf174
 v55:=Tryz.zeroValue174
 t66:=Tryz.underlying191
 a66:=Tryz.isAgg191
 z66:=Tryz.sizeOf191
 v66:=Tryz.zeroValue191
 t70:=Tryz.underlying195
 a70:=Tryz.isAgg195
 z70:=Tryz.sizeOf195
 v70:=Tryz.zeroValue195
 t76:=Tryz.underlying213
 a76:=Tryz.isAgg213
 z76:=Tryz.sizeOf213
 v76:=Tryz.zeroValue213
 t77:=Tryz.underlying214
 a77:=Tryz.isAgg214
 z77:=Tryz.sizeOf214
 v77:=Tryz.zeroValue214 }
def Tryz.sort66_ren:Go.Shelf.Ren:=⟨fun | 6=>66 | 15=>72 | 14=>102 | 28=>120 | 29=>121 | 20=>137 | 21=>138 | 22=>139 | 23=>140 | 24=>141 | 25=>142 | 26=>143 | 27=>144 | 46=>158 | 47=>149 | 48=>150 | 49=>159 | 50=>160 | 57=>180 | n=>n,fun | 22=>79 | 24=>82 | 25=>119 | 3=>3 | 39=>61 | 0=>0 | 53=>60 | 55=>174 | 4=>4 | 46=>167 | 45=>166 | 50=>111 | 5=>5 | 9=>9 | 66=>191 | 70=>195 | 76=>213 | 77=>214 | n=>n,fun | n=>n⟩
theorem Tryz.sort66:Go.Proofs.SlLaysF0.n6 Tryz.prog Tryz.sort66_ren:={
 mixed:=by kernel_rfl
 f6:=⟨Tryz.f66.name,by decide,Tryz.func66.trans (congrArg some (by kernel_rfl))⟩
 f14:=⟨Tryz.f102.name,by decide,Tryz.func102.trans (congrArg some (by kernel_rfl))⟩
 f15:=Tryz.func72.trans (congrArg some (by kernel_rfl))
 f20:=⟨Tryz.f137.name,by decide,Tryz.func137.trans (congrArg some (by kernel_rfl))⟩
 f21:=⟨Tryz.f138.name,by decide,Tryz.func138.trans (congrArg some (by kernel_rfl))⟩
 f22:=⟨Tryz.f139.name,by decide,Tryz.func139.trans (congrArg some (by kernel_rfl))⟩
 f23:=⟨Tryz.f140.name,by decide,Tryz.func140.trans (congrArg some (by kernel_rfl))⟩
 f24:=⟨Tryz.f141.name,by decide,Tryz.func141.trans (congrArg some (by kernel_rfl))⟩
 f25:=⟨Tryz.f142.name,by decide,Tryz.func142.trans (congrArg some (by kernel_rfl))⟩
 f26:=⟨Tryz.f143.name,by decide,Tryz.func143.trans (congrArg some (by kernel_rfl))⟩
 f27:=⟨Tryz.f144.name,by decide,Tryz.func144.trans (congrArg some (by kernel_rfl))⟩
 f28:=Tryz.func120.trans (congrArg some (by kernel_rfl))
 f29:=Tryz.func121.trans (congrArg some (by kernel_rfl))
 f46:=⟨Tryz.f158.name,by decide,Tryz.func158.trans (congrArg some (by kernel_rfl))⟩
 f47:=Tryz.func149.trans (congrArg some (by kernel_rfl))
 f48:=Tryz.func150.trans (congrArg some (by kernel_rfl))
 f49:=⟨Tryz.f159.name,by decide,Tryz.func159.trans (congrArg some (by kernel_rfl))⟩
 f50:=⟨Tryz.f160.name,by decide,Tryz.func160.trans (congrArg some (by kernel_rfl))⟩
 f57:=⟨Tryz.f180.name,by decide,Tryz.func180.trans (congrArg some (by kernel_rfl))⟩
 t0:=Tryz.underlying0
 a0:=Tryz.isAgg0
 z0:=Tryz.sizeOf0
 v0:=Tryz.zeroValue0
 t3:=Tryz.underlying3
 a3:=Tryz.isAgg3
 z3:=Tryz.sizeOf3
 v3:=Tryz.zeroValue3
 t4:=Tryz.underlying4
 a4:=Tryz.isAgg4
 z4:=Tryz.sizeOf4
 v4:=Tryz.zeroValue4
 t5:=Tryz.underlying5
 a5:=Tryz.isAgg5
 z5:=Tryz.sizeOf5
 v5:=Tryz.zeroValue5
 t9:=Tryz.underlying9
 a9:=Tryz.isAgg9
 z9:=Tryz.sizeOf9
 v9:=Tryz.zeroValue9
 t22:=Tryz.underlying79
 a22:=Tryz.isAgg79
 z22:=Tryz.sizeOf79
 v22:=Tryz.zeroValue79
 t25:=Tryz.underlying119
 a25:=Tryz.isAgg119
 z25:=Tryz.sizeOf119
 v25:=Tryz.zeroValue119
 t39:=Tryz.underlying61
 a39:=Tryz.isAgg61
 z39:=Tryz.sizeOf61
 v39:=Tryz.zeroValue61
 t45:=Tryz.underlying166
 a45:=Tryz.isAgg166
 z45:=Tryz.sizeOf166
 v45:=Tryz.zeroValue166
 t46:=Tryz.underlying167
 a46:=Tryz.isAgg167
 z46:=Tryz.sizeOf167
 v46:=Tryz.zeroValue167
 t50:=Tryz.underlying111
 a50:=Tryz.isAgg111
 z50:=Tryz.sizeOf111
 v50:=Tryz.zeroValue111
 t53:=Tryz.underlying60
 a53:=Tryz.isAgg60
 z53:=Tryz.sizeOf60
 v53:=Tryz.zeroValue60
 t55:=Tryz.underlying174
 a55:=Tryz.isAgg174
 z55:=Tryz.sizeOf174
 v55:=Tryz.zeroValue174
 t66:=Tryz.underlying191
 a66:=Tryz.isAgg191
 z66:=Tryz.sizeOf191
 v66:=Tryz.zeroValue191
 t70:=Tryz.underlying195
 a70:=Tryz.isAgg195
 z70:=Tryz.sizeOf195
 v70:=Tryz.zeroValue195
 t76:=Tryz.underlying213
 a76:=Tryz.isAgg213
 z76:=Tryz.sizeOf213
 v76:=Tryz.zeroValue213
 t77:=Tryz.underlying214
 a77:=Tryz.isAgg214
 z77:=Tryz.sizeOf214
 v77:=Tryz.zeroValue214 }
def Tryz.sort104_ren:Go.Shelf.Ren:=⟨fun | 6=>104 | 15=>72 | 14=>145 | 28=>120 | 29=>121 | 20=>161 | 21=>162 | 22=>163 | 23=>164 | 24=>165 | 25=>166 | 26=>167 | 27=>168 | 46=>181 | 47=>149 | 48=>150 | 49=>182 | 50=>183 | 57=>188 | n=>n,fun | 22=>151 | 24=>156 | 25=>159 | 3=>3 | 39=>61 | 0=>0 | 53=>60 | 55=>174 | 4=>4 | 46=>167 | 45=>166 | 50=>111 | 5=>5 | 9=>9 | 66=>191 | 70=>195 | 76=>213 | 77=>214 | n=>n,fun | n=>n⟩
theorem Tryz.sort104:Go.Proofs.SlLaysF0.n6 Tryz.prog Tryz.sort104_ren:={
 mixed:=by kernel_rfl
 f6:=⟨Tryz.f104.name,by decide,Tryz.func104.trans (congrArg some (by kernel_rfl))⟩
 f14:=⟨Tryz.f145.name,by decide,Tryz.func145.trans (congrArg some (by kernel_rfl))⟩
 f15:=Tryz.func72.trans (congrArg some (by kernel_rfl))
 f20:=⟨Tryz.f161.name,by decide,Tryz.func161.trans (congrArg some (by kernel_rfl))⟩
 f21:=⟨Tryz.f162.name,by decide,Tryz.func162.trans (congrArg some (by kernel_rfl))⟩
 f22:=⟨Tryz.f163.name,by decide,Tryz.func163.trans (congrArg some (by kernel_rfl))⟩
 f23:=⟨Tryz.f164.name,by decide,Tryz.func164.trans (congrArg some (by kernel_rfl))⟩
 f24:=⟨Tryz.f165.name,by decide,Tryz.func165.trans (congrArg some (by kernel_rfl))⟩
 f25:=⟨Tryz.f166.name,by decide,Tryz.func166.trans (congrArg some (by kernel_rfl))⟩
 f26:=⟨Tryz.f167.name,by decide,Tryz.func167.trans (congrArg some (by kernel_rfl))⟩
 f27:=⟨Tryz.f168.name,by decide,Tryz.func168.trans (congrArg some (by kernel_rfl))⟩
 f28:=Tryz.func120.trans (congrArg some (by kernel_rfl))
 f29:=Tryz.func121.trans (congrArg some (by kernel_rfl))
 f46:=⟨Tryz.f181.name,by decide,Tryz.func181.trans (congrArg some (by kernel_rfl))⟩
 f47:=Tryz.func149.trans (congrArg some (by kernel_rfl))
 f48:=Tryz.func150.trans (congrArg some (by kernel_rfl))
 f49:=⟨Tryz.f182.name,by decide,Tryz.func182.trans (congrArg some (by kernel_rfl))⟩
 f50:=⟨Tryz.f183.name,by decide,Tryz.func183.trans (congrArg some (by kernel_rfl))⟩
 f57:=⟨Tryz.f188.name,by decide,Tryz.func188.trans (congrArg some (by kernel_rfl))⟩
 t0:=Tryz.underlying0
 a0:=Tryz.isAgg0
 z0:=Tryz.sizeOf0
 v0:=Tryz.zeroValue0
 t3:=Tryz.underlying3
 a3:=Tryz.isAgg3
 z3:=Tryz.sizeOf3
 v3:=Tryz.zeroValue3
 t4:=Tryz.underlying4
 a4:=Tryz.isAgg4
 z4:=Tryz.sizeOf4
 v4:=Tryz.zeroValue4
 t5:=Tryz.underlying5
 a5:=Tryz.isAgg5
 z5:=Tryz.sizeOf5
 v5:=Tryz.zeroValue5
 t9:=Tryz.underlying9
 a9:=Tryz.isAgg9
 z9:=Tryz.sizeOf9
 v9:=Tryz.zeroValue9
 t22:=Tryz.underlying151
 a22:=Tryz.isAgg151
 z22:=Tryz.sizeOf151
 v22:=Tryz.zeroValue151
 t25:=Tryz.underlying159
 a25:=Tryz.isAgg159
 z25:=Tryz.sizeOf159
 v25:=Tryz.zeroValue159
 t39:=Tryz.underlying61
 a39:=Tryz.isAgg61
 z39:=Tryz.sizeOf61
 v39:=Tryz.zeroValue61
 t45:=Tryz.underlying166
 a45:=Tryz.isAgg166
 z45:=Tryz.sizeOf166
 v45:=Tryz.zeroValue166
 t46:=Tryz.underlying167
 a46:=Tryz.isAgg167
 z46:=Tryz.sizeOf167
 v46:=Tryz.zeroValue167
 t50:=Tryz.underlying111
 a50:=Tryz.isAgg111
 z50:=Tryz.sizeOf111
 v50:=Tryz.zeroValue111
 t53:=Tryz.underlying60
 a53:=Tryz.isAgg60
 z53:=Tryz.sizeOf60
 v53:=Tryz.zeroValue60
 t55:=Tryz.underlying174
 a55:=Tryz.isAgg174
 z55:=Tryz.sizeOf174
 v55:=Tryz.zeroValue174
 t66:=Tryz.underlying191
 a66:=Tryz.isAgg191
 z66:=Tryz.sizeOf191
 v66:=Tryz.zeroValue191
 t70:=Tryz.underlying195
 a70:=Tryz.isAgg195
 z70:=Tryz.sizeOf195
 v70:=Tryz.zeroValue195
 t76:=Tryz.underlying213
 a76:=Tryz.isAgg213
 z76:=Tryz.sizeOf213
 v76:=Tryz.zeroValue213
 t77:=Tryz.underlying214
 a77:=Tryz.isAgg214
 z77:=Tryz.sizeOf214
 v77:=Tryz.zeroValue214 }
def Tryz.sort110_ren:Go.Shelf.Ren:=⟨fun | 6=>110 | 15=>72 | 14=>147 | 28=>120 | 29=>121 | 20=>169 | 21=>170 | 22=>171 | 23=>172 | 24=>173 | 25=>174 | 26=>175 | 27=>176 | 46=>184 | 47=>149 | 48=>150 | 49=>185 | 50=>186 | 57=>189 | n=>n,fun | 22=>121 | 24=>125 | 25=>164 | 3=>3 | 39=>61 | 0=>0 | 53=>60 | 55=>174 | 4=>4 | 46=>167 | 45=>166 | 50=>111 | 5=>5 | 9=>9 | 66=>191 | 70=>195 | 76=>213 | 77=>214 | n=>n,fun | n=>n⟩
theorem Tryz.sort110:Go.Proofs.SlLaysF0.n6 Tryz.prog Tryz.sort110_ren:={
 mixed:=by kernel_rfl
 f6:=⟨Tryz.f110.name,by decide,Tryz.func110.trans (congrArg some (by kernel_rfl))⟩
 f14:=⟨Tryz.f147.name,by decide,Tryz.func147.trans (congrArg some (by kernel_rfl))⟩
 f15:=Tryz.func72.trans (congrArg some (by kernel_rfl))
 f20:=⟨Tryz.f169.name,by decide,Tryz.func169.trans (congrArg some (by kernel_rfl))⟩
 f21:=⟨Tryz.f170.name,by decide,Tryz.func170.trans (congrArg some (by kernel_rfl))⟩
 f22:=⟨Tryz.f171.name,by decide,Tryz.func171.trans (congrArg some (by kernel_rfl))⟩
 f23:=⟨Tryz.f172.name,by decide,Tryz.func172.trans (congrArg some (by kernel_rfl))⟩
 f24:=⟨Tryz.f173.name,by decide,Tryz.func173.trans (congrArg some (by kernel_rfl))⟩
 f25:=⟨Tryz.f174.name,by decide,Tryz.func174.trans (congrArg some (by kernel_rfl))⟩
 f26:=⟨Tryz.f175.name,by decide,Tryz.func175.trans (congrArg some (by kernel_rfl))⟩
 f27:=⟨Tryz.f176.name,by decide,Tryz.func176.trans (congrArg some (by kernel_rfl))⟩
 f28:=Tryz.func120.trans (congrArg some (by kernel_rfl))
 f29:=Tryz.func121.trans (congrArg some (by kernel_rfl))
 f46:=⟨Tryz.f184.name,by decide,Tryz.func184.trans (congrArg some (by kernel_rfl))⟩
 f47:=Tryz.func149.trans (congrArg some (by kernel_rfl))
 f48:=Tryz.func150.trans (congrArg some (by kernel_rfl))
 f49:=⟨Tryz.f185.name,by decide,Tryz.func185.trans (congrArg some (by kernel_rfl))⟩
 f50:=⟨Tryz.f186.name,by decide,Tryz.func186.trans (congrArg some (by kernel_rfl))⟩
 f57:=⟨Tryz.f189.name,by decide,Tryz.func189.trans (congrArg some (by kernel_rfl))⟩
 t0:=Tryz.underlying0
 a0:=Tryz.isAgg0
 z0:=Tryz.sizeOf0
 v0:=Tryz.zeroValue0
 t3:=Tryz.underlying3
 a3:=Tryz.isAgg3
 z3:=Tryz.sizeOf3
 v3:=Tryz.zeroValue3
 t4:=Tryz.underlying4
 a4:=Tryz.isAgg4
 z4:=Tryz.sizeOf4
 v4:=Tryz.zeroValue4
 t5:=Tryz.underlying5
 a5:=Tryz.isAgg5
 z5:=Tryz.sizeOf5
 v5:=Tryz.zeroValue5
 t9:=Tryz.underlying9
 a9:=Tryz.isAgg9
 z9:=Tryz.sizeOf9
 v9:=Tryz.zeroValue9
 t22:=Tryz.underlying121
 a22:=Tryz.isAgg121
 z22:=Tryz.sizeOf121
 v22:=Tryz.zeroValue121
 t25:=Tryz.underlying164
 a25:=Tryz.isAgg164
 z25:=Tryz.sizeOf164
 v25:=Tryz.zeroValue164
 t39:=Tryz.underlying61
 a39:=Tryz.isAgg61
 z39:=Tryz.sizeOf61
 v39:=Tryz.zeroValue61
 t45:=Tryz.underlying166
 a45:=Tryz.isAgg166
 z45:=Tryz.sizeOf166
 v45:=Tryz.zeroValue166
 t46:=Tryz.underlying167
 a46:=Tryz.isAgg167
 z46:=Tryz.sizeOf167
 v46:=Tryz.zeroValue167
 t50:=Tryz.underlying111
 a50:=Tryz.isAgg111
 z50:=Tryz.sizeOf111
 v50:=Tryz.zeroValue111
 t53:=Tryz.underlying60
 a53:=Tryz.isAgg60
 z53:=Tryz.sizeOf60
 v53:=Tryz.zeroValue60
 t55:=Tryz.underlying174
 a55:=Tryz.isAgg174
 z55:=Tryz.sizeOf174
 v55:=Tryz.zeroValue174
 t66:=Tryz.underlying191
 a66:=Tryz.isAgg191
 z66:=Tryz.sizeOf191
 v66:=Tryz.zeroValue191
 t70:=Tryz.underlying195
 a70:=Tryz.isAgg195
 z70:=Tryz.sizeOf195
 v70:=Tryz.zeroValue195
 t76:=Tryz.underlying213
 a76:=Tryz.isAgg213
 z76:=Tryz.sizeOf213
 v76:=Tryz.zeroValue213
 t77:=Tryz.underlying214
 a77:=Tryz.isAgg214
 z77:=Tryz.sizeOf214
 v77:=Tryz.zeroValue214 }
end Go.Proofs
end
section
set_option linter.unusedVariables false
set_option linter.unusedSimpArgs false
set_option maxRecDepth 100000
namespace Go.Gp.Gb
open Go.Proofs
theorem qc:Sub kMap 0 (kSlice kObject) (fun x=>x.Objects) (fun x y=>({ x with Objects:=y }:Map)):=(Sub.iso (Sub.wrap (Sub.self _)) (fun _=>rfl) (fun _ _=>rfl))
theorem Vx:Sub kPoint 0 (kInt .i64) (fun x=>x.X) (fun x y=>({ x with X:=y }:Point)):=(Sub.iso (Sub.fst (Sub.self _)) (fun _=>rfl) (fun _ _=>rfl))
theorem qn:Sub kPoint 1 (kInt .i64) (fun x=>x.Y) (fun x y=>({ x with Y:=y }:Point)):=(Sub.iso (Sub.snd (Sub.self _)) (fun _=>rfl) (fun _ _=>rfl))
theorem Jf:Sub kSegment 0 kPoint (fun x=>x.A) (fun x y=>({ x with A:=y }:Segment)):=(Sub.iso (Sub.fst (Sub.self _)) (fun _=>rfl) (fun _ _=>rfl))
theorem ym:Sub kSegment 0 (kInt .i64) (fun x=>x.A.X) (fun x y=>({ x with A:=({ x.A with X:=y }:Point) }:Segment)):=Sub.trans Jf Vx
theorem sub_Segment_0_1:Sub kSegment 1 (kInt .i64) (fun x=>x.A.Y) (fun x y=>({ x with A:=({ x.A with Y:=y }:Point) }:Segment)):=Sub.trans Jf qn
theorem Jg:Sub kSegment 2 kPoint (fun x=>x.B) (fun x y=>({ x with B:=y }:Segment)):=(Sub.iso (Sub.snd (Sub.self _)) (fun _=>rfl) (fun _ _=>rfl))
theorem yl:Sub kSegment 2 (kInt .i64) (fun x=>x.B.X) (fun x y=>({ x with B:=({ x.B with X:=y }:Point) }:Segment)):=Sub.trans Jg Vx
theorem sub_Segment_1_1:Sub kSegment 3 (kInt .i64) (fun x=>x.B.Y) (fun x y=>({ x with B:=({ x.B with Y:=y }:Point) }:Segment)):=Sub.trans Jg qn
theorem sub_Violation_1:Sub kViolation 1 (kInt .i64) (fun x=>x.Kind) (fun x y=>({ x with Kind:=y }:Violation)):=(Sub.iso (Sub.snd (Sub.fst (Sub.self _))) (fun _=>rfl) (fun _ _=>rfl))
theorem ja0:Sub kViolation 2 (kSlice kStr) (fun x=>x.Ids) (fun x y=>({ x with Ids:=y }:Violation)):=(Sub.iso (Sub.snd (Sub.snd (Sub.self _))) (fun _=>rfl) (fun _ _=>rfl))
theorem wr:Sub Vk 0 kStr (fun x=>x.A) (fun x y=>({ x with A:=y }:Jr)):=(Sub.iso (Sub.fst (Sub.self _)) (fun _=>rfl) (fun _ _=>rfl))
theorem yg:Sub Vk 1 kStr (fun x=>x.B) (fun x y=>({ x with B:=y }:Jr)):=(Sub.iso (Sub.snd (Sub.fst (Sub.self _))) (fun _=>rfl) (fun _ _=>rfl))
theorem yr:Sub Vk 2 kPoint (fun x=>x.P) (fun x y=>({ x with P:=y }:Jr)):=(Sub.iso (Sub.snd (Sub.snd (Sub.fst (Sub.self _)))) (fun _=>rfl) (fun _ _=>rfl))
theorem yt:Sub Vk 4 kPoint (fun x=>x.Q) (fun x y=>({ x with Q:=y }:Jr)):=(Sub.iso (Sub.snd (Sub.snd (Sub.snd (Sub.fst (Sub.self _))))) (fun _=>rfl) (fun _ _=>rfl))
theorem zl:Sub Vk 6 (kSlice kStr) (fun x=>x.Owners) (fun x y=>({ x with Owners:=y }:Jr)):=(Sub.iso (Sub.snd (Sub.snd (Sub.snd (Sub.snd (Sub.self _))))) (fun _=>rfl) (fun _ _=>rfl))
theorem yp:Sub (kPair kStr kStr) 0 kStr (fun x=>x.1) (fun x y=>(y,x.2)):=(Sub.fst (Sub.self _))
theorem yw:Sub (kPair kStr kStr) 1 kStr (fun x=>x.2) (fun x y=>(x.1,y)):=(Sub.snd (Sub.self _))
theorem qm:Sub kObject 0 kStr (fun x=>x.Id) (fun x y=>({ x with Id:=y }:Object)):=(Sub.iso (Sub.fst (Sub.self _)) (fun _=>rfl) (fun _ _=>rfl))
theorem qa:Sub kObject 1 (kInt .i64) (fun x=>x.Kind) (fun x y=>({ x with Kind:=y }:Object)):=(Sub.iso (Sub.snd (Sub.fst (Sub.self _))) (fun _=>rfl) (fun _ _=>rfl))
theorem wm:Sub kObject 2 kPoint (fun x=>x.At) (fun x y=>({ x with At:=y }:Object)):=(Sub.iso (Sub.snd (Sub.snd (Sub.fst (Sub.self _)))) (fun _=>rfl) (fun _ _=>rfl))
theorem Vl:Sub kObject 4 (kSlice kStr) (fun x=>x.Refs) (fun x y=>({ x with Refs:=y }:Object)):=(Sub.iso (Sub.snd (Sub.snd (Sub.snd (Sub.fst (Sub.self _))))) (fun _=>rfl) (fun _ _=>rfl))
theorem zw:Sub kObject 5 (kSlice kTag) (fun x=>x.Tags) (fun x y=>({ x with Tags:=y }:Object)):=(Sub.iso (Sub.snd (Sub.snd (Sub.snd (Sub.snd (Sub.self _))))) (fun _=>rfl) (fun _ _=>rfl))
theorem sub_Tag_0:Sub kTag 0 kStr (fun x=>x.Key) (fun x y=>({ x with Key:=y }:Tag)):=(Sub.iso (Sub.fst (Sub.self _)) (fun _=>rfl) (fun _ _=>rfl))
theorem sub_Tag_1:Sub kTag 1 kStr (fun x=>x.Value) (fun x y=>({ x with Value:=y }:Tag)):=(Sub.iso (Sub.snd (Sub.self _)) (fun _=>rfl) (fun _ _=>rfl))
theorem sub_border_parcel_0:Sub Jy 0 kMap (fun x=>x.m) (fun x y=>({ x with m:=y }:Va)):=(Sub.iso (Sub.fst (Sub.self _)) (fun _=>rfl) (fun _ _=>rfl))
theorem sub_border_parcel_0_0:Sub Jy 0 (kSlice kObject) (fun x=>x.m.Objects) (fun x y=>({ x with m:=({ x.m with Objects:=y }:Map) }:Va)):=Sub.trans sub_border_parcel_0 qc
theorem sub_border_parcel_1:Sub Jy 1 (kMp kStr (kInt .i64)) (fun x=>x.at_) (fun x y=>({ x with at_:=y }:Va)):=(Sub.iso (Sub.snd (Sub.self _)) (fun _=>rfl) (fun _ _=>rfl))
theorem wj:Sub Ju 0 (kPair kStr kStr) (fun x=>x.nodes) (fun x y=>({ x with nodes:=y }:Jv)):=(Sub.iso (Sub.fst (Sub.self _)) (fun _=>rfl) (fun _ _=>rfl))
theorem zh:Sub Ju 0 kStr (fun x=>x.nodes.1) (fun x y=>({ x with nodes:=(y,x.nodes.2) }:Jv)):=Sub.trans wj yp
theorem ze:Sub Ju 1 kStr (fun x=>x.nodes.2) (fun x y=>({ x with nodes:=(x.nodes.1,y) }:Jv)):=Sub.trans wj yw
theorem zq:Sub Ju 2 (kSlice kStr) (fun x=>x.owners) (fun x y=>({ x with owners:=y }:Jv)):=(Sub.iso (Sub.snd (Sub.self _)) (fun _=>rfl) (fun _ _=>rfl))
theorem sub_a92_0:Sub (kPair (kInt .i64) (kInt .i64)) 0 (kInt .i64) (fun x=>x.1) (fun x y=>(y,x.2)):=(Sub.fst (Sub.self _))
theorem sub_a92_1:Sub (kPair (kInt .i64) (kInt .i64)) 1 (kInt .i64) (fun x=>x.2) (fun x y=>(x.1,y)):=(Sub.snd (Sub.self _))
theorem sub_Meet_0:Sub kMeet 0 (kInt .i64) (fun x=>x.A) (fun x y=>({ x with A:=y }:Meet)):=(Sub.iso (Sub.fst (Sub.self _)) (fun _=>rfl) (fun _ _=>rfl))
theorem sub_Meet_1:Sub kMeet 1 (kInt .i64) (fun x=>x.B) (fun x y=>({ x with B:=y }:Meet)):=(Sub.iso (Sub.snd (Sub.fst (Sub.self _))) (fun _=>rfl) (fun _ _=>rfl))
theorem sub_Meet_2:Sub kMeet 2 (kInt .i64) (fun x=>x.Kind) (fun x y=>({ x with Kind:=y }:Meet)):=(Sub.iso (Sub.snd (Sub.snd (Sub.self _))) (fun _=>rfl) (fun _ _=>rfl))
theorem jb9:Sub wn 0 (kInt .i64) (fun x=>x.x) (fun x y=>({ x with x:=y }:ws)):=(Sub.iso (Sub.fst (Sub.self _)) (fun _=>rfl) (fun _ _=>rfl))
theorem jb4:Sub wn 1 (kInt .i64) (fun x=>x.y) (fun x y=>({ x with y:=y }:ws)):=(Sub.iso (Sub.snd (Sub.self _)) (fun _=>rfl) (fun _ _=>rfl))
theorem wu:Sub Vz 0 (kInt .i64) (fun x=>x.low) (fun x y=>({ x with low:=y }:Vt)):=(Sub.iso (Sub.fst (Sub.self _)) (fun _=>rfl) (fun _ _=>rfl))
theorem yn:Sub Vz 1 (kInt .i64) (fun x=>x.high) (fun x y=>({ x with high:=y }:Vt)):=(Sub.iso (Sub.snd (Sub.self _)) (fun _=>rfl) (fun _ _=>rfl))
theorem yf:Sub Vc 0 (kInt .i64) (fun x=>x.index) (fun x y=>({ x with index:=y }:Jw)):=(Sub.iso (Sub.fst (Sub.self _)) (fun _=>rfl) (fun _ _=>rfl))
theorem sub_sweep_item_1:Sub Vc 1 kSegment (fun x=>x.s) (fun x y=>({ x with s:=y }:Jw)):=(Sub.iso (Sub.snd (Sub.fst (Sub.self _))) (fun _=>rfl) (fun _ _=>rfl))
theorem zx:Sub Vc 5 Vz (fun x=>x.x) (fun x y=>({ x with x:=y }:Jw)):=(Sub.iso (Sub.snd (Sub.snd (Sub.fst (Sub.self _)))) (fun _=>rfl) (fun _ _=>rfl))
theorem sub_sweep_item_2_0:Sub Vc 5 (kInt .i64) (fun x=>x.x.low) (fun x y=>({ x with x:=({ x.x with low:=y }:Vt) }:Jw)):=Sub.trans zx wu
theorem sub_sweep_item_2_1:Sub Vc 6 (kInt .i64) (fun x=>x.x.high) (fun x y=>({ x with x:=({ x.x with high:=y }:Vt) }:Jw)):=Sub.trans zx yn
theorem sub_sweep_item_3:Sub Vc 7 Vz (fun x=>x.y) (fun x y=>({ x with y:=y }:Jw)):=(Sub.iso (Sub.snd (Sub.snd (Sub.snd (Sub.self _)))) (fun _=>rfl) (fun _ _=>rfl))
theorem sub_a175_1:Sub (kPair kStr (kPair kStr (kPair kStr (kPair kStr (kPair kStr kStr))))) 1 kStr (fun x=>x.2.1) (fun x y=>(x.1,y,x.2.2.1,x.2.2.2.1,x.2.2.2.2.1,x.2.2.2.2.2)):=(Sub.snd (Sub.fst (Sub.self _)))
theorem sub_a175_2:Sub (kPair kStr (kPair kStr (kPair kStr (kPair kStr (kPair kStr kStr))))) 2 kStr (fun x=>x.2.2.1) (fun x y=>(x.1,x.2.1,y,x.2.2.2.1,x.2.2.2.2.1,x.2.2.2.2.2)):=(Sub.snd (Sub.snd (Sub.fst (Sub.self _))))
theorem sub_a175_3:Sub (kPair kStr (kPair kStr (kPair kStr (kPair kStr (kPair kStr kStr))))) 3 kStr (fun x=>x.2.2.2.1) (fun x y=>(x.1,x.2.1,x.2.2.1,y,x.2.2.2.2.1,x.2.2.2.2.2)):=(Sub.snd (Sub.snd (Sub.snd (Sub.fst (Sub.self _)))))
theorem sub_a175_4:Sub (kPair kStr (kPair kStr (kPair kStr (kPair kStr (kPair kStr kStr))))) 4 kStr (fun x=>x.2.2.2.2.1) (fun x y=>(x.1,x.2.1,x.2.2.1,x.2.2.2.1,y,x.2.2.2.2.2)):=(Sub.snd (Sub.snd (Sub.snd (Sub.snd (Sub.fst (Sub.self _))))))
theorem sub_a175_5:Sub (kPair kStr (kPair kStr (kPair kStr (kPair kStr (kPair kStr kStr))))) 5 kStr (fun x=>x.2.2.2.2.2) (fun x y=>(x.1,x.2.1,x.2.2.1,x.2.2.2.1,x.2.2.2.2.1,y)):=(Sub.snd (Sub.snd (Sub.snd (Sub.snd (Sub.snd (Sub.self _))))))
theorem sub_a178_1:Sub (kPair (kInt .i64) (kPair (kInt .i64) (kPair (kInt .i64) (kPair (kInt .i64) (kPair (kInt .i64) (kInt .i64)))))) 1 (kInt .i64) (fun x=>x.2.1) (fun x y=>(x.1,y,x.2.2.1,x.2.2.2.1,x.2.2.2.2.1,x.2.2.2.2.2)):=(Sub.snd (Sub.fst (Sub.self _)))
theorem sub_a178_2:Sub (kPair (kInt .i64) (kPair (kInt .i64) (kPair (kInt .i64) (kPair (kInt .i64) (kPair (kInt .i64) (kInt .i64)))))) 2 (kInt .i64) (fun x=>x.2.2.1) (fun x y=>(x.1,x.2.1,y,x.2.2.2.1,x.2.2.2.2.1,x.2.2.2.2.2)):=(Sub.snd (Sub.snd (Sub.fst (Sub.self _))))
theorem sub_a178_3:Sub (kPair (kInt .i64) (kPair (kInt .i64) (kPair (kInt .i64) (kPair (kInt .i64) (kPair (kInt .i64) (kInt .i64)))))) 3 (kInt .i64) (fun x=>x.2.2.2.1) (fun x y=>(x.1,x.2.1,x.2.2.1,y,x.2.2.2.2.1,x.2.2.2.2.2)):=(Sub.snd (Sub.snd (Sub.snd (Sub.fst (Sub.self _)))))
theorem sub_a178_4:Sub (kPair (kInt .i64) (kPair (kInt .i64) (kPair (kInt .i64) (kPair (kInt .i64) (kPair (kInt .i64) (kInt .i64)))))) 4 (kInt .i64) (fun x=>x.2.2.2.2.1) (fun x y=>(x.1,x.2.1,x.2.2.1,x.2.2.2.1,y,x.2.2.2.2.2)):=(Sub.snd (Sub.snd (Sub.snd (Sub.snd (Sub.fst (Sub.self _))))))
theorem sub_a178_5:Sub (kPair (kInt .i64) (kPair (kInt .i64) (kPair (kInt .i64) (kPair (kInt .i64) (kPair (kInt .i64) (kInt .i64)))))) 5 (kInt .i64) (fun x=>x.2.2.2.2.2) (fun x y=>(x.1,x.2.1,x.2.2.1,x.2.2.2.1,x.2.2.2.2.1,y)):=(Sub.snd (Sub.snd (Sub.snd (Sub.snd (Sub.snd (Sub.self _))))))
theorem ty_3:Ty Tryz.prog 3 (kInt .i64):=⟨fun _=>by kernel_rfl,fun _=>by kernel_rfl⟩
theorem ty_5:Ty Tryz.prog 5 (kInt .u8):=⟨fun _=>by kernel_rfl,fun _=>by kernel_rfl⟩
theorem ty_9:Ty Tryz.prog 9 kStr:=⟨fun _=>by kernel_rfl,fun _=>by kernel_rfl⟩
theorem ty_22:Ty Tryz.prog 22 (kSlice kObject):=⟨fun _=>by kernel_rfl,fun _=>by kernel_rfl⟩
theorem ty_24:Ty Tryz.prog 24 kMap:=⟨fun _=>by kernel_rfl,fun _=>by kernel_rfl⟩
theorem ty_37:Ty Tryz.prog 37 kPoint:=⟨fun _=>by kernel_rfl,fun _=>by kernel_rfl⟩
theorem ty_39:Ty Tryz.prog 39 kSegment:=⟨fun _=>by kernel_rfl,fun _=>by kernel_rfl⟩
theorem ty_41:Ty Tryz.prog 41 (kSlice kStr):=⟨fun _=>by kernel_rfl,fun _=>by kernel_rfl⟩
theorem ty_43:Ty Tryz.prog 43 kViolation:=⟨fun _=>by kernel_rfl,fun _=>by kernel_rfl⟩
theorem ty_49:Ty Tryz.prog 49 Vk:=⟨fun _=>by kernel_rfl,fun _=>by kernel_rfl⟩
theorem ty_50:Ty Tryz.prog 50 (kPair kStr kStr):=⟨fun _=>by kernel_rfl,fun _=>by kernel_rfl⟩
theorem ty_57:Ty Tryz.prog 57 (kSlice kTag):=⟨fun _=>by kernel_rfl,fun _=>by kernel_rfl⟩
theorem ty_59:Ty Tryz.prog 59 kObject:=⟨fun _=>by kernel_rfl,fun _=>by kernel_rfl⟩
theorem ty_73:Ty Tryz.prog 73 kTag:=⟨fun _=>by kernel_rfl,fun _=>by kernel_rfl⟩
theorem ty_74:Ty Tryz.prog 74 (kMp kStr (kInt .i64)):=⟨fun _=>by kernel_rfl,fun _=>by kernel_rfl⟩
theorem ty_76:Ty Tryz.prog 76 Jy:=⟨fun _=>by kernel_rfl,fun _=>by kernel_rfl⟩
theorem ty_82:Ty Tryz.prog 82 Ju:=⟨fun _=>by kernel_rfl,fun _=>by kernel_rfl⟩
theorem ty_92:Ty Tryz.prog 92 (kPair (kInt .i64) (kInt .i64)):=⟨fun _=>by kernel_rfl,fun _=>by kernel_rfl⟩
theorem ty_125:Ty Tryz.prog 125 kMeet:=⟨fun _=>by kernel_rfl,fun _=>by kernel_rfl⟩
theorem ty_141:Ty Tryz.prog 141 wn:=⟨fun _=>by kernel_rfl,fun _=>by kernel_rfl⟩
theorem ty_153:Ty Tryz.prog 153 Vz:=⟨fun _=>by kernel_rfl,fun _=>by kernel_rfl⟩
theorem ty_156:Ty Tryz.prog 156 Vc:=⟨fun _=>by kernel_rfl,fun _=>by kernel_rfl⟩
theorem ty_175:Ty Tryz.prog 175 (kPair kStr (kPair kStr (kPair kStr (kPair kStr (kPair kStr kStr))))):=⟨fun _=>by kernel_rfl,fun _=>by kernel_rfl⟩
theorem ty_176:Ty Tryz.prog 176 (kArr 256 (kInt .u8)):=⟨fun _=>by kernel_rfl,fun _=>by kernel_rfl⟩
theorem subv_175 {i:Int} (h:0≤i∧i<(6:Int)):Sub (kPair kStr (kPair kStr (kPair kStr (kPair kStr (kPair kStr kStr))))) (i.toNat*1) kStr (fun x=>aget_175 x i) (fun x y=>aset_175 x i y):=by
 have:i=0∨i=1∨i=2∨i=3∨i=4∨i=5:=by omega
 rcases this with rfl | rfl | rfl | rfl | rfl | rfl
 ·exact ((Sub.fst (Sub.self _)):Sub (kPair kStr (kPair kStr (kPair kStr (kPair kStr (kPair kStr kStr))))) 0 kStr (fun x=>x.1) (fun x y=>(y,x.2.1,x.2.2.1,x.2.2.2.1,x.2.2.2.2.1,x.2.2.2.2.2)))
 ·exact ((Sub.snd (Sub.fst (Sub.self _))):Sub (kPair kStr (kPair kStr (kPair kStr (kPair kStr (kPair kStr kStr))))) 1 kStr (fun x=>x.2.1) (fun x y=>(x.1,y,x.2.2.1,x.2.2.2.1,x.2.2.2.2.1,x.2.2.2.2.2)))
 ·exact ((Sub.snd (Sub.snd (Sub.fst (Sub.self _)))):Sub (kPair kStr (kPair kStr (kPair kStr (kPair kStr (kPair kStr kStr))))) 2 kStr (fun x=>x.2.2.1) (fun x y=>(x.1,x.2.1,y,x.2.2.2.1,x.2.2.2.2.1,x.2.2.2.2.2)))
 ·exact ((Sub.snd (Sub.snd (Sub.snd (Sub.fst (Sub.self _))))):Sub (kPair kStr (kPair kStr (kPair kStr (kPair kStr (kPair kStr kStr))))) 3 kStr (fun x=>x.2.2.2.1) (fun x y=>(x.1,x.2.1,x.2.2.1,y,x.2.2.2.2.1,x.2.2.2.2.2)))
 ·exact ((Sub.snd (Sub.snd (Sub.snd (Sub.snd (Sub.fst (Sub.self _)))))):Sub (kPair kStr (kPair kStr (kPair kStr (kPair kStr (kPair kStr kStr))))) 4 kStr (fun x=>x.2.2.2.2.1) (fun x y=>(x.1,x.2.1,x.2.2.1,x.2.2.2.1,y,x.2.2.2.2.2)))
 ·exact ((Sub.snd (Sub.snd (Sub.snd (Sub.snd (Sub.snd (Sub.self _)))))):Sub (kPair kStr (kPair kStr (kPair kStr (kPair kStr (kPair kStr kStr))))) 5 kStr (fun x=>x.2.2.2.2.2) (fun x y=>(x.1,x.2.1,x.2.2.1,x.2.2.2.1,x.2.2.2.2.1,y)))
theorem subv_176 {i:Int} (h:0≤i∧i<(256:Int)):Sub (kArr 256 (kInt .u8)) (i.toNat*1) (kInt .u8) (fun x=>zr x i) (fun x y=>yi x i y):=subA (0:Int) h
theorem subv_178 {i:Int} (h:0≤i∧i<(6:Int)):Sub (kPair (kInt .i64) (kPair (kInt .i64) (kPair (kInt .i64) (kPair (kInt .i64) (kPair (kInt .i64) (kInt .i64)))))) (i.toNat*1) (kInt .i64) (fun x=>aget_178 x i) (fun x y=>aset_178 x i y):=by
 have:i=0∨i=1∨i=2∨i=3∨i=4∨i=5:=by omega
 rcases this with rfl | rfl | rfl | rfl | rfl | rfl
 ·exact ((Sub.fst (Sub.self _)):Sub (kPair (kInt .i64) (kPair (kInt .i64) (kPair (kInt .i64) (kPair (kInt .i64) (kPair (kInt .i64) (kInt .i64)))))) 0 (kInt .i64) (fun x=>x.1) (fun x y=>(y,x.2.1,x.2.2.1,x.2.2.2.1,x.2.2.2.2.1,x.2.2.2.2.2)))
 ·exact ((Sub.snd (Sub.fst (Sub.self _))):Sub (kPair (kInt .i64) (kPair (kInt .i64) (kPair (kInt .i64) (kPair (kInt .i64) (kPair (kInt .i64) (kInt .i64)))))) 1 (kInt .i64) (fun x=>x.2.1) (fun x y=>(x.1,y,x.2.2.1,x.2.2.2.1,x.2.2.2.2.1,x.2.2.2.2.2)))
 ·exact ((Sub.snd (Sub.snd (Sub.fst (Sub.self _)))):Sub (kPair (kInt .i64) (kPair (kInt .i64) (kPair (kInt .i64) (kPair (kInt .i64) (kPair (kInt .i64) (kInt .i64)))))) 2 (kInt .i64) (fun x=>x.2.2.1) (fun x y=>(x.1,x.2.1,y,x.2.2.2.1,x.2.2.2.2.1,x.2.2.2.2.2)))
 ·exact ((Sub.snd (Sub.snd (Sub.snd (Sub.fst (Sub.self _))))):Sub (kPair (kInt .i64) (kPair (kInt .i64) (kPair (kInt .i64) (kPair (kInt .i64) (kPair (kInt .i64) (kInt .i64)))))) 3 (kInt .i64) (fun x=>x.2.2.2.1) (fun x y=>(x.1,x.2.1,x.2.2.1,y,x.2.2.2.2.1,x.2.2.2.2.2)))
 ·exact ((Sub.snd (Sub.snd (Sub.snd (Sub.snd (Sub.fst (Sub.self _)))))):Sub (kPair (kInt .i64) (kPair (kInt .i64) (kPair (kInt .i64) (kPair (kInt .i64) (kPair (kInt .i64) (kInt .i64)))))) 4 (kInt .i64) (fun x=>x.2.2.2.2.1) (fun x y=>(x.1,x.2.1,x.2.2.1,x.2.2.2.1,y,x.2.2.2.2.2)))
 ·exact ((Sub.snd (Sub.snd (Sub.snd (Sub.snd (Sub.snd (Sub.self _)))))):Sub (kPair (kInt .i64) (kPair (kInt .i64) (kPair (kInt .i64) (kPair (kInt .i64) (kPair (kInt .i64) (kInt .i64)))))) 5 (kInt .i64) (fun x=>x.2.2.2.2.2) (fun x y=>(x.1,x.2.1,x.2.2.1,x.2.2.2.1,x.2.2.2.2.1,y)))
theorem subv_50 {i:Int} (h:0≤i∧i<(2:Int)):Sub (kPair kStr kStr) (i.toNat*1) kStr (fun x=>yh x i) (fun x y=>aset_50 x i y):=by
 have:i=0∨i=1:=by omega
 rcases this with rfl | rfl
 ·exact ((Sub.fst (Sub.self _)):Sub (kPair kStr kStr) 0 kStr (fun x=>x.1) (fun x y=>(y,x.2)))
 ·exact ((Sub.snd (Sub.self _)):Sub (kPair kStr kStr) 1 kStr (fun x=>x.2) (fun x y=>(x.1,y)))
theorem zr_125:∀ φ,(kMeet).rep φ zMeet [.int .i64 0,.int .i64 0,.int .i64 0]:=fun φ=>⟨[.int .i64 0],[.int .i64 0,.int .i64 0],rfl,rfl,⟨[.int .i64 0],[.int .i64 0],rfl,rfl,rfl⟩⟩
theorem bd_125:Builds Tryz.prog 125 [.int .i64 0,.int .i64 0,.int .i64 0] (fun i=>[((0:Nat),(1:Nat)),((1:Nat),(1:Nat)),((2:Nat),(1:Nat))][i]?):=builds_struct (zv:=(.agg #[.int .i64 0,.int .i64 0,.int .i64 0])) (fun _=>by kernel_rfl) Tryz.underlying125 (fun _=>by kernel_rfl)
theorem zr_141:∀ φ,(wn).rep φ zgeom_vector [.int .i64 0,.int .i64 0]:=fun φ=>⟨[.int .i64 0],[.int .i64 0],rfl,rfl,rfl⟩
theorem bd_141:Builds Tryz.prog 141 [.int .i64 0,.int .i64 0] (fun i=>[((0:Nat),(1:Nat)),((1:Nat),(1:Nat))][i]?):=builds_struct (zv:=(.agg #[.int .i64 0,.int .i64 0])) (fun _=>by kernel_rfl) Tryz.underlying141 (fun _=>by kernel_rfl)
theorem zr_153:∀ φ,(Vz).rep φ zp [.int .i64 0,.int .i64 0]:=fun φ=>⟨[.int .i64 0],[.int .i64 0],rfl,rfl,rfl⟩
theorem bd_153:Builds Tryz.prog 153 [.int .i64 0,.int .i64 0] (fun i=>[((0:Nat),(1:Nat)),((1:Nat),(1:Nat))][i]?):=builds_struct (zv:=(.agg #[.int .i64 0,.int .i64 0])) (fun _=>by kernel_rfl) Tryz.underlying153 (fun _=>by kernel_rfl)
theorem zr_156:∀ φ,(Vc).rep φ Jz [.int .i64 0,.int .i64 0,.int .i64 0,.int .i64 0,.int .i64 0,.int .i64 0,.int .i64 0,.int .i64 0,.int .i64 0]:=fun φ=>⟨[.int .i64 0],[.int .i64 0,.int .i64 0,.int .i64 0,.int .i64 0,.int .i64 0,.int .i64 0,.int .i64 0,.int .i64 0],rfl,rfl,⟨[.int .i64 0,.int .i64 0,.int .i64 0,.int .i64 0],[.int .i64 0,.int .i64 0,.int .i64 0,.int .i64 0],rfl,⟨[.int .i64 0,.int .i64 0],[.int .i64 0,.int .i64 0],rfl,⟨[.int .i64 0],[.int .i64 0],rfl,rfl,rfl⟩,⟨[.int .i64 0],[.int .i64 0],rfl,rfl,rfl⟩⟩,⟨[.int .i64 0,.int .i64 0],[.int .i64 0,.int .i64 0],rfl,⟨[.int .i64 0],[.int .i64 0],rfl,rfl,rfl⟩,⟨[.int .i64 0],[.int .i64 0],rfl,rfl,rfl⟩⟩⟩⟩
theorem bd_156:Builds Tryz.prog 156 [.int .i64 0,.int .i64 0,.int .i64 0,.int .i64 0,.int .i64 0,.int .i64 0,.int .i64 0,.int .i64 0,.int .i64 0] (fun i=>[((0:Nat),(1:Nat)),((1:Nat),(4:Nat)),((5:Nat),(2:Nat)),((7:Nat),(2:Nat))][i]?):=builds_struct (zv:=(.agg #[.int .i64 0,.int .i64 0,.int .i64 0,.int .i64 0,.int .i64 0,.int .i64 0,.int .i64 0,.int .i64 0,.int .i64 0])) (fun _=>by kernel_rfl) Tryz.underlying156 (fun _=>by kernel_rfl)
theorem zr_175:∀ φ,((kPair kStr (kPair kStr (kPair kStr (kPair kStr (kPair kStr kStr)))))).rep φ ((⟨#[]⟩:ByteArray),(⟨#[]⟩:ByteArray),(⟨#[]⟩:ByteArray),(⟨#[]⟩:ByteArray),(⟨#[]⟩:ByteArray),(⟨#[]⟩:ByteArray)) [.string ⟨#[]⟩,.string ⟨#[]⟩,.string ⟨#[]⟩,.string ⟨#[]⟩,.string ⟨#[]⟩,.string ⟨#[]⟩]:=fun φ=>⟨[.string ⟨#[]⟩],[.string ⟨#[]⟩,.string ⟨#[]⟩,.string ⟨#[]⟩,.string ⟨#[]⟩,.string ⟨#[]⟩],rfl,rfl,⟨[.string ⟨#[]⟩],[.string ⟨#[]⟩,.string ⟨#[]⟩,.string ⟨#[]⟩,.string ⟨#[]⟩],rfl,rfl,⟨[.string ⟨#[]⟩],[.string ⟨#[]⟩,.string ⟨#[]⟩,.string ⟨#[]⟩],rfl,rfl,⟨[.string ⟨#[]⟩],[.string ⟨#[]⟩,.string ⟨#[]⟩],rfl,rfl,⟨[.string ⟨#[]⟩],[.string ⟨#[]⟩],rfl,rfl,rfl⟩⟩⟩⟩⟩
theorem bd_175:Builds Tryz.prog 175 [.string ⟨#[]⟩,.string ⟨#[]⟩,.string ⟨#[]⟩,.string ⟨#[]⟩,.string ⟨#[]⟩,.string ⟨#[]⟩] (fun i=>some (i*1,1)):=builds_array (zv:=(.agg #[.string ⟨#[]⟩,.string ⟨#[]⟩,.string ⟨#[]⟩,.string ⟨#[]⟩,.string ⟨#[]⟩,.string ⟨#[]⟩])) (fun _=>by kernel_rfl) Tryz.underlying175 (fun _=>by kernel_rfl)
theorem zr_178:∀ φ,((kPair (kInt .i64) (kPair (kInt .i64) (kPair (kInt .i64) (kPair (kInt .i64) (kPair (kInt .i64) (kInt .i64))))))).rep φ ((0:Int),(0:Int),(0:Int),(0:Int),(0:Int),(0:Int)) [.int .i64 0,.int .i64 0,.int .i64 0,.int .i64 0,.int .i64 0,.int .i64 0]:=fun φ=>⟨[.int .i64 0],[.int .i64 0,.int .i64 0,.int .i64 0,.int .i64 0,.int .i64 0],rfl,rfl,⟨[.int .i64 0],[.int .i64 0,.int .i64 0,.int .i64 0,.int .i64 0],rfl,rfl,⟨[.int .i64 0],[.int .i64 0,.int .i64 0,.int .i64 0],rfl,rfl,⟨[.int .i64 0],[.int .i64 0,.int .i64 0],rfl,rfl,⟨[.int .i64 0],[.int .i64 0],rfl,rfl,rfl⟩⟩⟩⟩⟩
theorem bd_178:Builds Tryz.prog 178 [.int .i64 0,.int .i64 0,.int .i64 0,.int .i64 0,.int .i64 0,.int .i64 0] (fun i=>some (i*1,1)):=builds_array (zv:=(.agg #[.int .i64 0,.int .i64 0,.int .i64 0,.int .i64 0,.int .i64 0,.int .i64 0])) (fun _=>by kernel_rfl) Tryz.underlying178 (fun _=>by kernel_rfl)
theorem zr_24:∀ φ,(kMap).rep φ zMap [.slice none 0 0]:=fun φ=>⟨none,0,rfl,Nat.le_refl _,by simp [maxLen],fun h=>absurd rfl h⟩
theorem bd_24:Builds Tryz.prog 24 [.slice none 0 0] (fun i=>[((0:Nat),(1:Nat))][i]?):=builds_struct (zv:=(.agg #[.slice none 0 0])) (fun _=>by kernel_rfl) Tryz.underlying24 (fun _=>by kernel_rfl)
theorem zr_37:∀ φ,(kPoint).rep φ zPoint [.int .i64 0,.int .i64 0]:=fun φ=>⟨[.int .i64 0],[.int .i64 0],rfl,rfl,rfl⟩
theorem bd_37:Builds Tryz.prog 37 [.int .i64 0,.int .i64 0] (fun i=>[((0:Nat),(1:Nat)),((1:Nat),(1:Nat))][i]?):=builds_struct (zv:=(.agg #[.int .i64 0,.int .i64 0])) (fun _=>by kernel_rfl) Tryz.underlying37 (fun _=>by kernel_rfl)
theorem zr_39:∀ φ,(kSegment).rep φ zSegment [.int .i64 0,.int .i64 0,.int .i64 0,.int .i64 0]:=fun φ=>⟨[.int .i64 0,.int .i64 0],[.int .i64 0,.int .i64 0],rfl,⟨[.int .i64 0],[.int .i64 0],rfl,rfl,rfl⟩,⟨[.int .i64 0],[.int .i64 0],rfl,rfl,rfl⟩⟩
theorem bd_39:Builds Tryz.prog 39 [.int .i64 0,.int .i64 0,.int .i64 0,.int .i64 0] (fun i=>[((0:Nat),(2:Nat)),((2:Nat),(2:Nat))][i]?):=builds_struct (zv:=(.agg #[.int .i64 0,.int .i64 0,.int .i64 0,.int .i64 0])) (fun _=>by kernel_rfl) Tryz.underlying39 (fun _=>by kernel_rfl)
theorem zr_43:∀ φ,(kViolation).rep φ zViolation [.string ⟨#[]⟩,.int .i64 0,.slice none 0 0]:=fun φ=>⟨[.string ⟨#[]⟩],[.int .i64 0,.slice none 0 0],rfl,rfl,⟨[.int .i64 0],[.slice none 0 0],rfl,rfl,⟨none,0,rfl,Nat.le_refl _,by simp [maxLen],fun h=>absurd rfl h⟩⟩⟩
theorem bd_43:Builds Tryz.prog 43 [.string ⟨#[]⟩,.int .i64 0,.slice none 0 0] (fun i=>[((0:Nat),(1:Nat)),((1:Nat),(1:Nat)),((2:Nat),(1:Nat))][i]?):=builds_struct (zv:=(.agg #[.string ⟨#[]⟩,.int .i64 0,.slice none 0 0])) (fun _=>by kernel_rfl) Tryz.underlying43 (fun _=>by kernel_rfl)
theorem zr_49:∀ φ,(Vk).rep φ Je [.string ⟨#[]⟩,.string ⟨#[]⟩,.int .i64 0,.int .i64 0,.int .i64 0,.int .i64 0,.slice none 0 0]:=fun φ=>⟨[.string ⟨#[]⟩],[.string ⟨#[]⟩,.int .i64 0,.int .i64 0,.int .i64 0,.int .i64 0,.slice none 0 0],rfl,rfl,⟨[.string ⟨#[]⟩],[.int .i64 0,.int .i64 0,.int .i64 0,.int .i64 0,.slice none 0 0],rfl,rfl,⟨[.int .i64 0,.int .i64 0],[.int .i64 0,.int .i64 0,.slice none 0 0],rfl,⟨[.int .i64 0],[.int .i64 0],rfl,rfl,rfl⟩,⟨[.int .i64 0,.int .i64 0],[.slice none 0 0],rfl,⟨[.int .i64 0],[.int .i64 0],rfl,rfl,rfl⟩,⟨none,0,rfl,Nat.le_refl _,by simp [maxLen],fun h=>absurd rfl h⟩⟩⟩⟩⟩
theorem bd_49:Builds Tryz.prog 49 [.string ⟨#[]⟩,.string ⟨#[]⟩,.int .i64 0,.int .i64 0,.int .i64 0,.int .i64 0,.slice none 0 0] (fun i=>[((0:Nat),(1:Nat)),((1:Nat),(1:Nat)),((2:Nat),(2:Nat)),((4:Nat),(2:Nat)),((6:Nat),(1:Nat))][i]?):=builds_struct (zv:=(.agg #[.string ⟨#[]⟩,.string ⟨#[]⟩,.int .i64 0,.int .i64 0,.int .i64 0,.int .i64 0,.slice none 0 0])) (fun _=>by kernel_rfl) Tryz.underlying49 (fun _=>by kernel_rfl)
theorem zr_50:∀ φ,((kPair kStr kStr)).rep φ ((⟨#[]⟩:ByteArray),(⟨#[]⟩:ByteArray)) [.string ⟨#[]⟩,.string ⟨#[]⟩]:=fun φ=>⟨[.string ⟨#[]⟩],[.string ⟨#[]⟩],rfl,rfl,rfl⟩
theorem bd_50:Builds Tryz.prog 50 [.string ⟨#[]⟩,.string ⟨#[]⟩] (fun i=>some (i*1,1)):=builds_array (zv:=(.agg #[.string ⟨#[]⟩,.string ⟨#[]⟩])) (fun _=>by kernel_rfl) Tryz.underlying50 (fun _=>by kernel_rfl)
theorem zr_59:∀ φ,(kObject).rep φ zObject [.string ⟨#[]⟩,.int .i64 0,.int .i64 0,.int .i64 0,.slice none 0 0,.slice none 0 0]:=fun φ=>⟨[.string ⟨#[]⟩],[.int .i64 0,.int .i64 0,.int .i64 0,.slice none 0 0,.slice none 0 0],rfl,rfl,⟨[.int .i64 0],[.int .i64 0,.int .i64 0,.slice none 0 0,.slice none 0 0],rfl,rfl,⟨[.int .i64 0,.int .i64 0],[.slice none 0 0,.slice none 0 0],rfl,⟨[.int .i64 0],[.int .i64 0],rfl,rfl,rfl⟩,⟨[.slice none 0 0],[.slice none 0 0],rfl,⟨none,0,rfl,Nat.le_refl _,by simp [maxLen],fun h=>absurd rfl h⟩,⟨none,0,rfl,Nat.le_refl _,by simp [maxLen],fun h=>absurd rfl h⟩⟩⟩⟩⟩
theorem bd_59:Builds Tryz.prog 59 [.string ⟨#[]⟩,.int .i64 0,.int .i64 0,.int .i64 0,.slice none 0 0,.slice none 0 0] (fun i=>[((0:Nat),(1:Nat)),((1:Nat),(1:Nat)),((2:Nat),(2:Nat)),((4:Nat),(1:Nat)),((5:Nat),(1:Nat))][i]?):=builds_struct (zv:=(.agg #[.string ⟨#[]⟩,.int .i64 0,.int .i64 0,.int .i64 0,.slice none 0 0,.slice none 0 0])) (fun _=>by kernel_rfl) Tryz.underlying59 (fun _=>by kernel_rfl)
theorem zr_76:∀ φ,(Jy).rep φ zt [.slice none 0 0,.map none]:=fun φ=>⟨[.slice none 0 0],[.map none],rfl,⟨none,0,rfl,Nat.le_refl _,by simp [maxLen],fun h=>absurd rfl h⟩,(.inl ⟨rfl,rfl⟩)⟩
theorem bd_76:Builds Tryz.prog 76 [.slice none 0 0,.map none] (fun i=>[((0:Nat),(1:Nat)),((1:Nat),(1:Nat))][i]?):=builds_struct (zv:=(.agg #[.slice none 0 0,.map none])) (fun _=>by kernel_rfl) Tryz.underlying76 (fun _=>by kernel_rfl)
theorem zr_82:∀ φ,(Ju).rep φ Vd [.string ⟨#[]⟩,.string ⟨#[]⟩,.slice none 0 0]:=fun φ=>⟨[.string ⟨#[]⟩,.string ⟨#[]⟩],[.slice none 0 0],rfl,⟨[.string ⟨#[]⟩],[.string ⟨#[]⟩],rfl,rfl,rfl⟩,⟨none,0,rfl,Nat.le_refl _,by simp [maxLen],fun h=>absurd rfl h⟩⟩
theorem bd_82:Builds Tryz.prog 82 [.string ⟨#[]⟩,.string ⟨#[]⟩,.slice none 0 0] (fun i=>[((0:Nat),(2:Nat)),((2:Nat),(1:Nat))][i]?):=builds_struct (zv:=(.agg #[.string ⟨#[]⟩,.string ⟨#[]⟩,.slice none 0 0])) (fun _=>by kernel_rfl) Tryz.underlying82 (fun _=>by kernel_rfl)
theorem zr_92:∀ φ,((kPair (kInt .i64) (kInt .i64))).rep φ ((0:Int),(0:Int)) [.int .i64 0,.int .i64 0]:=fun φ=>⟨[.int .i64 0],[.int .i64 0],rfl,rfl,rfl⟩
theorem bd_92:Builds Tryz.prog 92 [.int .i64 0,.int .i64 0] (fun i=>some (i*1,1)):=builds_array (zv:=(.agg #[.int .i64 0,.int .i64 0])) (fun _=>by kernel_rfl) Tryz.underlying92 (fun _=>by kernel_rfl)
theorem en_10:Enters Tryz.prog 10:=fun _ _=>by kernel_rfl
theorem en_101:Enters Tryz.prog 101:=fun _ _=>by kernel_rfl
theorem en_103:Enters Tryz.prog 103:=fun _ _=>by kernel_rfl
theorem en_104:Enters Tryz.prog 104:=fun _ _=>by kernel_rfl
theorem en_105:Enters Tryz.prog 105:=fun _ _=>by kernel_rfl
theorem en_106:Enters Tryz.prog 106:=fun _ _=>by kernel_rfl
theorem en_107:Enters Tryz.prog 107:=fun _ _=>by kernel_rfl
theorem en_108:Enters Tryz.prog 108:=fun _ _=>by kernel_rfl
theorem en_109:Enters Tryz.prog 109:=fun _ _=>by kernel_rfl
theorem en_11:Enters Tryz.prog 11:=fun _ _=>by kernel_rfl
theorem en_110:Enters Tryz.prog 110:=fun _ _=>by kernel_rfl
theorem en_111:Enters Tryz.prog 111:=fun _ _=>by kernel_rfl
theorem en_12:Enters Tryz.prog 12:=fun _ _=>by kernel_rfl
theorem en_122:Enters Tryz.prog 122:=fun _ _=>by kernel_rfl
theorem en_123:Enters Tryz.prog 123:=fun _ _=>by kernel_rfl
theorem en_124:Enters Tryz.prog 124:=fun _ _=>by kernel_rfl
theorem en_125:Enters Tryz.prog 125:=fun _ _=>by kernel_rfl
theorem en_126:Enters Tryz.prog 126:=fun _ _=>by kernel_rfl
theorem en_127:Enters Tryz.prog 127:=fun _ _=>by kernel_rfl
theorem en_130:Enters Tryz.prog 130:=fun _ _=>by kernel_rfl
theorem en_131:Enters Tryz.prog 131:=fun _ _=>by kernel_rfl
theorem en_132:Enters Tryz.prog 132:=fun _ _=>by kernel_rfl
theorem en_133:Enters Tryz.prog 133:=fun _ _=>by kernel_rfl
theorem en_134:Enters Tryz.prog 134:=fun _ _=>by kernel_rfl
theorem en_135:Enters Tryz.prog 135:=fun _ _=>by kernel_rfl
theorem en_146:Enters Tryz.prog 146:=fun _ _=>by kernel_rfl
theorem en_153:Enters Tryz.prog 153:=fun _ _=>by kernel_rfl
theorem en_154:Enters Tryz.prog 154:=fun _ _=>by kernel_rfl
theorem en_155:Enters Tryz.prog 155:=fun _ _=>by kernel_rfl
theorem en_16:Enters Tryz.prog 16:=fun _ _=>by kernel_rfl
theorem en_178:Enters Tryz.prog 178:=fun _ _=>by kernel_rfl
theorem en_179:Enters Tryz.prog 179:=fun _ _=>by kernel_rfl
theorem en_18:Enters Tryz.prog 18:=fun _ _=>by kernel_rfl
theorem en_20:Enters Tryz.prog 20:=fun _ _=>by kernel_rfl
theorem en_21:Enters Tryz.prog 21:=fun _ _=>by kernel_rfl
theorem en_22:Enters Tryz.prog 22:=fun _ _=>by kernel_rfl
theorem en_23:Enters Tryz.prog 23:=fun _ _=>by kernel_rfl
theorem en_25:Enters Tryz.prog 25:=fun _ _=>by kernel_rfl
theorem en_26:Enters Tryz.prog 26:=fun _ _=>by kernel_rfl
theorem en_27:Enters Tryz.prog 27:=fun _ _=>by kernel_rfl
theorem en_28:Enters Tryz.prog 28:=fun _ _=>by kernel_rfl
theorem en_29:Enters Tryz.prog 29:=fun _ _=>by kernel_rfl
theorem en_30:Enters Tryz.prog 30:=fun _ _=>by kernel_rfl
theorem en_31:Enters Tryz.prog 31:=fun _ _=>by kernel_rfl
theorem en_32:Enters Tryz.prog 32:=fun _ _=>by kernel_rfl
theorem en_34:Enters Tryz.prog 34:=fun _ _=>by kernel_rfl
theorem en_35:Enters Tryz.prog 35:=fun _ _=>by kernel_rfl
theorem en_36:Enters Tryz.prog 36:=fun _ _=>by kernel_rfl
theorem en_37:Enters Tryz.prog 37:=fun _ _=>by kernel_rfl
theorem en_38:Enters Tryz.prog 38:=fun _ _=>by kernel_rfl
theorem en_39:Enters Tryz.prog 39:=fun _ _=>by kernel_rfl
theorem en_40:Enters Tryz.prog 40:=fun _ _=>by kernel_rfl
theorem en_41:Enters Tryz.prog 41:=fun _ _=>by kernel_rfl
theorem en_45:Enters Tryz.prog 45:=fun _ _=>by kernel_rfl
theorem en_46:Enters Tryz.prog 46:=fun _ _=>by kernel_rfl
theorem en_47:Enters Tryz.prog 47:=fun _ _=>by kernel_rfl
theorem en_50:Enters Tryz.prog 50:=fun _ _=>by kernel_rfl
theorem en_51:Enters Tryz.prog 51:=fun _ _=>by kernel_rfl
theorem en_52:Enters Tryz.prog 52:=fun _ _=>by kernel_rfl
theorem en_53:Enters Tryz.prog 53:=fun _ _=>by kernel_rfl
theorem en_54:Enters Tryz.prog 54:=fun _ _=>by kernel_rfl
theorem en_55:Enters Tryz.prog 55:=fun _ _=>by kernel_rfl
theorem en_56:Enters Tryz.prog 56:=fun _ _=>by kernel_rfl
theorem en_57:Enters Tryz.prog 57:=fun _ _=>by kernel_rfl
theorem en_58:Enters Tryz.prog 58:=fun _ _=>by kernel_rfl
theorem en_59:Enters Tryz.prog 59:=fun _ _=>by kernel_rfl
theorem en_60:Enters Tryz.prog 60:=fun _ _=>by kernel_rfl
theorem en_61:Enters Tryz.prog 61:=fun _ _=>by kernel_rfl
theorem en_62:Enters Tryz.prog 62:=fun _ _=>by kernel_rfl
theorem en_63:Enters Tryz.prog 63:=fun _ _=>by kernel_rfl
theorem en_64:Enters Tryz.prog 64:=fun _ _=>by kernel_rfl
theorem en_65:Enters Tryz.prog 65:=fun _ _=>by kernel_rfl
theorem en_66:Enters Tryz.prog 66:=fun _ _=>by kernel_rfl
theorem en_67:Enters Tryz.prog 67:=fun _ _=>by kernel_rfl
theorem en_68:Enters Tryz.prog 68:=fun _ _=>by kernel_rfl
theorem en_69:Enters Tryz.prog 69:=fun _ _=>by kernel_rfl
theorem en_70:Enters Tryz.prog 70:=fun _ _=>by kernel_rfl
theorem en_73:Enters Tryz.prog 73:=fun _ _=>by kernel_rfl
theorem en_74:Enters Tryz.prog 74:=fun _ _=>by kernel_rfl
theorem en_75:Enters Tryz.prog 75:=fun _ _=>by kernel_rfl
theorem en_80:Enters Tryz.prog 80:=fun _ _=>by kernel_rfl
theorem en_81:Enters Tryz.prog 81:=fun _ _=>by kernel_rfl
theorem en_82:Enters Tryz.prog 82:=fun _ _=>by kernel_rfl
theorem en_83:Enters Tryz.prog 83:=fun _ _=>by kernel_rfl
theorem en_84:Enters Tryz.prog 84:=fun _ _=>by kernel_rfl
theorem en_85:Enters Tryz.prog 85:=fun _ _=>by kernel_rfl
theorem en_86:Enters Tryz.prog 86:=fun _ _=>by kernel_rfl
theorem en_87:Enters Tryz.prog 87:=fun _ _=>by kernel_rfl
theorem en_88:Enters Tryz.prog 88:=fun _ _=>by kernel_rfl
theorem en_89:Enters Tryz.prog 89:=fun _ _=>by kernel_rfl
theorem en_90:Enters Tryz.prog 90:=fun _ _=>by kernel_rfl
theorem en_91:Enters Tryz.prog 91:=fun _ _=>by kernel_rfl
theorem en_92:Enters Tryz.prog 92:=fun _ _=>by kernel_rfl
theorem en_93:Enters Tryz.prog 93:=fun _ _=>by kernel_rfl
theorem en_94:Enters Tryz.prog 94:=fun _ _=>by kernel_rfl
theorem en_95:Enters Tryz.prog 95:=fun _ _=>by kernel_rfl
theorem en_96:Enters Tryz.prog 96:=fun _ _=>by kernel_rfl
theorem en_97:Enters Tryz.prog 97:=fun _ _=>by kernel_rfl
theorem en_98:Enters Tryz.prog 98:=fun _ _=>by kernel_rfl
theorem ex_156:ExtAt Tryz.prog 156 Extern.BytealgCompare.compare:=ext_of Tryz.func156 (by kernel_rfl) rfl (by kernel_rfl) (by kernel_rfl)
theorem ex_187:ExtAt Tryz.prog 187 Extern.BytealgIndexByte.indexByte:=ext_of Tryz.func187 (by kernel_rfl) rfl (by kernel_rfl) (by kernel_rfl)
theorem ex_99:ExtAt Tryz.prog 99 (Extern.SlicesOverlaps.overlaps #[22,22] #[4]):=ext_of Tryz.func99 (by kernel_rfl) rfl (by kernel_rfl) (by kernel_rfl)
theorem fa_125_0:FieldAt Tryz.prog 125 0 0:=fun _ _=>by kernel_rfl
theorem fa_125_1:FieldAt Tryz.prog 125 1 1:=fun _ _=>by kernel_rfl
theorem fa_125_2:FieldAt Tryz.prog 125 2 2:=fun _ _=>by kernel_rfl
theorem fa_141_0:FieldAt Tryz.prog 141 0 0:=fun _ _=>by kernel_rfl
theorem fa_141_1:FieldAt Tryz.prog 141 1 1:=fun _ _=>by kernel_rfl
theorem fa_153_0:FieldAt Tryz.prog 153 0 0:=fun _ _=>by kernel_rfl
theorem fa_153_1:FieldAt Tryz.prog 153 1 1:=fun _ _=>by kernel_rfl
theorem fa_156_0:FieldAt Tryz.prog 156 0 0:=fun _ _=>by kernel_rfl
theorem fa_156_1:FieldAt Tryz.prog 156 1 1:=fun _ _=>by kernel_rfl
theorem fa_156_2:FieldAt Tryz.prog 156 2 5:=fun _ _=>by kernel_rfl
theorem fa_156_3:FieldAt Tryz.prog 156 3 7:=fun _ _=>by kernel_rfl
theorem qq:FieldAt Tryz.prog 24 0 0:=fun _ _=>by kernel_rfl
theorem wa:FieldAt Tryz.prog 37 0 0:=fun _ _=>by kernel_rfl
theorem zf:FieldAt Tryz.prog 37 1 1:=fun _ _=>by kernel_rfl
theorem qe:FieldAt Tryz.prog 39 0 0:=fun _ _=>by kernel_rfl
theorem ql:FieldAt Tryz.prog 39 1 2:=fun _ _=>by kernel_rfl
theorem fa_43_1:FieldAt Tryz.prog 43 1 1:=fun _ _=>by kernel_rfl
theorem fa_43_2:FieldAt Tryz.prog 43 2 2:=fun _ _=>by kernel_rfl
theorem fa_49_0:FieldAt Tryz.prog 49 0 0:=fun _ _=>by kernel_rfl
theorem fa_49_1:FieldAt Tryz.prog 49 1 1:=fun _ _=>by kernel_rfl
theorem fa_49_2:FieldAt Tryz.prog 49 2 2:=fun _ _=>by kernel_rfl
theorem fa_49_3:FieldAt Tryz.prog 49 3 4:=fun _ _=>by kernel_rfl
theorem fa_49_4:FieldAt Tryz.prog 49 4 6:=fun _ _=>by kernel_rfl
theorem zg:FieldAt Tryz.prog 59 0 0:=fun _ _=>by kernel_rfl
theorem yj:FieldAt Tryz.prog 59 1 1:=fun _ _=>by kernel_rfl
theorem jb6:FieldAt Tryz.prog 59 2 2:=fun _ _=>by kernel_rfl
theorem qz:FieldAt Tryz.prog 59 3 4:=fun _ _=>by kernel_rfl
theorem fa_59_4:FieldAt Tryz.prog 59 4 5:=fun _ _=>by kernel_rfl
theorem fa_73_0:FieldAt Tryz.prog 73 0 0:=fun _ _=>by kernel_rfl
theorem fa_73_1:FieldAt Tryz.prog 73 1 1:=fun _ _=>by kernel_rfl
theorem fa_76_0:FieldAt Tryz.prog 76 0 0:=fun _ _=>by kernel_rfl
theorem fa_76_1:FieldAt Tryz.prog 76 1 1:=fun _ _=>by kernel_rfl
theorem zu:FieldAt Tryz.prog 82 0 0:=fun _ _=>by kernel_rfl
theorem fa_82_1:FieldAt Tryz.prog 82 1 2:=fun _ _=>by kernel_rfl
theorem jb2:IdxAt Tryz.prog 50 0 0:=fun _ _ _=>by kernel_rfl
theorem ia_50_1:IdxAt Tryz.prog 50 1 1:=fun _ _ _=>by kernel_rfl
theorem ia_92_0:IdxAt Tryz.prog 92 0 0:=fun _ _ _=>by kernel_rfl
theorem ia_92_1:IdxAt Tryz.prog 92 1 1:=fun _ _ _=>by kernel_rfl
theorem mt_47:MapTy Tryz.prog 47 50 4 (kPair kStr kStr) kBool false:=⟨Tryz.underlying47,(keyty_deep2 Tryz.underlying50 rfl rfl (by rintro ⟨a,b⟩ ⟨c,d⟩;simp [sEq_iff]) (eqin_arr2 Tryz.underlying50 (⟨fun _=>by kernel_rfl,fun _=>by kernel_rfl⟩:Ty Tryz.prog 9 kStr) (eqin_str Tryz.underlying9)) rfl (det_pair det_str det_str) (checkin_arr2 Tryz.underlying50 (⟨fun _=>by kernel_rfl,fun _=>by kernel_rfl⟩:Ty Tryz.prog 9 kStr) (checkin_plain Tryz.underlying9 rfl)) rfl),⟨(.bool false),fun _=>by kernel_rfl,fun φ=>⟨[.bool false],rfl,rfl⟩⟩⟩
theorem mt_56:MapTy Tryz.prog 56 9 4 kStr kBool false:=⟨Tryz.underlying56,(keyty_str Tryz.underlying9),⟨(.bool false),fun _=>by kernel_rfl,fun φ=>⟨[.bool false],rfl,rfl⟩⟩⟩
theorem mt_74:MapTy Tryz.prog 74 9 3 kStr (kInt .i64) (0:Int):=⟨Tryz.underlying74,(keyty_str Tryz.underlying9),⟨(.int .i64 0),fun _=>by kernel_rfl,fun φ=>⟨[.int .i64 0],rfl,rfl⟩⟩⟩
theorem mt_90:MapTy Tryz.prog 90 92 3 (kPair (kInt .i64) (kInt .i64)) (kInt .i64) (0:Int):=⟨Tryz.underlying90,(keyty_deep2 Tryz.underlying92 rfl rfl (by rintro ⟨a,b⟩ ⟨c,d⟩;simp [sEq_iff]) (eqin_arr2 Tryz.underlying92 (⟨fun _=>by kernel_rfl,fun _=>by kernel_rfl⟩:Ty Tryz.prog 3 (kInt .i64)) (eqin_int Tryz.underlying3)) rfl (det_pair det_int det_int) (checkin_arr2 Tryz.underlying92 (⟨fun _=>by kernel_rfl,fun _=>by kernel_rfl⟩:Ty Tryz.prog 3 (kInt .i64)) (checkin_plain Tryz.underlying3 rfl)) rfl),⟨(.int .i64 0),fun _=>by kernel_rfl,fun φ=>⟨[.int .i64 0],rfl,rfl⟩⟩⟩
theorem mtr_116:MapTy Tryz.prog 116 50 41 (kPair kStr kStr) kRaw (.slice none 0 0):=⟨Tryz.underlying116,(keyty_deep2 Tryz.underlying50 rfl rfl (by rintro ⟨a,b⟩ ⟨c,d⟩;simp [sEq_iff]) (eqin_arr2 Tryz.underlying50 (⟨fun _=>by kernel_rfl,fun _=>by kernel_rfl⟩:Ty Tryz.prog 9 kStr) (eqin_str Tryz.underlying9)) rfl (det_pair det_str det_str) (checkin_arr2 Tryz.underlying50 (⟨fun _=>by kernel_rfl,fun _=>by kernel_rfl⟩:Ty Tryz.prog 9 kStr) (checkin_plain Tryz.underlying9 rfl)) rfl),⟨(.slice none 0 0),fun _=>by kernel_rfl,fun φ=>raw_tv rfl⟩⟩
theorem mtr_86:MapTy Tryz.prog 86 37 41 kPoint kRaw (.slice none 0 0):=⟨Tryz.underlying86,(keyty_deep2 Tryz.underlying37 rfl rfl (eq:=Vg) (by intro x y;cases x;cases y;simp [Vg,sEq_iff]) (eqin_struct Tryz.underlying37 rfl (by kernel_rfl) rfl (eqs_cons rfl (⟨fun _=>by kernel_rfl,fun _=>by kernel_rfl⟩:Ty Tryz.prog 3 (kInt .i64)) Vx (eqin_int Tryz.underlying3) rfl (eqs_last (D:=1) rfl (⟨fun _=>by kernel_rfl,fun _=>by kernel_rfl⟩:Ty Tryz.prog 3 (kInt .i64)) qn (eqin_int Tryz.underlying3) rfl))) rfl (det_iso (det_pair det_int det_int)) (checkin_struct Tryz.underlying37 rfl rfl (checks_cons (D:=1) rfl (⟨fun _=>by kernel_rfl,fun _=>by kernel_rfl⟩:Ty Tryz.prog 3 (kInt .i64)) Vx (checkin_plain Tryz.underlying3 rfl) rfl (checks_cons (D:=1) rfl (⟨fun _=>by kernel_rfl,fun _=>by kernel_rfl⟩:Ty Tryz.prog 3 (kInt .i64)) qn (checkin_plain Tryz.underlying3 rfl) rfl checks_nil))) rfl),⟨(.slice none 0 0),fun _=>by kernel_rfl,fun φ=>raw_tv rfl⟩⟩
theorem sl_121:SlTy Tryz.prog 121 125 kMeet 24:=SlTy.mk' (z:=(.agg #[.int .i64 0,.int .i64 0,.int .i64 0])) (n:=3) Tryz.underlying121 ty_125 (by kernel_rfl) rfl rfl rfl
theorem sl_144:SlTy Tryz.prog 144 24 kMap 24:=SlTy.mk' (z:=(.agg #[.slice none 0 0])) (n:=1) Tryz.underlying144 ty_24 (by kernel_rfl) rfl rfl rfl
theorem sl_151:SlTy Tryz.prog 151 156 Vc 72:=SlTy.mk' (z:=(.agg #[.int .i64 0,.int .i64 0,.int .i64 0,.int .i64 0,.int .i64 0,.int .i64 0,.int .i64 0,.int .i64 0,.int .i64 0])) (n:=9) Tryz.underlying151 ty_156 (by kernel_rfl) rfl rfl rfl
theorem sl_199:SlTy Tryz.prog 199 92 (kPair (kInt .i64) (kInt .i64)) 16:=SlTy.mk' (z:=(.agg #[.int .i64 0,.int .i64 0])) (n:=2) Tryz.underlying199 ty_92 (by kernel_rfl) rfl rfl rfl
theorem sl_22:SlTy Tryz.prog 22 59 kObject 88:=SlTy.mk' (z:=(.agg #[.string ⟨#[]⟩,.int .i64 0,.int .i64 0,.int .i64 0,.slice none 0 0,.slice none 0 0])) (n:=6) Tryz.underlying22 ty_59 (by kernel_rfl) rfl rfl rfl
theorem sl_27:SlTy Tryz.prog 27 39 kSegment 32:=SlTy.mk' (z:=(.agg #[.int .i64 0,.int .i64 0,.int .i64 0,.int .i64 0])) (n:=4) Tryz.underlying27 ty_39 (by kernel_rfl) rfl rfl rfl
theorem sl_28:SlTy Tryz.prog 28 41 (kSlice kStr) 24:=SlTy.mk' (z:=(.slice none 0 0)) (n:=1) Tryz.underlying28 ty_41 (by kernel_rfl) rfl rfl rfl
theorem sl_33:SlTy Tryz.prog 33 43 kViolation 48:=SlTy.mk' (z:=(.agg #[.string ⟨#[]⟩,.int .i64 0,.slice none 0 0])) (n:=3) Tryz.underlying33 ty_43 (by kernel_rfl) rfl rfl rfl
theorem sl_41:SlTy Tryz.prog 41 9 kStr 16:=SlTy.mk' (z:=(.string ⟨#[]⟩)) (n:=1) Tryz.underlying41 ty_9 (by kernel_rfl) rfl rfl rfl
theorem sl_45:SlTy Tryz.prog 45 49 Vk 88:=SlTy.mk' (z:=(.agg #[.string ⟨#[]⟩,.string ⟨#[]⟩,.int .i64 0,.int .i64 0,.int .i64 0,.int .i64 0,.slice none 0 0])) (n:=7) Tryz.underlying45 ty_49 (by kernel_rfl) rfl rfl rfl
theorem sl_51:SlTy Tryz.prog 51 50 (kPair kStr kStr) 32:=SlTy.mk' (z:=(.agg #[.string ⟨#[]⟩,.string ⟨#[]⟩])) (n:=2) Tryz.underlying51 ty_50 (by kernel_rfl) rfl rfl rfl
theorem sl_68:SlTy Tryz.prog 68 37 kPoint 16:=SlTy.mk' (z:=(.agg #[.int .i64 0,.int .i64 0])) (n:=2) Tryz.underlying68 ty_37 (by kernel_rfl) rfl rfl rfl
theorem sl_79:SlTy Tryz.prog 79 82 Ju 56:=SlTy.mk' (z:=(.agg #[.string ⟨#[]⟩,.string ⟨#[]⟩,.slice none 0 0])) (n:=3) Tryz.underlying79 ty_82 (by kernel_rfl) rfl rfl rfl
theorem sl_89:SlTy Tryz.prog 89 3 (kInt .i64) 8:=SlTy.mk' (z:=(.int .i64 0)) (n:=1) Tryz.underlying89 ty_3 (by kernel_rfl) rfl rfl rfl
theorem tyr_22:Ty Tryz.prog 22 kRaw:=⟨fun _=>by kernel_rfl,fun _=>by kernel_rfl⟩
theorem tyr_47:Ty Tryz.prog 47 kRaw:=⟨fun _=>by kernel_rfl,fun _=>by kernel_rfl⟩
theorem tyr_56:Ty Tryz.prog 56 kRaw:=⟨fun _=>by kernel_rfl,fun _=>by kernel_rfl⟩
theorem tyr_74:Ty Tryz.prog 74 kRaw:=⟨fun _=>by kernel_rfl,fun _=>by kernel_rfl⟩
theorem tz_125:TyZ Tryz.prog 125 kMeet zMeet:=⟨⟨(.agg #[.int .i64 0,.int .i64 0,.int .i64 0]),fun _=>by kernel_rfl,fun φ=>⟨[.int .i64 0,.int .i64 0,.int .i64 0],⟨[.int .i64 0],[.int .i64 0,.int .i64 0],rfl,rfl,⟨[.int .i64 0],[.int .i64 0],rfl,rfl,rfl⟩⟩,rfl⟩⟩⟩
theorem tz_141:TyZ Tryz.prog 141 wn zgeom_vector:=⟨⟨(.agg #[.int .i64 0,.int .i64 0]),fun _=>by kernel_rfl,fun φ=>⟨[.int .i64 0,.int .i64 0],⟨[.int .i64 0],[.int .i64 0],rfl,rfl,rfl⟩,rfl⟩⟩⟩
theorem tz_153:TyZ Tryz.prog 153 Vz zp:=⟨⟨(.agg #[.int .i64 0,.int .i64 0]),fun _=>by kernel_rfl,fun φ=>⟨[.int .i64 0,.int .i64 0],⟨[.int .i64 0],[.int .i64 0],rfl,rfl,rfl⟩,rfl⟩⟩⟩
theorem tz_156:TyZ Tryz.prog 156 Vc Jz:=⟨⟨(.agg #[.int .i64 0,.int .i64 0,.int .i64 0,.int .i64 0,.int .i64 0,.int .i64 0,.int .i64 0,.int .i64 0,.int .i64 0]),fun _=>by kernel_rfl,fun φ=>⟨[.int .i64 0,.int .i64 0,.int .i64 0,.int .i64 0,.int .i64 0,.int .i64 0,.int .i64 0,.int .i64 0,.int .i64 0],⟨[.int .i64 0],[.int .i64 0,.int .i64 0,.int .i64 0,.int .i64 0,.int .i64 0,.int .i64 0,.int .i64 0,.int .i64 0],rfl,rfl,⟨[.int .i64 0,.int .i64 0,.int .i64 0,.int .i64 0],[.int .i64 0,.int .i64 0,.int .i64 0,.int .i64 0],rfl,⟨[.int .i64 0,.int .i64 0],[.int .i64 0,.int .i64 0],rfl,⟨[.int .i64 0],[.int .i64 0],rfl,rfl,rfl⟩,⟨[.int .i64 0],[.int .i64 0],rfl,rfl,rfl⟩⟩,⟨[.int .i64 0,.int .i64 0],[.int .i64 0,.int .i64 0],rfl,⟨[.int .i64 0],[.int .i64 0],rfl,rfl,rfl⟩,⟨[.int .i64 0],[.int .i64 0],rfl,rfl,rfl⟩⟩⟩⟩,rfl⟩⟩⟩
theorem tz_175:TyZ Tryz.prog 175 (kPair kStr (kPair kStr (kPair kStr (kPair kStr (kPair kStr kStr))))) ((⟨#[]⟩:ByteArray),(⟨#[]⟩:ByteArray),(⟨#[]⟩:ByteArray),(⟨#[]⟩:ByteArray),(⟨#[]⟩:ByteArray),(⟨#[]⟩:ByteArray)):=⟨⟨(.agg #[.string ⟨#[]⟩,.string ⟨#[]⟩,.string ⟨#[]⟩,.string ⟨#[]⟩,.string ⟨#[]⟩,.string ⟨#[]⟩]),fun _=>by kernel_rfl,fun φ=>⟨[.string ⟨#[]⟩,.string ⟨#[]⟩,.string ⟨#[]⟩,.string ⟨#[]⟩,.string ⟨#[]⟩,.string ⟨#[]⟩],⟨[.string ⟨#[]⟩],[.string ⟨#[]⟩,.string ⟨#[]⟩,.string ⟨#[]⟩,.string ⟨#[]⟩,.string ⟨#[]⟩],rfl,rfl,⟨[.string ⟨#[]⟩],[.string ⟨#[]⟩,.string ⟨#[]⟩,.string ⟨#[]⟩,.string ⟨#[]⟩],rfl,rfl,⟨[.string ⟨#[]⟩],[.string ⟨#[]⟩,.string ⟨#[]⟩,.string ⟨#[]⟩],rfl,rfl,⟨[.string ⟨#[]⟩],[.string ⟨#[]⟩,.string ⟨#[]⟩],rfl,rfl,⟨[.string ⟨#[]⟩],[.string ⟨#[]⟩],rfl,rfl,rfl⟩⟩⟩⟩⟩,rfl⟩⟩⟩
theorem tz_176:TyZ Tryz.prog 176 (kArr 256 (kInt .u8)) (List.replicate 256 (0:Int)):=⟨⟨(.agg (List.replicate 256 [.int .u8 0]).flatten.toArray),fun _=>by kernel_rfl,fun φ=>⟨_,arr_zero (zc:=[.int .u8 0]) rfl,rfl⟩⟩⟩
theorem tz_24:TyZ Tryz.prog 24 kMap zMap:=⟨⟨(.agg #[.slice none 0 0]),fun _=>by kernel_rfl,fun φ=>⟨[.slice none 0 0],⟨none,0,rfl,Nat.le_refl _,by simp [maxLen],fun h=>absurd rfl h⟩,rfl⟩⟩⟩
theorem tz_37:TyZ Tryz.prog 37 kPoint zPoint:=⟨⟨(.agg #[.int .i64 0,.int .i64 0]),fun _=>by kernel_rfl,fun φ=>⟨[.int .i64 0,.int .i64 0],⟨[.int .i64 0],[.int .i64 0],rfl,rfl,rfl⟩,rfl⟩⟩⟩
theorem tz_39:TyZ Tryz.prog 39 kSegment zSegment:=⟨⟨(.agg #[.int .i64 0,.int .i64 0,.int .i64 0,.int .i64 0]),fun _=>by kernel_rfl,fun φ=>⟨[.int .i64 0,.int .i64 0,.int .i64 0,.int .i64 0],⟨[.int .i64 0,.int .i64 0],[.int .i64 0,.int .i64 0],rfl,⟨[.int .i64 0],[.int .i64 0],rfl,rfl,rfl⟩,⟨[.int .i64 0],[.int .i64 0],rfl,rfl,rfl⟩⟩,rfl⟩⟩⟩
theorem tz_47:TyZ Tryz.prog 47 (kMp (kPair kStr kStr) kBool) ([]:List ((ByteArray×ByteArray)×Bool)):=⟨⟨(.map none),fun _=>by kernel_rfl,fun φ=>⟨[.map none],(.inl ⟨rfl,rfl⟩),rfl⟩⟩⟩
theorem tz_49:TyZ Tryz.prog 49 Vk Je:=⟨⟨(.agg #[.string ⟨#[]⟩,.string ⟨#[]⟩,.int .i64 0,.int .i64 0,.int .i64 0,.int .i64 0,.slice none 0 0]),fun _=>by kernel_rfl,fun φ=>⟨[.string ⟨#[]⟩,.string ⟨#[]⟩,.int .i64 0,.int .i64 0,.int .i64 0,.int .i64 0,.slice none 0 0],⟨[.string ⟨#[]⟩],[.string ⟨#[]⟩,.int .i64 0,.int .i64 0,.int .i64 0,.int .i64 0,.slice none 0 0],rfl,rfl,⟨[.string ⟨#[]⟩],[.int .i64 0,.int .i64 0,.int .i64 0,.int .i64 0,.slice none 0 0],rfl,rfl,⟨[.int .i64 0,.int .i64 0],[.int .i64 0,.int .i64 0,.slice none 0 0],rfl,⟨[.int .i64 0],[.int .i64 0],rfl,rfl,rfl⟩,⟨[.int .i64 0,.int .i64 0],[.slice none 0 0],rfl,⟨[.int .i64 0],[.int .i64 0],rfl,rfl,rfl⟩,⟨none,0,rfl,Nat.le_refl _,by simp [maxLen],fun h=>absurd rfl h⟩⟩⟩⟩⟩,rfl⟩⟩⟩
theorem tz_50:TyZ Tryz.prog 50 (kPair kStr kStr) ((⟨#[]⟩:ByteArray),(⟨#[]⟩:ByteArray)):=⟨⟨(.agg #[.string ⟨#[]⟩,.string ⟨#[]⟩]),fun _=>by kernel_rfl,fun φ=>⟨[.string ⟨#[]⟩,.string ⟨#[]⟩],⟨[.string ⟨#[]⟩],[.string ⟨#[]⟩],rfl,rfl,rfl⟩,rfl⟩⟩⟩
theorem tz_56:TyZ Tryz.prog 56 (kMp kStr kBool) ([]:List (ByteArray×Bool)):=⟨⟨(.map none),fun _=>by kernel_rfl,fun φ=>⟨[.map none],(.inl ⟨rfl,rfl⟩),rfl⟩⟩⟩
theorem tz_59:TyZ Tryz.prog 59 kObject zObject:=⟨⟨(.agg #[.string ⟨#[]⟩,.int .i64 0,.int .i64 0,.int .i64 0,.slice none 0 0,.slice none 0 0]),fun _=>by kernel_rfl,fun φ=>⟨[.string ⟨#[]⟩,.int .i64 0,.int .i64 0,.int .i64 0,.slice none 0 0,.slice none 0 0],⟨[.string ⟨#[]⟩],[.int .i64 0,.int .i64 0,.int .i64 0,.slice none 0 0,.slice none 0 0],rfl,rfl,⟨[.int .i64 0],[.int .i64 0,.int .i64 0,.slice none 0 0,.slice none 0 0],rfl,rfl,⟨[.int .i64 0,.int .i64 0],[.slice none 0 0,.slice none 0 0],rfl,⟨[.int .i64 0],[.int .i64 0],rfl,rfl,rfl⟩,⟨[.slice none 0 0],[.slice none 0 0],rfl,⟨none,0,rfl,Nat.le_refl _,by simp [maxLen],fun h=>absurd rfl h⟩,⟨none,0,rfl,Nat.le_refl _,by simp [maxLen],fun h=>absurd rfl h⟩⟩⟩⟩⟩,rfl⟩⟩⟩
theorem tz_73:TyZ Tryz.prog 73 kTag zTag:=⟨⟨(.agg #[.string ⟨#[]⟩,.string ⟨#[]⟩]),fun _=>by kernel_rfl,fun φ=>⟨[.string ⟨#[]⟩,.string ⟨#[]⟩],⟨[.string ⟨#[]⟩],[.string ⟨#[]⟩],rfl,rfl,rfl⟩,rfl⟩⟩⟩
theorem tz_76:TyZ Tryz.prog 76 Jy zt:=⟨⟨(.agg #[.slice none 0 0,.map none]),fun _=>by kernel_rfl,fun φ=>⟨[.slice none 0 0,.map none],⟨[.slice none 0 0],[.map none],rfl,⟨none,0,rfl,Nat.le_refl _,by simp [maxLen],fun h=>absurd rfl h⟩,(.inl ⟨rfl,rfl⟩)⟩,rfl⟩⟩⟩
theorem tz_82:TyZ Tryz.prog 82 Ju Vd:=⟨⟨(.agg #[.string ⟨#[]⟩,.string ⟨#[]⟩,.slice none 0 0]),fun _=>by kernel_rfl,fun φ=>⟨[.string ⟨#[]⟩,.string ⟨#[]⟩,.slice none 0 0],⟨[.string ⟨#[]⟩,.string ⟨#[]⟩],[.slice none 0 0],rfl,⟨[.string ⟨#[]⟩],[.string ⟨#[]⟩],rfl,rfl,rfl⟩,⟨none,0,rfl,Nat.le_refl _,by simp [maxLen],fun h=>absurd rfl h⟩⟩,rfl⟩⟩⟩
theorem tz_9:TyZ Tryz.prog 9 kStr (⟨#[]⟩:ByteArray):=⟨⟨(.string ⟨#[]⟩),fun _=>by kernel_rfl,fun φ=>⟨[.string ⟨#[]⟩],rfl,rfl⟩⟩⟩
theorem tz_92:TyZ Tryz.prog 92 (kPair (kInt .i64) (kInt .i64)) ((0:Int),(0:Int)):=⟨⟨(.agg #[.int .i64 0,.int .i64 0]),fun _=>by kernel_rfl,fun φ=>⟨[.int .i64 0,.int .i64 0],⟨[.int .i64 0],[.int .i64 0],rfl,rfl,rfl⟩,rfl⟩⟩⟩
theorem jb3:EqTy Tryz.prog 37 kPoint Vg:=eqty_of rfl (by kernel_rfl) rfl (eqin_struct Tryz.underlying37 rfl (by kernel_rfl) rfl (eqs_cons rfl (⟨fun _=>by kernel_rfl,fun _=>by kernel_rfl⟩:Ty Tryz.prog 3 (kInt .i64)) Vx (eqin_int Tryz.underlying3) rfl (eqs_last (D:=1) rfl (⟨fun _=>by kernel_rfl,fun _=>by kernel_rfl⟩:Ty Tryz.prog 3 (kInt .i64)) qn (eqin_int Tryz.underlying3) rfl)))
theorem eqty_39:EqTy Tryz.prog 39 kSegment ja2:=eqty_of rfl (by kernel_rfl) rfl (eqin_struct Tryz.underlying39 rfl (by kernel_rfl) rfl (eqs_cons rfl (⟨fun _=>by kernel_rfl,fun _=>by kernel_rfl⟩:Ty Tryz.prog 37 kPoint) Jf (eqin_struct Tryz.underlying37 rfl (by kernel_rfl) rfl (eqs_cons rfl (⟨fun _=>by kernel_rfl,fun _=>by kernel_rfl⟩:Ty Tryz.prog 3 (kInt .i64)) Vx (eqin_int Tryz.underlying3) rfl (eqs_last (D:=1) rfl (⟨fun _=>by kernel_rfl,fun _=>by kernel_rfl⟩:Ty Tryz.prog 3 (kInt .i64)) qn (eqin_int Tryz.underlying3) rfl))) rfl (eqs_last (D:=2) rfl (⟨fun _=>by kernel_rfl,fun _=>by kernel_rfl⟩:Ty Tryz.prog 37 kPoint) Jg (eqin_struct Tryz.underlying37 rfl (by kernel_rfl) rfl (eqs_cons rfl (⟨fun _=>by kernel_rfl,fun _=>by kernel_rfl⟩:Ty Tryz.prog 3 (kInt .i64)) Vx (eqin_int Tryz.underlying3) rfl (eqs_last (D:=1) rfl (⟨fun _=>by kernel_rfl,fun _=>by kernel_rfl⟩:Ty Tryz.prog 3 (kInt .i64)) qn (eqin_int Tryz.underlying3) rfl))) rfl)))
theorem eqty_50:EqTy Tryz.prog 50 (kPair kStr kStr) eq_a50:=eqty_of rfl (by kernel_rfl) rfl (eqin_arr2 Tryz.underlying50 (⟨fun _=>by kernel_rfl,fun _=>by kernel_rfl⟩:Ty Tryz.prog 9 kStr) (eqin_str Tryz.underlying9))
theorem mixed:Tryz.prog.follows .mixedOrders=true:=by kernel_rfl
def zm.F (o1:Object) (t1:BA):W Bool:=W.ret (sEq o1.Id t1)
theorem zm.ok {o1:Object} {t1:BA} {Q:Bool→Prop} (hF:zm.F o1 t1 Q):Con Tryz.prog 59 [.tv kObject o1,.ptr kStr t1] [] (fun ta rs'=>∃ (r:Bool),Q r∧ta=.tv kBool r∧rs'=[]):=by
 refine Con.i Tryz.func59 Tryz.ntmps59 R R (fun C=>?_)
 unfold zm.F at hF
 refine At.seq (At.region (At.f R (jy R R R (ja R)) ?_))
 rintro _ _ ⟨g1,rfl,rfl⟩
 refine At.d R R R R (jd (x:=(.tv kBool false)) (jl _)) ?_
 refine At.done (At.vl (At.seq (At.region (At.d R R R R (je (ja R) zg) ?_))))
 refine At.d R R R R (jc (ja R) 0 R qm ty_9) ?_
 refine At.d R R R R (vw (K:=kStr) (ja R) ty_9) ?_
 refine At.d R R R R (jk (ja R) (ja R) bin_seql) ?_
 refine At.d R R R R (jd (x:=(.tv kBool (sEq o1.Id t1))) (ja R)) ?_
 refine At.done (At.vl (At.ret ?_))
 exact At.j rfl (rv_tmp rfl) [] rfl ⟨(sEq o1.Id t1),hF,rfl,rfl⟩
def Jt.c1:W Int:=W.ret (-1:Int)
def Jt.l1 (s1:(List Object)) (c1:BA) (K1:W Int) (A1:Int→W Int) (t6:Int):W Int:=W.ite (decide (t6<(s1.length:Int))) (W.req (0≤t6∧t6<(s1.length:Int)) (W.bind (zm.F (rd zObject s1 t6) c1) (fun r5=>W.ite r5 (W.ret t6) (A1 (w64 (t6+(1:Int))))))) (K1)
def Jt.F (s1:(List Object)) (c1:BA):W Int:=W.ex fun n=>W.iter1 (Jt.l1 s1 c1 (Jt.c1)) n (0:Int)
theorem Jt.ok {s1:(List Object)} {c1:BA} {Q:Int→Prop} (hF:Jt.F s1 c1 Q):Con Tryz.prog 58 [.tv (kSlice kObject) s1,.cls 59 0 (tupl [.ptr kStr c1])] [] (fun ta rs'=>∃ (r:Int),Q r∧ta=.tv (kInt .i64) r∧rs'=[]):=by
 refine Con.i Tryz.func58 Tryz.ntmps58 R R (fun C=>?_)
 unfold Jt.F at hF
 refine At.seq (At.region (At.d R R R R (jd (x:=(.tv (kInt .i64) (0:Int))) (ji _ _)) ?_))
 refine At.done (At.vl ?_)
 refine At.cut (fun rs L=>∃ _:Unit,Jt.c1 Q∧rs=[]∧L=mkL []) ?_ ?_
 ·refine At.seq (At.region (At.d R R R R (jb (x:=(.tv (kSlice kObject) s1)) (ja R)) ?_))
  refine At.d R R R R (jt (ja R) Tryz.underlying22) ?_
  refine At.d R R R R (jb (x:=(.tv (kInt .i64) (0:Int))) (ji _ _)) ?_
  refine At.done (At.vl (At.block ?_))
  obtain ⟨n1,hF⟩:=hF
  refine At.w [] R [(0,(.tv (kSlice kObject) s1)),(1,(.cls 59 0 (tupl [(.ptr kStr c1)]))),(7,(.tv (kInt .i64) (s1.length:Int))),(8,(.tv (kInt .i64) (0:Int)))] ⟨R,R,R,R,trivial⟩ ?_
  refine At.loop (fun m rs L=>∃ (t6:Int),W.iter1 (Jt.l1 s1 c1 (Jt.c1)) m t6 Q∧rs=[]∧L=mkL [(0,(.tv (kSlice kObject) s1)),(1,(.cls 59 0 (tupl [(.ptr kStr c1)]))),(7,(.tv (kInt .i64) (s1.length:Int))),(8,(.tv (kInt .i64) t6))]) ?_ ?_ (m:=n1) ⟨(0:Int),hF,R,R⟩
  ·rintro rs L ⟨_,hF,_,_⟩;exact hF
  ·rintro m1 _ _ ⟨t6,hF,rfl,rfl⟩
   replace hF:=W.iter1_s hF
   unfold Jt.l1 at hF
   refine At.seq (At.region (At.d R R R R (jk (ja R) (ja R) vg) ?_))
   refine At.done (At.vl (At.seq ?_))
   refine At.cond (ja R) (fun hb9=>?_) (fun hb9=>?_)
   ·replace hF:=W.ite_t hb9 hF
    refine At.skip (At.vl (At.seq (At.block (At.seq (At.region (At.d R R R R (jb (x:=(.tv (kInt .i64) t6)) (ja R)) ?_))))))
    refine At.d R R R R (jd (x:=(.tv (kInt .i64) t6)) (ja R)) ?_
    refine At.done (At.vl (At.seq (At.region (At.d R R R R (jb (x:=(.cls 59 0 (tupl [(.ptr kStr c1)]))) (ja R)) ?_))))
    refine At.d R R R R (jb (x:=(.tv (kSlice kObject) s1)) (ja R)) ?_
    refine At.d R R R R (jb (x:=(.tv (kInt .i64) t6)) (ja R)) ?_
    obtain ⟨hq5,hF⟩:=hF
    refine At.d R R R R (vj zObject (ja R) (ja R) Tryz.underlying22 ty_59 hq5) ?_
    refine At.d R R R R (vw (K:=kObject) (ja R) ty_59) ?_
    replace hF:=W.vq hF
    refine At.f R (jn R R jp (ent_val0 R (ja R) en_59 (jf (ja R) jg)) (zm.ok hF) (by rintro _ _ ⟨r,_,rfl,_⟩;exact vp)) ?_
    rintro _ _ ⟨_,_,⟨r5,hF,rfl,rfl⟩,rfl,rfl⟩
    refine At.done (At.vl ?_)
    refine At.cond (ja R) (fun hb10=>?_) (fun hb10=>?_)
    ·replace hF:=W.ite_t hb10 hF
     refine At.seq (At.region (At.d R R R R (jb (x:=(.tv (kInt .i64) t6)) (ja R)) ?_))
     refine At.d R R R R (jd (x:=(.tv (kInt .i64) t6)) (ja R)) ?_
     refine At.done (At.vl (At.ret ?_))
     refine At.q ?_
     refine At.vm (At.vm ?_)
     refine At.q ?_
     refine At.vm ?_
     exact At.j rfl (rv_tmp rfl) [] rfl ⟨t6,hF,rfl,rfl⟩
    ·replace hF:=W.ite_f hb10 hF
     refine At.skip ?_
     refine At.n ?_
     refine At.vl (At.region (At.d R R R R (jk (ja R) (ji _ _) vf) ?_))
     refine At.d R R R R (jb (x:=(.tv (kInt .i64) (w64 (t6+(1:Int))))) (ja R)) ?_
     refine At.done (At.vl ?_)
     refine At.w [] R [(0,(.tv (kSlice kObject) s1)),(1,(.cls 59 0 (tupl [(.ptr kStr c1)]))),(7,(.tv (kInt .i64) (s1.length:Int))),(8,(.tv (kInt .i64) (w64 (t6+(1:Int)))))] ⟨R,R,R,R,trivial⟩ (At.r ⟨(w64 (t6+(1:Int))),hF,R,R⟩)
   ·replace hF:=W.ite_f hb9 hF
    refine At.exit ?_
    refine At.x (At.x ?_)
    refine At.h ?_
    refine At.vl ?_
    refine At.w [] R [] trivial (At.r ⟨(),hF,R,R⟩)
 ·rintro _ _ ⟨_,hF,rfl,rfl⟩
  unfold Jt.c1 at hF
  refine At.seq (At.region (At.d R R R R (jd (x:=(.tv (kInt .i64) (-1:Int))) (ji _ _)) ?_))
  refine At.done (At.vl (At.ret ?_))
  exact At.j rfl (rv_tmp rfl) [] rfl ⟨(-1:Int),hF,rfl,rfl⟩
def ja4.F (m1:Map) (id1:BA):W Int:=W.bind (Jt.F m1.Objects id1) (fun r1=>W.ret r1)
theorem ja4.ok {m1:Map} {id1:BA} {Q:Int→Prop} (hF:ja4.F m1 id1 Q):Con Tryz.prog 25 [.tv kMap m1,.tv kStr id1] [] (fun ta rs'=>∃ (r:Int),Q r∧ta=.tv (kInt .i64) r∧rs'=[]):=by
 refine Con.i Tryz.func25 Tryz.ntmps25 R R (fun C=>?_)
 unfold ja4.F at hF
 refine At.seq (At.region (At.f R (jy R R R (ja R)) ?_))
 rintro _ _ ⟨g1,rfl,rfl⟩
 refine At.f R (jy R R R (ja R)) ?_
 rintro _ _ ⟨g2,rfl,rfl⟩
 refine At.d R R R R (jd (x:=(.tv (kInt .i64) (0:Int))) (ji _ _)) ?_
 refine At.done (At.vl (At.seq (At.region (At.d R R R R (je (ja R) qq) ?_))))
 refine At.d R R R R (jc (ja R) 1 R qc ty_22) ?_
 refine At.d R R R R (does_cls (firsts:=[]) (caps:=[.tmp 3]) R (jf (ja R) jg)) ?_
 replace hF:=W.vq hF
 refine At.f R (jn R R (lends_box 0 7 R R (lend1_cls (lend1_here lend1_ptr)) jp) (jq R en_58 (jf (ja R) (jf (ja R) jg))) (Jt.ok hF) (by rintro _ _ ⟨r,_,rfl,_⟩;exact flat_int)) ?_
 rintro _ _ ⟨_,_,⟨r1,hF,rfl,rfl⟩,rfl,rfl⟩
 refine At.d R R R R (jd (x:=(.tv (kInt .i64) r1)) (ja R)) ?_
 refine At.done (At.vl (At.ret ?_))
 exact At.j rfl (rv_tmp rfl) [] rfl ⟨r1,hF,rfl,rfl⟩
def yd.F (a1:BA) (b1:BA):W Int:=W.ret (Extern.BytealgCompare.cmp a1 b1)
theorem yd.ok {a1:BA} {b1:BA} {Q:Int→Prop} (hF:yd.F a1 b1 Q):Con Tryz.prog 135 [.tv kStr a1,.tv kStr b1] [] (fun ta rs'=>∃ (r:Int),Q r∧ta=.tv (kInt .i64) r∧rs'=[]):=by
 refine Con.i Tryz.func135 Tryz.ntmps135 R R (fun C=>?_)
 unfold yd.F at hF
 refine At.seq (At.region (At.d R R R R (jd (x:=(.tv (kInt .i64) (0:Int))) (ji _ _)) ?_))
 refine At.done (At.vl (At.seq (At.region (At.d R R R R (jb (x:=(.tv kStr a1)) (ja R)) ?_))))
 refine At.d R R R R (jb (x:=(.tv kStr b1)) (ja R)) ?_
 refine At.d R R R R (does_cmpstring ex_156 (ja R) (ja R)) ?_
 refine At.d R R R R (jd (x:=(.tv (kInt .i64) (Extern.BytealgCompare.cmp a1 b1))) (ja R)) ?_
 refine At.done (At.vl (At.ret ?_))
 exact At.j rfl (rv_tmp rfl) [] rfl ⟨(Extern.BytealgCompare.cmp a1 b1),hF,rfl,rfl⟩
def zn.F (a1:BA) (b1:BA):W Int:=W.bind (yd.F a1 b1) (fun r1=>W.ret r1)
theorem zn.ok {a1:BA} {b1:BA} {Q:Int→Prop} (hF:zn.F a1 b1 Q):Con Tryz.prog 98 [.tv kStr a1,.tv kStr b1] [] (fun ta rs'=>∃ (r:Int),Q r∧ta=.tv (kInt .i64) r∧rs'=[]):=by
 refine Con.i Tryz.func98 Tryz.ntmps98 R R (fun C=>?_)
 unfold zn.F at hF
 refine At.seq (At.region (At.d R R R R (jd (x:=(.tv (kInt .i64) (0:Int))) (ji _ _)) ?_))
 refine At.done (At.vl (At.seq (At.region (At.d R R R R (jb (x:=(.tv kStr a1)) (ja R)) ?_))))
 refine At.d R R R R (jb (x:=(.tv kStr b1)) (ja R)) ?_
 replace hF:=W.vq hF
 refine At.f R (jn R R jp (jq R en_135 (jf (ja R) (jf (ja R) jg))) (yd.ok hF) (by rintro _ _ ⟨r,_,rfl,_⟩;exact flat_int)) ?_
 rintro _ _ ⟨_,_,⟨r1,hF,rfl,rfl⟩,rfl,rfl⟩
 refine At.d R R R R (jd (x:=(.tv (kInt .i64) r1)) (ja R)) ?_
 refine At.done (At.vl (At.ret ?_))
 exact At.j rfl (rv_tmp rfl) [] rfl ⟨r1,hF,rfl,rfl⟩
def ja3.F (o1:Object) (id1:BA):W Int:=W.bind (zn.F o1.Id id1) (fun r1=>W.ret r1)
theorem ja3.ok {o1:Object} {id1:BA} {Q:Int→Prop} (hF:ja3.F o1 id1 Q):Con Tryz.prog 97 [.tv kObject o1,.tv kStr id1] [] (fun ta rs'=>∃ (r:Int),Q r∧ta=.tv (kInt .i64) r∧rs'=[]):=by
 refine Con.i Tryz.func97 Tryz.ntmps97 R R (fun C=>?_)
 unfold ja3.F at hF
 refine At.seq (At.region (At.f R (jy R R R (ja R)) ?_))
 rintro _ _ ⟨g1,rfl,rfl⟩
 refine At.d R R R R (jd (x:=(.tv (kInt .i64) (0:Int))) (ji _ _)) ?_
 refine At.done (At.vl (At.seq (At.region (At.d R R R R (je (ja R) zg) ?_))))
 refine At.d R R R R (jc (ja R) 0 R qm ty_9) ?_
 refine At.d R R R R (jb (x:=(.tv kStr id1)) (ja R)) ?_
 replace hF:=W.vq hF
 refine At.f R (jn R R jp (jq R en_98 (jf (ja R) (jf (ja R) jg))) (zn.ok hF) (by rintro _ _ ⟨r,_,rfl,_⟩;exact flat_int)) ?_
 rintro _ _ ⟨_,_,⟨r1,hF,rfl,rfl⟩,rfl,rfl⟩
 refine At.d R R R R (jd (x:=(.tv (kInt .i64) r1)) (ja R)) ?_
 refine At.done (At.vl (At.ret ?_))
 exact At.j rfl (rv_tmp rfl) [] rfl ⟨r1,hF,rfl,rfl⟩
def Js.c1 (x1:(List Object)) (target1:BA) (i4:Int):W (Int×Bool):=W.req ((decide (i4<(x1.length:Int)))=true→0≤i4∧i4<(x1.length:Int)) (W.bind (W.ite (decide (i4<(x1.length:Int))) (ja3.F (rd zObject x1 i4) target1) (W.ret (0:Int))) (fun r3=>W.ret (i4,((decide (i4<(x1.length:Int)))&&(r3==(0:Int))))))
def Js.l1 (x1:(List Object)) (target1:BA) (K1:Int→W (Int×Bool)) (A1:Int→Int→W (Int×Bool)) (i7:Int) (j6:Int):W (Int×Bool):=W.ite (decide (i7<j6)) (W.req (0≤(1:Int)) (W.req (0≤(w64 (Int.fdiv (IntKind.wrap .u64 (w64 (i7+j6))) (2 ^ (min (1:Int).toNat (IntKind.bits .u64)))))∧(w64 (Int.fdiv (IntKind.wrap .u64 (w64 (i7+j6))) (2 ^ (min (1:Int).toNat (IntKind.bits .u64)))))<(x1.length:Int)) (W.bind (ja3.F (rd zObject x1 (w64 (Int.fdiv (IntKind.wrap .u64 (w64 (i7+j6))) (2 ^ (min (1:Int).toNat (IntKind.bits .u64)))))) target1) (fun r6=>W.ite (decide (r6<(0:Int))) (A1 (w64 ((w64 (Int.fdiv (IntKind.wrap .u64 (w64 (i7+j6))) (2 ^ (min (1:Int).toNat (IntKind.bits .u64)))))+(1:Int))) j6) (A1 i7 (w64 (Int.fdiv (IntKind.wrap .u64 (w64 (i7+j6))) (2 ^ (min (1:Int).toNat (IntKind.bits .u64)))))))))) (K1 i7)
def Js.F (x1:(List Object)) (target1:BA):W (Int×Bool):=W.ex fun n=>W.iter2 (Js.l1 x1 target1 (Js.c1 x1 target1)) n (0:Int) (x1.length:Int)
theorem Js.ok {x1:(List Object)} {target1:BA} {Q:(Int×Bool)→Prop} (hF:Js.F x1 target1 Q):Con Tryz.prog 96 [.tv (kSlice kObject) x1,.tv kStr target1,.cls 97 0 (tupl [])] [] (fun ta rs'=>∃ (r:(Int×Bool)),Q r∧ta=.tup2 (.tv (kInt .i64) r.1) (.tv kBool r.2)∧rs'=[]):=by
 refine Con.i Tryz.func96 Tryz.ntmps96 R R (fun C=>?_)
 unfold Js.F at hF
 refine At.seq (At.region (At.d R R R R (jd (x:=(.tv (kInt .i64) (0:Int))) (ji _ _)) ?_))
 refine At.d R R R R (jd (x:=(.tv kBool false)) (jl _)) ?_
 refine At.done (At.vl (At.seq (At.region (At.d R R R R (jb (x:=(.tv (kSlice kObject) x1)) (ja R)) ?_))))
 refine At.d R R R R (jt (ja R) Tryz.underlying22) ?_
 refine At.d R R R R (jd (x:=(.tv (kInt .i64) (x1.length:Int))) (ja R)) ?_
 refine At.done (At.vl (At.seq (At.region (At.d R R R R (jb (x:=(.tv (kInt .i64) (x1.length:Int))) (ja R)) ?_))))
 refine At.d R R R R (jd (x:=(.tv (kInt .i64) (0:Int))) (ji _ _)) ?_
 refine At.d R R R R (jd (x:=(.tv (kInt .i64) (x1.length:Int))) (ja R)) ?_
 refine At.done (At.vl ?_)
 refine At.cut (fun rs L=>∃ (i4:Int),Js.c1 x1 target1 i4 Q∧rs=[]∧L=mkL [(0,(.tv (kSlice kObject) x1)),(1,(.tv kStr target1)),(2,(.cls 97 0 (tupl []))),(8,(.tv (kInt .i64) (x1.length:Int))),(9,(.tv (kInt .i64) i4))]) ?_ ?_
 ·refine At.block ?_
  obtain ⟨n1,hF⟩:=hF
  refine At.w [] R [(0,(.tv (kSlice kObject) x1)),(1,(.tv kStr target1)),(2,(.cls 97 0 (tupl []))),(8,(.tv (kInt .i64) (x1.length:Int))),(9,(.tv (kInt .i64) (0:Int))),(10,(.tv (kInt .i64) (x1.length:Int)))] ⟨R,R,R,R,R,R,trivial⟩ ?_
  refine At.loop (fun m rs L=>∃ (i7:Int) (j6:Int),W.iter2 (Js.l1 x1 target1 (Js.c1 x1 target1)) m i7 j6 Q∧rs=[]∧L=mkL [(0,(.tv (kSlice kObject) x1)),(1,(.tv kStr target1)),(2,(.cls 97 0 (tupl []))),(8,(.tv (kInt .i64) (x1.length:Int))),(9,(.tv (kInt .i64) i7)),(10,(.tv (kInt .i64) j6))]) ?_ ?_ (m:=n1) ⟨(0:Int),(x1.length:Int),hF,R,R⟩
  ·rintro rs L ⟨_,_,hF,_,_⟩;exact hF
  ·rintro m1 _ _ ⟨i7,j6,hF,rfl,rfl⟩
   replace hF:=W.iter2_s hF
   unfold Js.l1 at hF
   refine At.seq (At.seq (At.region (At.d R R R R (jb (x:=(.tv (kInt .i64) i7)) (ja R)) ?_)))
   refine At.d R R R R (jb (x:=(.tv (kInt .i64) j6)) (ja R)) ?_
   refine At.d R R R R (jk (ja R) (ja R) vg) ?_
   refine At.done (At.vl ?_)
   refine At.cond (ja R) (fun hb9=>?_) (fun hb9=>?_)
   ·replace hF:=W.ite_t hb9 hF
    refine At.skip (At.vl (At.block (At.seq (At.region (At.d R R R R (jb (x:=(.tv (kInt .i64) i7)) (ja R)) ?_)))))
    refine At.d R R R R (jb (x:=(.tv (kInt .i64) j6)) (ja R)) ?_
    refine At.d R R R R (jk (ja R) (ja R) vf) ?_
    refine At.d R R R R (does_conv_int (ja R) (by kernel_rfl) Tryz.underlying61) ?_
    obtain ⟨hq10,hF⟩:=hF
    refine At.d R R R R (jk (ja R) (ji _ _) (bin_shr hq10)) ?_
    refine At.d R R R R (does_conv_int (ja R) (by kernel_rfl) Tryz.underlying3) ?_
    refine At.d R R R R (jd (x:=(.tv (kInt .i64) (w64 (Int.fdiv (IntKind.wrap .u64 (w64 (i7+j6))) (2 ^ (min (1:Int).toNat (IntKind.bits .u64))))))) (ja R)) ?_
    refine At.done (At.vl (At.seq (At.region (At.d R R R R (jb (x:=(.cls 97 0 (tupl []))) (ja R)) ?_))))
    refine At.d R R R R (jb (x:=(.tv (kSlice kObject) x1)) (ja R)) ?_
    refine At.d R R R R (jb (x:=(.tv (kInt .i64) (w64 (Int.fdiv (IntKind.wrap .u64 (w64 (i7+j6))) (2 ^ (min (1:Int).toNat (IntKind.bits .u64))))))) (ja R)) ?_
    obtain ⟨hq11,hF⟩:=hF
    refine At.d R R R R (vj zObject (ja R) (ja R) Tryz.underlying22 ty_59 hq11) ?_
    refine At.d R R R R (vw (K:=kObject) (ja R) ty_59) ?_
    refine At.d R R R R (jb (x:=(.tv kStr target1)) (ja R)) ?_
    replace hF:=W.vq hF
    refine At.f R (jn R R jp (ent_val0 R (ja R) en_97 (jf (ja R) (jf (ja R) jg))) (ja3.ok hF) (by rintro _ _ ⟨r,_,rfl,_⟩;exact flat_int)) ?_
    rintro _ _ ⟨_,_,⟨r6,hF,rfl,rfl⟩,rfl,rfl⟩
    refine At.d R R R R (jk (ja R) (ji _ _) vg) ?_
    refine At.done (At.vl ?_)
    refine At.cond (ja R) (fun hb10=>?_) (fun hb10=>?_)
    ·replace hF:=W.ite_t hb10 hF
     refine At.region (At.d R R R R (jb (x:=(.tv (kInt .i64) (w64 (Int.fdiv (IntKind.wrap .u64 (w64 (i7+j6))) (2 ^ (min (1:Int).toNat (IntKind.bits .u64))))))) (ja R)) ?_)
     refine At.d R R R R (jk (ja R) (ji _ _) vf) ?_
     refine At.d R R R R (jd (x:=(.tv (kInt .i64) (w64 ((w64 (Int.fdiv (IntKind.wrap .u64 (w64 (i7+j6))) (2 ^ (min (1:Int).toNat (IntKind.bits .u64)))))+(1:Int))))) (ja R)) ?_
     refine At.done ?_
     refine At.n ?_
     refine At.vl ?_
     refine At.w [] R [(0,(.tv (kSlice kObject) x1)),(1,(.tv kStr target1)),(2,(.cls 97 0 (tupl []))),(8,(.tv (kInt .i64) (x1.length:Int))),(9,(.tv (kInt .i64) (w64 ((w64 (Int.fdiv (IntKind.wrap .u64 (w64 (i7+j6))) (2 ^ (min (1:Int).toNat (IntKind.bits .u64)))))+(1:Int))))),(10,(.tv (kInt .i64) j6))] ⟨R,R,R,R,R,R,trivial⟩ (At.r ⟨(w64 ((w64 (Int.fdiv (IntKind.wrap .u64 (w64 (i7+j6))) (2 ^ (min (1:Int).toNat (IntKind.bits .u64)))))+(1:Int))),j6,hF,R,R⟩)
    ·replace hF:=W.ite_f hb10 hF
     refine At.region (At.d R R R R (jb (x:=(.tv (kInt .i64) (w64 (Int.fdiv (IntKind.wrap .u64 (w64 (i7+j6))) (2 ^ (min (1:Int).toNat (IntKind.bits .u64))))))) (ja R)) ?_)
     refine At.d R R R R (jd (x:=(.tv (kInt .i64) (w64 (Int.fdiv (IntKind.wrap .u64 (w64 (i7+j6))) (2 ^ (min (1:Int).toNat (IntKind.bits .u64))))))) (ja R)) ?_
     refine At.done ?_
     refine At.n ?_
     refine At.vl ?_
     refine At.w [] R [(0,(.tv (kSlice kObject) x1)),(1,(.tv kStr target1)),(2,(.cls 97 0 (tupl []))),(8,(.tv (kInt .i64) (x1.length:Int))),(9,(.tv (kInt .i64) i7)),(10,(.tv (kInt .i64) (w64 (Int.fdiv (IntKind.wrap .u64 (w64 (i7+j6))) (2 ^ (min (1:Int).toNat (IntKind.bits .u64)))))))] ⟨R,R,R,R,R,R,trivial⟩ (At.r ⟨i7,(w64 (Int.fdiv (IntKind.wrap .u64 (w64 (i7+j6))) (2 ^ (min (1:Int).toNat (IntKind.bits .u64))))),hF,R,R⟩)
   ·replace hF:=W.ite_f hb9 hF
    refine At.exit ?_
    refine At.x (At.x ?_)
    refine At.h ?_
    refine At.vl ?_
    refine At.w [] R [(0,(.tv (kSlice kObject) x1)),(1,(.tv kStr target1)),(2,(.cls 97 0 (tupl []))),(8,(.tv (kInt .i64) (x1.length:Int))),(9,(.tv (kInt .i64) i7))] ⟨R,R,R,R,R,trivial⟩ (At.r ⟨i7,hF,R,R⟩)
 ·rintro _ _ ⟨i4,hF,rfl,rfl⟩
  unfold Js.c1 at hF
  refine At.seq (At.region (At.d R R R R (jb (x:=(.tv (kInt .i64) i4)) (ja R)) ?_))
  refine At.d R R R R (jb (x:=(.tv (kInt .i64) i4)) (ja R)) ?_
  refine At.d R R R R (jb (x:=(.tv (kInt .i64) (x1.length:Int))) (ja R)) ?_
  refine At.d R R R R (jk (ja R) (ja R) vg) ?_
  refine At.d R R R R (jb (x:=(.tv kBool (decide (i4<(x1.length:Int))))) (ja R)) ?_
  refine At.vn R R R R (jw R) R (fun hg1=>(jb (x:=(.cls 97 0 (tupl []))) (ja R))) ?_
  refine At.vn R R R R (jw R) R (fun hg2=>(jb (x:=(.tv (kSlice kObject) x1)) (ja R))) ?_
  refine At.vn R R R R (jw R) R (fun hg3=>(jb (x:=(.tv (kInt .i64) i4)) (ja R))) ?_
  obtain ⟨hq5,hF⟩:=hF
  refine At.vn R R R R (jw R) R (fun hg4=>(vj zObject (jh R hg4) (jh R hg4) Tryz.underlying22 ty_59 (hq5 hg4))) ?_
  refine At.vn R R R R (jw R) R (fun hg5=>(vw (K:=kObject) (jh R hg5) ty_59)) ?_
  refine At.vn R R R R (jw R) R (fun hg6=>(jb (x:=(.tv kStr target1)) (ja R))) ?_
  replace hF:=W.vq hF
  refine At.effG R R R R (jw R) hF (fun r=>.tv (kInt .i64) r) (fun hg7 hF=>vr (jn R R jp (ent_val0 R (jh R hg7) en_97 (jf (jh R hg7) (jf (jh R hg7) jg))) (ja3.ok hF) (by rintro _ _ ⟨r,_,rfl,_⟩;exact flat_int)) (by rintro _ _ ⟨_,_,⟨r,hF,rfl,rfl⟩,rfl,rfl⟩;exact ⟨r,hF,R,R⟩)) (fun r3 hF=>?_)
  refine At.vn R R R R (jw R) R (fun hg8=>(jk (jh R hg8) (ji _ _) bin_eql)) ?_
  refine At.d R R R R (jm (ja R) (ja R) (jl _) vh) ?_
  refine At.d R R R R (jd (x:=(.tv (kInt .i64) i4)) (ja R)) ?_
  refine At.d R R R R (jd (x:=(.tv kBool ((decide (i4<(x1.length:Int)))&&(r3==(0:Int))))) (ja R)) ?_
  refine At.done (At.vl (At.ret ?_))
  exact At.ret_2 rfl (rv_tmp rfl) (rv_tmp rfl) [] rfl ⟨(i4,((decide (i4<(x1.length:Int)))&&(r3==(0:Int)))),hF,rfl,rfl⟩
def atlas_at.F (m1:Map) (id1:BA):W (Int×Bool):=W.bind (Js.F m1.Objects id1) (fun r1=>W.ret (r1.1,r1.2))
theorem atlas_at.ok {m1:Map} {id1:BA} {Q:(Int×Bool)→Prop} (hF:atlas_at.F m1 id1 Q):Con Tryz.prog 61 [.tv kMap m1,.tv kStr id1] [] (fun ta rs'=>∃ (r:(Int×Bool)),Q r∧ta=.tup2 (.tv (kInt .i64) r.1) (.tv kBool r.2)∧rs'=[]):=by
 refine Con.i Tryz.func61 Tryz.ntmps61 R R (fun C=>?_)
 unfold atlas_at.F at hF
 refine At.seq (At.region (At.f R (jy R R R (ja R)) ?_))
 rintro _ _ ⟨g1,rfl,rfl⟩
 refine At.d R R R R (jd (x:=(.tv (kInt .i64) (0:Int))) (ji _ _)) ?_
 refine At.d R R R R (jd (x:=(.tv kBool false)) (jl _)) ?_
 refine At.done (At.vl (At.seq (At.region (At.d R R R R (je (ja R) qq) ?_))))
 refine At.d R R R R (jc (ja R) 0 R qc ty_22) ?_
 refine At.d R R R R (jb (x:=(.tv kStr id1)) (ja R)) ?_
 replace hF:=W.vq hF
 refine At.f R (jn R R jp (jq R en_96 (jf (ja R) (jf (ja R) (jf (opd_fn 97) jg)))) (Js.ok hF) (by rintro _ _ ⟨r,_,rfl,_⟩;exact (flat_tup2 flat_int vp))) ?_
 rintro _ _ ⟨_,_,⟨r1,hF,rfl,rfl⟩,rfl,rfl⟩
 refine At.d R R R R (does_extract20 (ja R)) ?_
 refine At.d R R R R (does_extract21 (ja R)) ?_
 refine At.d R R R R (jd (x:=(.tv (kInt .i64) r1.1)) (ja R)) ?_
 refine At.d R R R R (jd (x:=(.tv kBool r1.2)) (ja R)) ?_
 refine At.done (At.vl (At.ret ?_))
 exact At.ret_2 rfl (rv_tmp rfl) (rv_tmp rfl) [] rfl ⟨(r1.1,r1.2),hF,rfl,rfl⟩
def yc.F (s1:BA) (c1:Int):W Int:=W.ret (sIndexByte s1 c1)
theorem yc.ok {s1:BA} {c1:Int} {Q:Int→Prop} (hF:yc.F s1 c1 Q):Con Tryz.prog 179 [.tv kStr s1,.tv (kInt .u8) c1] [] (fun ta rs'=>∃ (r:Int),Q r∧ta=.tv (kInt .i64) r∧rs'=[]):=by
 refine Con.i Tryz.func179 Tryz.ntmps179 R R (fun C=>?_)
 unfold yc.F at hF
 refine At.seq (At.region (At.d R R R R (jd (x:=(.tv (kInt .i64) (0:Int))) (ji _ _)) ?_))
 refine At.done (At.vl (At.seq (At.region (At.d R R R R (jb (x:=(.tv kStr s1)) (ja R)) ?_))))
 refine At.d R R R R (jb (x:=(.tv (kInt .u8) c1)) (ja R)) ?_
 refine At.d R R R R (does_indexByte ex_187 (ja R) (ja R)) ?_
 refine At.d R R R R (jd (x:=(.tv (kInt .i64) (sIndexByte s1 c1))) (ja R)) ?_
 refine At.done (At.vl (At.ret ?_))
 exact At.j rfl (rv_tmp rfl) [] rfl ⟨(sIndexByte s1 c1),hF,rfl,rfl⟩
def ww.F (s1:BA) (c1:Int):W Int:=W.bind (yc.F s1 c1) (fun r1=>W.ret r1)
theorem ww.ok {s1:BA} {c1:Int} {Q:Int→Prop} (hF:ww.F s1 c1 Q):Con Tryz.prog 155 [.tv kStr s1,.tv (kInt .u8) c1] [] (fun ta rs'=>∃ (r:Int),Q r∧ta=.tv (kInt .i64) r∧rs'=[]):=by
 refine Con.i Tryz.func155 Tryz.ntmps155 R R (fun C=>?_)
 unfold ww.F at hF
 refine At.seq (At.region (At.d R R R R (jd (x:=(.tv (kInt .i64) (0:Int))) (ji _ _)) ?_))
 refine At.done (At.vl (At.seq (At.region (At.d R R R R (jb (x:=(.tv kStr s1)) (ja R)) ?_))))
 refine At.d R R R R (jb (x:=(.tv (kInt .u8) c1)) (ja R)) ?_
 replace hF:=W.vq hF
 refine At.f R (jn R R jp (jq R en_179 (jf (ja R) (jf (ja R) jg))) (yc.ok hF) (by rintro _ _ ⟨r,_,rfl,_⟩;exact flat_int)) ?_
 rintro _ _ ⟨_,_,⟨r1,hF,rfl,rfl⟩,rfl,rfl⟩
 refine At.d R R R R (jd (x:=(.tv (kInt .i64) r1)) (ja R)) ?_
 refine At.done (At.vl (At.ret ?_))
 exact At.j rfl (rv_tmp rfl) [] rfl ⟨r1,hF,rfl,rfl⟩
def Vu.c1 (x4:(List Int)):W (List Int):=W.req (0≤(35:Int)∧(35:Int)<(256:Int)) (W.req (0≤(95:Int)∧(95:Int)<(256:Int)) (W.req (0≤(34:Int)∧(34:Int)<(256:Int)) (W.ret (yi (yi (yi x4 (35:Int) (2:Int)) (95:Int) (5:Int)) (34:Int) (7:Int)))))
def Vu.c2 (x7:(List Int)) (t10:Int) (A1:(List Int)→Int→W (List Int)) (t11:Bool):W (List Int):=W.ite t11 (W.req (0≤t10∧t10<(256:Int)) (A1 (yi x7 t10 (3:Int)) (w64 (t10+(1:Int))))) (W.ite ((decide ((48:Int)≤(IntKind.wrap .u8 t10)))&&(decide ((IntKind.wrap .u8 t10)≤(57:Int)))) (W.req (0≤t10∧t10<(256:Int)) (A1 (yi x7 t10 (4:Int)) (w64 (t10+(1:Int))))) (W.bind (ww.F (⟨#[32,9,10]⟩:BA) (IntKind.wrap .u8 t10)) (fun r9=>W.ite (decide ((0:Int)≤r9)) (W.req (0≤t10∧t10<(256:Int)) (A1 (yi x7 t10 (1:Int)) (w64 (t10+(1:Int))))) (W.bind (ww.F (⟨#[59,44,46,58,40,41,123,125,91,93,61,60,62,47,45]⟩:BA) (IntKind.wrap .u8 t10)) (fun r10=>W.ite (decide ((0:Int)≤r10)) (W.req (0≤t10∧t10<(256:Int)) (A1 (yi x7 t10 (6:Int)) (w64 (t10+(1:Int))))) (A1 x7 (w64 (t10+(1:Int)))))))))
def Vu.l1 (K1:(List Int)→W (List Int)) (A1:(List Int)→Int→W (List Int)) (x7:(List Int)) (t10:Int):W (List Int):=W.ite (decide (t10<(256:Int))) (W.ite ((decide ((97:Int)≤(IntKind.wrap .u8 t10)))&&(decide ((IntKind.wrap .u8 t10)≤(122:Int)))) ((Vu.c2 x7 t10 A1) ((decide ((97:Int)≤(IntKind.wrap .u8 t10)))&&(decide ((IntKind.wrap .u8 t10)≤(122:Int))))) ((Vu.c2 x7 t10 A1) ((decide ((65:Int)≤(IntKind.wrap .u8 t10)))&&(decide ((IntKind.wrap .u8 t10)≤(90:Int)))))) (K1 x7)
def Vu.F:W (List Int):=W.ex fun n=>W.iter2 (Vu.l1 (Vu.c1)) n (List.replicate 256 (0:Int)) (0:Int)
theorem Vu.ok {Q:(List Int)→Prop} (hF:Vu.F Q):Con Tryz.prog 130 [] [] (fun ta rs'=>∃ (r:(List Int)),Q r∧ta=.tv (kArr 256 (kInt .u8)) r∧rs'=[]):=by
 refine Con.i Tryz.func130 Tryz.ntmps130 R R (fun C=>?_)
 unfold Vu.F at hF
 refine At.seq (At.region (At.f R (eff_alloc R R R tz_176) ?_))
 rintro _ _ ⟨g1,rfl,rfl⟩
 refine At.done (At.vl (At.seq (At.region (At.f R (eff_alloc R R R tz_176) ?_))))
 rintro _ _ ⟨g2,rfl,rfl⟩
 refine At.done (At.vl ?_)
 refine At.cut (fun rs L=>∃ (x4:(List Int)),Vu.c1 x4 Q∧rs=[.box g1 176 (kArr 256 (kInt .u8)) (List.replicate 256 (0:Int)),.box g2 176 (kArr 256 (kInt .u8)) x4]∧L=mkL [(0,(.eq (.pointer (some ⟨g1,0,none⟩)))),(1,(.eq (.pointer (some ⟨g2,0,none⟩))))]) ?_ ?_
 ·refine At.seq (At.region (At.d R R R R (jb (x:=(.tv (kInt .i64) (0:Int))) (ji _ _)) ?_))
  refine At.done (At.vl (At.block ?_))
  obtain ⟨n1,hF⟩:=hF
  refine At.w [1,0] R [(0,(.eq (.pointer (some ⟨g1,0,none⟩)))),(1,(.eq (.pointer (some ⟨g2,0,none⟩)))),(4,(.tv (kInt .i64) (0:Int)))] ⟨R,R,R,trivial⟩ ?_
  refine At.loop (fun m rs L=>∃ (x7:(List Int)) (t10:Int),W.iter2 (Vu.l1 (Vu.c1)) m x7 t10 Q∧rs=[.box g1 176 (kArr 256 (kInt .u8)) (List.replicate 256 (0:Int)),.box g2 176 (kArr 256 (kInt .u8)) x7]∧L=mkL [(0,(.eq (.pointer (some ⟨g1,0,none⟩)))),(1,(.eq (.pointer (some ⟨g2,0,none⟩)))),(4,(.tv (kInt .i64) t10))]) ?_ ?_ (m:=n1) ⟨(List.replicate 256 (0:Int)),(0:Int),hF,R,R⟩
  ·rintro rs L ⟨_,_,hF,_,_⟩;exact hF
  ·rintro m1 _ _ ⟨x7,t10,hF,rfl,rfl⟩
   replace hF:=W.iter2_s hF
   unfold Vu.l1 at hF
   refine At.seq (At.region (At.d R R R R (jk (ja R) (ji _ _) vg) ?_))
   refine At.done (At.vl (At.seq ?_))
   refine At.cond (ja R) (fun hb25=>?_) (fun hb25=>?_)
   ·replace hF:=W.ite_t hb25 hF
    refine At.skip (At.vl (At.seq (At.block (At.seq (At.region (At.d R R R R (jb (x:=(.tv (kInt .i64) t10)) (ja R)) ?_))))))
    refine At.d R R R R (jd (x:=(.tv (kInt .i64) t10)) (ja R)) ?_
    refine At.done (At.vl (At.seq (At.region (At.d R R R R (jb (x:=(.tv (kInt .i64) t10)) (ja R)) ?_))))
    refine At.d R R R R (does_conv_int (ja R) (by kernel_rfl) Tryz.underlying5) ?_
    refine At.d R R R R (jd (x:=(.tv (kInt .u8) (IntKind.wrap .u8 t10))) (ja R)) ?_
    refine At.done (At.vl (At.block ?_))
    refine At.cut (fun rs L=>∃ (t11:Bool),Vu.c2 x7 t10 (W.iter2 (Vu.l1 (Vu.c1)) m1) t11 Q∧rs=[.box g1 176 (kArr 256 (kInt .u8)) (List.replicate 256 (0:Int)),.box g2 176 (kArr 256 (kInt .u8)) x7]∧L=mkL [(0,(.eq (.pointer (some ⟨g1,0,none⟩)))),(1,(.eq (.pointer (some ⟨g2,0,none⟩)))),(2,(.tv (kInt .i64) t10)),(3,(.tv (kInt .u8) (IntKind.wrap .u8 t10))),(4,(.tv (kInt .i64) t10)),(9,(.tv kBool t11))]) ?_ ?_
    ·refine At.seq (At.region (At.d R R R R (jb (x:=(.tv (kInt .u8) (IntKind.wrap .u8 t10))) (ja R)) ?_))
     refine At.d R R R R (jk (ji _ _) (ja R) bin_leq) ?_
     refine At.d R R R R (jb (x:=(.tv kBool (decide ((97:Int)≤(IntKind.wrap .u8 t10))))) (ja R)) ?_
     refine At.vn R R R R (jw R) R (fun hg31=>(jb (x:=(.tv (kInt .u8) (IntKind.wrap .u8 t10))) (ja R))) ?_
     refine At.vn R R R R (jw R) R (fun hg32=>(jk (jh R hg32) (ji _ _) bin_leq)) ?_
     refine At.d R R R R (jm (ja R) (ja R) (jl _) vh) ?_
     refine At.d R R R R (jd (x:=(.tv kBool ((decide ((97:Int)≤(IntKind.wrap .u8 t10)))&&(decide ((IntKind.wrap .u8 t10)≤(122:Int)))))) (ja R)) ?_
     refine At.done (At.vl ?_)
     refine At.cond (ja R) (fun hb31=>?_) (fun hb31=>?_)
     ·replace hF:=W.ite_t hb31 hF
      refine At.skip (At.vl ?_)
      refine At.w [0,1] R [(0,(.eq (.pointer (some ⟨g1,0,none⟩)))),(1,(.eq (.pointer (some ⟨g2,0,none⟩)))),(2,(.tv (kInt .i64) t10)),(3,(.tv (kInt .u8) (IntKind.wrap .u8 t10))),(4,(.tv (kInt .i64) t10)),(9,(.tv kBool ((decide ((97:Int)≤(IntKind.wrap .u8 t10)))&&(decide ((IntKind.wrap .u8 t10)≤(122:Int))))))] ⟨R,R,R,R,R,R,trivial⟩ (At.r ⟨((decide ((97:Int)≤(IntKind.wrap .u8 t10)))&&(decide ((IntKind.wrap .u8 t10)≤(122:Int)))),hF,R,R⟩)
     ·replace hF:=W.ite_f hb31 hF
      refine At.region (At.d R R R R (jb (x:=(.tv (kInt .u8) (IntKind.wrap .u8 t10))) (ja R)) ?_)
      refine At.d R R R R (jk (ji _ _) (ja R) bin_leq) ?_
      refine At.d R R R R (jb (x:=(.tv kBool (decide ((65:Int)≤(IntKind.wrap .u8 t10))))) (ja R)) ?_
      refine At.vn R R R R (jw R) R (fun hg33=>(jb (x:=(.tv (kInt .u8) (IntKind.wrap .u8 t10))) (ja R))) ?_
      refine At.vn R R R R (jw R) R (fun hg34=>(jk (jh R hg34) (ji _ _) bin_leq)) ?_
      refine At.d R R R R (jm (ja R) (ja R) (jl _) vh) ?_
      refine At.d R R R R (jd (x:=(.tv kBool ((decide ((65:Int)≤(IntKind.wrap .u8 t10)))&&(decide ((IntKind.wrap .u8 t10)≤(90:Int)))))) (ja R)) ?_
      refine At.done (At.vl ?_)
      refine At.w [0,1] R [(0,(.eq (.pointer (some ⟨g1,0,none⟩)))),(1,(.eq (.pointer (some ⟨g2,0,none⟩)))),(2,(.tv (kInt .i64) t10)),(3,(.tv (kInt .u8) (IntKind.wrap .u8 t10))),(4,(.tv (kInt .i64) t10)),(9,(.tv kBool ((decide ((65:Int)≤(IntKind.wrap .u8 t10)))&&(decide ((IntKind.wrap .u8 t10)≤(90:Int))))))] ⟨R,R,R,R,R,R,trivial⟩ (At.r ⟨((decide ((65:Int)≤(IntKind.wrap .u8 t10)))&&(decide ((IntKind.wrap .u8 t10)≤(90:Int)))),hF,R,R⟩)
    ·rintro _ _ ⟨t11,hF,rfl,rfl⟩
     unfold Vu.c2 at hF
     refine At.cond (ja R) (fun hb27=>?_) (fun hb27=>?_)
     ·replace hF:=W.ite_t hb27 hF
      refine At.region (At.d R R R R (jb (x:=(.tv (kInt .i64) t10)) (ja R)) ?_)
      obtain ⟨hq20,hF⟩:=hF
      refine At.d R R R R (does_aidxv_box (n:=256) (sz:=1) (ja R) (ja R) Tryz.underlying176 ty_5.size hq20) ?_
      refine At.f R (jz R R (ja R) 1 R (Sub.trans (Sub.self (kArr 256 (kInt .u8))) (subv_176 hq20)) ty_5 (ji _ _)) ?_
      rintro _ _ ⟨rfl,rfl⟩
      refine At.done ?_
      refine At.n ?_
      refine At.n ?_
      refine At.vl (At.region (At.d R R R R (jk (ja R) (ji _ _) vf) ?_))
      refine At.d R R R R (jb (x:=(.tv (kInt .i64) (w64 (t10+(1:Int))))) (ja R)) ?_
      refine At.done (At.vl ?_)
      refine At.w [0,1] R [(0,(.eq (.pointer (some ⟨g1,0,none⟩)))),(1,(.eq (.pointer (some ⟨g2,0,none⟩)))),(4,(.tv (kInt .i64) (w64 (t10+(1:Int)))))] ⟨R,R,R,trivial⟩ (At.r ⟨(yi x7 t10 (3:Int)),(w64 (t10+(1:Int))),hF,R,R⟩)
     ·replace hF:=W.ite_f hb27 hF
      refine At.seq (At.region (At.d R R R R (jb (x:=(.tv (kInt .u8) (IntKind.wrap .u8 t10))) (ja R)) ?_))
      refine At.d R R R R (jk (ji _ _) (ja R) bin_leq) ?_
      refine At.d R R R R (jb (x:=(.tv kBool (decide ((48:Int)≤(IntKind.wrap .u8 t10))))) (ja R)) ?_
      refine At.vn R R R R (jw R) R (fun hg29=>(jb (x:=(.tv (kInt .u8) (IntKind.wrap .u8 t10))) (ja R))) ?_
      refine At.vn R R R R (jw R) R (fun hg30=>(jk (jh R hg30) (ji _ _) bin_leq)) ?_
      refine At.d R R R R (jm (ja R) (ja R) (jl _) vh) ?_
      refine At.d R R R R (jd (x:=(.tv kBool ((decide ((48:Int)≤(IntKind.wrap .u8 t10)))&&(decide ((IntKind.wrap .u8 t10)≤(57:Int)))))) (ja R)) ?_
      refine At.done (At.vl ?_)
      refine At.cond (ja R) (fun hb28=>?_) (fun hb28=>?_)
      ·replace hF:=W.ite_t hb28 hF
       refine At.region (At.d R R R R (jb (x:=(.tv (kInt .i64) t10)) (ja R)) ?_)
       obtain ⟨hq21,hF⟩:=hF
       refine At.d R R R R (does_aidxv_box (n:=256) (sz:=1) (ja R) (ja R) Tryz.underlying176 ty_5.size hq21) ?_
       refine At.f R (jz R R (ja R) 1 R (Sub.trans (Sub.self (kArr 256 (kInt .u8))) (subv_176 hq21)) ty_5 (ji _ _)) ?_
       rintro _ _ ⟨rfl,rfl⟩
       refine At.done ?_
       refine At.n ?_
       refine At.n ?_
       refine At.vl (At.region (At.d R R R R (jk (ja R) (ji _ _) vf) ?_))
       refine At.d R R R R (jb (x:=(.tv (kInt .i64) (w64 (t10+(1:Int))))) (ja R)) ?_
       refine At.done (At.vl ?_)
       refine At.w [0,1] R [(0,(.eq (.pointer (some ⟨g1,0,none⟩)))),(1,(.eq (.pointer (some ⟨g2,0,none⟩)))),(4,(.tv (kInt .i64) (w64 (t10+(1:Int)))))] ⟨R,R,R,trivial⟩ (At.r ⟨(yi x7 t10 (4:Int)),(w64 (t10+(1:Int))),hF,R,R⟩)
      ·replace hF:=W.ite_f hb28 hF
       refine At.seq (At.region (At.d R R R R (jb (x:=(.tv (kInt .u8) (IntKind.wrap .u8 t10))) (ja R)) ?_))
       replace hF:=W.vq hF
       refine At.f R (jn R R jp (jq R en_155 (jf (vk _) (jf (ja R) jg))) (ww.ok hF) (by rintro _ _ ⟨r,_,rfl,_⟩;exact flat_int)) ?_
       rintro _ _ ⟨_,_,⟨r9,hF,rfl,rfl⟩,rfl,rfl⟩
       refine At.d R R R R (jk (ja R) (ji _ _) bin_geq) ?_
       refine At.d R R R R (jd (x:=(.tv kBool (decide ((0:Int)≤r9)))) (ja R)) ?_
       refine At.done (At.vl ?_)
       refine At.cond (ja R) (fun hb29=>?_) (fun hb29=>?_)
       ·replace hF:=W.ite_t hb29 hF
        refine At.region (At.d R R R R (jb (x:=(.tv (kInt .i64) t10)) (ja R)) ?_)
        obtain ⟨hq22,hF⟩:=hF
        refine At.d R R R R (does_aidxv_box (n:=256) (sz:=1) (ja R) (ja R) Tryz.underlying176 ty_5.size hq22) ?_
        refine At.f R (jz R R (ja R) 1 R (Sub.trans (Sub.self (kArr 256 (kInt .u8))) (subv_176 hq22)) ty_5 (ji _ _)) ?_
        rintro _ _ ⟨rfl,rfl⟩
        refine At.done ?_
        refine At.n ?_
        refine At.n ?_
        refine At.vl (At.region (At.d R R R R (jk (ja R) (ji _ _) vf) ?_))
        refine At.d R R R R (jb (x:=(.tv (kInt .i64) (w64 (t10+(1:Int))))) (ja R)) ?_
        refine At.done (At.vl ?_)
        refine At.w [0,1] R [(0,(.eq (.pointer (some ⟨g1,0,none⟩)))),(1,(.eq (.pointer (some ⟨g2,0,none⟩)))),(4,(.tv (kInt .i64) (w64 (t10+(1:Int)))))] ⟨R,R,R,trivial⟩ (At.r ⟨(yi x7 t10 (1:Int)),(w64 (t10+(1:Int))),hF,R,R⟩)
       ·replace hF:=W.ite_f hb29 hF
        refine At.seq (At.region (At.d R R R R (jb (x:=(.tv (kInt .u8) (IntKind.wrap .u8 t10))) (ja R)) ?_))
        replace hF:=W.vq hF
        refine At.f R (jn R R jp (jq R en_155 (jf (vk _) (jf (ja R) jg))) (ww.ok hF) (by rintro _ _ ⟨r,_,rfl,_⟩;exact flat_int)) ?_
        rintro _ _ ⟨_,_,⟨r10,hF,rfl,rfl⟩,rfl,rfl⟩
        refine At.d R R R R (jk (ja R) (ji _ _) bin_geq) ?_
        refine At.d R R R R (jd (x:=(.tv kBool (decide ((0:Int)≤r10)))) (ja R)) ?_
        refine At.done (At.vl ?_)
        refine At.cond (ja R) (fun hb30=>?_) (fun hb30=>?_)
        ·replace hF:=W.ite_t hb30 hF
         refine At.region (At.d R R R R (jb (x:=(.tv (kInt .i64) t10)) (ja R)) ?_)
         obtain ⟨hq23,hF⟩:=hF
         refine At.d R R R R (does_aidxv_box (n:=256) (sz:=1) (ja R) (ja R) Tryz.underlying176 ty_5.size hq23) ?_
         refine At.f R (jz R R (ja R) 1 R (Sub.trans (Sub.self (kArr 256 (kInt .u8))) (subv_176 hq23)) ty_5 (ji _ _)) ?_
         rintro _ _ ⟨rfl,rfl⟩
         refine At.done ?_
         refine At.n ?_
         refine At.n ?_
         refine At.vl (At.region (At.d R R R R (jk (ja R) (ji _ _) vf) ?_))
         refine At.d R R R R (jb (x:=(.tv (kInt .i64) (w64 (t10+(1:Int))))) (ja R)) ?_
         refine At.done (At.vl ?_)
         refine At.w [0,1] R [(0,(.eq (.pointer (some ⟨g1,0,none⟩)))),(1,(.eq (.pointer (some ⟨g2,0,none⟩)))),(4,(.tv (kInt .i64) (w64 (t10+(1:Int)))))] ⟨R,R,R,trivial⟩ (At.r ⟨(yi x7 t10 (6:Int)),(w64 (t10+(1:Int))),hF,R,R⟩)
        ·replace hF:=W.ite_f hb30 hF
         refine At.skip ?_
         refine At.n ?_
         refine At.n ?_
         refine At.vl (At.region (At.d R R R R (jk (ja R) (ji _ _) vf) ?_))
         refine At.d R R R R (jb (x:=(.tv (kInt .i64) (w64 (t10+(1:Int))))) (ja R)) ?_
         refine At.done (At.vl ?_)
         refine At.w [0,1] R [(0,(.eq (.pointer (some ⟨g1,0,none⟩)))),(1,(.eq (.pointer (some ⟨g2,0,none⟩)))),(4,(.tv (kInt .i64) (w64 (t10+(1:Int)))))] ⟨R,R,R,trivial⟩ (At.r ⟨x7,(w64 (t10+(1:Int))),hF,R,R⟩)
   ·replace hF:=W.ite_f hb25 hF
    refine At.exit ?_
    refine At.x (At.x ?_)
    refine At.h ?_
    refine At.vl ?_
    refine At.w [0,1] R [(0,(.eq (.pointer (some ⟨g1,0,none⟩)))),(1,(.eq (.pointer (some ⟨g2,0,none⟩))))] ⟨R,R,trivial⟩ (At.r ⟨x7,hF,R,R⟩)
 ·rintro _ _ ⟨x4,hF,rfl,rfl⟩
  unfold Vu.c1 at hF
  refine At.seq (At.region ?_)
  obtain ⟨hq9,hF⟩:=hF
  refine At.d R R R R (does_aidxv_box (n:=256) (sz:=1) (ja R) (ji _ _) Tryz.underlying176 ty_5.size hq9) ?_
  refine At.f R (jz R R (ja R) 1 R (Sub.trans (Sub.self (kArr 256 (kInt .u8))) (subv_176 hq9)) ty_5 (ji _ _)) ?_
  rintro _ _ ⟨rfl,rfl⟩
  obtain ⟨hq10,hF⟩:=hF
  refine At.d R R R R (does_aidxv_box (n:=256) (sz:=1) (ja R) (ji _ _) Tryz.underlying176 ty_5.size hq10) ?_
  refine At.f R (jz R R (ja R) 1 R (Sub.trans (Sub.self (kArr 256 (kInt .u8))) (subv_176 hq10)) ty_5 (ji _ _)) ?_
  rintro _ _ ⟨rfl,rfl⟩
  obtain ⟨hq11,hF⟩:=hF
  refine At.d R R R R (does_aidxv_box (n:=256) (sz:=1) (ja R) (ji _ _) Tryz.underlying176 ty_5.size hq11) ?_
  refine At.f R (jz R R (ja R) 1 R (Sub.trans (Sub.self (kArr 256 (kInt .u8))) (subv_176 hq11)) ty_5 (ji _ _)) ?_
  rintro _ _ ⟨rfl,rfl⟩
  refine At.done (At.vl (At.seq (At.region (At.d R R R R (jc (ja R) 1 R (Sub.self (kArr 256 (kInt .u8))) ty_176) ?_))))
  refine At.f R (jz R R (ja R) 0 R (Sub.self (kArr 256 (kInt .u8))) ty_176 (ja R)) ?_
  rintro _ _ ⟨rfl,rfl⟩
  refine At.done (At.vl (At.ret ?_))
  exact At.j rfl (rv_cell rfl 0 rfl ty_176) [] rfl ⟨(yi (yi (yi x4 (35:Int) (2:Int)) (95:Int) (5:Int)) (34:Int) (7:Int)),hF,rfl,rfl⟩
def qu.c1 (s1:BA):W Bool:=W.ret ((!(sEq s1 (⟨#[]⟩:BA)))&&(decide ((s1.size:Int)≤(24:Int))))
def qu.l1 (s1:BA) (r1:(List Int)) (K1:W Bool) (A1:Int→W Bool) (t6:Int):W Bool:=W.ite (decide (t6<(s1.size:Int))) (W.req (0≤t6∧t6<(s1.size:Int)) (W.req (0≤(byteAt s1 t6)∧(byteAt s1 t6)<(256:Int)) (W.ite (((zr r1 (byteAt s1 t6)) != (3:Int))&&((t6==(0:Int))||(((zr r1 (byteAt s1 t6)) != (4:Int))&&((zr r1 (byteAt s1 t6)) != (5:Int))))) (W.ret false) (A1 (w64 (t6+(1:Int))))))) (K1)
def qu.F (s1:BA):W Bool:=W.bind (Vu.F) (fun r1=>W.ex fun n=>W.iter1 (qu.l1 s1 r1 (qu.c1 s1)) n (0:Int))
theorem qu.ok {s1:BA} {Q:Bool→Prop} (hF:qu.F s1 Q):Con Tryz.prog 81 [.tv kStr s1] [] (fun ta rs'=>∃ (r:Bool),Q r∧ta=.tv kBool r∧rs'=[]):=by
 refine Con.i Tryz.func81 Tryz.ntmps81 R R (fun C=>?_)
 unfold qu.F at hF
 refine At.seq (At.region (At.d R R R R (jd (x:=(.tv kBool false)) (jl _)) ?_))
 refine At.done (At.vl (At.seq (At.region ?_)))
 replace hF:=W.vq hF
 refine At.f R (jn R R jp (jq R en_130 jg) (Vu.ok hF) (by rintro _ _ ⟨r,_,rfl,_⟩;exact (flat_tv (flatK_arr flatK_int)))) ?_
 rintro _ _ ⟨_,_,⟨r1,hF,rfl,rfl⟩,rfl,rfl⟩
 refine At.f R (eff_alloc R R R tz_176) ?_
 rintro _ _ ⟨g1,rfl,rfl⟩
 refine At.f R (jz R R (ja R) 0 R (Sub.self (kArr 256 (kInt .u8))) ty_176 (ja R)) ?_
 rintro _ _ ⟨rfl,rfl⟩
 refine At.done (At.vl ?_)
 refine At.cut (fun rs L=>∃ _:Unit,qu.c1 s1 Q∧rs=[]∧L=mkL [(0,(.tv kStr s1))]) ?_ ?_
 ·refine At.seq (At.region (At.d R R R R (jb (x:=(.tv kStr s1)) (ja R)) ?_))
  refine At.d R R R R (does_len_str (ja R) Tryz.underlying9) ?_
  refine At.d R R R R (jb (x:=(.tv (kInt .i64) (0:Int))) (ji _ _)) ?_
  refine At.done (At.vl (At.block ?_))
  obtain ⟨n1,hF⟩:=hF
  refine At.w [0] R [(0,(.tv kStr s1)),(3,(.eq (.pointer (some ⟨g1,0,none⟩)))),(8,(.tv (kInt .i64) (s1.size:Int))),(9,(.tv (kInt .i64) (0:Int)))] ⟨R,R,R,R,trivial⟩ ?_
  refine At.loop (fun m rs L=>∃ (t6:Int),W.iter1 (qu.l1 s1 r1 (qu.c1 s1)) m t6 Q∧rs=[.box g1 176 (kArr 256 (kInt .u8)) r1]∧L=mkL [(0,(.tv kStr s1)),(3,(.eq (.pointer (some ⟨g1,0,none⟩)))),(8,(.tv (kInt .i64) (s1.size:Int))),(9,(.tv (kInt .i64) t6))]) ?_ ?_ (m:=n1) ⟨(0:Int),hF,R,R⟩
  ·rintro rs L ⟨_,hF,_,_⟩;exact hF
  ·rintro m1 _ _ ⟨t6,hF,rfl,rfl⟩
   replace hF:=W.iter1_s hF
   unfold qu.l1 at hF
   refine At.seq (At.region (At.d R R R R (jk (ja R) (ja R) vg) ?_))
   refine At.done (At.vl (At.seq ?_))
   refine At.cond (ja R) (fun hb9=>?_) (fun hb9=>?_)
   ·replace hF:=W.ite_t hb9 hF
    refine At.skip (At.vl (At.seq (At.block (At.seq (At.region (At.d R R R R (jb (x:=(.tv (kInt .i64) t6)) (ja R)) ?_))))))
    refine At.d R R R R (jd (x:=(.tv (kInt .i64) t6)) (ja R)) ?_
    refine At.done (At.vl (At.seq (At.region (At.d R R R R (jb (x:=(.tv kStr s1)) (ja R)) ?_))))
    refine At.d R R R R (jb (x:=(.tv (kInt .i64) t6)) (ja R)) ?_
    obtain ⟨hq9,hF⟩:=hF
    refine At.d R R R R (does_index_str (ja R) (ja R) Tryz.underlying9 hq9) ?_
    obtain ⟨hq10,hF⟩:=hF
    refine At.d R R R R (does_aidxv_box (n:=256) (sz:=1) (ja R) (ja R) Tryz.underlying176 ty_5.size hq10) ?_
    refine At.d R R R R (jc (ja R) 0 R (Sub.trans (Sub.self (kArr 256 (kInt .u8))) (subv_176 hq10)) ty_5) ?_
    refine At.d R R R R (jd (x:=(.tv (kInt .u8) (zr r1 (byteAt s1 t6)))) (ja R)) ?_
    refine At.done (At.vl (At.seq (At.region (At.d R R R R (jb (x:=(.tv (kInt .u8) (zr r1 (byteAt s1 t6)))) (ja R)) ?_))))
    refine At.d R R R R (jk (ja R) (ji _ _) bin_neq) ?_
    refine At.d R R R R (jb (x:=(.tv kBool ((zr r1 (byteAt s1 t6)) != (3:Int)))) (ja R)) ?_
    refine At.vn R R R R (jw R) R (fun hg44=>(jb (x:=(.tv (kInt .i64) t6)) (ja R))) ?_
    refine At.vn R R R R (jw R) R (fun hg45=>(jk (jh R hg45) (ji _ _) bin_eql)) ?_
    refine At.vn R R R R (jw R) R (fun hg46=>(jb (x:=(.tv kBool (t6==(0:Int)))) (jh R hg46))) ?_
    refine At.vn R R R R (jv R) R (fun hg47=>(jb (x:=(.tv (kInt .u8) (zr r1 (byteAt s1 t6)))) (ja R))) ?_
    refine At.vn R R R R (jv R) R (fun hg48=>(jk (jh R hg48) (ji _ _) bin_neq)) ?_
    refine At.vn R R R R (jv R) R (fun hg49=>(jb (x:=(.tv kBool ((zr r1 (byteAt s1 t6)) != (4:Int)))) (jh R hg49))) ?_
    refine At.vn R R R R (ju R) R (fun hg50=>(jb (x:=(.tv (kInt .u8) (zr r1 (byteAt s1 t6)))) (ja R))) ?_
    refine At.vn R R R R (ju R) R (fun hg51=>(jk (jh R hg51) (ji _ _) bin_neq)) ?_
    refine At.vn R R R R (jv R) R (fun hg52=>(jm (jh R hg52) (ja R) (jl _) (pick_andG (and_of hg52)))) ?_
    refine At.vn R R R R (jw R) R (fun hg53=>(jm (jh R hg53) (jl _) (ja R) (pick_orG (andn_of hg53)))) ?_
    refine At.d R R R R (jm (ja R) (ja R) (jl _) vh) ?_
    refine At.done (At.vl ?_)
    refine At.cond (ja R) (fun hb10=>?_) (fun hb10=>?_)
    ·replace hF:=W.ite_t hb10 hF
     refine At.seq (At.region (At.d R R R R (jd (x:=(.tv kBool false)) (jl _)) ?_))
     refine At.done (At.vl (At.ret ?_))
     refine At.q ?_
     refine At.vm (At.vm ?_)
     refine At.q ?_
     refine At.vm ?_
     exact At.j rfl (rv_tmp rfl) [] rfl ⟨false,hF,rfl,rfl⟩
    ·replace hF:=W.ite_f hb10 hF
     refine At.skip ?_
     refine At.n ?_
     refine At.vl (At.region (At.d R R R R (jk (ja R) (ji _ _) vf) ?_))
     refine At.d R R R R (jb (x:=(.tv (kInt .i64) (w64 (t6+(1:Int))))) (ja R)) ?_
     refine At.done (At.vl ?_)
     refine At.w [0] R [(0,(.tv kStr s1)),(3,(.eq (.pointer (some ⟨g1,0,none⟩)))),(8,(.tv (kInt .i64) (s1.size:Int))),(9,(.tv (kInt .i64) (w64 (t6+(1:Int)))))] ⟨R,R,R,R,trivial⟩ (At.r ⟨(w64 (t6+(1:Int))),hF,R,R⟩)
   ·replace hF:=W.ite_f hb9 hF
    refine At.exit ?_
    refine At.x (At.x ?_)
    refine At.h ?_
    refine At.vl ?_
    refine At.w [] R [(0,(.tv kStr s1))] ⟨R,trivial⟩ (At.r ⟨(),hF,R,R⟩)
 ·rintro _ _ ⟨_,hF,rfl,rfl⟩
  unfold qu.c1 at hF
  refine At.seq (At.region (At.d R R R R (jb (x:=(.tv kStr s1)) (ja R)) ?_))
  refine At.d R R R R (jk (ja R) (vk _) bin_sneq) ?_
  refine At.d R R R R (jb (x:=(.tv kBool (!(sEq s1 (⟨#[]⟩:BA))))) (ja R)) ?_
  refine At.vn R R R R (jw R) R (fun hg21=>(jb (x:=(.tv kStr s1)) (ja R))) ?_
  refine At.vn R R R R (jw R) R (fun hg22=>(does_len_str (jh R hg22) Tryz.underlying9)) ?_
  refine At.vn R R R R (jw R) R (fun hg23=>(jk (jh R hg23) (ji _ _) bin_leq)) ?_
  refine At.d R R R R (jm (ja R) (ja R) (jl _) vh) ?_
  refine At.d R R R R (jd (x:=(.tv kBool ((!(sEq s1 (⟨#[]⟩:BA)))&&(decide ((s1.size:Int)≤(24:Int)))))) (ja R)) ?_
  refine At.done (At.vl (At.ret ?_))
  exact At.j rfl (rv_tmp rfl) [] rfl ⟨((!(sEq s1 (⟨#[]⟩:BA)))&&(decide ((s1.size:Int)≤(24:Int)))),hF,rfl,rfl⟩
def jb7.F (kind1:Int):W Int:=W.req (0≤kind1∧kind1<(6:Int)) (W.ret (aget_178 ((0:Int),(0:Int),(2:Int),(3:Int),(1:Int),(3:Int)) kind1))
theorem jb7.ok {kind1:Int} {Q:Int→Prop} (hF:jb7.F kind1 Q):Con Tryz.prog 83 [.tv (kInt .i64) kind1] [] (fun ta rs'=>∃ (r:Int),Q r∧ta=.tv (kInt .i64) r∧rs'=[]):=by
 refine Con.i Tryz.func83 Tryz.ntmps83 R R (fun C=>?_)
 unfold jb7.F at hF
 refine At.seq (At.region (At.d R R R R (jd (x:=(.tv (kInt .i64) (0:Int))) (ji _ _)) ?_))
 refine At.done (At.vl (At.seq (At.region (At.d R R R R (vd (jr (ji _ _) (jr (ji _ _) (jr (ji _ _) (jr (ji _ _) (jr (ji _ _) js))))) zr_178 bd_178 R (fills_cons R sub_a178_1 (fills_cons R sub_a178_2 (fills_cons R sub_a178_3 (fills_cons R sub_a178_4 (fills_cons R sub_a178_5 fills_nil)))))) ?_))))
 refine At.d R R R R (jb (x:=(.tv (kInt .i64) kind1)) (ja R)) ?_
 obtain ⟨hq1,hF⟩:=hF
 refine At.d R R R R (does_index_arr (n:=6) (sz:=1) (K:=(kPair (kInt .i64) (kPair (kInt .i64) (kPair (kInt .i64) (kPair (kInt .i64) (kPair (kInt .i64) (kInt .i64))))))) R (ja R) (ja R) Tryz.underlying178 ty_3 R hq1 (subv_178 hq1)) ?_
 refine At.d R R R R (jd (x:=(.tv (kInt .i64) (aget_178 ((0:Int),(0:Int),(2:Int),(3:Int),(1:Int),(3:Int)) kind1))) (ja R)) ?_
 refine At.done (At.vl (At.ret ?_))
 exact At.j rfl (rv_tmp rfl) [] rfl ⟨(aget_178 ((0:Int),(0:Int),(2:Int),(3:Int),(1:Int),(3:Int)) kind1),hF,rfl,rfl⟩
def object_on.F (p1:Point):W Bool:=W.ret ((((decide ((0:Int)≤p1.X))&&(decide (p1.X<(1048576:Int))))&&(decide ((0:Int)≤p1.Y)))&&(decide (p1.Y<(1048576:Int))))
theorem object_on.ok {p1:Point} {Q:Bool→Prop} (hF:object_on.F p1 Q):Con Tryz.prog 86 [.tv kPoint p1] [] (fun ta rs'=>∃ (r:Bool),Q r∧ta=.tv kBool r∧rs'=[]):=by
 refine Con.i Tryz.func86 Tryz.ntmps86 R R (fun C=>?_)
 unfold object_on.F at hF
 refine At.seq (At.region (At.f R (jy R R R (ja R)) ?_))
 rintro _ _ ⟨g1,rfl,rfl⟩
 refine At.d R R R R (jd (x:=(.tv kBool false)) (jl _)) ?_
 refine At.done (At.vl (At.seq (At.region (At.d R R R R (je (ja R) wa) ?_))))
 refine At.d R R R R (jc (ja R) 0 R Vx ty_3) ?_
 refine At.d R R R R (jk (ja R) (ji _ _) bin_geq) ?_
 refine At.d R R R R (jb (x:=(.tv kBool (decide ((0:Int)≤p1.X)))) (ja R)) ?_
 refine At.vn R R R R (jw R) R (fun hg1=>(je (ja R) wa)) ?_
 refine At.vn R R R R (jw R) R (fun hg2=>(jc (jh R hg2) 0 R Vx ty_3)) ?_
 refine At.vn R R R R (jw R) R (fun hg3=>(jk (jh R hg3) (ji _ _) vg)) ?_
 refine At.d R R R R (jm (ja R) (ja R) (jl _) vh) ?_
 refine At.d R R R R (jb (x:=(.tv kBool ((decide ((0:Int)≤p1.X))&&(decide (p1.X<(1048576:Int)))))) (ja R)) ?_
 refine At.vn R R R R (jw R) R (fun hg4=>(je (ja R) zf)) ?_
 refine At.vn R R R R (jw R) R (fun hg5=>(jc (jh R hg5) 0 R qn ty_3)) ?_
 refine At.vn R R R R (jw R) R (fun hg6=>(jk (jh R hg6) (ji _ _) bin_geq)) ?_
 refine At.d R R R R (jm (ja R) (ja R) (jl _) vh) ?_
 refine At.d R R R R (jb (x:=(.tv kBool (((decide ((0:Int)≤p1.X))&&(decide (p1.X<(1048576:Int))))&&(decide ((0:Int)≤p1.Y))))) (ja R)) ?_
 refine At.vn R R R R (jw R) R (fun hg7=>(je (ja R) zf)) ?_
 refine At.vn R R R R (jw R) R (fun hg8=>(jc (jh R hg8) 0 R qn ty_3)) ?_
 refine At.vn R R R R (jw R) R (fun hg9=>(jk (jh R hg9) (ji _ _) vg)) ?_
 refine At.d R R R R (jm (ja R) (ja R) (jl _) vh) ?_
 refine At.d R R R R (jd (x:=(.tv kBool ((((decide ((0:Int)≤p1.X))&&(decide (p1.X<(1048576:Int))))&&(decide ((0:Int)≤p1.Y)))&&(decide (p1.Y<(1048576:Int)))))) (ja R)) ?_
 refine At.done (At.vl (At.ret ?_))
 exact At.j rfl (rv_tmp rfl) [] rfl ⟨((((decide ((0:Int)≤p1.X))&&(decide (p1.X<(1048576:Int))))&&(decide ((0:Int)≤p1.Y)))&&(decide (p1.Y<(1048576:Int)))),hF,rfl,rfl⟩
def ja6.F (kind1:Int):W BA:=W.ite ((decide (kind1<(0:Int)))||(decide ((6:Int)≤kind1))) (W.ret (⟨#[]⟩:BA)) (W.req (0≤kind1∧kind1<(6:Int)) (W.ret (aget_175 ((⟨#[]⟩:BA),(⟨#[110,111,100,101]⟩:BA),(⟨#[119,97,121]⟩:BA),(⟨#[97,114,101,97]⟩:BA),(⟨#[114,111,117,116,101]⟩:BA),(⟨#[116,117,114,110]⟩:BA)) kind1)))
theorem ja6.ok {kind1:Int} {Q:BA→Prop} (hF:ja6.F kind1 Q):Con Tryz.prog 80 [.tv (kInt .i64) kind1] [] (fun ta rs'=>∃ (r:BA),Q r∧ta=.tv kStr r∧rs'=[]):=by
 refine Con.i Tryz.func80 Tryz.ntmps80 R R (fun C=>?_)
 unfold ja6.F at hF
 refine At.seq (At.region (At.d R R R R (jd (x:=(.tv kStr (⟨#[]⟩:BA))) (vk _)) ?_))
 refine At.done (At.vl (At.seq (At.region (At.d R R R R (vd (jr (vk _) (jr (vk _) (jr (vk _) (jr (vk _) (jr (vk _) js))))) zr_175 bd_175 R (fills_cons R sub_a175_1 (fills_cons R sub_a175_2 (fills_cons R sub_a175_3 (fills_cons R sub_a175_4 (fills_cons R sub_a175_5 fills_nil)))))) ?_))))
 refine At.f R (eff_alloc R R R tz_175) ?_
 rintro _ _ ⟨g1,rfl,rfl⟩
 refine At.f R (jz R R (ja R) 0 R (Sub.self (kPair kStr (kPair kStr (kPair kStr (kPair kStr (kPair kStr kStr)))))) ty_175 (ja R)) ?_
 rintro _ _ ⟨rfl,rfl⟩
 refine At.done (At.vl (At.seq (At.seq (At.region (At.d R R R R (jb (x:=(.tv (kInt .i64) kind1)) (ja R)) ?_)))))
 refine At.d R R R R (jk (ja R) (ji _ _) vg) ?_
 refine At.d R R R R (jb (x:=(.tv kBool (decide (kind1<(0:Int))))) (ja R)) ?_
 refine At.vn R R R R (jx R) R (fun hg1=>(jb (x:=(.tv (kInt .i64) kind1)) (ja R))) ?_
 refine At.vn R R R R (jx R) R (fun hg2=>(jk (jh R hg2) (ji _ _) bin_geq)) ?_
 refine At.d R R R R (jm (ja R) (jl _) (ja R) vi) ?_
 refine At.done (At.vl ?_)
 refine At.cond (ja R) (fun hb1=>?_) (fun hb1=>?_)
 ·replace hF:=W.ite_t hb1 hF
  refine At.seq (At.region (At.d R R R R (jd (x:=(.tv kStr (⟨#[]⟩:BA))) (vk _)) ?_))
  refine At.done (At.vl (At.ret (At.vm ?_)))
  exact At.j rfl (rv_tmp rfl) [] rfl ⟨(⟨#[]⟩:BA),hF,rfl,rfl⟩
 ·replace hF:=W.ite_f hb1 hF
  refine At.skip (At.vl (At.seq (At.region (At.d R R R R (jb (x:=(.tv (kInt .i64) kind1)) (ja R)) ?_))))
  obtain ⟨hq1,hF⟩:=hF
  refine At.d R R R R (does_aidxv_box (n:=6) (sz:=1) (ja R) (ja R) Tryz.underlying175 ty_9.size hq1) ?_
  refine At.d R R R R (jc (ja R) 0 R (Sub.trans (Sub.self (kPair kStr (kPair kStr (kPair kStr (kPair kStr (kPair kStr kStr)))))) (subv_175 hq1)) ty_9) ?_
  refine At.d R R R R (jd (x:=(.tv kStr (aget_175 ((⟨#[]⟩:BA),(⟨#[110,111,100,101]⟩:BA),(⟨#[119,97,121]⟩:BA),(⟨#[97,114,101,97]⟩:BA),(⟨#[114,111,117,116,101]⟩:BA),(⟨#[116,117,114,110]⟩:BA)) kind1))) (ja R)) ?_
  refine At.done (At.vl (At.ret ?_))
  exact At.j rfl (rv_tmp rfl) [] rfl ⟨(aget_175 ((⟨#[]⟩:BA),(⟨#[110,111,100,101]⟩:BA),(⟨#[119,97,121]⟩:BA),(⟨#[97,114,101,97]⟩:BA),(⟨#[114,111,117,116,101]⟩:BA),(⟨#[116,117,114,110]⟩:BA)) kind1),hF,rfl,rfl⟩
def wl.F (s1:BA) (t1:Object) (t2:BA) (t3:(List (BA×Bool))):W (Bool×BA×(List (BA×Bool))):=W.bind (W.ite (!(((t1.Kind==(2:Int))&&(sEq s1 t2))||((t1.Kind==(3:Int))&&(mget s1 false t3)))) (qu.F s1) (W.ret false)) (fun r1=>W.ret (((((t1.Kind==(2:Int))&&(sEq s1 t2))||((t1.Kind==(3:Int))&&(mget s1 false t3)))||(!r1)),s1,(mset s1 true t3)))
theorem wl.ok {s1:BA} {t1:Object} {g1:Nat} {t2:BA} {g2:Nat} {t3:(List (BA×Bool))} {g3:Nat} {g4:Nat} {Q:(Bool×BA×(List (BA×Bool)))→Prop} (hF:wl.F s1 t1 t2 t3 Q):Con Tryz.prog 84 [.tv kStr s1,.eq (.pointer (some ⟨g1,0,none⟩)),.eq (.pointer (some ⟨g2,0,none⟩)),.eq (.pointer (some ⟨g3,0,none⟩))] [.box g1 59 kObject t1,.box g2 9 kStr t2,.box g3 56 kRaw (.map (some g4)),.map g4 kStr kBool t3] (fun ta rs'=>∃ (r:(Bool×BA×(List (BA×Bool)))),Q r∧ta=.tv kBool r.1∧rs'=[.box g1 59 kObject t1,.box g2 9 kStr r.2.1,.box g3 56 kRaw (.map (some g4)),.map g4 kStr kBool r.2.2]):=by
 refine Con.i Tryz.func84 Tryz.ntmps84 R R (fun C=>?_)
 unfold wl.F at hF
 refine At.seq (At.region (At.d R R R R (jd (x:=(.tv kBool false)) (jl _)) ?_))
 refine At.done (At.vl (At.seq (At.region (At.d R R R R (je (ja R) yj) ?_))))
 refine At.d R R R R (jc (ja R) 0 R qa ty_3) ?_
 refine At.d R R R R (jk (ja R) (ji _ _) bin_eql) ?_
 refine At.d R R R R (jb (x:=(.tv kBool (t1.Kind==(2:Int)))) (ja R)) ?_
 refine At.vn R R R R (jw R) R (fun hg1=>(jb (x:=(.tv kStr s1)) (ja R))) ?_
 refine At.vn R R R R (jw R) R (fun hg2=>(jc (ja R) 1 R (Sub.self kStr) ty_9)) ?_
 refine At.vn R R R R (jw R) R (fun hg3=>(jk (jh R hg3) (jh R hg3) bin_seql)) ?_
 refine At.d R R R R (jm (ja R) (ja R) (jl _) vh) ?_
 refine At.d R R R R (jb (x:=(.tv kBool ((t1.Kind==(2:Int))&&(sEq s1 t2)))) (ja R)) ?_
 refine At.vn R R R R (jx R) R (fun hg4=>(je (ja R) yj)) ?_
 refine At.vn R R R R (jx R) R (fun hg5=>(jc (jh R hg5) 0 R qa ty_3)) ?_
 refine At.vn R R R R (jx R) R (fun hg6=>(jk (jh R hg6) (ji _ _) bin_eql)) ?_
 refine At.vn R R R R (jx R) R (fun hg7=>(jb (x:=(.tv kBool (t1.Kind==(3:Int)))) (jh R hg7))) ?_
 refine At.vn R R R R (ju R) R (fun hg8=>(does_load_raw (ja R) 2 R (Sub.self kRaw) tyr_56 R)) ?_
 refine At.vn R R R R (ju R) R (fun hg9=>(jb (x:=(.tv kStr s1)) (ja R))) ?_
 refine At.vn R R R R (ju R) R (fun hg10=>(does_look (jh R hg10) 3 R mt_56 (jh R hg10))) ?_
 refine At.vn R R R R (jx R) R (fun hg11=>(jm (jh R hg11) (ja R) (jl _) (pick_andG (and_of hg11)))) ?_
 refine At.d R R R R (jm (ja R) (jl _) (ja R) vi) ?_
 refine At.d R R R R (jd (x:=(.tv kBool (((t1.Kind==(2:Int))&&(sEq s1 t2))||((t1.Kind==(3:Int))&&(mget s1 false t3))))) (ja R)) ?_
 refine At.done (At.vl (At.seq (At.region (At.d R R R R (does_load_raw (ja R) 2 R (Sub.self kRaw) tyr_56 R) ?_))))
 refine At.d R R R R (jb (x:=(.tv kStr s1)) (ja R)) ?_
 refine At.d R R R R (jb (x:=(.tv kStr s1)) (ja R)) ?_
 refine At.f R (eff_mapUpdate R R (ja R) 3 R mt_56 (ja R) (jl _)) ?_
 rintro _ _ ⟨rfl,rfl⟩
 refine At.f R (jz R R (ja R) 1 R (Sub.self kStr) ty_9 (ja R)) ?_
 rintro _ _ ⟨rfl,rfl⟩
 refine At.done (At.vl (At.seq (At.region (At.d R R R R (jb (x:=(.tv kBool (((t1.Kind==(2:Int))&&(sEq s1 t2))||((t1.Kind==(3:Int))&&(mget s1 false t3))))) (ja R)) ?_))))
 refine At.d R R R R (jb (x:=(.tv kBool (((t1.Kind==(2:Int))&&(sEq s1 t2))||((t1.Kind==(3:Int))&&(mget s1 false t3))))) (ja R)) ?_
 refine At.vn R R R R (jx R) R (fun hg12=>(jb (x:=(.tv kStr s1)) (ja R))) ?_
 replace hF:=W.vq hF
 refine At.effG R R R R (jx R) hF (fun r=>.tv kBool r) (fun hg13 hF=>vr (jn R R jp (jq R en_81 (jf (jh R hg13) jg)) (qu.ok hF) (by rintro _ _ ⟨r,_,rfl,_⟩;exact vp)) (by rintro _ _ ⟨_,_,⟨r,hF,rfl,rfl⟩,rfl,rfl⟩;exact ⟨r,hF,R,R⟩)) (fun r1 hF=>?_)
 refine At.vn R R R R (jx R) R (fun hg14=>(ve (jh R hg14))) ?_
 refine At.d R R R R (jm (ja R) (jl _) (ja R) vi) ?_
 refine At.d R R R R (jd (x:=(.tv kBool ((((t1.Kind==(2:Int))&&(sEq s1 t2))||((t1.Kind==(3:Int))&&(mget s1 false t3)))||(!r1)))) (ja R)) ?_
 refine At.done (At.vl (At.ret ?_))
 exact At.j rfl (rv_tmp rfl) [0,1,2,3] rfl ⟨(((((t1.Kind==(2:Int))&&(sEq s1 t2))||((t1.Kind==(3:Int))&&(mget s1 false t3)))||(!r1)),s1,(mset s1 true t3)),hF,rfl,rfl⟩
def Jb.c1 (x7:BA) (x8:(List (BA×Bool))):W (Int×BA×(List (BA×Bool))):=W.ret ((-1:Int),x7,x8)
def Jb.l1 (s1:(List BA)) (c1:Object) (K1:BA→(List (BA×Bool))→W (Int×BA×(List (BA×Bool)))) (A1:BA→(List (BA×Bool))→Int→W (Int×BA×(List (BA×Bool)))) (x13:BA) (x14:(List (BA×Bool))) (t6:Int):W (Int×BA×(List (BA×Bool))):=W.ite (decide (t6<(s1.length:Int))) (W.req (0≤t6∧t6<(s1.length:Int)) (W.bind (wl.F (rd (⟨#[]⟩:BA) s1 t6) c1 x13 x14) (fun r5=>W.ite r5.1 (W.ret (t6,r5.2.1,r5.2.2)) (A1 r5.2.1 r5.2.2 (w64 (t6+(1:Int))))))) (K1 x13 x14)
def Jb.F (s1:(List BA)) (c1:Object) (c2:BA) (c3:(List (BA×Bool))):W (Int×BA×(List (BA×Bool))):=W.ex fun n=>W.iter3 (Jb.l1 s1 c1 (Jb.c1)) n c2 c3 (0:Int)
theorem Jb.ok {s1:(List BA)} {c1:Object} {g1:Nat} {c2:BA} {g2:Nat} {c3:(List (BA×Bool))} {g3:Nat} {g4:Nat} {Q:(Int×BA×(List (BA×Bool)))→Prop} (hF:Jb.F s1 c1 c2 c3 Q):Con Tryz.prog 131 [.tv (kSlice kStr) s1,.cls 84 0 (tupl [.eq (.pointer (some ⟨g1,0,none⟩)),.eq (.pointer (some ⟨g2,0,none⟩)),.eq (.pointer (some ⟨g3,0,none⟩))])] [.box g1 59 kObject c1,.box g2 9 kStr c2,.box g3 56 kRaw (.map (some g4)),.map g4 kStr kBool c3] (fun ta rs'=>∃ (r:(Int×BA×(List (BA×Bool)))),Q r∧ta=.tv (kInt .i64) r.1∧rs'=[.box g1 59 kObject c1,.box g2 9 kStr r.2.1,.box g3 56 kRaw (.map (some g4)),.map g4 kStr kBool r.2.2]):=by
 refine Con.i Tryz.func131 Tryz.ntmps131 R R (fun C=>?_)
 unfold Jb.F at hF
 refine At.seq (At.region (At.d R R R R (jd (x:=(.tv (kInt .i64) (0:Int))) (ji _ _)) ?_))
 refine At.done (At.vl ?_)
 refine At.cut (fun rs L=>∃ (x7:BA) (x8:(List (BA×Bool))),Jb.c1 x7 x8 Q∧rs=[.box g1 59 kObject c1,.box g2 9 kStr x7,.box g3 56 kRaw (.map (some g4)),.map g4 kStr kBool x8]∧L=mkL []) ?_ ?_
 ·refine At.seq (At.region (At.d R R R R (jb (x:=(.tv (kSlice kStr) s1)) (ja R)) ?_))
  refine At.d R R R R (jt (ja R) Tryz.underlying41) ?_
  refine At.d R R R R (jb (x:=(.tv (kInt .i64) (0:Int))) (ji _ _)) ?_
  refine At.done (At.vl (At.block ?_))
  obtain ⟨n1,hF⟩:=hF
  refine At.w [0,1,2,3] R [(0,(.tv (kSlice kStr) s1)),(1,(.cls 84 0 (tupl [(.eq (.pointer (some ⟨g1,0,none⟩))),(.eq (.pointer (some ⟨g2,0,none⟩))),(.eq (.pointer (some ⟨g3,0,none⟩)))]))),(7,(.tv (kInt .i64) (s1.length:Int))),(8,(.tv (kInt .i64) (0:Int)))] ⟨R,R,R,R,trivial⟩ ?_
  refine At.loop (fun m rs L=>∃ (x13:BA) (x14:(List (BA×Bool))) (t6:Int),W.iter3 (Jb.l1 s1 c1 (Jb.c1)) m x13 x14 t6 Q∧rs=[.box g1 59 kObject c1,.box g2 9 kStr x13,.box g3 56 kRaw (.map (some g4)),.map g4 kStr kBool x14]∧L=mkL [(0,(.tv (kSlice kStr) s1)),(1,(.cls 84 0 (tupl [(.eq (.pointer (some ⟨g1,0,none⟩))),(.eq (.pointer (some ⟨g2,0,none⟩))),(.eq (.pointer (some ⟨g3,0,none⟩)))]))),(7,(.tv (kInt .i64) (s1.length:Int))),(8,(.tv (kInt .i64) t6))]) ?_ ?_ (m:=n1) ⟨c2,c3,(0:Int),hF,R,R⟩
  ·rintro rs L ⟨_,_,_,hF,_,_⟩;exact hF
  ·rintro m1 _ _ ⟨x13,x14,t6,hF,rfl,rfl⟩
   replace hF:=W.iter3_s hF
   unfold Jb.l1 at hF
   refine At.seq (At.region (At.d R R R R (jk (ja R) (ja R) vg) ?_))
   refine At.done (At.vl (At.seq ?_))
   refine At.cond (ja R) (fun hb9=>?_) (fun hb9=>?_)
   ·replace hF:=W.ite_t hb9 hF
    refine At.skip (At.vl (At.seq (At.block (At.seq (At.region (At.d R R R R (jb (x:=(.tv (kInt .i64) t6)) (ja R)) ?_))))))
    refine At.d R R R R (jd (x:=(.tv (kInt .i64) t6)) (ja R)) ?_
    refine At.done (At.vl (At.seq (At.region (At.d R R R R (jb (x:=(.cls 84 0 (tupl [(.eq (.pointer (some ⟨g1,0,none⟩))),(.eq (.pointer (some ⟨g2,0,none⟩))),(.eq (.pointer (some ⟨g3,0,none⟩)))]))) (ja R)) ?_))))
    refine At.d R R R R (jb (x:=(.tv (kSlice kStr) s1)) (ja R)) ?_
    refine At.d R R R R (jb (x:=(.tv (kInt .i64) t6)) (ja R)) ?_
    obtain ⟨hq5,hF⟩:=hF
    refine At.d R R R R (vj (⟨#[]⟩:BA) (ja R) (ja R) Tryz.underlying41 ty_9 hq5) ?_
    refine At.d R R R R (vw (K:=kStr) (ja R) ty_9) ?_
    replace hF:=W.vq hF
    refine At.f R (jo R R (ent_val0 R (ja R) en_84 (jf (ja R) jg)) [0,1,2,3] R (wl.ok hF)) ?_
    rintro _ _ ⟨_,_,⟨r5,hF,rfl,rfl⟩,rfl,rfl⟩
    refine At.done (At.vl ?_)
    refine At.cond (ja R) (fun hb10=>?_) (fun hb10=>?_)
    ·replace hF:=W.ite_t hb10 hF
     refine At.seq (At.region (At.d R R R R (jb (x:=(.tv (kInt .i64) t6)) (ja R)) ?_))
     refine At.d R R R R (jd (x:=(.tv (kInt .i64) t6)) (ja R)) ?_
     refine At.done (At.vl (At.ret ?_))
     refine At.q ?_
     refine At.vm (At.vm ?_)
     refine At.q ?_
     refine At.vm ?_
     exact At.j rfl (rv_tmp rfl) [0,1,2,3] rfl ⟨(t6,r5.2.1,r5.2.2),hF,rfl,rfl⟩
    ·replace hF:=W.ite_f hb10 hF
     refine At.skip ?_
     refine At.n ?_
     refine At.vl (At.region (At.d R R R R (jk (ja R) (ji _ _) vf) ?_))
     refine At.d R R R R (jb (x:=(.tv (kInt .i64) (w64 (t6+(1:Int))))) (ja R)) ?_
     refine At.done (At.vl ?_)
     refine At.w [0,1,2,3] R [(0,(.tv (kSlice kStr) s1)),(1,(.cls 84 0 (tupl [(.eq (.pointer (some ⟨g1,0,none⟩))),(.eq (.pointer (some ⟨g2,0,none⟩))),(.eq (.pointer (some ⟨g3,0,none⟩)))]))),(7,(.tv (kInt .i64) (s1.length:Int))),(8,(.tv (kInt .i64) (w64 (t6+(1:Int)))))] ⟨R,R,R,R,trivial⟩ (At.r ⟨r5.2.1,r5.2.2,(w64 (t6+(1:Int))),hF,R,R⟩)
   ·replace hF:=W.ite_f hb9 hF
    refine At.exit ?_
    refine At.x (At.x ?_)
    refine At.h ?_
    refine At.vl ?_
    refine At.w [0,1,2,3] R [] trivial (At.r ⟨x13,x14,hF,R,R⟩)
 ·rintro _ _ ⟨x7,x8,hF,rfl,rfl⟩
  unfold Jb.c1 at hF
  refine At.seq (At.region (At.d R R R R (jd (x:=(.tv (kInt .i64) (-1:Int))) (ji _ _)) ?_))
  refine At.done (At.vl (At.ret ?_))
  exact At.j rfl (rv_tmp rfl) [0,1,2,3] rfl ⟨((-1:Int),x7,x8),hF,rfl,rfl⟩
def Jl.F (s1:(List BA)) (c1:Object) (c2:BA) (c3:(List (BA×Bool))):W (Bool×BA×(List (BA×Bool))):=W.bind (Jb.F s1 c1 c2 c3) (fun r1=>W.ret ((decide ((0:Int)≤r1.1)),r1.2.1,r1.2.2))
theorem Jl.ok {s1:(List BA)} {c1:Object} {g1:Nat} {c2:BA} {g2:Nat} {c3:(List (BA×Bool))} {g3:Nat} {g4:Nat} {Q:(Bool×BA×(List (BA×Bool)))→Prop} (hF:Jl.F s1 c1 c2 c3 Q):Con Tryz.prog 85 [.tv (kSlice kStr) s1,.cls 84 0 (tupl [.eq (.pointer (some ⟨g1,0,none⟩)),.eq (.pointer (some ⟨g2,0,none⟩)),.eq (.pointer (some ⟨g3,0,none⟩))])] [.box g1 59 kObject c1,.box g2 9 kStr c2,.box g3 56 kRaw (.map (some g4)),.map g4 kStr kBool c3] (fun ta rs'=>∃ (r:(Bool×BA×(List (BA×Bool)))),Q r∧ta=.tv kBool r.1∧rs'=[.box g1 59 kObject c1,.box g2 9 kStr r.2.1,.box g3 56 kRaw (.map (some g4)),.map g4 kStr kBool r.2.2]):=by
 refine Con.i Tryz.func85 Tryz.ntmps85 R R (fun C=>?_)
 unfold Jl.F at hF
 refine At.seq (At.region (At.d R R R R (jd (x:=(.tv kBool false)) (jl _)) ?_))
 refine At.done (At.vl (At.seq (At.region (At.d R R R R (jb (x:=(.tv (kSlice kStr) s1)) (ja R)) ?_))))
 refine At.d R R R R (jb (x:=(.cls 84 0 (tupl [(.eq (.pointer (some ⟨g1,0,none⟩))),(.eq (.pointer (some ⟨g2,0,none⟩))),(.eq (.pointer (some ⟨g3,0,none⟩)))]))) (ja R)) ?_
 replace hF:=W.vq hF
 refine At.f R (jo R R (jq R en_131 (jf (ja R) (jf (ja R) jg))) [0,1,2,3] R (Jb.ok hF)) ?_
 rintro _ _ ⟨_,_,⟨r1,hF,rfl,rfl⟩,rfl,rfl⟩
 refine At.d R R R R (jk (ja R) (ji _ _) bin_geq) ?_
 refine At.d R R R R (jd (x:=(.tv kBool (decide ((0:Int)≤r1.1)))) (ja R)) ?_
 refine At.done (At.vl (At.ret ?_))
 exact At.j rfl (rv_tmp rfl) [0,1,2,3] rfl ⟨((decide ((0:Int)≤r1.1)),r1.2.1,r1.2.2),hF,rfl,rfl⟩
def ya.c1 (l1:(List Tag)):W Bool:=W.ret (decide ((l1.length:Int)≤(60:Int)))
def ya.l1 (l1:(List Tag)) (K1:W Bool) (A1:BA→Int→W Bool) (last6:BA) (t6:Int):W Bool:=W.ite (decide (t6<(l1.length:Int))) (W.req (0≤t6∧t6<(l1.length:Int)) (W.bind (qu.F ((rd zTag l1 t6).Key)) (fun r5=>W.ite ((((!r5)||(sLt ((rd zTag l1 t6).Key) last6||sEq ((rd zTag l1 t6).Key) last6))||(sEq ((rd zTag l1 t6).Value) (⟨#[]⟩:BA)))||(decide ((200:Int)<(((rd zTag l1 t6).Value).size:Int)))) (W.ret false) (A1 ((rd zTag l1 t6).Key) (w64 (t6+(1:Int))))))) (K1)
def ya.F (l1:(List Tag)):W Bool:=W.ex fun n=>W.iter2 (ya.l1 l1 (ya.c1 l1)) n (⟨#[]⟩:BA) (0:Int)
theorem ya.ok {l1:(List Tag)} {Q:Bool→Prop} (hF:ya.F l1 Q):Con Tryz.prog 82 [.tv (kSlice kTag) l1] [] (fun ta rs'=>∃ (r:Bool),Q r∧ta=.tv kBool r∧rs'=[]):=by
 refine Con.i Tryz.func82 Tryz.ntmps82 R R (fun C=>?_)
 unfold ya.F at hF
 refine At.seq (At.region (At.d R R R R (jd (x:=(.tv kBool false)) (jl _)) ?_))
 refine At.done (At.vl (At.seq (At.region (At.d R R R R (jd (x:=(.tv kStr (⟨#[]⟩:BA))) (vk _)) ?_))))
 refine At.done (At.vl ?_)
 refine At.cut (fun rs L=>∃ _:Unit,ya.c1 l1 Q∧rs=[]∧L=mkL [(0,(.tv (kSlice kTag) l1))]) ?_ ?_
 ·refine At.seq (At.region (At.d R R R R (jb (x:=(.tv (kSlice kTag) l1)) (ja R)) ?_))
  refine At.d R R R R (jt (ja R) Tryz.underlying57) ?_
  refine At.d R R R R (jb (x:=(.tv (kInt .i64) (0:Int))) (ji _ _)) ?_
  refine At.done (At.vl (At.block ?_))
  obtain ⟨n1,hF⟩:=hF
  refine At.w [] R [(0,(.tv (kSlice kTag) l1)),(3,(.tv kStr (⟨#[]⟩:BA))),(6,(.tv (kSlice kTag) l1)),(7,(.tv (kInt .i64) (l1.length:Int))),(8,(.tv (kInt .i64) (0:Int)))] ⟨R,R,R,R,R,trivial⟩ ?_
  refine At.loop (fun m rs L=>∃ (last6:BA) (t6:Int),W.iter2 (ya.l1 l1 (ya.c1 l1)) m last6 t6 Q∧rs=[]∧L=mkL [(0,(.tv (kSlice kTag) l1)),(3,(.tv kStr last6)),(6,(.tv (kSlice kTag) l1)),(7,(.tv (kInt .i64) (l1.length:Int))),(8,(.tv (kInt .i64) t6))]) ?_ ?_ (m:=n1) ⟨(⟨#[]⟩:BA),(0:Int),hF,R,R⟩
  ·rintro rs L ⟨_,_,hF,_,_⟩;exact hF
  ·rintro m1 _ _ ⟨last6,t6,hF,rfl,rfl⟩
   replace hF:=W.iter2_s hF
   unfold ya.l1 at hF
   refine At.seq (At.region (At.d R R R R (jk (ja R) (ja R) vg) ?_))
   refine At.done (At.vl (At.seq ?_))
   refine At.cond (ja R) (fun hb9=>?_) (fun hb9=>?_)
   ·replace hF:=W.ite_t hb9 hF
    refine At.skip (At.vl (At.seq (At.block (At.seq (At.region ?_)))))
    obtain ⟨hq5,hF⟩:=hF
    refine At.d R R R R (vj zTag (ja R) (ja R) Tryz.underlying57 ty_73 hq5) ?_
    refine At.d R R R R (vw (K:=kTag) (ja R) ty_73) ?_
    refine At.f R (eff_alloc R R R tz_73) ?_
    rintro _ _ ⟨g5,rfl,rfl⟩
    refine At.f R (jz R R (ja R) 0 R (Sub.self kTag) ty_73 (ja R)) ?_
    rintro _ _ ⟨rfl,rfl⟩
    refine At.done (At.vl (At.seq (At.seq (At.region (At.d R R R R (je (ja R) fa_73_0) ?_)))))
    refine At.d R R R R (jc (ja R) 0 R sub_Tag_0 ty_9) ?_
    replace hF:=W.vq hF
    refine At.f R (jn R R jp (jq R en_81 (jf (ja R) jg)) (qu.ok hF) (by rintro _ _ ⟨r,_,rfl,_⟩;exact vp)) ?_
    rintro _ _ ⟨_,_,⟨r5,hF,rfl,rfl⟩,rfl,rfl⟩
    refine At.d R R R R (ve (ja R)) ?_
    refine At.d R R R R (jb (x:=(.tv kBool (!r5))) (ja R)) ?_
    refine At.vn R R R R (jx R) R (fun hg45=>(je (ja R) fa_73_0)) ?_
    refine At.vn R R R R (jx R) R (fun hg46=>(jc (jh R hg46) 0 R sub_Tag_0 ty_9)) ?_
    refine At.vn R R R R (jx R) R (fun hg47=>(jb (x:=(.tv kStr last6)) (ja R))) ?_
    refine At.vn R R R R (jx R) R (fun hg48=>(jk (jh R hg48) (jh R hg48) bin_sleq)) ?_
    refine At.d R R R R (jm (ja R) (jl _) (ja R) vi) ?_
    refine At.d R R R R (jb (x:=(.tv kBool ((!r5)||(sLt ((rd zTag l1 t6).Key) last6||sEq ((rd zTag l1 t6).Key) last6)))) (ja R)) ?_
    refine At.vn R R R R (jx R) R (fun hg49=>(je (ja R) fa_73_1)) ?_
    refine At.vn R R R R (jx R) R (fun hg50=>(jc (jh R hg50) 0 R sub_Tag_1 ty_9)) ?_
    refine At.vn R R R R (jx R) R (fun hg51=>(jk (jh R hg51) (vk _) bin_seql)) ?_
    refine At.d R R R R (jm (ja R) (jl _) (ja R) vi) ?_
    refine At.d R R R R (jb (x:=(.tv kBool (((!r5)||(sLt ((rd zTag l1 t6).Key) last6||sEq ((rd zTag l1 t6).Key) last6))||(sEq ((rd zTag l1 t6).Value) (⟨#[]⟩:BA))))) (ja R)) ?_
    refine At.vn R R R R (jx R) R (fun hg52=>(je (ja R) fa_73_1)) ?_
    refine At.vn R R R R (jx R) R (fun hg53=>(jc (jh R hg53) 0 R sub_Tag_1 ty_9)) ?_
    refine At.vn R R R R (jx R) R (fun hg54=>(does_len_str (jh R hg54) Tryz.underlying9)) ?_
    refine At.vn R R R R (jx R) R (fun hg55=>(jk (jh R hg55) (ji _ _) bin_gtr)) ?_
    refine At.d R R R R (jm (ja R) (jl _) (ja R) vi) ?_
    refine At.done (At.vl ?_)
    refine At.cond (ja R) (fun hb10=>?_) (fun hb10=>?_)
    ·replace hF:=W.ite_t hb10 hF
     refine At.seq (At.region (At.d R R R R (jd (x:=(.tv kBool false)) (jl _)) ?_))
     refine At.done (At.vl (At.ret (At.vm ?_)))
     refine At.q ?_
     refine At.vm (At.vm ?_)
     refine At.q ?_
     refine At.vm ?_
     exact At.j rfl (rv_tmp rfl) [] rfl ⟨false,hF,rfl,rfl⟩
    ·replace hF:=W.ite_f hb10 hF
     refine At.skip (At.vl (At.region (At.d R R R R (je (ja R) fa_73_0) ?_)))
     refine At.d R R R R (jc (ja R) 0 R sub_Tag_0 ty_9) ?_
     refine At.d R R R R (jd (x:=(.tv kStr ((rd zTag l1 t6).Key))) (ja R)) ?_
     refine At.done ?_
     refine At.n ?_
     refine At.vl (At.region (At.d R R R R (jk (ja R) (ji _ _) vf) ?_))
     refine At.d R R R R (jb (x:=(.tv (kInt .i64) (w64 (t6+(1:Int))))) (ja R)) ?_
     refine At.done (At.vl ?_)
     refine At.w [] R [(0,(.tv (kSlice kTag) l1)),(3,(.tv kStr ((rd zTag l1 t6).Key))),(6,(.tv (kSlice kTag) l1)),(7,(.tv (kInt .i64) (l1.length:Int))),(8,(.tv (kInt .i64) (w64 (t6+(1:Int)))))] ⟨R,R,R,R,R,trivial⟩ (At.r ⟨(rd zTag l1 t6).Key,(w64 (t6+(1:Int))),hF,R,R⟩)
   ·replace hF:=W.ite_f hb9 hF
    refine At.exit ?_
    refine At.x (At.x ?_)
    refine At.h ?_
    refine At.vl ?_
    refine At.w [] R [(0,(.tv (kSlice kTag) l1))] ⟨R,trivial⟩ (At.r ⟨(),hF,R,R⟩)
 ·rintro _ _ ⟨_,hF,rfl,rfl⟩
  unfold ya.c1 at hF
  refine At.seq (At.region (At.d R R R R (jb (x:=(.tv (kSlice kTag) l1)) (ja R)) ?_))
  refine At.d R R R R (jt (ja R) Tryz.underlying57) ?_
  refine At.d R R R R (jk (ja R) (ji _ _) bin_leq) ?_
  refine At.d R R R R (jd (x:=(.tv kBool (decide ((l1.length:Int)≤(60:Int))))) (ja R)) ?_
  refine At.done (At.vl (At.ret ?_))
  exact At.j rfl (rv_tmp rfl) [] rfl ⟨(decide ((l1.length:Int)≤(60:Int))),hF,rfl,rfl⟩
def yx.F (o1:Object):W Bool:=W.bind (ja6.F o1.Kind) (fun r1=>W.bind (W.ite (!(sEq r1 (⟨#[]⟩:BA))) (qu.F o1.Id) (W.ret false)) (fun r2=>W.bind (W.ite (!((sEq r1 (⟨#[]⟩:BA))||(!r2))) (ya.F o1.Tags) (W.ret false)) (fun r3=>W.bind (W.ite (!(((sEq r1 (⟨#[]⟩:BA))||(!r2))||(!r3))) (jb7.F o1.Kind) (W.ret (0:Int))) (fun r4=>W.ite (((((sEq r1 (⟨#[]⟩:BA))||(!r2))||(!r3))||(decide ((o1.Refs.length:Int)<r4)))||(decide ((2000:Int)<(o1.Refs.length:Int)))) (W.ret false) (W.bind (Jl.F o1.Refs o1 (⟨#[]⟩:BA) ([]:(List (BA×Bool)))) (fun r5=>W.ite r5.1 (W.ret false) (W.ite (o1.Kind==(1:Int)) (W.bind (W.ite ((o1.Refs.length:Int)==(0:Int)) (object_on.F o1.At) (W.ret false)) (fun r6=>W.ret (((o1.Refs.length:Int)==(0:Int))&&r6))) (W.ite (o1.Kind==(5:Int)) (W.ret (((o1.Refs.length:Int)==(3:Int))&&(Vg o1.At (⟨(0:Int),(0:Int)⟩:Point)))) (W.ret (Vg o1.At (⟨(0:Int),(0:Int)⟩:Point)))))))))))
theorem yx.ok {o1:Object} {Q:Bool→Prop} (hF:yx.F o1 Q):Con Tryz.prog 50 [.tv kObject o1] [] (fun ta rs'=>∃ (r:Bool),Q r∧ta=.tv kBool r∧rs'=[]):=by
 refine Con.i Tryz.func50 Tryz.ntmps50 R R (fun C=>?_)
 unfold yx.F at hF
 refine At.seq (At.region (At.f R (jy R R R (ja R)) ?_))
 rintro _ _ ⟨g1,rfl,rfl⟩
 refine At.d R R R R (jd (x:=(.tv kBool false)) (jl _)) ?_
 refine At.done (At.vl (At.seq (At.seq ?_)))
 refine At.draw mixed [0] R [[]] (fun φ w hgd=>?_)
 replace hF:=W.vq hF
 refine AtH.take [0] hgd 0 R R R R (D':=#[Y,N,N,N,N,N,N,N,N,N,N,N,N,N,N,N,N,N,N,N,N,N,N,N,N,N,N,N,N,N,N]) (by kernel_rfl) (fun _ _ _ _ h=>h) R (je (ja R) yj) ?_
 refine AtH.take [0] hgd 1 R R R R (D':=#[Y,Y,N,N,N,N,N,N,N,N,N,N,N,N,N,N,N,N,N,N,N,N,N,N,N,N,N,N,N,N,N]) (by kernel_rfl) (fun _ _ _ _ h=>h) R (jc (ja R) 0 R qa ty_3) ?_
 refine AtH.all1 2 (by kernel_rfl) ?_
 refine AtH.f [(0,0)] R R R R R R (jn R R jp (jq R en_80 (jf (ja R) jg)) (ja6.ok hF) (by rintro _ _ ⟨r,_,rfl,_⟩;exact flat_str)) (D':=#[Y,Y,Y,N,N,N,N,N,N,N,N,N,N,N,N,N,N,N,N,N,N,N,N,N,N,N,N,N,N,N,N]) (by kernel_rfl) (by kernel_rfl) ?_
 rintro _ _ ⟨_,_,⟨r1,hF,rfl,rfl⟩,rfl,rfl⟩
 refine ⟨_,.inr ⟨R,flat_str⟩,?_⟩
 replace hF:=W.vq hF
 refine AtH.take [0] hgd 3 R R R R (D':=#[Y,Y,Y,Y,N,N,N,N,N,N,N,N,N,N,N,N,N,N,N,N,N,N,N,N,N,N,N,N,N,N,N]) (by kernel_rfl) (fun _ _ _ _ h=>h) R (jk (ja R) (vk _) bin_seql) ?_
 refine AtH.take [0] hgd 4 R R R R (D':=#[Y,Y,Y,Y,Y,N,N,N,N,N,N,N,N,N,N,N,N,N,N,N,N,N,N,N,N,N,N,N,N,N,N]) (by kernel_rfl) (fun _ _ _ _ h=>h) R (jb (x:=(.tv kBool (sEq r1 (⟨#[]⟩:BA)))) (ja R)) ?_
 refine AtH.vo [0] hgd 5 R R R (jx R) R R (D':=#[Y,Y,Y,Y,Y,Y,N,N,N,N,N,N,N,N,N,N,N,N,N,N,N,N,N,N,N,N,N,N,N,N,N]) (by kernel_rfl) (fun _ _ _ _ h=>h) R (fun hg17=>(je (ja R) zg)) ?_
 refine AtH.vo [0] hgd 6 R R R (jx R) R R (D':=#[Y,Y,Y,Y,Y,Y,Y,N,N,N,N,N,N,N,N,N,N,N,N,N,N,N,N,N,N,N,N,N,N,N,N]) (by kernel_rfl) (fun _ _ _ _ h=>h) R (fun hg18=>(jc (jh R hg18) 0 R qm ty_9)) ?_
 refine AtH.all1 7 (by kernel_rfl) ?_
 refine AtH.effG [(0,0)] R R R R R R R (jx R) (D':=#[Y,Y,Y,Y,Y,Y,Y,Y,N,N,N,N,N,N,N,N,N,N,N,N,N,N,N,N,N,N,N,N,N,N,N]) (by kernel_rfl) (by kernel_rfl) hF (fun r=>.tv kBool r) (fun _=>vp) (fun hg19 hF=>vr (jn R R jp (jq R en_81 (jf (jh R hg19) jg)) (qu.ok hF) (by rintro _ _ ⟨r,_,rfl,_⟩;exact vp)) (by rintro _ _ ⟨_,_,⟨r,hF,rfl,rfl⟩,rfl,rfl⟩;exact ⟨r,hF,R,R⟩)) (fun r2 hF=>?_)
 replace hF:=W.vq hF
 refine AtH.vo [0] hgd 8 R R R (jx R) R R (D':=#[Y,Y,Y,Y,Y,Y,Y,Y,Y,N,N,N,N,N,N,N,N,N,N,N,N,N,N,N,N,N,N,N,N,N,N]) (by kernel_rfl) (fun _ _ _ _ h=>h) R (fun hg20=>(ve (jh R hg20))) ?_
 refine AtH.take [0] hgd 9 R R R R (D':=#[Y,Y,Y,Y,Y,Y,Y,Y,Y,Y,N,N,N,N,N,N,N,N,N,N,N,N,N,N,N,N,N,N,N,N,N]) (by kernel_rfl) (fun _ _ _ _ h=>h) R (jm (ja R) (jl _) (ja R) vi) ?_
 refine AtH.take [0] hgd 10 R R R R (D':=#[Y,Y,Y,Y,Y,Y,Y,Y,Y,Y,Y,N,N,N,N,N,N,N,N,N,N,N,N,N,N,N,N,N,N,N,N]) (by kernel_rfl) (fun _ _ _ _ h=>h) R (jb (x:=(.tv kBool ((sEq r1 (⟨#[]⟩:BA))||(!r2)))) (ja R)) ?_
 refine AtH.vo [0] hgd 11 R R R (jx R) R R (D':=#[Y,Y,Y,Y,Y,Y,Y,Y,Y,Y,Y,Y,N,N,N,N,N,N,N,N,N,N,N,N,N,N,N,N,N,N,N]) (by kernel_rfl) (fun _ _ _ _ h=>h) R (fun hg21=>(je (ja R) fa_59_4)) ?_
 refine AtH.vo [0] hgd 12 R R R (jx R) R R (D':=#[Y,Y,Y,Y,Y,Y,Y,Y,Y,Y,Y,Y,Y,N,N,N,N,N,N,N,N,N,N,N,N,N,N,N,N,N,N]) (by kernel_rfl) (fun _ _ _ _ h=>h) R (fun hg22=>(jc (jh R hg22) 0 R zw ty_57)) ?_
 refine AtH.all1 13 (by kernel_rfl) ?_
 refine AtH.effG [(0,0)] R R R R R R R (jx R) (D':=#[Y,Y,Y,Y,Y,Y,Y,Y,Y,Y,Y,Y,Y,Y,N,N,N,N,N,N,N,N,N,N,N,N,N,N,N,N,N]) (by kernel_rfl) (by kernel_rfl) hF (fun r=>.tv kBool r) (fun _=>vp) (fun hg23 hF=>vr (jn R R jp (jq R en_82 (jf (jh R hg23) jg)) (ya.ok hF) (by rintro _ _ ⟨r,_,rfl,_⟩;exact vp)) (by rintro _ _ ⟨_,_,⟨r,hF,rfl,rfl⟩,rfl,rfl⟩;exact ⟨r,hF,R,R⟩)) (fun r3 hF=>?_)
 replace hF:=W.vq hF
 refine AtH.vo [0] hgd 14 R R R (jx R) R R (D':=#[Y,Y,Y,Y,Y,Y,Y,Y,Y,Y,Y,Y,Y,Y,Y,N,N,N,N,N,N,N,N,N,N,N,N,N,N,N,N]) (by kernel_rfl) (fun _ _ _ _ h=>h) R (fun hg24=>(ve (jh R hg24))) ?_
 refine AtH.take [0] hgd 15 R R R R (D':=#[Y,Y,Y,Y,Y,Y,Y,Y,Y,Y,Y,Y,Y,Y,Y,Y,N,N,N,N,N,N,N,N,N,N,N,N,N,N,N]) (by kernel_rfl) (fun _ _ _ _ h=>h) R (jm (ja R) (jl _) (ja R) vi) ?_
 refine AtH.take [0] hgd 16 R R R R (D':=#[Y,Y,Y,Y,Y,Y,Y,Y,Y,Y,Y,Y,Y,Y,Y,Y,Y,N,N,N,N,N,N,N,N,N,N,N,N,N,N]) (by kernel_rfl) (fun _ _ _ _ h=>h) R (jb (x:=(.tv kBool (((sEq r1 (⟨#[]⟩:BA))||(!r2))||(!r3)))) (ja R)) ?_
 refine AtH.vo [0] hgd 17 R R R (jx R) R R (D':=#[Y,Y,Y,Y,Y,Y,Y,Y,Y,Y,Y,Y,Y,Y,Y,Y,Y,Y,N,N,N,N,N,N,N,N,N,N,N,N,N]) (by kernel_rfl) (fun _ _ _ _ h=>h) R (fun hg25=>(je (ja R) qz)) ?_
 refine AtH.vo [0] hgd 18 R R R (jx R) R R (D':=#[Y,Y,Y,Y,Y,Y,Y,Y,Y,Y,Y,Y,Y,Y,Y,Y,Y,Y,Y,N,N,N,N,N,N,N,N,N,N,N,N]) (by kernel_rfl) (fun _ _ _ _ h=>h) R (fun hg26=>(jc (jh R hg26) 0 R Vl ty_41)) ?_
 refine AtH.vo [0] hgd 19 R R R (jx R) R R (D':=#[Y,Y,Y,Y,Y,Y,Y,Y,Y,Y,Y,Y,Y,Y,Y,Y,Y,Y,Y,Y,N,N,N,N,N,N,N,N,N,N,N]) (by kernel_rfl) (fun _ _ _ _ h=>h) R (fun hg27=>(jt (jh R hg27) Tryz.underlying41)) ?_
 refine AtH.vo [0] hgd 20 R R R (jx R) R R (D':=#[Y,Y,Y,Y,Y,Y,Y,Y,Y,Y,Y,Y,Y,Y,Y,Y,Y,Y,Y,Y,Y,N,N,N,N,N,N,N,N,N,N]) (by kernel_rfl) (fun _ _ _ _ h=>h) R (fun hg28=>(je (ja R) yj)) ?_
 refine AtH.vo [0] hgd 21 R R R (jx R) R R (D':=#[Y,Y,Y,Y,Y,Y,Y,Y,Y,Y,Y,Y,Y,Y,Y,Y,Y,Y,Y,Y,Y,Y,N,N,N,N,N,N,N,N,N]) (by kernel_rfl) (fun _ _ _ _ h=>h) R (fun hg29=>(jc (jh R hg29) 0 R qa ty_3)) ?_
 refine AtH.all1 22 (by kernel_rfl) ?_
 refine AtH.effG [(0,0)] R R R R R R R (jx R) (D':=#[Y,Y,Y,Y,Y,Y,Y,Y,Y,Y,Y,Y,Y,Y,Y,Y,Y,Y,Y,Y,Y,Y,Y,N,N,N,N,N,N,N,N]) (by kernel_rfl) (by kernel_rfl) hF (fun r=>.tv (kInt .i64) r) (fun _=>flat_int) (fun hg30 hF=>vr (jn R R jp (jq R en_83 (jf (jh R hg30) jg)) (jb7.ok hF) (by rintro _ _ ⟨r,_,rfl,_⟩;exact flat_int)) (by rintro _ _ ⟨_,_,⟨r,hF,rfl,rfl⟩,rfl,rfl⟩;exact ⟨r,hF,R,R⟩)) (fun r4 hF=>?_)
 refine AtH.vo [0] hgd 23 R R R (jx R) R R (D':=#[Y,Y,Y,Y,Y,Y,Y,Y,Y,Y,Y,Y,Y,Y,Y,Y,Y,Y,Y,Y,Y,Y,Y,Y,N,N,N,N,N,N,N]) (by kernel_rfl) (fun _ _ _ _ h=>h) R (fun hg31=>(jk (jh R hg31) (jh R hg31) vg)) ?_
 refine AtH.take [0] hgd 24 R R R R (D':=#[Y,Y,Y,Y,Y,Y,Y,Y,Y,Y,Y,Y,Y,Y,Y,Y,Y,Y,Y,Y,Y,Y,Y,Y,Y,N,N,N,N,N,N]) (by kernel_rfl) (fun _ _ _ _ h=>h) R (jm (ja R) (jl _) (ja R) vi) ?_
 refine AtH.take [0] hgd 25 R R R R (D':=#[Y,Y,Y,Y,Y,Y,Y,Y,Y,Y,Y,Y,Y,Y,Y,Y,Y,Y,Y,Y,Y,Y,Y,Y,Y,Y,N,N,N,N,N]) (by kernel_rfl) (fun _ _ _ _ h=>h) R (jb (x:=(.tv kBool ((((sEq r1 (⟨#[]⟩:BA))||(!r2))||(!r3))||(decide ((o1.Refs.length:Int)<r4))))) (ja R)) ?_
 refine AtH.vo [0] hgd 26 R R R (jx R) R R (D':=#[Y,Y,Y,Y,Y,Y,Y,Y,Y,Y,Y,Y,Y,Y,Y,Y,Y,Y,Y,Y,Y,Y,Y,Y,Y,Y,Y,N,N,N,N]) (by kernel_rfl) (fun _ _ _ _ h=>h) R (fun hg32=>(je (ja R) qz)) ?_
 refine AtH.vo [0] hgd 27 R R R (jx R) R R (D':=#[Y,Y,Y,Y,Y,Y,Y,Y,Y,Y,Y,Y,Y,Y,Y,Y,Y,Y,Y,Y,Y,Y,Y,Y,Y,Y,Y,Y,N,N,N]) (by kernel_rfl) (fun _ _ _ _ h=>h) R (fun hg33=>(jc (jh R hg33) 0 R Vl ty_41)) ?_
 refine AtH.vo [0] hgd 28 R R R (jx R) R R (D':=#[Y,Y,Y,Y,Y,Y,Y,Y,Y,Y,Y,Y,Y,Y,Y,Y,Y,Y,Y,Y,Y,Y,Y,Y,Y,Y,Y,Y,Y,N,N]) (by kernel_rfl) (fun _ _ _ _ h=>h) R (fun hg34=>(jt (jh R hg34) Tryz.underlying41)) ?_
 refine AtH.vo [0] hgd 29 R R R (jx R) R R (D':=#[Y,Y,Y,Y,Y,Y,Y,Y,Y,Y,Y,Y,Y,Y,Y,Y,Y,Y,Y,Y,Y,Y,Y,Y,Y,Y,Y,Y,Y,Y,N]) (by kernel_rfl) (fun _ _ _ _ h=>h) R (fun hg35=>(jk (jh R hg35) (ji _ _) bin_gtr)) ?_
 refine AtH.take [0] hgd 30 R R R R (D':=#[Y,Y,Y,Y,Y,Y,Y,Y,Y,Y,Y,Y,Y,Y,Y,Y,Y,Y,Y,Y,Y,Y,Y,Y,Y,Y,Y,Y,Y,Y,Y]) (by kernel_rfl) (fun _ _ _ _ h=>h) R (jm (ja R) (jl _) (ja R) vi) ?_
 refine AtH.done (by kernel_rfl) ?_
 refine At.vl ?_
 refine At.cond (ja R) (fun hb1=>?_) (fun hb1=>?_)
 ·replace hF:=W.ite_t hb1 hF
  refine At.seq (At.region (At.d R R R R (jd (x:=(.tv kBool false)) (jl _)) ?_))
  refine At.done (At.vl (At.ret (At.vm ?_)))
  exact At.j rfl (rv_tmp rfl) [] rfl ⟨false,hF,rfl,rfl⟩
 ·replace hF:=W.ite_f hb1 hF
  refine At.skip (At.vl (At.seq (At.region (At.f R (eff_makeMap R R R kStr kBool) ?_))))
  rintro _ _ ⟨g2,rfl,rfl⟩
  refine At.f R (eff_alloc R R R tz_56) ?_
  rintro _ _ ⟨g3,rfl,rfl⟩
  refine At.f R (eff_store_swap (K':=kRaw) (x':=(.map (some g2))) R R (ja R) 0 R (Swap.whole R) tyr_56 (opd_raw (ja R) R)) ?_
  rintro _ _ ⟨rfl,rfl⟩
  refine At.done (At.vl (At.seq (At.region (At.f R (eff_alloc R R R tz_9) ?_))))
  rintro _ _ ⟨g4,rfl,rfl⟩
  refine At.f R (jz R R (ja R) 0 R (Sub.self kStr) ty_9 (vk _)) ?_
  rintro _ _ ⟨rfl,rfl⟩
  refine At.done (At.vl (At.seq (At.region (At.d R R R R (does_cls (firsts:=[]) (caps:=[.tmp 1,.tmp 4,.tmp 3]) R (jf (ja R) (jf (ja R) (jf (ja R) jg)))) ?_))))
  refine At.d R R R R (jd (x:=(.cls 84 0 (tupl [(.eq (.pointer (some ⟨g1,0,none⟩))),(.eq (.pointer (some ⟨g4,0,none⟩))),(.eq (.pointer (some ⟨g3,0,none⟩)))]))) (ja R)) ?_
  refine At.done (At.vl (At.seq (At.seq (At.region (At.d R R R R (je (ja R) qz) ?_)))))
  refine At.d R R R R (jc (ja R) 3 R Vl ty_41) ?_
  refine At.d R R R R (jb (x:=(.cls 84 0 (tupl [(.eq (.pointer (some ⟨g1,0,none⟩))),(.eq (.pointer (some ⟨g4,0,none⟩))),(.eq (.pointer (some ⟨g3,0,none⟩)))]))) (ja R)) ?_
  replace hF:=W.vq hF
  refine At.f R (jo R R (jq R en_85 (jf (ja R) (jf (ja R) jg))) [3,0,1,2] R (Jl.ok hF)) ?_
  rintro _ _ ⟨_,_,⟨r5,hF,rfl,rfl⟩,rfl,rfl⟩
  refine At.done (At.vl ?_)
  refine At.cond (ja R) (fun hb2=>?_) (fun hb2=>?_)
  ·replace hF:=W.ite_t hb2 hF
   refine At.seq (At.region (At.d R R R R (jd (x:=(.tv kBool false)) (jl _)) ?_))
   refine At.done (At.vl (At.ret (At.vm ?_)))
   exact At.j rfl (rv_tmp rfl) [] rfl ⟨false,hF,rfl,rfl⟩
  ·replace hF:=W.ite_f hb2 hF
   refine At.skip (At.vl (At.seq (At.seq (At.region (At.d R R R R (je (ja R) yj) ?_)))))
   refine At.d R R R R (jc (ja R) 0 R qa ty_3) ?_
   refine At.done (At.vl (At.block (At.seq (At.region (At.d R R R R (jk (ja R) (ji _ _) bin_eql) ?_)))))
   refine At.d R R R R (jd (x:=(.tv kBool (o1.Kind==(1:Int)))) (ja R)) ?_
   refine At.done (At.vl ?_)
   refine At.cond (ja R) (fun hb3=>?_) (fun hb3=>?_)
   ·replace hF:=W.ite_t hb3 hF
    refine At.seq (At.region (At.d R R R R (je (ja R) qz) ?_))
    refine At.d R R R R (jc (ja R) 0 R Vl ty_41) ?_
    refine At.d R R R R (jt (ja R) Tryz.underlying41) ?_
    refine At.d R R R R (jk (ja R) (ji _ _) bin_eql) ?_
    refine At.d R R R R (jb (x:=(.tv kBool ((o1.Refs.length:Int)==(0:Int)))) (ja R)) ?_
    refine At.vn R R R R (jw R) R (fun hg36=>(je (ja R) jb6)) ?_
    refine At.vn R R R R (jw R) R (fun hg37=>(jc (jh R hg37) 0 R wm ty_37)) ?_
    replace hF:=W.vq hF
    refine At.effG R R R R (jw R) hF (fun r=>.tv kBool r) (fun hg38 hF=>vr (jn R R jp (jq R en_86 (jf (jh R hg38) jg)) (object_on.ok hF) (by rintro _ _ ⟨r,_,rfl,_⟩;exact vp)) (by rintro _ _ ⟨_,_,⟨r,hF,rfl,rfl⟩,rfl,rfl⟩;exact ⟨r,hF,R,R⟩)) (fun r6 hF=>?_)
    refine At.d R R R R (jm (ja R) (ja R) (jl _) vh) ?_
    refine At.d R R R R (jd (x:=(.tv kBool (((o1.Refs.length:Int)==(0:Int))&&r6))) (ja R)) ?_
    refine At.done (At.vl (At.ret ?_))
    refine At.q ?_
    refine At.vm ?_
    exact At.j rfl (rv_tmp rfl) [] rfl ⟨(((o1.Refs.length:Int)==(0:Int))&&r6),hF,rfl,rfl⟩
   ·replace hF:=W.ite_f hb3 hF
    refine At.seq (At.region (At.d R R R R (jk (ja R) (ji _ _) bin_eql) ?_))
    refine At.d R R R R (jd (x:=(.tv kBool (o1.Kind==(5:Int)))) (ja R)) ?_
    refine At.done (At.vl ?_)
    refine At.cond (ja R) (fun hb4=>?_) (fun hb4=>?_)
    ·replace hF:=W.ite_t hb4 hF
     refine At.seq (At.region (At.d R R R R (je (ja R) qz) ?_))
     refine At.d R R R R (jc (ja R) 0 R Vl ty_41) ?_
     refine At.d R R R R (jt (ja R) Tryz.underlying41) ?_
     refine At.d R R R R (jk (ja R) (ji _ _) bin_eql) ?_
     refine At.d R R R R (jb (x:=(.tv kBool ((o1.Refs.length:Int)==(3:Int)))) (ja R)) ?_
     refine At.vn R R R R (jw R) R (fun hg39=>(je (ja R) jb6)) ?_
     refine At.vn R R R R (jw R) R (fun hg40=>(jc (jh R hg40) 0 R wm ty_37)) ?_
     refine At.vn R R R R (jw R) R (fun hg41=>(vd js zr_37 bd_37 R fills_nil)) ?_
     refine At.vn R R R R (jw R) R (fun hg42=>(jk (jh R hg42) (jh R hg42) (bin_eq jb3))) ?_
     refine At.d R R R R (jm (ja R) (ja R) (jl _) vh) ?_
     refine At.d R R R R (jd (x:=(.tv kBool (((o1.Refs.length:Int)==(3:Int))&&(Vg o1.At (⟨(0:Int),(0:Int)⟩:Point))))) (ja R)) ?_
     refine At.done (At.vl (At.ret ?_))
     refine At.q ?_
     refine At.vm ?_
     exact At.j rfl (rv_tmp rfl) [] rfl ⟨(((o1.Refs.length:Int)==(3:Int))&&(Vg o1.At (⟨(0:Int),(0:Int)⟩:Point))),hF,rfl,rfl⟩
    ·replace hF:=W.ite_f hb4 hF
     refine At.skip ?_
     refine At.n ?_
     refine At.vl (At.seq (At.region (At.d R R R R (je (ja R) jb6) ?_)))
     refine At.d R R R R (jc (ja R) 0 R wm ty_37) ?_
     refine At.d R R R R (vd js zr_37 bd_37 R fills_nil) ?_
     refine At.d R R R R (jk (ja R) (ja R) (bin_eq jb3)) ?_
     refine At.d R R R R (jd (x:=(.tv kBool (Vg o1.At (⟨(0:Int),(0:Int)⟩:Point)))) (ja R)) ?_
     refine At.done (At.vl (At.ret ?_))
     exact At.j rfl (rv_tmp rfl) [] rfl ⟨(Vg o1.At (⟨(0:Int),(0:Int)⟩:Point)),hF,rfl,rfl⟩
def qj.c1 (m1:Map):W Bool:=W.ret (decide ((m1.Objects.length:Int)≤(1000000:Int)))
def qj.l1 (m1:Map) (K1:W Bool) (A1:BA→Int→W Bool) (last6:BA) (t6:Int):W Bool:=W.ite (decide (t6<(m1.Objects.length:Int))) (W.req (0≤t6∧t6<(m1.Objects.length:Int)) (W.bind (yx.F (rd zObject m1.Objects t6)) (fun r5=>W.ite ((!r5)||(sLt ((rd zObject m1.Objects t6).Id) last6||sEq ((rd zObject m1.Objects t6).Id) last6)) (W.ret false) (A1 ((rd zObject m1.Objects t6).Id) (w64 (t6+(1:Int))))))) (K1)
def qj.F (m1:Map):W Bool:=W.ex fun n=>W.iter2 (qj.l1 m1 (qj.c1 m1)) n (⟨#[]⟩:BA) (0:Int)
theorem qj.ok {m1:Map} {Q:Bool→Prop} (hF:qj.F m1 Q):Con Tryz.prog 20 [.tv kMap m1] [] (fun ta rs'=>∃ (r:Bool),Q r∧ta=.tv kBool r∧rs'=[]):=by
 refine Con.i Tryz.func20 Tryz.ntmps20 R R (fun C=>?_)
 unfold qj.F at hF
 refine At.seq (At.region (At.f R (jy R R R (ja R)) ?_))
 rintro _ _ ⟨g1,rfl,rfl⟩
 refine At.d R R R R (jd (x:=(.tv kBool false)) (jl _)) ?_
 refine At.done (At.vl (At.seq (At.region (At.d R R R R (jd (x:=(.tv kStr (⟨#[]⟩:BA))) (vk _)) ?_))))
 refine At.done (At.vl ?_)
 refine At.cut (fun rs L=>∃ _:Unit,qj.c1 m1 Q∧rs=[.box g1 24 kMap m1]∧L=mkL [(1,(.eq (.pointer (some ⟨g1,0,none⟩))))]) ?_ ?_
 ·refine At.seq (At.region (At.d R R R R (je (ja R) qq) ?_))
  refine At.d R R R R (jc (ja R) 0 R qc ty_22) ?_
  refine At.d R R R R (jt (ja R) Tryz.underlying22) ?_
  refine At.d R R R R (jb (x:=(.tv (kInt .i64) (0:Int))) (ji _ _)) ?_
  refine At.done (At.vl (At.block ?_))
  obtain ⟨n1,hF⟩:=hF
  refine At.w [0] R [(1,(.eq (.pointer (some ⟨g1,0,none⟩)))),(3,(.tv kStr (⟨#[]⟩:BA))),(7,(.tv (kSlice kObject) m1.Objects)),(8,(.tv (kInt .i64) (m1.Objects.length:Int))),(9,(.tv (kInt .i64) (0:Int)))] ⟨R,R,R,R,R,trivial⟩ ?_
  refine At.loop (fun m rs L=>∃ (last6:BA) (t6:Int),W.iter2 (qj.l1 m1 (qj.c1 m1)) m last6 t6 Q∧rs=[.box g1 24 kMap m1]∧L=mkL [(1,(.eq (.pointer (some ⟨g1,0,none⟩)))),(3,(.tv kStr last6)),(7,(.tv (kSlice kObject) m1.Objects)),(8,(.tv (kInt .i64) (m1.Objects.length:Int))),(9,(.tv (kInt .i64) t6))]) ?_ ?_ (m:=n1) ⟨(⟨#[]⟩:BA),(0:Int),hF,R,R⟩
  ·rintro rs L ⟨_,_,hF,_,_⟩;exact hF
  ·rintro m2 _ _ ⟨last6,t6,hF,rfl,rfl⟩
   replace hF:=W.iter2_s hF
   unfold qj.l1 at hF
   refine At.seq (At.region (At.d R R R R (jk (ja R) (ja R) vg) ?_))
   refine At.done (At.vl (At.seq ?_))
   refine At.cond (ja R) (fun hb9=>?_) (fun hb9=>?_)
   ·replace hF:=W.ite_t hb9 hF
    refine At.skip (At.vl (At.seq (At.block (At.seq (At.region ?_)))))
    obtain ⟨hq5,hF⟩:=hF
    refine At.d R R R R (vj zObject (ja R) (ja R) Tryz.underlying22 ty_59 hq5) ?_
    refine At.d R R R R (vw (K:=kObject) (ja R) ty_59) ?_
    refine At.f R (eff_alloc R R R tz_59) ?_
    rintro _ _ ⟨g6,rfl,rfl⟩
    refine At.f R (jz R R (ja R) 0 R (Sub.self kObject) ty_59 (ja R)) ?_
    rintro _ _ ⟨rfl,rfl⟩
    refine At.done (At.vl (At.seq (At.seq (At.region (At.d R R R R (jc (ja R) 0 R (Sub.self kObject) ty_59) ?_)))))
    replace hF:=W.vq hF
    refine At.f R (jn R R jp (jq R en_50 (jf (ja R) jg)) (yx.ok hF) (by rintro _ _ ⟨r,_,rfl,_⟩;exact vp)) ?_
    rintro _ _ ⟨_,_,⟨r5,hF,rfl,rfl⟩,rfl,rfl⟩
    refine At.d R R R R (ve (ja R)) ?_
    refine At.d R R R R (jb (x:=(.tv kBool (!r5))) (ja R)) ?_
    refine At.vn R R R R (jx R) R (fun hg17=>(je (ja R) zg)) ?_
    refine At.vn R R R R (jx R) R (fun hg18=>(jc (jh R hg18) 0 R qm ty_9)) ?_
    refine At.vn R R R R (jx R) R (fun hg19=>(jb (x:=(.tv kStr last6)) (ja R))) ?_
    refine At.vn R R R R (jx R) R (fun hg20=>(jk (jh R hg20) (jh R hg20) bin_sleq)) ?_
    refine At.d R R R R (jm (ja R) (jl _) (ja R) vi) ?_
    refine At.done (At.vl ?_)
    refine At.cond (ja R) (fun hb10=>?_) (fun hb10=>?_)
    ·replace hF:=W.ite_t hb10 hF
     refine At.seq (At.region (At.d R R R R (jd (x:=(.tv kBool false)) (jl _)) ?_))
     refine At.done (At.vl (At.ret (At.vm ?_)))
     refine At.q ?_
     refine At.vm (At.vm ?_)
     refine At.q ?_
     refine At.vm ?_
     exact At.j rfl (rv_tmp rfl) [] rfl ⟨false,hF,rfl,rfl⟩
    ·replace hF:=W.ite_f hb10 hF
     refine At.skip (At.vl (At.region (At.d R R R R (je (ja R) zg) ?_)))
     refine At.d R R R R (jc (ja R) 0 R qm ty_9) ?_
     refine At.d R R R R (jd (x:=(.tv kStr ((rd zObject m1.Objects t6).Id))) (ja R)) ?_
     refine At.done ?_
     refine At.n ?_
     refine At.vl (At.region (At.d R R R R (jk (ja R) (ji _ _) vf) ?_))
     refine At.d R R R R (jb (x:=(.tv (kInt .i64) (w64 (t6+(1:Int))))) (ja R)) ?_
     refine At.done (At.vl ?_)
     refine At.w [1] R [(1,(.eq (.pointer (some ⟨g1,0,none⟩)))),(3,(.tv kStr ((rd zObject m1.Objects t6).Id))),(7,(.tv (kSlice kObject) m1.Objects)),(8,(.tv (kInt .i64) (m1.Objects.length:Int))),(9,(.tv (kInt .i64) (w64 (t6+(1:Int)))))] ⟨R,R,R,R,R,trivial⟩ (At.r ⟨(rd zObject m1.Objects t6).Id,(w64 (t6+(1:Int))),hF,R,R⟩)
   ·replace hF:=W.ite_f hb9 hF
    refine At.exit ?_
    refine At.x (At.x ?_)
    refine At.h ?_
    refine At.vl ?_
    refine At.w [0] R [(1,(.eq (.pointer (some ⟨g1,0,none⟩))))] ⟨R,trivial⟩ (At.r ⟨(),hF,R,R⟩)
 ·rintro _ _ ⟨_,hF,rfl,rfl⟩
  unfold qj.c1 at hF
  refine At.seq (At.region (At.d R R R R (je (ja R) qq) ?_))
  refine At.d R R R R (jc (ja R) 0 R qc ty_22) ?_
  refine At.d R R R R (jt (ja R) Tryz.underlying22) ?_
  refine At.d R R R R (jk (ja R) (ji _ _) bin_leq) ?_
  refine At.d R R R R (jd (x:=(.tv kBool (decide ((m1.Objects.length:Int)≤(1000000:Int))))) (ja R)) ?_
  refine At.done (At.vl (At.ret ?_))
  exact At.j rfl (rv_tmp rfl) [] rfl ⟨(decide ((m1.Objects.length:Int)≤(1000000:Int))),hF,rfl,rfl⟩
def zy.F (m1:Map):W Bool:=W.bind (qj.F m1) (fun r1=>W.ret (!r1))
theorem zy.ok {m1:Map} {Q:Bool→Prop} (hF:zy.F m1 Q):Con Tryz.prog 95 [.tv kMap m1] [] (fun ta rs'=>∃ (r:Bool),Q r∧ta=.tv kBool r∧rs'=[]):=by
 refine Con.i Tryz.func95 Tryz.ntmps95 R R (fun C=>?_)
 unfold zy.F at hF
 refine At.seq (At.region (At.f R (jy R R R (ja R)) ?_))
 rintro _ _ ⟨g1,rfl,rfl⟩
 refine At.d R R R R (jd (x:=(.tv kBool false)) (jl _)) ?_
 refine At.done (At.vl (At.seq (At.region (At.d R R R R (jc (ja R) 0 R (Sub.self kMap) ty_24) ?_))))
 replace hF:=W.vq hF
 refine At.f R (jn R R jp (jq R en_20 (jf (ja R) jg)) (qj.ok hF) (by rintro _ _ ⟨r,_,rfl,_⟩;exact vp)) ?_
 rintro _ _ ⟨_,_,⟨r1,hF,rfl,rfl⟩,rfl,rfl⟩
 refine At.d R R R R (ve (ja R)) ?_
 refine At.d R R R R (jd (x:=(.tv kBool (!r1))) (ja R)) ?_
 refine At.done (At.vl (At.ret ?_))
 exact At.j rfl (rv_tmp rfl) [] rfl ⟨(!r1),hF,rfl,rfl⟩
def Jx.c1:W Int:=W.ret (-1:Int)
def Jx.l1 (s1:(List Map)) (K1:W Int) (A1:Int→W Int) (t6:Int):W Int:=W.ite (decide (t6<(s1.length:Int))) (W.req (0≤t6∧t6<(s1.length:Int)) (W.bind (zy.F (rd zMap s1 t6)) (fun r5=>W.ite r5 (W.ret t6) (A1 (w64 (t6+(1:Int))))))) (K1)
def Jx.F (s1:(List Map)):W Int:=W.ex fun n=>W.iter1 (Jx.l1 s1 (Jx.c1)) n (0:Int)
theorem Jx.ok {s1:(List Map)} {Q:Int→Prop} (hF:Jx.F s1 Q):Con Tryz.prog 134 [.tv (kSlice kMap) s1,.cls 95 0 (tupl [])] [] (fun ta rs'=>∃ (r:Int),Q r∧ta=.tv (kInt .i64) r∧rs'=[]):=by
 refine Con.i Tryz.func134 Tryz.ntmps134 R R (fun C=>?_)
 unfold Jx.F at hF
 refine At.seq (At.region (At.d R R R R (jd (x:=(.tv (kInt .i64) (0:Int))) (ji _ _)) ?_))
 refine At.done (At.vl ?_)
 refine At.cut (fun rs L=>∃ _:Unit,Jx.c1 Q∧rs=[]∧L=mkL []) ?_ ?_
 ·refine At.seq (At.region (At.d R R R R (jb (x:=(.tv (kSlice kMap) s1)) (ja R)) ?_))
  refine At.d R R R R (jt (ja R) Tryz.underlying144) ?_
  refine At.d R R R R (jb (x:=(.tv (kInt .i64) (0:Int))) (ji _ _)) ?_
  refine At.done (At.vl (At.block ?_))
  obtain ⟨n1,hF⟩:=hF
  refine At.w [] R [(0,(.tv (kSlice kMap) s1)),(1,(.cls 95 0 (tupl []))),(7,(.tv (kInt .i64) (s1.length:Int))),(8,(.tv (kInt .i64) (0:Int)))] ⟨R,R,R,R,trivial⟩ ?_
  refine At.loop (fun m rs L=>∃ (t6:Int),W.iter1 (Jx.l1 s1 (Jx.c1)) m t6 Q∧rs=[]∧L=mkL [(0,(.tv (kSlice kMap) s1)),(1,(.cls 95 0 (tupl []))),(7,(.tv (kInt .i64) (s1.length:Int))),(8,(.tv (kInt .i64) t6))]) ?_ ?_ (m:=n1) ⟨(0:Int),hF,R,R⟩
  ·rintro rs L ⟨_,hF,_,_⟩;exact hF
  ·rintro m1 _ _ ⟨t6,hF,rfl,rfl⟩
   replace hF:=W.iter1_s hF
   unfold Jx.l1 at hF
   refine At.seq (At.region (At.d R R R R (jk (ja R) (ja R) vg) ?_))
   refine At.done (At.vl (At.seq ?_))
   refine At.cond (ja R) (fun hb9=>?_) (fun hb9=>?_)
   ·replace hF:=W.ite_t hb9 hF
    refine At.skip (At.vl (At.seq (At.block (At.seq (At.region (At.d R R R R (jb (x:=(.tv (kInt .i64) t6)) (ja R)) ?_))))))
    refine At.d R R R R (jd (x:=(.tv (kInt .i64) t6)) (ja R)) ?_
    refine At.done (At.vl (At.seq (At.region (At.d R R R R (jb (x:=(.cls 95 0 (tupl []))) (ja R)) ?_))))
    refine At.d R R R R (jb (x:=(.tv (kSlice kMap) s1)) (ja R)) ?_
    refine At.d R R R R (jb (x:=(.tv (kInt .i64) t6)) (ja R)) ?_
    obtain ⟨hq5,hF⟩:=hF
    refine At.d R R R R (vj zMap (ja R) (ja R) Tryz.underlying144 ty_24 hq5) ?_
    refine At.d R R R R (vw (K:=kMap) (ja R) ty_24) ?_
    replace hF:=W.vq hF
    refine At.f R (jn R R jp (ent_val0 R (ja R) en_95 (jf (ja R) jg)) (zy.ok hF) (by rintro _ _ ⟨r,_,rfl,_⟩;exact vp)) ?_
    rintro _ _ ⟨_,_,⟨r5,hF,rfl,rfl⟩,rfl,rfl⟩
    refine At.done (At.vl ?_)
    refine At.cond (ja R) (fun hb10=>?_) (fun hb10=>?_)
    ·replace hF:=W.ite_t hb10 hF
     refine At.seq (At.region (At.d R R R R (jb (x:=(.tv (kInt .i64) t6)) (ja R)) ?_))
     refine At.d R R R R (jd (x:=(.tv (kInt .i64) t6)) (ja R)) ?_
     refine At.done (At.vl (At.ret ?_))
     refine At.q ?_
     refine At.vm (At.vm ?_)
     refine At.q ?_
     refine At.vm ?_
     exact At.j rfl (rv_tmp rfl) [] rfl ⟨t6,hF,rfl,rfl⟩
    ·replace hF:=W.ite_f hb10 hF
     refine At.skip ?_
     refine At.n ?_
     refine At.vl (At.region (At.d R R R R (jk (ja R) (ji _ _) vf) ?_))
     refine At.d R R R R (jb (x:=(.tv (kInt .i64) (w64 (t6+(1:Int))))) (ja R)) ?_
     refine At.done (At.vl ?_)
     refine At.w [] R [(0,(.tv (kSlice kMap) s1)),(1,(.cls 95 0 (tupl []))),(7,(.tv (kInt .i64) (s1.length:Int))),(8,(.tv (kInt .i64) (w64 (t6+(1:Int)))))] ⟨R,R,R,R,trivial⟩ (At.r ⟨(w64 (t6+(1:Int))),hF,R,R⟩)
   ·replace hF:=W.ite_f hb9 hF
    refine At.exit ?_
    refine At.x (At.x ?_)
    refine At.h ?_
    refine At.vl ?_
    refine At.w [] R [] trivial (At.r ⟨(),hF,R,R⟩)
 ·rintro _ _ ⟨_,hF,rfl,rfl⟩
  unfold Jx.c1 at hF
  refine At.seq (At.region (At.d R R R R (jd (x:=(.tv (kInt .i64) (-1:Int))) (ji _ _)) ?_))
  refine At.done (At.vl (At.ret ?_))
  exact At.j rfl (rv_tmp rfl) [] rfl ⟨(-1:Int),hF,rfl,rfl⟩
def Vq.F (s1:(List Map)):W Bool:=W.bind (Jx.F s1) (fun r1=>W.ret (decide ((0:Int)≤r1)))
theorem Vq.ok {s1:(List Map)} {Q:Bool→Prop} (hF:Vq.F s1 Q):Con Tryz.prog 94 [.tv (kSlice kMap) s1,.cls 95 0 (tupl [])] [] (fun ta rs'=>∃ (r:Bool),Q r∧ta=.tv kBool r∧rs'=[]):=by
 refine Con.i Tryz.func94 Tryz.ntmps94 R R (fun C=>?_)
 unfold Vq.F at hF
 refine At.seq (At.region (At.d R R R R (jd (x:=(.tv kBool false)) (jl _)) ?_))
 refine At.done (At.vl (At.seq (At.region (At.d R R R R (jb (x:=(.tv (kSlice kMap) s1)) (ja R)) ?_))))
 refine At.d R R R R (jb (x:=(.cls 95 0 (tupl []))) (ja R)) ?_
 replace hF:=W.vq hF
 refine At.f R (jn R R jp (jq R en_134 (jf (ja R) (jf (ja R) jg))) (Jx.ok hF) (by rintro _ _ ⟨r,_,rfl,_⟩;exact flat_int)) ?_
 rintro _ _ ⟨_,_,⟨r1,hF,rfl,rfl⟩,rfl,rfl⟩
 refine At.d R R R R (jk (ja R) (ji _ _) bin_geq) ?_
 refine At.d R R R R (jd (x:=(.tv kBool (decide ((0:Int)≤r1)))) (ja R)) ?_
 refine At.done (At.vl (At.ret ?_))
 exact At.j rfl (rv_tmp rfl) [] rfl ⟨(decide ((0:Int)≤r1)),hF,rfl,rfl⟩
def jb1.F (l1:(List Map)):W Bool:=W.bind (Vq.F l1) (fun r1=>W.ret (!r1))
theorem jb1.ok {l1:(List Map)} {Q:Bool→Prop} (hF:jb1.F l1 Q):Con Tryz.prog 60 [.tv (kSlice kMap) l1] [] (fun ta rs'=>∃ (r:Bool),Q r∧ta=.tv kBool r∧rs'=[]):=by
 refine Con.i Tryz.func60 Tryz.ntmps60 R R (fun C=>?_)
 unfold jb1.F at hF
 refine At.seq (At.region (At.d R R R R (jd (x:=(.tv kBool false)) (jl _)) ?_))
 refine At.done (At.vl (At.seq (At.region (At.d R R R R (jb (x:=(.tv (kSlice kMap) l1)) (ja R)) ?_))))
 replace hF:=W.vq hF
 refine At.f R (jn R R jp (jq R en_94 (jf (ja R) (jf (opd_fn 95) jg))) (Vq.ok hF) (by rintro _ _ ⟨r,_,rfl,_⟩;exact vp)) ?_
 rintro _ _ ⟨_,_,⟨r1,hF,rfl,rfl⟩,rfl,rfl⟩
 refine At.d R R R R (ve (ja R)) ?_
 refine At.d R R R R (jd (x:=(.tv kBool (!r1))) (ja R)) ?_
 refine At.done (At.vl (At.ret ?_))
 exact At.j rfl (rv_tmp rfl) [] rfl ⟨(!r1),hF,rfl,rfl⟩
def qd.F (s1:(List Object)):W (List Object):=W.any (fun b1=>b1=true→s1=[]) (fun b1=>W.ite b1 (W.ret ([]:List Object)) (W.req ((([]:List Object).length+s1.length)*88≤140737488355328∧([]:List Object).length+s1.length≤140737488355328) (W.ret (([]:List Object)++s1))))
theorem qd.ok {s1:(List Object)} {Q:(List Object)→Prop} (hF:qd.F s1 Q):Con Tryz.prog 62 [.tv (kSlice kObject) s1] [] (fun ta rs'=>∃ (r:(List Object)) (u0:Value),Q r∧ta=.eq u0∧rs'=[.row u0 59 kObject r]):=by
 refine Con.i Tryz.func62 Tryz.ntmps62 R R (fun C=>?_)
 unfold qd.F at hF
 refine At.seq (At.region (At.d R R R R (jd (x:=(.eq (.slice none 0 0))) (opd_eq _)) ?_))
 refine At.done (At.vl (At.seq (At.seq (At.region (At.d R R R R (jb (x:=(.tv (kSlice kObject) s1)) (ja R)) ?_)))))
 refine At.f R (eff_nileq (ne:=false) R R R (ja R) Tryz.underlying22) ?_
 rintro _ _ ⟨b1,hn1,rfl,rfl⟩
 replace hF:=hF b1 hn1
 refine At.done (At.vl ?_)
 refine At.cond (ja R) (fun hb1=>?_) (fun hb1=>?_)
 ·replace hF:=W.ite_t hb1 hF
  refine At.seq (At.region (At.d R R R R (jd (x:=(.eq (.slice none 0 0))) (opd_eq _)) ?_))
  refine At.done (At.vl (At.ret (At.vm ?_)))
  refine At.nilrow 59 kObject ?_
  exact At.j rfl (rv_tmp rfl) [0] rfl ⟨([]:List Object),_,hF,rfl,rfl⟩
 ·replace hF:=W.ite_f hb1 hF
  refine At.skip (At.vl (At.seq (At.region (At.f R (vc R R R (os:=[]) R sl_22 (xs:=([]:List Object)) jg R R) ?_))))
  rintro _ _ ⟨v1,rfl,rfl⟩
  refine At.d R R R R (jb (x:=(.tv (kSlice kObject) s1)) (ja R)) ?_
  obtain ⟨hq1,hF⟩:=hF
  refine At.f R (eff_append_view R R R 0 R (ja R) (ja R) sl_22 hq1) ?_
  rintro _ _ ⟨v2,rfl,rfl⟩
  refine At.d R R R R (jd (x:=(.eq v2)) (ja R)) ?_
  refine At.done (At.vl (At.ret ?_))
  exact At.j rfl (rv_tmp rfl) [0] rfl ⟨(([]:List Object)++s1),_,hF,rfl,rfl⟩
def Vr.F (s1:(List Object)) (i1:Int) (v2:(List Object)):W (List Object):=W.req (0≤i1∧i1≤(s1.length:Int)) (W.ite ((v2.length:Int)==(0:Int)) (W.ret s1) (W.ite (i1==(s1.length:Int)) (W.req ((s1.length+v2.length)*88≤140737488355328∧s1.length+v2.length≤140737488355328) (W.ret (s1++v2))) (W.req (0<s1.length) (W.any (fun c1=>s1.length≤c1) (fun c1=>W.ite (decide (((c1:Nat):Int)<(w64 ((s1.length:Int)+(v2.length:Int))))) (W.req (0≤i1∧i1≤(s1.length:Int)) (W.req (0<(w64 ((w64 ((s1.length:Int)+(v2.length:Int)))-i1))∧i1.toNat≤s1.length∧c1<i1.toNat+(w64 ((w64 ((s1.length:Int)+(v2.length:Int)))-i1)).toNat∧(i1.toNat+(w64 ((w64 ((s1.length:Int)+(v2.length:Int)))-i1)).toNat)*88≤140737488355328∧i1.toNat+(w64 ((w64 ((s1.length:Int)+(v2.length:Int)))-i1)).toNat≤140737488355328) (W.req (0≤i1∧i1≤((s1.take i1.toNat++List.replicate (w64 ((w64 ((s1.length:Int)+(v2.length:Int)))-i1)).toNat zObject).length:Int)) (W.req (0<v2.length∧i1.toNat+v2.length≤((s1.take i1.toNat++List.replicate (w64 ((w64 ((s1.length:Int)+(v2.length:Int)))-i1)).toNat zObject).length)∧((s1.take i1.toNat++List.replicate (w64 ((w64 ((s1.length:Int)+(v2.length:Int)))-i1)).toNat zObject).length)≤(s1.take i1.toNat++List.replicate (w64 ((w64 ((s1.length:Int)+(v2.length:Int)))-i1)).toNat zObject).length) (W.req (0≤(w64 (i1+(v2.length:Int)))∧(w64 (i1+(v2.length:Int)))≤(((s1.take i1.toNat++List.replicate (w64 ((w64 ((s1.length:Int)+(v2.length:Int)))-i1)).toNat zObject).take i1.toNat++v2++(s1.take i1.toNat++List.replicate (w64 ((w64 ((s1.length:Int)+(v2.length:Int)))-i1)).toNat zObject).drop (i1.toNat+v2.length)).length:Int)) (W.req (0≤i1∧i1≤(s1.length:Int)) (W.req (i1.toNat<s1.length∧s1.length≤s1.length) (W.req (0<((s1.take s1.length).drop i1.toNat).length∧((w64 (i1+(v2.length:Int))).toNat)+((s1.take s1.length).drop i1.toNat).length≤(((s1.take i1.toNat++List.replicate (w64 ((w64 ((s1.length:Int)+(v2.length:Int)))-i1)).toNat zObject).take i1.toNat++v2++(s1.take i1.toNat++List.replicate (w64 ((w64 ((s1.length:Int)+(v2.length:Int)))-i1)).toNat zObject).drop (i1.toNat+v2.length)).length)∧(((s1.take i1.toNat++List.replicate (w64 ((w64 ((s1.length:Int)+(v2.length:Int)))-i1)).toNat zObject).take i1.toNat++v2++(s1.take i1.toNat++List.replicate (w64 ((w64 ((s1.length:Int)+(v2.length:Int)))-i1)).toNat zObject).drop (i1.toNat+v2.length)).length)≤((s1.take i1.toNat++List.replicate (w64 ((w64 ((s1.length:Int)+(v2.length:Int)))-i1)).toNat zObject).take i1.toNat++v2++(s1.take i1.toNat++List.replicate (w64 ((w64 ((s1.length:Int)+(v2.length:Int)))-i1)).toNat zObject).drop (i1.toNat+v2.length)).length) (W.ret (((s1.take i1.toNat++List.replicate (w64 ((w64 ((s1.length:Int)+(v2.length:Int)))-i1)).toNat zObject).take i1.toNat++v2++(s1.take i1.toNat++List.replicate (w64 ((w64 ((s1.length:Int)+(v2.length:Int)))-i1)).toNat zObject).drop (i1.toNat+v2.length)).take ((w64 (i1+(v2.length:Int))).toNat)++((s1.take s1.length).drop i1.toNat)++((s1.take i1.toNat++List.replicate (w64 ((w64 ((s1.length:Int)+(v2.length:Int)))-i1)).toNat zObject).take i1.toNat++v2++(s1.take i1.toNat++List.replicate (w64 ((w64 ((s1.length:Int)+(v2.length:Int)))-i1)).toNat zObject).drop (i1.toNat+v2.length)).drop (((w64 (i1+(v2.length:Int))).toNat)+((s1.take s1.length).drop i1.toNat).length))))))))))) (W.req (0≤(w64 ((s1.length:Int)+(v2.length:Int)))∧(w64 ((s1.length:Int)+(v2.length:Int)))≤(c1:Int)) (W.req (0≤(w64 (i1+(v2.length:Int)))∧(w64 (i1+(v2.length:Int)))≤(((w64 ((s1.length:Int)+(v2.length:Int))).toNat:Nat):Int)∧((w64 ((s1.length:Int)+(v2.length:Int))).toNat)≤c1) (W.req (0<s1.length∧0<v2.length) (W.req (0≤(w64 (i1+(v2.length:Int)))∧(w64 (i1+(v2.length:Int)))≤(((w64 ((s1.length:Int)+(v2.length:Int))).toNat:Nat):Int)∧((w64 ((s1.length:Int)+(v2.length:Int))).toNat)≤c1) (W.req (0≤i1∧i1≤(((w64 ((s1.length:Int)+(v2.length:Int))).toNat:Nat):Int)∧((w64 ((s1.length:Int)+(v2.length:Int))).toNat)≤c1) (W.req (i1.toNat<((w64 (i1+(v2.length:Int))).toNat)∧((w64 (i1+(v2.length:Int))).toNat)≤s1.length∧((w64 ((s1.length:Int)+(v2.length:Int))).toNat)=s1.length+(((w64 (i1+(v2.length:Int))).toNat)-i1.toNat)∧((w64 ((s1.length:Int)+(v2.length:Int))).toNat)≤c1) (W.req (0≤i1∧i1≤((s1.take ((w64 (i1+(v2.length:Int))).toNat)++s1.drop i1.toNat).length:Int)) (W.req (0<v2.length∧i1.toNat+v2.length≤((s1.take ((w64 (i1+(v2.length:Int))).toNat)++s1.drop i1.toNat).length)∧((s1.take ((w64 (i1+(v2.length:Int))).toNat)++s1.drop i1.toNat).length)≤(s1.take ((w64 (i1+(v2.length:Int))).toNat)++s1.drop i1.toNat).length) (W.ret ((s1.take ((w64 (i1+(v2.length:Int))).toNat)++s1.drop i1.toNat).take i1.toNat++v2++(s1.take ((w64 (i1+(v2.length:Int))).toNat)++s1.drop i1.toNat).drop (i1.toNat+v2.length))))))))))))))))
theorem Vr.ok {s1:(List Object)} {v1:Value} {i1:Int} {v2:(List Object)} {v3:Value} {Q:(List Object)→Prop} (hF:Vr.F s1 i1 v2 Q):Con Tryz.prog 63 [.eq v1,.tv (kInt .i64) i1,.eq v3] [.row v1 59 kObject s1,.row v3 59 kObject v2] (fun ta rs'=>∃ (r:(List Object)) (u0:Value),Q r∧ta=.eq u0∧rs'=[.row u0 59 kObject r]):=by
 refine Con.i Tryz.func63 Tryz.ntmps63 R R (fun C=>?_)
 unfold Vr.F at hF
 refine At.seq (At.region (At.d R R R R (jd (x:=(.eq (.slice none 0 0))) (opd_eq _)) ?_))
 refine At.done (At.vl (At.seq (At.region (At.d R R R R (jb (x:=(.eq v1)) (ja R)) ?_))))
 refine At.d R R R R (jb (x:=(.tv (kInt .i64) i1)) (ja R)) ?_
 obtain ⟨hq1,hF⟩:=hF
 refine At.d R R R R (does_cutrow_l (ja R) 0 R (ja R) Tryz.underlying22 ty_59 hq1) ?_
 refine At.done (At.vl (At.seq (At.region (At.d R R R R (jb (x:=(.eq v3)) (ja R)) ?_))))
 refine At.d R R R R (does_len_row (ja R) 1 R Tryz.underlying22) ?_
 refine At.d R R R R (jd (x:=(.tv (kInt .i64) (v2.length:Int))) (ja R)) ?_
 refine At.done (At.vl (At.seq (At.seq (At.region (At.d R R R R (jb (x:=(.tv (kInt .i64) (v2.length:Int))) (ja R)) ?_)))))
 refine At.d R R R R (jk (ja R) (ji _ _) bin_eql) ?_
 refine At.done (At.vl ?_)
 refine At.cond (ja R) (fun hb1=>?_) (fun hb1=>?_)
 ·replace hF:=W.ite_t hb1 hF
  refine At.seq (At.region (At.d R R R R (jb (x:=(.eq v1)) (ja R)) ?_))
  refine At.d R R R R (jd (x:=(.eq v1)) (ja R)) ?_
  refine At.done (At.vl (At.ret (At.vm ?_)))
  exact At.j rfl (rv_tmp rfl) [0] rfl ⟨s1,_,hF,rfl,rfl⟩
 ·replace hF:=W.ite_f hb1 hF
  refine At.skip (At.vl (At.seq (At.region (At.d R R R R (jb (x:=(.eq v1)) (ja R)) ?_))))
  refine At.d R R R R (does_len_row (ja R) 0 R Tryz.underlying22) ?_
  refine At.d R R R R (jd (x:=(.tv (kInt .i64) (s1.length:Int))) (ja R)) ?_
  refine At.done (At.vl (At.seq (At.seq (At.region (At.d R R R R (jb (x:=(.tv (kInt .i64) i1)) (ja R)) ?_)))))
  refine At.d R R R R (jb (x:=(.tv (kInt .i64) (s1.length:Int))) (ja R)) ?_
  refine At.d R R R R (jk (ja R) (ja R) bin_eql) ?_
  refine At.done (At.vl ?_)
  refine At.cond (ja R) (fun hb2=>?_) (fun hb2=>?_)
  ·replace hF:=W.ite_t hb2 hF
   refine At.seq (At.region (At.d R R R R (jb (x:=(.eq v1)) (ja R)) ?_))
   refine At.d R R R R (jb (x:=(.eq v3)) (ja R)) ?_
   obtain ⟨hq2,hF⟩:=hF
   refine At.f R (eff_append_row R R R 0 1 R R (ja R) (ja R) sl_22 hq2) ?_
   rintro _ _ ⟨v4,rfl,rfl⟩
   refine At.d R R R R (jd (x:=(.eq v4)) (ja R)) ?_
   refine At.done (At.vl (At.ret (At.vm ?_)))
   exact At.j rfl (rv_tmp rfl) [0] rfl ⟨(s1++v2),_,hF,rfl,rfl⟩
  ·replace hF:=W.ite_f hb2 hF
   refine At.skip (At.vl (At.seq (At.seq (At.region (At.d R R R R (jb (x:=(.tv (kInt .i64) (s1.length:Int))) (ja R)) ?_)))))
   refine At.d R R R R (jb (x:=(.tv (kInt .i64) (v2.length:Int))) (ja R)) ?_
   refine At.d R R R R (jk (ja R) (ja R) vf) ?_
   refine At.d R R R R (jb (x:=(.eq v1)) (ja R)) ?_
   obtain ⟨hq3,hF⟩:=hF
   refine At.rowcap 0 R hq3 (fun g1 c1 hv1 hc1=>?_)
   replace hF:=hF c1 hc1
   subst hv1
   refine At.d R R R R (does_cap (ja R) Tryz.underlying22) ?_
   refine At.d R R R R (jk (ja R) (ja R) bin_gtr) ?_
   refine At.done (At.vl ?_)
   refine At.cond (ja R) (fun hb3=>?_) (fun hb3=>?_)
   ·replace hF:=W.ite_t hb3 hF
    refine At.seq (At.region (At.d R R R R (jb (x:=(.eq (.slice (some ⟨g1,0,none⟩) s1.length c1))) (ja R)) ?_))
    refine At.d R R R R (jb (x:=(.tv (kInt .i64) i1)) (ja R)) ?_
    obtain ⟨hq4,hF⟩:=hF
    refine At.d R R R R (does_cutrow_h (ja R) 0 R (ja R) Tryz.underlying22 ty_59 hq4) ?_
    refine At.d R R R R (jb (x:=(.tv (kInt .i64) (s1.length:Int))) (ja R)) ?_
    refine At.d R R R R (jb (x:=(.tv (kInt .i64) (v2.length:Int))) (ja R)) ?_
    refine At.d R R R R (jk (ja R) (ja R) vf) ?_
    refine At.d R R R R (jb (x:=(.tv (kInt .i64) i1)) (ja R)) ?_
    refine At.d R R R R (jk (ja R) (ja R) bin_sub) ?_
    obtain ⟨hq5,hF⟩:=hF
    refine At.f R (eff_append_zeros R R R 0 R (ja R) (ja R) sl_22 Tryz.underlying3 tz_59 hq5) ?_
    rintro _ _ ⟨v5,rfl,rfl⟩
    refine At.d R R R R (jd (x:=(.eq v5)) (ja R)) ?_
    refine At.done (At.vl (At.seq (At.region (At.d R R R R (jb (x:=(.eq v5)) (ja R)) ?_))))
    refine At.d R R R R (jb (x:=(.tv (kInt .i64) i1)) (ja R)) ?_
    obtain ⟨hq6,hF⟩:=hF
    refine At.d R R R R (does_cutrow_l (ja R) 0 R (ja R) Tryz.underlying22 ty_59 hq6) ?_
    refine At.d R R R R (jb (x:=(.eq v3)) (ja R)) ?_
    obtain ⟨hq7,hF⟩:=hF
    refine At.f R (eff_copy R R R 0 R (ja R) Tryz.underlying22 ty_59 (src_row 2 R (ja R) hq7.1) hq7) ?_
    rintro _ _ ⟨rfl,rfl⟩
    refine At.done (At.vl (At.seq ?_))
    refine At.draw mixed [0,1,2] R [[8],[],[]] (fun φ w hgd=>?_)
    obtain ⟨hq8,hF⟩:=hF
    obtain ⟨hq9,hF⟩:=hF
    obtain ⟨hq10,hF⟩:=hF
    obtain ⟨hq11,hF⟩:=hF
    refine AtH.take [1,2] hgd 0 R R R R (D':=#[Y,N,N,N,N,N,N,N,N]) (by kernel_rfl) (fun _ _ _ _ h=>h) R (jb (x:=(.eq v5)) (ja R)) ?_
    refine AtH.take [1,2] hgd 1 R R R R (D':=#[Y,Y,N,N,N,N,N,N,N]) (by kernel_rfl) (fun _ _ _ _ h=>h) R (jb (x:=(.tv (kInt .i64) i1)) (ja R)) ?_
    refine AtH.take [1,2] hgd 2 R R R R (D':=#[Y,Y,Y,N,N,N,N,N,N]) (by kernel_rfl) (fun _ _ _ _ h=>h) R (jb (x:=(.tv (kInt .i64) (v2.length:Int))) (ja R)) ?_
    refine AtH.take [1,2] hgd 3 R R R R (D':=#[Y,Y,Y,Y,N,N,N,N,N]) (by kernel_rfl) (fun _ _ _ _ h=>h) R (jk (ja R) (ja R) vf) ?_
    refine AtH.take [0,1,2] hgd 4 R R R R (D':=#[Y,Y,Y,Y,Y,N,N,N,N]) (by kernel_rfl) (fun _ _ _ _ h=>h) R (does_cutrow_l (ja R) 0 R (ja R) Tryz.underlying22 ty_59 hq8) ?_
    refine AtH.take [1,2] hgd 5 R R R R (D':=#[Y,Y,Y,Y,Y,Y,N,N,N]) (by kernel_rfl) (fun _ _ _ _ h=>h) R (jb (x:=(.eq (.slice (some ⟨g1,0,none⟩) s1.length c1))) (ja R)) ?_
    refine AtH.take [1,2] hgd 6 R R R R (D':=#[Y,Y,Y,Y,Y,Y,Y,N,N]) (by kernel_rfl) (fun _ _ _ _ h=>h) R (jb (x:=(.tv (kInt .i64) i1)) (ja R)) ?_
    refine AtH.take [0,1,2] hgd 7 R R R R (D':=#[Y,Y,Y,Y,Y,Y,Y,Y,N]) (by kernel_rfl) (fun _ _ _ _ h=>h) R (does_cutrow_l (ja R) 1 R (ja R) Tryz.underlying22 ty_59 hq9) ?_
    refine AtH.all1 8 (by kernel_rfl) ?_
    refine AtH.f [(1,1),(2,2)] R R R R R R (eff_copy R R R 0 R (ja R) Tryz.underlying22 ty_59 (src_cut 1 R (ja R) hq10) hq11) (D':=#[Y,Y,Y,Y,Y,Y,Y,Y,Y]) (by kernel_rfl) (by kernel_rfl) ?_
    rintro _ _ ⟨rfl,rfl⟩
    refine ⟨_,.inr ⟨R,flat_int⟩,?_⟩
    refine AtH.done (by kernel_rfl) ?_
    refine At.vl (At.seq (At.region (At.d R R R R (jb (x:=(.eq v5)) (ja R)) ?_)))
    refine At.d R R R R (jd (x:=(.eq v5)) (ja R)) ?_
    refine At.done (At.vl (At.ret (At.vm ?_)))
    exact At.j rfl (rv_tmp rfl) [0] rfl ⟨(((s1.take i1.toNat++List.replicate (w64 ((w64 ((s1.length:Int)+(v2.length:Int)))-i1)).toNat zObject).take i1.toNat++v2++(s1.take i1.toNat++List.replicate (w64 ((w64 ((s1.length:Int)+(v2.length:Int)))-i1)).toNat zObject).drop (i1.toNat+v2.length)).take ((w64 (i1+(v2.length:Int))).toNat)++((s1.take s1.length).drop i1.toNat)++((s1.take i1.toNat++List.replicate (w64 ((w64 ((s1.length:Int)+(v2.length:Int)))-i1)).toNat zObject).take i1.toNat++v2++(s1.take i1.toNat++List.replicate (w64 ((w64 ((s1.length:Int)+(v2.length:Int)))-i1)).toNat zObject).drop (i1.toNat+v2.length)).drop (((w64 (i1+(v2.length:Int))).toNat)+((s1.take s1.length).drop i1.toNat).length)),_,hF,rfl,rfl⟩
   ·replace hF:=W.ite_f hb3 hF
    refine At.skip (At.vl (At.seq (At.region (At.d R R R R (jb (x:=(.eq (.slice (some ⟨g1,0,none⟩) s1.length c1))) (ja R)) ?_))))
    refine At.d R R R R (jb (x:=(.tv (kInt .i64) (s1.length:Int))) (ja R)) ?_
    refine At.d R R R R (jb (x:=(.tv (kInt .i64) (v2.length:Int))) (ja R)) ?_
    refine At.d R R R R (jk (ja R) (ja R) vf) ?_
    obtain ⟨hq12,hF⟩:=hF
    refine At.d R R R R (does_stretch (ja R) (ja R) Tryz.underlying22 ty_59 hq12) ?_
    refine At.d R R R R (jd (x:=(.eq (.slice (some ⟨g1,0,none⟩) ((w64 ((s1.length:Int)+(v2.length:Int))).toNat) c1))) (ja R)) ?_
    refine At.done (At.vl (At.seq (At.seq (At.region (At.d R R R R (jb (x:=(.eq v3)) (ja R)) ?_)))))
    refine At.d R R R R (jb (x:=(.eq (.slice (some ⟨g1,0,none⟩) ((w64 ((s1.length:Int)+(v2.length:Int))).toNat) c1))) (ja R)) ?_
    refine At.d R R R R (jb (x:=(.tv (kInt .i64) i1)) (ja R)) ?_
    refine At.d R R R R (jb (x:=(.tv (kInt .i64) (v2.length:Int))) (ja R)) ?_
    refine At.d R R R R (jk (ja R) (ja R) vf) ?_
    obtain ⟨hq13,hF⟩:=hF
    refine At.d R R R R (does_cutlit (ja R) (ja R) Tryz.underlying22 ty_59 hq13) ?_
    obtain ⟨hq14,hF⟩:=hF
    refine At.d R R R R (does_overlaps ex_99 1 0 R R (ja R) (ja R) Tryz.underlying22 ty_59 ⟨sl_22.pos,hq14⟩ (by decide)) ?_
    refine At.d R R R R (ve (ja R)) ?_
    refine At.done (At.vl ?_)
    refine At.cond (ja R) (fun hb4=>?_) (fun hb4=>nomatch hb4)
    refine At.seq ?_
    refine At.draw mixed [0,1] R [[8],[]] (fun φ w hgd=>?_)
    obtain ⟨hq15,hF⟩:=hF
    obtain ⟨hq16,hF⟩:=hF
    obtain ⟨hq17,hF⟩:=hF
    refine AtH.take [1] hgd 0 R R R R (D':=#[Y,N,N,N,N,N,N,N,N]) (by kernel_rfl) (fun _ _ _ _ h=>h) R (jb (x:=(.eq (.slice (some ⟨g1,0,none⟩) ((w64 ((s1.length:Int)+(v2.length:Int))).toNat) c1))) (ja R)) ?_
    refine AtH.take [1] hgd 1 R R R R (D':=#[Y,Y,N,N,N,N,N,N,N]) (by kernel_rfl) (fun _ _ _ _ h=>h) R (jb (x:=(.tv (kInt .i64) i1)) (ja R)) ?_
    refine AtH.take [1] hgd 2 R R R R (D':=#[Y,Y,Y,N,N,N,N,N,N]) (by kernel_rfl) (fun _ _ _ _ h=>h) R (jb (x:=(.tv (kInt .i64) (v2.length:Int))) (ja R)) ?_
    refine AtH.take [1] hgd 3 R R R R (D':=#[Y,Y,Y,Y,N,N,N,N,N]) (by kernel_rfl) (fun _ _ _ _ h=>h) R (jk (ja R) (ja R) vf) ?_
    refine AtH.take [0,1] hgd 4 R R R R (D':=#[Y,Y,Y,Y,Y,N,N,N,N]) (by kernel_rfl) (fun _ _ _ _ h=>h) R (does_cutlit (ja R) (ja R) Tryz.underlying22 ty_59 hq15) ?_
    refine AtH.take [1] hgd 5 R R R R (D':=#[Y,Y,Y,Y,Y,Y,N,N,N]) (by kernel_rfl) (fun _ _ _ _ h=>h) R (jb (x:=(.eq (.slice (some ⟨g1,0,none⟩) ((w64 ((s1.length:Int)+(v2.length:Int))).toNat) c1))) (ja R)) ?_
    refine AtH.take [1] hgd 6 R R R R (D':=#[Y,Y,Y,Y,Y,Y,Y,N,N]) (by kernel_rfl) (fun _ _ _ _ h=>h) R (jb (x:=(.tv (kInt .i64) i1)) (ja R)) ?_
    refine AtH.take [0,1] hgd 7 R R R R (D':=#[Y,Y,Y,Y,Y,Y,Y,Y,N]) (by kernel_rfl) (fun _ _ _ _ h=>h) R (does_cutlit (ja R) (ja R) Tryz.underlying22 ty_59 hq16) ?_
    refine AtH.all1 8 (by kernel_rfl) ?_
    refine AtH.f [(1,1)] R R R R R R (eff_shift R R R 0 R (ja R) (ja R) Tryz.underlying22 ty_59 hq17) (D':=#[Y,Y,Y,Y,Y,Y,Y,Y,Y]) (by kernel_rfl) (by kernel_rfl) ?_
    rintro _ _ ⟨rfl,rfl⟩
    refine ⟨_,.inr ⟨R,flat_int⟩,?_⟩
    refine AtH.done (by kernel_rfl) ?_
    refine At.vl (At.seq (At.region (At.d R R R R (jb (x:=(.eq (.slice (some ⟨g1,0,none⟩) ((w64 ((s1.length:Int)+(v2.length:Int))).toNat) c1))) (ja R)) ?_)))
    refine At.d R R R R (jb (x:=(.tv (kInt .i64) i1)) (ja R)) ?_
    obtain ⟨hq18,hF⟩:=hF
    refine At.d R R R R (does_cutrow_l (ja R) 0 R (ja R) Tryz.underlying22 ty_59 hq18) ?_
    refine At.d R R R R (jb (x:=(.eq v3)) (ja R)) ?_
    obtain ⟨hq19,hF⟩:=hF
    refine At.f R (eff_copy R R R 0 R (ja R) Tryz.underlying22 ty_59 (src_row 1 R (ja R) hq19.1) hq19) ?_
    rintro _ _ ⟨rfl,rfl⟩
    refine At.done (At.vl (At.seq (At.region (At.d R R R R (jb (x:=(.eq (.slice (some ⟨g1,0,none⟩) ((w64 ((s1.length:Int)+(v2.length:Int))).toNat) c1))) (ja R)) ?_))))
    refine At.d R R R R (jd (x:=(.eq (.slice (some ⟨g1,0,none⟩) ((w64 ((s1.length:Int)+(v2.length:Int))).toNat) c1))) (ja R)) ?_
    refine At.done (At.vl (At.ret (At.vm ?_)))
    exact At.j rfl (rv_tmp rfl) [0] rfl ⟨((s1.take ((w64 (i1+(v2.length:Int))).toNat)++s1.drop i1.toNat).take i1.toNat++v2++(s1.take ((w64 (i1+(v2.length:Int))).toNat)++s1.drop i1.toNat).drop (i1.toNat+v2.length)),_,hF,rfl,rfl⟩
def zo.F (m1:Map) (o1:Object):W (Map×Int):=W.bind (jb1.F ([m1]:List Map)) (fun r1=>W.bind (W.ite (!(!r1)) (yx.F o1) (W.ret false)) (fun r2=>W.ite ((!r1)||(!r2)) (W.ret ((⟨([]:List Object)⟩:Map),(1:Int))) (W.bind (atlas_at.F m1 o1.Id) (fun r3=>W.bind (qd.F m1.Objects) (fun r4=>W.ite r3.2 (W.req (0≤r3.1∧r3.1<(r4.length:Int)) (W.req (0≤r3.1∧r3.1<(r4.length:Int)) (W.ret (({ (⟨([]:List Object)⟩:Map) with Objects:=(r4.set r3.1.toNat o1) }:Map),(0:Int))))) (W.ite ((m1.Objects.length:Int)==(1000000:Int)) (W.ret ((⟨([]:List Object)⟩:Map),(2:Int))) (W.bind (Vr.F r4 r3.1 ([o1]:List Object)) (fun r5=>W.ret (({ (⟨([]:List Object)⟩:Map) with Objects:=r5 }:Map),(0:Int))))))))))
theorem zo.ok {m1:Map} {o1:Object} {Q:(Map×Int)→Prop} (hF:zo.F m1 o1 Q):Con Tryz.prog 26 [.tv kMap m1,.tv kObject o1] [] (fun ta rs'=>∃ (r:(Map×Int)),Q r∧ta=.tup2 (.tv kMap r.1) (.tv (kInt .i64) r.2)∧rs'=[]):=by
 refine Con.i Tryz.func26 Tryz.ntmps26 R R (fun C=>?_)
 unfold zo.F at hF
 refine At.seq (At.region (At.f R (jy R R R (ja R)) ?_))
 rintro _ _ ⟨g1,rfl,rfl⟩
 refine At.f R (jy R R R (ja R)) ?_
 rintro _ _ ⟨g2,rfl,rfl⟩
 refine At.f R (eff_alloc R R R tz_24) ?_
 rintro _ _ ⟨g3,rfl,rfl⟩
 refine At.d R R R R (jd (x:=(.tv (kInt .i64) (0:Int))) (ji _ _)) ?_
 refine At.done (At.vl (At.seq (At.seq (At.region (At.d R R R R (jc (ja R) 2 R (Sub.self kMap) ty_24) ?_)))))
 refine At.f R (vc R R R (os:=[.tmp 9]) R sl_144 (xs:=([m1]:List Map)) (jf (ja R) jg) R R) ?_
 rintro _ _ ⟨v1,rfl,rfl⟩
 replace hF:=W.vq hF
 refine At.f R (jn R R (lends_row 0 10 R R jp) (jq R en_60 (jf (ja R) jg)) (jb1.ok hF) (by rintro _ _ ⟨r,_,rfl,_⟩;exact vp)) ?_
 rintro _ _ ⟨_,_,⟨r1,hF,rfl,rfl⟩,rfl,rfl⟩
 refine At.d R R R R (ve (ja R)) ?_
 refine At.d R R R R (jb (x:=(.tv kBool (!r1))) (ja R)) ?_
 refine At.vn R R R R (jx R) R (fun hg1=>(jc (ja R) 2 R (Sub.self kObject) ty_59)) ?_
 replace hF:=W.vq hF
 refine At.effG R R R R (jx R) hF (fun r=>.tv kBool r) (fun hg2 hF=>vr (jn R R jp (jq R en_50 (jf (jh R hg2) jg)) (yx.ok hF) (by rintro _ _ ⟨r,_,rfl,_⟩;exact vp)) (by rintro _ _ ⟨_,_,⟨r,hF,rfl,rfl⟩,rfl,rfl⟩;exact ⟨r,hF,R,R⟩)) (fun r2 hF=>?_)
 refine At.vn R R R R (jx R) R (fun hg3=>(ve (jh R hg3))) ?_
 refine At.d R R R R (jm (ja R) (jl _) (ja R) vi) ?_
 refine At.done (At.vl ?_)
 refine At.cond (ja R) (fun hb1=>?_) (fun hb1=>?_)
 ·replace hF:=W.ite_t hb1 hF
  refine At.seq (At.region (At.d R R R R (vd js zr_24 bd_24 R fills_nil) ?_))
  refine At.f R (jz R R (ja R) 1 R (Sub.self kMap) ty_24 (ja R)) ?_
  rintro _ _ ⟨rfl,rfl⟩
  refine At.d R R R R (jd (x:=(.tv (kInt .i64) (1:Int))) (ji _ _)) ?_
  refine At.done (At.vl (At.ret (At.vm ?_)))
  exact At.ret_2 rfl (rv_cell rfl 1 rfl ty_24) (rv_tmp rfl) [] rfl ⟨((⟨([]:List Object)⟩:Map),(1:Int)),hF,rfl,rfl⟩
 ·replace hF:=W.ite_f hb1 hF
  refine At.skip (At.vl (At.seq (At.region (At.d R R R R (jc (ja R) 3 R (Sub.self kMap) ty_24) ?_))))
  refine At.d R R R R (je (ja R) zg) ?_
  refine At.d R R R R (jc (ja R) 2 R qm ty_9) ?_
  replace hF:=W.vq hF
  refine At.f R (jn R R jp (jq R en_61 (jf (ja R) (jf (ja R) jg))) (atlas_at.ok hF) (by rintro _ _ ⟨r,_,rfl,_⟩;exact (flat_tup2 flat_int vp))) ?_
  rintro _ _ ⟨_,_,⟨r3,hF,rfl,rfl⟩,rfl,rfl⟩
  refine At.d R R R R (jb (x:=(.tup2 (.tv (kInt .i64) r3.1) (.tv kBool r3.2))) (ja R)) ?_
  refine At.d R R R R (does_extract20 (ja R)) ?_
  refine At.d R R R R (does_extract21 (ja R)) ?_
  refine At.d R R R R (jd (x:=(.tv (kInt .i64) r3.1)) (ja R)) ?_
  refine At.d R R R R (jd (x:=(.tv kBool r3.2)) (ja R)) ?_
  refine At.done (At.vl (At.seq (At.region (At.d R R R R (je (ja R) qq) ?_))))
  refine At.d R R R R (jc (ja R) 3 R qc ty_22) ?_
  replace hF:=W.vq hF
  refine At.f R (jo R R (jq R en_62 (jf (ja R) jg)) [] R (qd.ok hF)) ?_
  rintro _ _ ⟨_,_,⟨r4,v2,hF,rfl,rfl⟩,rfl,rfl⟩
  refine At.rowone 0 R (fun x1=>?_)
  refine At.d R R R R (vd (K:=(kWrap kRaw)) (z:=(.slice none 0 0)) (y:=v2) (jr (opd_raw (ja R) x1) js) (fun φ=>⟨R,R⟩) bd_24 R (fills_cons R (Sub.wrap (Sub.self kRaw)) fills_nil)) ?_
  refine At.f R (eff_alloc R R R (⟨⟨(.agg #[.slice none 0 0]),fun _=>by kernel_rfl,fun φ=>⟨[.slice none 0 0],⟨R,R⟩,R⟩⟩⟩:TyZ _ 24 (kWrap kRaw) (.slice none 0 0))) ?_
  rintro _ _ ⟨g4,rfl,rfl⟩
  refine At.f R (eff_store_swap (K':=(kWrap kRaw)) (x':=v2) R R (ja R) 0 R (Swap.whole R) (Ty.turn ty_24 R R) (ja R)) ?_
  rintro _ _ ⟨rfl,rfl⟩
  refine At.done (At.vl (At.seq (At.block (At.seq (At.region (At.d R R R R (jb (x:=(.tv kBool r3.2)) (ja R)) ?_))))))
  refine At.d R R R R (jd (x:=(.tv kBool r3.2)) (ja R)) ?_
  refine At.done (At.vl ?_)
  refine At.cond (ja R) (fun hb2=>?_) (fun hb2=>?_)
  ·replace hF:=W.ite_t hb2 hF
   refine At.region (At.d R R R R (je (ja R) qq) ?_)
   refine At.d R R R R (does_load_raw (ja R) 0 R (Sub.wrap (Sub.self kRaw)) tyr_22 R) ?_
   refine At.d R R R R (jb (x:=(.tv (kInt .i64) r3.1)) (ja R)) ?_
   refine At.d R R R R (jc (ja R) 4 R (Sub.self kObject) ty_59) ?_
   obtain ⟨hq1,hF⟩:=hF
   refine At.d R R R R (does_idx_row (ja R) 1 R (ja R) Tryz.underlying22 ty_59 hq1) ?_
   obtain ⟨hq2,hF⟩:=hF
   refine At.f R (eff_store_elem R R (ja R) 1 R r3.1 0 R zObject hq2 (Sub.self kObject) ty_59 (ja R)) ?_
   rintro _ _ ⟨rfl,rfl⟩
   refine At.done ?_
   refine At.n ?_
   refine At.vl (At.seq (At.region (At.d R R R R (jc (ja R) 0 R (Sub.self (kWrap kRaw)) (Ty.turn ty_24 R R)) ?_)))
   refine At.f R (eff_store_swap (K':=(kWrap kRaw)) (x':=v2) R R (ja R) 3 R (Swap.whole R) (Ty.turn ty_24 R R) (ja R)) ?_
   rintro _ _ ⟨rfl,rfl⟩
   refine At.d R R R R (jd (x:=(.tv (kInt .i64) (0:Int))) (ji _ _)) ?_
   refine At.done (At.vl (At.ret ?_))
   refine At.freezeF 1 R ?_
   refine At.viewslots 1 [28,40] R ⟨R,R,trivial⟩ ?_
   refine At.boxtold 0 (K':=kMap) (y:=({ (⟨([]:List Object)⟩:Map) with Objects:=(r4.set r3.1.toNat o1) }:Map)) R (Turn.isoR (Turn.wrap (frow_rep (j:=1) R))) ?_
   refine At.boxtold 3 (K':=kMap) (y:=({ (⟨([]:List Object)⟩:Map) with Objects:=(r4.set r3.1.toNat o1) }:Map)) R (Turn.isoR (Turn.wrap (frow_rep (j:=1) R))) ?_
   refine At.slottold 29 (K':=kMap) (y:=({ (⟨([]:List Object)⟩:Map) with Objects:=(r4.set r3.1.toNat o1) }:Map)) R (Turn.isoR (Turn.wrap (frow_rep (j:=1) R))) R ?_
   refine At.slottold 50 (K':=kMap) (y:=({ (⟨([]:List Object)⟩:Map) with Objects:=(r4.set r3.1.toNat o1) }:Map)) R (Turn.isoR (Turn.wrap (frow_rep (j:=1) R))) R ?_
   exact At.ret_2 rfl (rv_cell rfl 3 rfl ty_24) (rv_tmp rfl) [] rfl ⟨(({ (⟨([]:List Object)⟩:Map) with Objects:=(r4.set r3.1.toNat o1) }:Map),(0:Int)),hF,rfl,rfl⟩
  ·replace hF:=W.ite_f hb2 hF
   refine At.seq (At.region (At.d R R R R (je (ja R) qq) ?_))
   refine At.d R R R R (jc (ja R) 5 R qc ty_22) ?_
   refine At.d R R R R (jt (ja R) Tryz.underlying22) ?_
   refine At.d R R R R (jk (ja R) (ji _ _) bin_eql) ?_
   refine At.d R R R R (jd (x:=(.tv kBool ((m1.Objects.length:Int)==(1000000:Int)))) (ja R)) ?_
   refine At.done (At.vl ?_)
   refine At.cond (ja R) (fun hb3=>?_) (fun hb3=>?_)
   ·replace hF:=W.ite_t hb3 hF
    refine At.seq (At.region (At.d R R R R (vd js zr_24 bd_24 R fills_nil) ?_))
    refine At.f R (jz R R (ja R) 3 R (Sub.self kMap) ty_24 (ja R)) ?_
    rintro _ _ ⟨rfl,rfl⟩
    refine At.d R R R R (jd (x:=(.tv (kInt .i64) (2:Int))) (ji _ _)) ?_
    refine At.done (At.vl (At.ret ?_))
    refine At.q ?_
    refine At.vm ?_
    exact At.ret_2 rfl (rv_cell rfl 3 rfl ty_24) (rv_tmp rfl) [] rfl ⟨((⟨([]:List Object)⟩:Map),(2:Int)),hF,rfl,rfl⟩
   ·replace hF:=W.ite_f hb3 hF
    refine At.region (At.d R R R R (je (ja R) qq) ?_)
    refine At.d R R R R (does_load_raw (ja R) 0 R (Sub.wrap (Sub.self kRaw)) tyr_22 R) ?_
    refine At.d R R R R (jb (x:=(.tv (kInt .i64) r3.1)) (ja R)) ?_
    refine At.d R R R R (jc (ja R) 4 R (Sub.self kObject) ty_59) ?_
    refine At.f R (vc R R R (os:=[.tmp 33]) R sl_22 (xs:=([o1]:List Object)) (jf (ja R) jg) R R) ?_
    rintro _ _ ⟨v3,rfl,rfl⟩
    replace hF:=W.vq hF
    refine At.f R (jo R R (jq R en_63 (jf (ja R) (jf (ja R) (jf (ja R) jg)))) [2,0] R (Vr.ok hF)) ?_
    rintro _ _ ⟨_,_,⟨r5,v4,hF,rfl,rfl⟩,rfl,rfl⟩
    refine At.d R R R R (je (ja R) qq) ?_
    refine At.rowone 0 R (fun x2=>?_)
    refine At.f R (eff_store_swap (K':=(kWrap kRaw)) (x':=v4) R R (ja R) 2 R (Swap.wrap (Swap.whole R)) tyr_22 (opd_raw (ja R) x2)) ?_
    rintro _ _ ⟨rfl,rfl⟩
    refine At.done ?_
    refine At.n ?_
    refine At.vl (At.seq (At.region (At.d R R R R (jc (ja R) 2 R (Sub.self (kWrap kRaw)) (Ty.turn ty_24 R R)) ?_)))
    refine At.f R (eff_store_swap (K':=(kWrap kRaw)) (x':=v4) R R (ja R) 5 R (Swap.whole R) (Ty.turn ty_24 R R) (ja R)) ?_
    rintro _ _ ⟨rfl,rfl⟩
    refine At.d R R R R (jd (x:=(.tv (kInt .i64) (0:Int))) (ji _ _)) ?_
    refine At.done (At.vl (At.ret ?_))
    refine At.freezeF 0 R ?_
    refine At.viewslots 0 [35] R ⟨R,trivial⟩ ?_
    refine At.boxtold 2 (K':=kMap) (y:=({ (⟨([]:List Object)⟩:Map) with Objects:=r5 }:Map)) R (Turn.isoR (Turn.wrap (frow_rep (j:=0) R))) ?_
    refine At.boxtold 5 (K':=kMap) (y:=({ (⟨([]:List Object)⟩:Map) with Objects:=r5 }:Map)) R (Turn.isoR (Turn.wrap (frow_rep (j:=0) R))) ?_
    refine At.slottold 50 (K':=kMap) (y:=({ (⟨([]:List Object)⟩:Map) with Objects:=r5 }:Map)) R (Turn.isoR (Turn.wrap (frow_rep (j:=0) R))) R ?_
    exact At.ret_2 rfl (rv_cell rfl 5 rfl ty_24) (rv_tmp rfl) [] rfl ⟨(({ (⟨([]:List Object)⟩:Map) with Objects:=r5 }:Map),(0:Int)),hF,rfl,rfl⟩
def wv.F (a1:BA) (b1:BA) (t1:(List ((BA×BA)×Bool))):W (List ((BA×BA)×Bool)):=W.ret (mset ((sMin a1 b1),(sMax a1 b1)) true t1)
theorem wv.ok {a1:BA} {b1:BA} {t1:(List ((BA×BA)×Bool))} {g1:Nat} {g2:Nat} {Q:(List ((BA×BA)×Bool))→Prop} (hF:wv.F a1 b1 t1 Q):Con Tryz.prog 34 [.tv kStr a1,.tv kStr b1,.eq (.pointer (some ⟨g1,0,none⟩))] [.box g1 47 kRaw (.map (some g2)),.map g2 (kPair kStr kStr) kBool t1] (fun ta rs'=>∃ (r:(List ((BA×BA)×Bool))),Q r∧ta=.eq (.tuple #[])∧rs'=[.box g1 47 kRaw (.map (some g2)),.map g2 (kPair kStr kStr) kBool r]):=by
 refine Con.i Tryz.func34 Tryz.ntmps34 R R (fun C=>?_)
 unfold wv.F at hF
 refine At.region (At.d R R R R (does_load_raw (ja R) 0 R (Sub.self kRaw) tyr_47 R) ?_)
 refine At.d R R R R (jb (x:=(.tv kStr a1)) (ja R)) ?_
 refine At.d R R R R (jb (x:=(.tv kStr b1)) (ja R)) ?_
 refine At.d R R R R (does_smin (ja R) (ja R)) ?_
 refine At.d R R R R (jb (x:=(.tv kStr a1)) (ja R)) ?_
 refine At.d R R R R (jb (x:=(.tv kStr b1)) (ja R)) ?_
 refine At.d R R R R (does_smax (ja R) (ja R)) ?_
 refine At.d R R R R (vd (jr (ja R) (jr (ja R) js)) zr_50 bd_50 R (fills_cons R yp (fills_cons R yw fills_nil))) ?_
 refine At.f R (eff_mapUpdate R R (ja R) 1 R mt_47 (ja R) (jl _)) ?_
 rintro _ _ ⟨rfl,rfl⟩
 refine At.done ?_
 refine At.norm ?_
 exact At.ret_0 rfl  [0,1] rfl ⟨(mset ((sMin a1 b1),(sMax a1 b1)) true t1),hF,rfl,rfl⟩
def yz.F (x1:Int):W Bool:=W.ret (x1 != x1)
theorem yz.ok {x1:Int} {Q:Bool→Prop} (hF:yz.F x1 Q):Con Tryz.prog 133 [.tv (kInt .i64) x1] [] (fun ta rs'=>∃ (r:Bool),Q r∧ta=.tv kBool r∧rs'=[]):=by
 refine Con.i Tryz.func133 Tryz.ntmps133 R R (fun C=>?_)
 unfold yz.F at hF
 refine At.seq (At.region (At.d R R R R (jd (x:=(.tv kBool false)) (jl _)) ?_))
 refine At.done (At.vl (At.seq (At.region (At.d R R R R (jb (x:=(.tv (kInt .i64) x1)) (ja R)) ?_))))
 refine At.d R R R R (jb (x:=(.tv (kInt .i64) x1)) (ja R)) ?_
 refine At.d R R R R (jk (ja R) (ja R) bin_neq) ?_
 refine At.d R R R R (jd (x:=(.tv kBool (x1 != x1))) (ja R)) ?_
 refine At.done (At.vl (At.ret ?_))
 exact At.j rfl (rv_tmp rfl) [] rfl ⟨(x1 != x1),hF,rfl,rfl⟩
def wd.F (x1:Int) (y1:Int):W Int:=W.bind (yz.F x1) (fun r1=>W.bind (yz.F y1) (fun r2=>W.ite r1 (W.ite r2 (W.ret (0:Int)) (W.ret (-1:Int))) (W.ite r2 (W.ret (1:Int)) (W.ite (decide (x1<y1)) (W.ret (-1:Int)) (W.ite (decide (y1<x1)) (W.ret (1:Int)) (W.ret (0:Int)))))))
theorem wd.ok {x1:Int} {y1:Int} {Q:Int→Prop} (hF:wd.F x1 y1 Q):Con Tryz.prog 92 [.tv (kInt .i64) x1,.tv (kInt .i64) y1] [] (fun ta rs'=>∃ (r:Int),Q r∧ta=.tv (kInt .i64) r∧rs'=[]):=by
 refine Con.i Tryz.func92 Tryz.ntmps92 R R (fun C=>?_)
 unfold wd.F at hF
 refine At.seq (At.region (At.d R R R R (jd (x:=(.tv (kInt .i64) (0:Int))) (ji _ _)) ?_))
 refine At.done (At.vl (At.seq (At.region (At.d R R R R (jb (x:=(.tv (kInt .i64) x1)) (ja R)) ?_))))
 replace hF:=W.vq hF
 refine At.f R (jn R R jp (jq R en_133 (jf (ja R) jg)) (yz.ok hF) (by rintro _ _ ⟨r,_,rfl,_⟩;exact vp)) ?_
 rintro _ _ ⟨_,_,⟨r1,hF,rfl,rfl⟩,rfl,rfl⟩
 refine At.d R R R R (jd (x:=(.tv kBool r1)) (ja R)) ?_
 refine At.done (At.vl (At.seq (At.region (At.d R R R R (jb (x:=(.tv (kInt .i64) y1)) (ja R)) ?_))))
 replace hF:=W.vq hF
 refine At.f R (jn R R jp (jq R en_133 (jf (ja R) jg)) (yz.ok hF) (by rintro _ _ ⟨r,_,rfl,_⟩;exact vp)) ?_
 rintro _ _ ⟨_,_,⟨r2,hF,rfl,rfl⟩,rfl,rfl⟩
 refine At.d R R R R (jd (x:=(.tv kBool r2)) (ja R)) ?_
 refine At.done (At.vl (At.seq (At.seq (At.region (At.d R R R R (jb (x:=(.tv kBool r1)) (ja R)) ?_)))))
 refine At.done (At.vl ?_)
 refine At.cond (ja R) (fun hb1=>?_) (fun hb1=>?_)
 ·replace hF:=W.ite_t hb1 hF
  refine At.seq (At.seq (At.region (At.d R R R R (jb (x:=(.tv kBool r2)) (ja R)) ?_)))
  refine At.done (At.vl ?_)
  refine At.cond (ja R) (fun hb2=>?_) (fun hb2=>?_)
  ·replace hF:=W.ite_t hb2 hF
   refine At.seq (At.region (At.d R R R R (jd (x:=(.tv (kInt .i64) (0:Int))) (ji _ _)) ?_))
   refine At.done (At.vl (At.ret (At.vm (At.vm ?_))))
   exact At.j rfl (rv_tmp rfl) [] rfl ⟨(0:Int),hF,rfl,rfl⟩
  ·replace hF:=W.ite_f hb2 hF
   refine At.skip (At.vl (At.seq (At.region (At.d R R R R (jd (x:=(.tv (kInt .i64) (-1:Int))) (ji _ _)) ?_))))
   refine At.done (At.vl (At.ret (At.vm ?_)))
   exact At.j rfl (rv_tmp rfl) [] rfl ⟨(-1:Int),hF,rfl,rfl⟩
 ·replace hF:=W.ite_f hb1 hF
  refine At.skip (At.vl (At.seq (At.seq (At.region (At.d R R R R (jb (x:=(.tv kBool r2)) (ja R)) ?_)))))
  refine At.done (At.vl ?_)
  refine At.cond (ja R) (fun hb3=>?_) (fun hb3=>?_)
  ·replace hF:=W.ite_t hb3 hF
   refine At.seq (At.region (At.d R R R R (jd (x:=(.tv (kInt .i64) (1:Int))) (ji _ _)) ?_))
   refine At.done (At.vl (At.ret (At.vm ?_)))
   exact At.j rfl (rv_tmp rfl) [] rfl ⟨(1:Int),hF,rfl,rfl⟩
  ·replace hF:=W.ite_f hb3 hF
   refine At.skip (At.vl (At.seq (At.seq (At.region (At.d R R R R (jb (x:=(.tv (kInt .i64) x1)) (ja R)) ?_)))))
   refine At.d R R R R (jb (x:=(.tv (kInt .i64) y1)) (ja R)) ?_
   refine At.d R R R R (jk (ja R) (ja R) vg) ?_
   refine At.done (At.vl ?_)
   refine At.cond (ja R) (fun hb4=>?_) (fun hb4=>?_)
   ·replace hF:=W.ite_t hb4 hF
    refine At.seq (At.region (At.d R R R R (jd (x:=(.tv (kInt .i64) (-1:Int))) (ji _ _)) ?_))
    refine At.done (At.vl (At.ret (At.vm ?_)))
    exact At.j rfl (rv_tmp rfl) [] rfl ⟨(-1:Int),hF,rfl,rfl⟩
   ·replace hF:=W.ite_f hb4 hF
    refine At.skip (At.vl (At.seq (At.seq (At.region (At.d R R R R (jb (x:=(.tv (kInt .i64) x1)) (ja R)) ?_)))))
    refine At.d R R R R (jb (x:=(.tv (kInt .i64) y1)) (ja R)) ?_
    refine At.d R R R R (jk (ja R) (ja R) bin_gtr) ?_
    refine At.done (At.vl ?_)
    refine At.cond (ja R) (fun hb5=>?_) (fun hb5=>?_)
    ·replace hF:=W.ite_t hb5 hF
     refine At.seq (At.region (At.d R R R R (jd (x:=(.tv (kInt .i64) (1:Int))) (ji _ _)) ?_))
     refine At.done (At.vl (At.ret (At.vm ?_)))
     exact At.j rfl (rv_tmp rfl) [] rfl ⟨(1:Int),hF,rfl,rfl⟩
    ·replace hF:=W.ite_f hb5 hF
     refine At.skip (At.vl (At.seq (At.region (At.d R R R R (jd (x:=(.tv (kInt .i64) (0:Int))) (ji _ _)) ?_))))
     refine At.done (At.vl (At.ret ?_))
     exact At.j rfl (rv_tmp rfl) [] rfl ⟨(0:Int),hF,rfl,rfl⟩
def we.c1:W Bool:=W.ret true
def we.l1 (l1:(List Point)) (K1:W Bool) (A1:Int→W Bool) (t6:Int):W Bool:=W.ite (decide (t6<(l1.length:Int))) (W.req (0≤t6∧t6<(l1.length:Int)) (W.ite ((decide ((2097152:Int)<(if ((rd zPoint l1 t6).X)<((rd zPoint l1 t6).Y) then ((rd zPoint l1 t6).Y) else ((rd zPoint l1 t6).X))))||(decide ((if ((rd zPoint l1 t6).Y)<((rd zPoint l1 t6).X) then ((rd zPoint l1 t6).Y) else ((rd zPoint l1 t6).X))<(-2097152:Int)))) (W.ret false) (A1 (w64 (t6+(1:Int)))))) (K1)
def we.F (l1:(List Point)):W Bool:=W.ex fun n=>W.iter1 (we.l1 l1 (we.c1)) n (0:Int)
theorem we.ok {l1:(List Point)} {Q:Bool→Prop} (hF:we.F l1 Q):Con Tryz.prog 54 [.tv (kSlice kPoint) l1] [] (fun ta rs'=>∃ (r:Bool),Q r∧ta=.tv kBool r∧rs'=[]):=by
 refine Con.i Tryz.func54 Tryz.ntmps54 R R (fun C=>?_)
 unfold we.F at hF
 refine At.seq (At.region (At.d R R R R (jd (x:=(.tv kBool false)) (jl _)) ?_))
 refine At.done (At.vl ?_)
 refine At.cut (fun rs L=>∃ _:Unit,we.c1 Q∧rs=[]∧L=mkL []) ?_ ?_
 ·refine At.seq (At.region (At.d R R R R (jb (x:=(.tv (kSlice kPoint) l1)) (ja R)) ?_))
  refine At.d R R R R (jt (ja R) Tryz.underlying68) ?_
  refine At.d R R R R (jb (x:=(.tv (kInt .i64) (0:Int))) (ji _ _)) ?_
  refine At.done (At.vl (At.block ?_))
  obtain ⟨n1,hF⟩:=hF
  refine At.w [] R [(5,(.tv (kSlice kPoint) l1)),(6,(.tv (kInt .i64) (l1.length:Int))),(7,(.tv (kInt .i64) (0:Int)))] ⟨R,R,R,trivial⟩ ?_
  refine At.loop (fun m rs L=>∃ (t6:Int),W.iter1 (we.l1 l1 (we.c1)) m t6 Q∧rs=[]∧L=mkL [(5,(.tv (kSlice kPoint) l1)),(6,(.tv (kInt .i64) (l1.length:Int))),(7,(.tv (kInt .i64) t6))]) ?_ ?_ (m:=n1) ⟨(0:Int),hF,R,R⟩
  ·rintro rs L ⟨_,hF,_,_⟩;exact hF
  ·rintro m1 _ _ ⟨t6,hF,rfl,rfl⟩
   replace hF:=W.iter1_s hF
   unfold we.l1 at hF
   refine At.seq (At.region (At.d R R R R (jk (ja R) (ja R) vg) ?_))
   refine At.done (At.vl (At.seq ?_))
   refine At.cond (ja R) (fun hb9=>?_) (fun hb9=>?_)
   ·replace hF:=W.ite_t hb9 hF
    refine At.skip (At.vl (At.seq (At.block (At.seq (At.region ?_)))))
    obtain ⟨hq5,hF⟩:=hF
    refine At.d R R R R (vj zPoint (ja R) (ja R) Tryz.underlying68 ty_37 hq5) ?_
    refine At.d R R R R (vw (K:=kPoint) (ja R) ty_37) ?_
    refine At.f R (eff_alloc R R R tz_37) ?_
    rintro _ _ ⟨g5,rfl,rfl⟩
    refine At.f R (jz R R (ja R) 0 R (Sub.self kPoint) ty_37 (ja R)) ?_
    rintro _ _ ⟨rfl,rfl⟩
    refine At.done (At.vl (At.seq (At.region (At.d R R R R (je (ja R) wa) ?_))))
    refine At.d R R R R (jc (ja R) 0 R Vx ty_3) ?_
    refine At.d R R R R (je (ja R) zf) ?_
    refine At.d R R R R (jc (ja R) 0 R qn ty_3) ?_
    refine At.d R R R R (does_max (ja R) (ja R)) ?_
    refine At.d R R R R (jk (ja R) (ji _ _) bin_gtr) ?_
    refine At.d R R R R (jb (x:=(.tv kBool (decide ((2097152:Int)<(if ((rd zPoint l1 t6).X)<((rd zPoint l1 t6).Y) then ((rd zPoint l1 t6).Y) else ((rd zPoint l1 t6).X)))))) (ja R)) ?_
    refine At.vn R R R R (jx R) R (fun hg25=>(je (ja R) wa)) ?_
    refine At.vn R R R R (jx R) R (fun hg26=>(jc (jh R hg26) 0 R Vx ty_3)) ?_
    refine At.vn R R R R (jx R) R (fun hg27=>(je (ja R) zf)) ?_
    refine At.vn R R R R (jx R) R (fun hg28=>(jc (jh R hg28) 0 R qn ty_3)) ?_
    refine At.vn R R R R (jx R) R (fun hg29=>(does_min (jh R hg29) (jh R hg29))) ?_
    refine At.vn R R R R (jx R) R (fun hg30=>(jk (jh R hg30) (ji _ _) vg)) ?_
    refine At.d R R R R (jm (ja R) (jl _) (ja R) vi) ?_
    refine At.done (At.vl ?_)
    refine At.cond (ja R) (fun hb10=>?_) (fun hb10=>?_)
    ·replace hF:=W.ite_t hb10 hF
     refine At.seq (At.region (At.d R R R R (jd (x:=(.tv kBool false)) (jl _)) ?_))
     refine At.done (At.vl (At.ret ?_))
     refine At.q ?_
     refine At.vm (At.vm ?_)
     refine At.q ?_
     refine At.vm ?_
     exact At.j rfl (rv_tmp rfl) [] rfl ⟨false,hF,rfl,rfl⟩
    ·replace hF:=W.ite_f hb10 hF
     refine At.skip ?_
     refine At.n ?_
     refine At.vl (At.region (At.d R R R R (jk (ja R) (ji _ _) vf) ?_))
     refine At.d R R R R (jb (x:=(.tv (kInt .i64) (w64 (t6+(1:Int))))) (ja R)) ?_
     refine At.done (At.vl ?_)
     refine At.w [] R [(5,(.tv (kSlice kPoint) l1)),(6,(.tv (kInt .i64) (l1.length:Int))),(7,(.tv (kInt .i64) (w64 (t6+(1:Int)))))] ⟨R,R,R,trivial⟩ (At.r ⟨(w64 (t6+(1:Int))),hF,R,R⟩)
   ·replace hF:=W.ite_f hb9 hF
    refine At.exit ?_
    refine At.x (At.x ?_)
    refine At.h ?_
    refine At.vl ?_
    refine At.w [] R [] trivial (At.r ⟨(),hF,R,R⟩)
 ·rintro _ _ ⟨_,hF,rfl,rfl⟩
  unfold we.c1 at hF
  refine At.seq (At.region (At.d R R R R (jd (x:=(.tv kBool true)) (jl _)) ?_))
  refine At.done (At.vl (At.ret ?_))
  exact At.j rfl (rv_tmp rfl) [] rfl ⟨true,hF,rfl,rfl⟩
def geom_to.F (a1:Point) (b1:Point):W ws:=W.ret (⟨(w64 (b1.X-a1.X)),(w64 (b1.Y-a1.Y))⟩:ws)
theorem geom_to.ok {a1:Point} {b1:Point} {Q:ws→Prop} (hF:geom_to.F a1 b1 Q):Con Tryz.prog 90 [.tv kPoint a1,.tv kPoint b1] [] (fun ta rs'=>∃ (r:ws),Q r∧ta=.tv wn r∧rs'=[]):=by
 refine Con.i Tryz.func90 Tryz.ntmps90 R R (fun C=>?_)
 unfold geom_to.F at hF
 refine At.seq (At.region (At.f R (jy R R R (ja R)) ?_))
 rintro _ _ ⟨g1,rfl,rfl⟩
 refine At.f R (jy R R R (ja R)) ?_
 rintro _ _ ⟨g2,rfl,rfl⟩
 refine At.f R (eff_alloc R R R tz_141) ?_
 rintro _ _ ⟨g3,rfl,rfl⟩
 refine At.done (At.vl (At.seq (At.region (At.d R R R R (je (ja R) wa) ?_))))
 refine At.d R R R R (jc (ja R) 1 R Vx ty_3) ?_
 refine At.d R R R R (je (ja R) wa) ?_
 refine At.d R R R R (jc (ja R) 2 R Vx ty_3) ?_
 refine At.d R R R R (jk (ja R) (ja R) bin_sub) ?_
 refine At.d R R R R (je (ja R) zf) ?_
 refine At.d R R R R (jc (ja R) 1 R qn ty_3) ?_
 refine At.d R R R R (je (ja R) zf) ?_
 refine At.d R R R R (jc (ja R) 2 R qn ty_3) ?_
 refine At.d R R R R (jk (ja R) (ja R) bin_sub) ?_
 refine At.d R R R R (vd (jr (ja R) (jr (ja R) js)) zr_141 bd_141 R (fills_cons R jb9 (fills_cons R jb4 fills_nil))) ?_
 refine At.f R (jz R R (ja R) 0 R (Sub.self wn) ty_141 (ja R)) ?_
 rintro _ _ ⟨rfl,rfl⟩
 refine At.done (At.vl (At.ret ?_))
 exact At.j rfl (rv_cell rfl 0 rfl ty_141) [] rfl ⟨(⟨(w64 (b1.X-a1.X)),(w64 (b1.Y-a1.Y))⟩:ws),hF,rfl,rfl⟩
def yy.F (v1:ws) (w1:ws):W Int:=W.ret (w64 ((w64 (v1.x*w1.y))-(w64 (v1.y*w1.x))))
theorem yy.ok {v1:ws} {w1:ws} {Q:Int→Prop} (hF:yy.F v1 w1 Q):Con Tryz.prog 91 [.tv wn v1,.tv wn w1] [] (fun ta rs'=>∃ (r:Int),Q r∧ta=.tv (kInt .i64) r∧rs'=[]):=by
 refine Con.i Tryz.func91 Tryz.ntmps91 R R (fun C=>?_)
 unfold yy.F at hF
 refine At.seq (At.region (At.f R (jy R R R (ja R)) ?_))
 rintro _ _ ⟨g1,rfl,rfl⟩
 refine At.f R (jy R R R (ja R)) ?_
 rintro _ _ ⟨g2,rfl,rfl⟩
 refine At.d R R R R (jd (x:=(.tv (kInt .i64) (0:Int))) (ji _ _)) ?_
 refine At.done (At.vl (At.seq (At.region (At.d R R R R (je (ja R) fa_141_0) ?_))))
 refine At.d R R R R (jc (ja R) 1 R jb9 ty_3) ?_
 refine At.d R R R R (je (ja R) fa_141_1) ?_
 refine At.d R R R R (jc (ja R) 0 R jb4 ty_3) ?_
 refine At.d R R R R (jk (ja R) (ja R) bin_mul) ?_
 refine At.d R R R R (je (ja R) fa_141_1) ?_
 refine At.d R R R R (jc (ja R) 1 R jb4 ty_3) ?_
 refine At.d R R R R (je (ja R) fa_141_0) ?_
 refine At.d R R R R (jc (ja R) 0 R jb9 ty_3) ?_
 refine At.d R R R R (jk (ja R) (ja R) bin_mul) ?_
 refine At.d R R R R (jk (ja R) (ja R) bin_sub) ?_
 refine At.d R R R R (jd (x:=(.tv (kInt .i64) (w64 ((w64 (v1.x*w1.y))-(w64 (v1.y*w1.x)))))) (ja R)) ?_
 refine At.done (At.vl (At.ret ?_))
 exact At.j rfl (rv_tmp rfl) [] rfl ⟨(w64 ((w64 (v1.x*w1.y))-(w64 (v1.y*w1.x)))),hF,rfl,rfl⟩
def qg.F (a1:Point) (b1:Point) (c1:Point):W Int:=W.bind (we.F ([a1,b1,c1]:List Point)) (fun r1=>W.ite (!r1) (W.ret (0:Int)) (W.bind (geom_to.F a1 b1) (fun r2=>W.bind (geom_to.F a1 c1) (fun r3=>W.bind (yy.F r2 r3) (fun r4=>W.bind (wd.F r4 (0:Int)) (fun r5=>W.ret r5))))))
theorem qg.ok {a1:Point} {b1:Point} {c1:Point} {Q:Int→Prop} (hF:qg.F a1 b1 c1 Q):Con Tryz.prog 56 [.tv kPoint a1,.tv kPoint b1,.tv kPoint c1] [] (fun ta rs'=>∃ (r:Int),Q r∧ta=.tv (kInt .i64) r∧rs'=[]):=by
 refine Con.i Tryz.func56 Tryz.ntmps56 R R (fun C=>?_)
 unfold qg.F at hF
 refine At.seq (At.region (At.f R (jy R R R (ja R)) ?_))
 rintro _ _ ⟨g1,rfl,rfl⟩
 refine At.f R (jy R R R (ja R)) ?_
 rintro _ _ ⟨g2,rfl,rfl⟩
 refine At.f R (jy R R R (ja R)) ?_
 rintro _ _ ⟨g3,rfl,rfl⟩
 refine At.d R R R R (jd (x:=(.tv (kInt .i64) (0:Int))) (ji _ _)) ?_
 refine At.done (At.vl (At.seq (At.seq (At.region (At.d R R R R (jc (ja R) 2 R (Sub.self kPoint) ty_37) ?_)))))
 refine At.d R R R R (jc (ja R) 1 R (Sub.self kPoint) ty_37) ?_
 refine At.d R R R R (jc (ja R) 0 R (Sub.self kPoint) ty_37) ?_
 refine At.f R (vc R R R (os:=[.tmp 8,.tmp 9,.tmp 10]) R sl_68 (xs:=([a1,b1,c1]:List Point)) (jf (ja R) (jf (ja R) (jf (ja R) jg))) R R) ?_
 rintro _ _ ⟨v1,rfl,rfl⟩
 replace hF:=W.vq hF
 refine At.f R (jn R R (lends_row 0 11 R R jp) (jq R en_54 (jf (ja R) jg)) (we.ok hF) (by rintro _ _ ⟨r,_,rfl,_⟩;exact vp)) ?_
 rintro _ _ ⟨_,_,⟨r1,hF,rfl,rfl⟩,rfl,rfl⟩
 refine At.d R R R R (ve (ja R)) ?_
 refine At.done (At.vl ?_)
 refine At.cond (ja R) (fun hb1=>?_) (fun hb1=>?_)
 ·replace hF:=W.ite_t hb1 hF
  refine At.seq (At.region (At.d R R R R (jd (x:=(.tv (kInt .i64) (0:Int))) (ji _ _)) ?_))
  refine At.done (At.vl (At.ret (At.vm ?_)))
  exact At.j rfl (rv_tmp rfl) [] rfl ⟨(0:Int),hF,rfl,rfl⟩
 ·replace hF:=W.ite_f hb1 hF
  refine At.skip (At.vl (At.seq (At.region (At.d R R R R (jc (ja R) 3 R (Sub.self kPoint) ty_37) ?_))))
  refine At.d R R R R (jc (ja R) 2 R (Sub.self kPoint) ty_37) ?_
  replace hF:=W.vq hF
  refine At.f R (jn R R jp (jq R en_90 (jf (ja R) (jf (ja R) jg))) (geom_to.ok hF) (by rintro _ _ ⟨r,_,rfl,_⟩;exact (flat_tv flat_geom_vector))) ?_
  rintro _ _ ⟨_,_,⟨r2,hF,rfl,rfl⟩,rfl,rfl⟩
  refine At.d R R R R (does_cls (firsts:=[.tmp 16]) (caps:=[]) R (jf (ja R) jg)) ?_
  refine At.d R R R R (jd (x:=(.cls 91 1 (tupl [(.tv wn r2)]))) (ja R)) ?_
  refine At.done (At.vl (At.seq (At.region (At.d R R R R (jb (x:=(.cls 91 1 (tupl [(.tv wn r2)]))) (ja R)) ?_))))
  refine At.d R R R R (jc (ja R) 3 R (Sub.self kPoint) ty_37) ?_
  refine At.d R R R R (jc (ja R) 1 R (Sub.self kPoint) ty_37) ?_
  replace hF:=W.vq hF
  refine At.f R (jn R R jp (jq R en_90 (jf (ja R) (jf (ja R) jg))) (geom_to.ok hF) (by rintro _ _ ⟨r,_,rfl,_⟩;exact (flat_tv flat_geom_vector))) ?_
  rintro _ _ ⟨_,_,⟨r3,hF,rfl,rfl⟩,rfl,rfl⟩
  replace hF:=W.vq hF
  refine At.f R (jn R R jp (ent_val1 R (ja R) en_91 (jf (ja R) jg)) (yy.ok hF) (by rintro _ _ ⟨r,_,rfl,_⟩;exact flat_int)) ?_
  rintro _ _ ⟨_,_,⟨r4,hF,rfl,rfl⟩,rfl,rfl⟩
  replace hF:=W.vq hF
  refine At.f R (jn R R jp (jq R en_92 (jf (ja R) (jf (ji _ _) jg))) (wd.ok hF) (by rintro _ _ ⟨r,_,rfl,_⟩;exact flat_int)) ?_
  rintro _ _ ⟨_,_,⟨r5,hF,rfl,rfl⟩,rfl,rfl⟩
  refine At.d R R R R (jd (x:=(.tv (kInt .i64) r5)) (ja R)) ?_
  refine At.done (At.vl (At.ret ?_))
  exact At.j rfl (rv_tmp rfl) [] rfl ⟨r5,hF,rfl,rfl⟩
def Vi.c1:W Int:=W.ret (0:Int)
def Vi.l1 (pairs1:(List (Int×Int))) (K1:W Int) (A1:Int→W Int) (t6:Int):W Int:=W.ite (decide (t6<(pairs1.length:Int))) (W.req (0≤t6∧t6<(pairs1.length:Int)) (W.bind (wd.F ((rd ((0:Int),(0:Int)) pairs1 t6).1) ((rd ((0:Int),(0:Int)) pairs1 t6).2)) (fun r5=>W.ite (r5 != (0:Int)) (W.ret r5) (A1 (w64 (t6+(1:Int))))))) (K1)
def Vi.F (pairs1:(List (Int×Int))):W Int:=W.ex fun n=>W.iter1 (Vi.l1 pairs1 (Vi.c1)) n (0:Int)
theorem Vi.ok {pairs1:(List (Int×Int))} {Q:Int→Prop} (hF:Vi.F pairs1 Q):Con Tryz.prog 132 [.tv (kSlice (kPair (kInt .i64) (kInt .i64))) pairs1] [] (fun ta rs'=>∃ (r:Int),Q r∧ta=.tv (kInt .i64) r∧rs'=[]):=by
 refine Con.i Tryz.func132 Tryz.ntmps132 R R (fun C=>?_)
 unfold Vi.F at hF
 refine At.seq (At.region (At.d R R R R (jd (x:=(.tv (kInt .i64) (0:Int))) (ji _ _)) ?_))
 refine At.done (At.vl ?_)
 refine At.cut (fun rs L=>∃ _:Unit,Vi.c1 Q∧rs=[]∧L=mkL []) ?_ ?_
 ·refine At.seq (At.region (At.d R R R R (jb (x:=(.tv (kSlice (kPair (kInt .i64) (kInt .i64))) pairs1)) (ja R)) ?_))
  refine At.d R R R R (jt (ja R) Tryz.underlying199) ?_
  refine At.d R R R R (jb (x:=(.tv (kInt .i64) (0:Int))) (ji _ _)) ?_
  refine At.done (At.vl (At.block ?_))
  obtain ⟨n1,hF⟩:=hF
  refine At.w [] R [(6,(.tv (kSlice (kPair (kInt .i64) (kInt .i64))) pairs1)),(7,(.tv (kInt .i64) (pairs1.length:Int))),(8,(.tv (kInt .i64) (0:Int)))] ⟨R,R,R,trivial⟩ ?_
  refine At.loop (fun m rs L=>∃ (t6:Int),W.iter1 (Vi.l1 pairs1 (Vi.c1)) m t6 Q∧rs=[]∧L=mkL [(6,(.tv (kSlice (kPair (kInt .i64) (kInt .i64))) pairs1)),(7,(.tv (kInt .i64) (pairs1.length:Int))),(8,(.tv (kInt .i64) t6))]) ?_ ?_ (m:=n1) ⟨(0:Int),hF,R,R⟩
  ·rintro rs L ⟨_,hF,_,_⟩;exact hF
  ·rintro m1 _ _ ⟨t6,hF,rfl,rfl⟩
   replace hF:=W.iter1_s hF
   unfold Vi.l1 at hF
   refine At.seq (At.region (At.d R R R R (jk (ja R) (ja R) vg) ?_))
   refine At.done (At.vl (At.seq ?_))
   refine At.cond (ja R) (fun hb9=>?_) (fun hb9=>?_)
   ·replace hF:=W.ite_t hb9 hF
    refine At.skip (At.vl (At.seq (At.block (At.seq (At.region ?_)))))
    obtain ⟨hq5,hF⟩:=hF
    refine At.d R R R R (vj ((0:Int),(0:Int)) (ja R) (ja R) Tryz.underlying199 ty_92 hq5) ?_
    refine At.d R R R R (vw (K:=(kPair (kInt .i64) (kInt .i64))) (ja R) ty_92) ?_
    refine At.f R (eff_alloc R R R tz_92) ?_
    rintro _ _ ⟨g5,rfl,rfl⟩
    refine At.f R (jz R R (ja R) 0 R (Sub.self (kPair (kInt .i64) (kInt .i64))) ty_92 (ja R)) ?_
    rintro _ _ ⟨rfl,rfl⟩
    refine At.done (At.vl (At.seq (At.region (At.d R R R R (does_aidx_box (ja R) (ji _ _) ia_92_0) ?_))))
    refine At.d R R R R (jc (ja R) 0 R sub_a92_0 ty_3) ?_
    refine At.d R R R R (does_aidx_box (ja R) (ji _ _) ia_92_1) ?_
    refine At.d R R R R (jc (ja R) 0 R sub_a92_1 ty_3) ?_
    replace hF:=W.vq hF
    refine At.f R (jn R R jp (jq R en_92 (jf (ja R) (jf (ja R) jg))) (wd.ok hF) (by rintro _ _ ⟨r,_,rfl,_⟩;exact flat_int)) ?_
    rintro _ _ ⟨_,_,⟨r5,hF,rfl,rfl⟩,rfl,rfl⟩
    refine At.d R R R R (jd (x:=(.tv (kInt .i64) r5)) (ja R)) ?_
    refine At.done (At.vl (At.seq (At.region (At.d R R R R (jb (x:=(.tv (kInt .i64) r5)) (ja R)) ?_))))
    refine At.d R R R R (jk (ja R) (ji _ _) bin_neq) ?_
    refine At.done (At.vl ?_)
    refine At.cond (ja R) (fun hb10=>?_) (fun hb10=>?_)
    ·replace hF:=W.ite_t hb10 hF
     refine At.seq (At.region (At.d R R R R (jb (x:=(.tv (kInt .i64) r5)) (ja R)) ?_))
     refine At.d R R R R (jd (x:=(.tv (kInt .i64) r5)) (ja R)) ?_
     refine At.done (At.vl (At.ret ?_))
     refine At.q ?_
     refine At.vm (At.vm ?_)
     refine At.q ?_
     refine At.vm ?_
     exact At.j rfl (rv_tmp rfl) [] rfl ⟨r5,hF,rfl,rfl⟩
    ·replace hF:=W.ite_f hb10 hF
     refine At.skip ?_
     refine At.n ?_
     refine At.vl (At.region (At.d R R R R (jk (ja R) (ji _ _) vf) ?_))
     refine At.d R R R R (jb (x:=(.tv (kInt .i64) (w64 (t6+(1:Int))))) (ja R)) ?_
     refine At.done (At.vl ?_)
     refine At.w [] R [(6,(.tv (kSlice (kPair (kInt .i64) (kInt .i64))) pairs1)),(7,(.tv (kInt .i64) (pairs1.length:Int))),(8,(.tv (kInt .i64) (w64 (t6+(1:Int)))))] ⟨R,R,R,trivial⟩ (At.r ⟨(w64 (t6+(1:Int))),hF,R,R⟩)
   ·replace hF:=W.ite_f hb9 hF
    refine At.exit ?_
    refine At.x (At.x ?_)
    refine At.h ?_
    refine At.vl ?_
    refine At.w [] R [] trivial (At.r ⟨(),hF,R,R⟩)
 ·rintro _ _ ⟨_,hF,rfl,rfl⟩
  unfold Vi.c1 at hF
  refine At.seq (At.region (At.d R R R R (jd (x:=(.tv (kInt .i64) (0:Int))) (ji _ _)) ?_))
  refine At.done (At.vl (At.ret ?_))
  exact At.j rfl (rv_tmp rfl) [] rfl ⟨(0:Int),hF,rfl,rfl⟩
def qs.F (a1:Point) (b1:Point):W Int:=W.bind (Vi.F ([(a1.X,b1.X),(a1.Y,b1.Y)]:List (Int×Int))) (fun r1=>W.ret r1)
theorem qs.ok {a1:Point} {b1:Point} {Q:Int→Prop} (hF:qs.F a1 b1 Q):Con Tryz.prog 89 [.tv kPoint a1,.tv kPoint b1] [] (fun ta rs'=>∃ (r:Int),Q r∧ta=.tv (kInt .i64) r∧rs'=[]):=by
 refine Con.i Tryz.func89 Tryz.ntmps89 R R (fun C=>?_)
 unfold qs.F at hF
 refine At.seq (At.region (At.f R (jy R R R (ja R)) ?_))
 rintro _ _ ⟨g1,rfl,rfl⟩
 refine At.f R (jy R R R (ja R)) ?_
 rintro _ _ ⟨g2,rfl,rfl⟩
 refine At.d R R R R (jd (x:=(.tv (kInt .i64) (0:Int))) (ji _ _)) ?_
 refine At.done (At.vl (At.seq (At.region (At.d R R R R (je (ja R) wa) ?_))))
 refine At.d R R R R (jc (ja R) 1 R Vx ty_3) ?_
 refine At.d R R R R (je (ja R) wa) ?_
 refine At.d R R R R (jc (ja R) 0 R Vx ty_3) ?_
 refine At.d R R R R (vd (jr (ja R) (jr (ja R) js)) zr_92 bd_92 R (fills_cons R sub_a92_0 (fills_cons R sub_a92_1 fills_nil))) ?_
 refine At.d R R R R (je (ja R) zf) ?_
 refine At.d R R R R (jc (ja R) 1 R qn ty_3) ?_
 refine At.d R R R R (je (ja R) zf) ?_
 refine At.d R R R R (jc (ja R) 0 R qn ty_3) ?_
 refine At.d R R R R (vd (jr (ja R) (jr (ja R) js)) zr_92 bd_92 R (fills_cons R sub_a92_0 (fills_cons R sub_a92_1 fills_nil))) ?_
 refine At.f R (vc R R R (os:=[.tmp 9,.tmp 14]) R sl_199 (xs:=([(a1.X,b1.X),(a1.Y,b1.Y)]:List (Int×Int))) (jf (ja R) (jf (ja R) jg)) R R) ?_
 rintro _ _ ⟨v1,rfl,rfl⟩
 replace hF:=W.vq hF
 refine At.f R (jn R R (lends_row 0 15 R R jp) (jq R en_132 (jf (ja R) jg)) (Vi.ok hF) (by rintro _ _ ⟨r,_,rfl,_⟩;exact flat_int)) ?_
 rintro _ _ ⟨_,_,⟨r1,hF,rfl,rfl⟩,rfl,rfl⟩
 refine At.d R R R R (jd (x:=(.tv (kInt .i64) r1)) (ja R)) ?_
 refine At.done (At.vl (At.ret ?_))
 exact At.j rfl (rv_tmp rfl) [] rfl ⟨r1,hF,rfl,rfl⟩
def yo.F (s1:Segment):W Segment:=W.bind (qs.F s1.A s1.B) (fun r1=>W.ite (decide ((0:Int)<r1)) (W.ret ({ ({ s1 with A:=s1.B }:Segment) with B:=s1.A }:Segment)) (W.ret s1))
theorem yo.ok {s1:Segment} {Q:Segment→Prop} (hF:yo.F s1 Q):Con Tryz.prog 55 [.tv kSegment s1] [] (fun ta rs'=>∃ (r:Segment),Q r∧ta=.tv kSegment r∧rs'=[]):=by
 refine Con.i Tryz.func55 Tryz.ntmps55 R R (fun C=>?_)
 unfold yo.F at hF
 refine At.seq (At.region (At.f R (jy R R R (ja R)) ?_))
 rintro _ _ ⟨g1,rfl,rfl⟩
 refine At.f R (eff_alloc R R R tz_39) ?_
 rintro _ _ ⟨g2,rfl,rfl⟩
 refine At.done (At.vl (At.seq (At.seq (At.region (At.d R R R R (je (ja R) qe) ?_)))))
 refine At.d R R R R (jc (ja R) 1 R Jf ty_37) ?_
 refine At.d R R R R (je (ja R) ql) ?_
 refine At.d R R R R (jc (ja R) 1 R Jg ty_37) ?_
 replace hF:=W.vq hF
 refine At.f R (jn R R jp (jq R en_89 (jf (ja R) (jf (ja R) jg))) (qs.ok hF) (by rintro _ _ ⟨r,_,rfl,_⟩;exact flat_int)) ?_
 rintro _ _ ⟨_,_,⟨r1,hF,rfl,rfl⟩,rfl,rfl⟩
 refine At.d R R R R (jk (ja R) (ji _ _) bin_gtr) ?_
 refine At.done (At.vl ?_)
 refine At.cond (ja R) (fun hb1=>?_) (fun hb1=>?_)
 ·replace hF:=W.ite_t hb1 hF
  refine At.region (At.d R R R R (je (ja R) ql) ?_)
  refine At.d R R R R (jc (ja R) 1 R Jg ty_37) ?_
  refine At.d R R R R (je (ja R) qe) ?_
  refine At.d R R R R (jc (ja R) 1 R Jf ty_37) ?_
  refine At.d R R R R (je (ja R) qe) ?_
  refine At.f R (jz R R (ja R) 1 R Jf ty_37 (ja R)) ?_
  rintro _ _ ⟨rfl,rfl⟩
  refine At.d R R R R (je (ja R) ql) ?_
  refine At.f R (jz R R (ja R) 1 R Jg ty_37 (ja R)) ?_
  rintro _ _ ⟨rfl,rfl⟩
  refine At.done (At.vl (At.seq (At.region (At.d R R R R (jc (ja R) 1 R (Sub.self kSegment) ty_39) ?_))))
  refine At.f R (jz R R (ja R) 0 R (Sub.self kSegment) ty_39 (ja R)) ?_
  rintro _ _ ⟨rfl,rfl⟩
  refine At.done (At.vl (At.ret ?_))
  exact At.j rfl (rv_cell rfl 0 rfl ty_39) [] rfl ⟨({ ({ s1 with A:=s1.B }:Segment) with B:=s1.A }:Segment),hF,rfl,rfl⟩
 ·replace hF:=W.ite_f hb1 hF
  refine At.skip (At.vl (At.seq (At.region (At.d R R R R (jc (ja R) 1 R (Sub.self kSegment) ty_39) ?_))))
  refine At.f R (jz R R (ja R) 0 R (Sub.self kSegment) ty_39 (ja R)) ?_
  rintro _ _ ⟨rfl,rfl⟩
  refine At.done (At.vl (At.ret ?_))
  exact At.j rfl (rv_cell rfl 0 rfl ty_39) [] rfl ⟨s1,hF,rfl,rfl⟩
def geom_On.F (s1:Segment) (p1:Point):W Bool:=W.bind (we.F ([s1.A,s1.B,p1]:List Point)) (fun r1=>W.ite (!r1) (W.ret false) (W.bind (yo.F s1) (fun r2=>W.bind (qg.F r2.A r2.B p1) (fun r3=>W.bind (W.ite (r3==(0:Int)) (qs.F r2.A p1) (W.ret (0:Int))) (fun r4=>W.bind (W.ite ((r3==(0:Int))&&(decide (r4≤(0:Int)))) (qs.F p1 r2.B) (W.ret (0:Int))) (fun r5=>W.ret ((((r3==(0:Int))&&(decide (r4≤(0:Int))))&&(decide (r5≤(0:Int))))&&((!(Vg r2.A r2.B))||(Vg p1 r2.A)))))))))
theorem geom_On.ok {s1:Segment} {p1:Point} {Q:Bool→Prop} (hF:geom_On.F s1 p1 Q):Con Tryz.prog 93 [.tv kSegment s1,.tv kPoint p1] [] (fun ta rs'=>∃ (r:Bool),Q r∧ta=.tv kBool r∧rs'=[]):=by
 refine Con.i Tryz.func93 Tryz.ntmps93 R R (fun C=>?_)
 unfold geom_On.F at hF
 refine At.seq (At.region (At.f R (jy R R R (ja R)) ?_))
 rintro _ _ ⟨g1,rfl,rfl⟩
 refine At.f R (jy R R R (ja R)) ?_
 rintro _ _ ⟨g2,rfl,rfl⟩
 refine At.d R R R R (jd (x:=(.tv kBool false)) (jl _)) ?_
 refine At.done (At.vl (At.seq (At.seq (At.region (At.d R R R R (je (ja R) qe) ?_)))))
 refine At.d R R R R (jc (ja R) 1 R Jf ty_37) ?_
 refine At.d R R R R (je (ja R) ql) ?_
 refine At.d R R R R (jc (ja R) 1 R Jg ty_37) ?_
 refine At.d R R R R (jc (ja R) 0 R (Sub.self kPoint) ty_37) ?_
 refine At.f R (vc R R R (os:=[.tmp 6,.tmp 8,.tmp 9]) R sl_68 (xs:=([s1.A,s1.B,p1]:List Point)) (jf (ja R) (jf (ja R) (jf (ja R) jg))) R R) ?_
 rintro _ _ ⟨v1,rfl,rfl⟩
 replace hF:=W.vq hF
 refine At.f R (jn R R (lends_row 0 10 R R jp) (jq R en_54 (jf (ja R) jg)) (we.ok hF) (by rintro _ _ ⟨r,_,rfl,_⟩;exact vp)) ?_
 rintro _ _ ⟨_,_,⟨r1,hF,rfl,rfl⟩,rfl,rfl⟩
 refine At.d R R R R (ve (ja R)) ?_
 refine At.done (At.vl ?_)
 refine At.cond (ja R) (fun hb1=>?_) (fun hb1=>?_)
 ·replace hF:=W.ite_t hb1 hF
  refine At.seq (At.region (At.d R R R R (jd (x:=(.tv kBool false)) (jl _)) ?_))
  refine At.done (At.vl (At.ret (At.vm ?_)))
  exact At.j rfl (rv_tmp rfl) [] rfl ⟨false,hF,rfl,rfl⟩
 ·replace hF:=W.ite_f hb1 hF
  refine At.skip (At.vl (At.seq (At.region (At.d R R R R (jc (ja R) 2 R (Sub.self kSegment) ty_39) ?_))))
  replace hF:=W.vq hF
  refine At.f R (jn R R jp (jq R en_55 (jf (ja R) jg)) (yo.ok hF) (by rintro _ _ ⟨r,_,rfl,_⟩;exact (flat_tv jb8))) ?_
  rintro _ _ ⟨_,_,⟨r2,hF,rfl,rfl⟩,rfl,rfl⟩
  refine At.f R (jz R R (ja R) 2 R (Sub.self kSegment) ty_39 (ja R)) ?_
  rintro _ _ ⟨rfl,rfl⟩
  refine At.done (At.vl (At.seq (At.region (At.d R R R R (je (ja R) qe) ?_))))
  refine At.d R R R R (jc (ja R) 2 R Jf ty_37) ?_
  refine At.d R R R R (je (ja R) ql) ?_
  refine At.d R R R R (jc (ja R) 2 R Jg ty_37) ?_
  refine At.d R R R R (jc (ja R) 1 R (Sub.self kPoint) ty_37) ?_
  replace hF:=W.vq hF
  refine At.f R (jn R R jp (jq R en_56 (jf (ja R) (jf (ja R) (jf (ja R) jg)))) (qg.ok hF) (by rintro _ _ ⟨r,_,rfl,_⟩;exact flat_int)) ?_
  rintro _ _ ⟨_,_,⟨r3,hF,rfl,rfl⟩,rfl,rfl⟩
  refine At.d R R R R (jk (ja R) (ji _ _) bin_eql) ?_
  refine At.d R R R R (jb (x:=(.tv kBool (r3==(0:Int)))) (ja R)) ?_
  refine At.vn R R R R (jw R) R (fun hg1=>(je (ja R) qe)) ?_
  refine At.vn R R R R (jw R) R (fun hg2=>(jc (jh R hg2) 2 R Jf ty_37)) ?_
  refine At.vn R R R R (jw R) R (fun hg3=>(jc (ja R) 1 R (Sub.self kPoint) ty_37)) ?_
  replace hF:=W.vq hF
  refine At.effG R R R R (jw R) hF (fun r=>.tv (kInt .i64) r) (fun hg4 hF=>vr (jn R R jp (jq R en_89 (jf (jh R hg4) (jf (jh R hg4) jg))) (qs.ok hF) (by rintro _ _ ⟨r,_,rfl,_⟩;exact flat_int)) (by rintro _ _ ⟨_,_,⟨r,hF,rfl,rfl⟩,rfl,rfl⟩;exact ⟨r,hF,R,R⟩)) (fun r4 hF=>?_)
  refine At.vn R R R R (jw R) R (fun hg5=>(jk (jh R hg5) (ji _ _) bin_leq)) ?_
  refine At.d R R R R (jm (ja R) (ja R) (jl _) vh) ?_
  refine At.d R R R R (jb (x:=(.tv kBool ((r3==(0:Int))&&(decide (r4≤(0:Int)))))) (ja R)) ?_
  refine At.vn R R R R (jw R) R (fun hg6=>(jc (ja R) 1 R (Sub.self kPoint) ty_37)) ?_
  refine At.vn R R R R (jw R) R (fun hg7=>(je (ja R) ql)) ?_
  refine At.vn R R R R (jw R) R (fun hg8=>(jc (jh R hg8) 2 R Jg ty_37)) ?_
  replace hF:=W.vq hF
  refine At.effG R R R R (jw R) hF (fun r=>.tv (kInt .i64) r) (fun hg9 hF=>vr (jn R R jp (jq R en_89 (jf (jh R hg9) (jf (jh R hg9) jg))) (qs.ok hF) (by rintro _ _ ⟨r,_,rfl,_⟩;exact flat_int)) (by rintro _ _ ⟨_,_,⟨r,hF,rfl,rfl⟩,rfl,rfl⟩;exact ⟨r,hF,R,R⟩)) (fun r5 hF=>?_)
  refine At.vn R R R R (jw R) R (fun hg10=>(jk (jh R hg10) (ji _ _) bin_leq)) ?_
  refine At.d R R R R (jm (ja R) (ja R) (jl _) vh) ?_
  refine At.d R R R R (jb (x:=(.tv kBool (((r3==(0:Int))&&(decide (r4≤(0:Int))))&&(decide (r5≤(0:Int)))))) (ja R)) ?_
  refine At.vn R R R R (jw R) R (fun hg11=>(je (ja R) qe)) ?_
  refine At.vn R R R R (jw R) R (fun hg12=>(jc (jh R hg12) 2 R Jf ty_37)) ?_
  refine At.vn R R R R (jw R) R (fun hg13=>(je (ja R) ql)) ?_
  refine At.vn R R R R (jw R) R (fun hg14=>(jc (jh R hg14) 2 R Jg ty_37)) ?_
  refine At.vn R R R R (jw R) R (fun hg15=>(jk (jh R hg15) (jh R hg15) (bin_ne jb3))) ?_
  refine At.vn R R R R (jw R) R (fun hg16=>(jb (x:=(.tv kBool (!(Vg r2.A r2.B)))) (jh R hg16))) ?_
  refine At.vn R R R R (jv R) R (fun hg17=>(jc (ja R) 1 R (Sub.self kPoint) ty_37)) ?_
  refine At.vn R R R R (jv R) R (fun hg18=>(je (ja R) qe)) ?_
  refine At.vn R R R R (jv R) R (fun hg19=>(jc (jh R hg19) 2 R Jf ty_37)) ?_
  refine At.vn R R R R (jv R) R (fun hg20=>(jk (jh R hg20) (jh R hg20) (bin_eq jb3))) ?_
  refine At.vn R R R R (jw R) R (fun hg21=>(jm (jh R hg21) (jl _) (ja R) (pick_orG (andn_of hg21)))) ?_
  refine At.d R R R R (jm (ja R) (ja R) (jl _) vh) ?_
  refine At.d R R R R (jd (x:=(.tv kBool ((((r3==(0:Int))&&(decide (r4≤(0:Int))))&&(decide (r5≤(0:Int))))&&((!(Vg r2.A r2.B))||(Vg p1 r2.A))))) (ja R)) ?_
  refine At.done (At.vl (At.ret ?_))
  exact At.j rfl (rv_tmp rfl) [] rfl ⟨((((r3==(0:Int))&&(decide (r4≤(0:Int))))&&(decide (r5≤(0:Int))))&&((!(Vg r2.A r2.B))||(Vg p1 r2.A))),hF,rfl,rfl⟩
end Go.Gp.Gb
end
