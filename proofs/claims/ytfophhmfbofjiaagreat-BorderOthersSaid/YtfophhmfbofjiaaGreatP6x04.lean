/- A part of the proof: see the last part. -/
import Derived.Test.YtfophhmfbofjiaaGreatP6x03
section
set_option linter.unusedVariables false
set_option linter.unusedSimpArgs false
set_option maxRecDepth 10000
namespace Go.Gp.Gb
open Geo
theorem fit_of {m:Map} (h:ok_Map m):MapFit m:=by
 have:∀ i:Nat,i<m.Objects.length→ob m i∈m.Objects:=fun i hi=>by unfold ob;rw [rd_nat hi];exact List.getElem_mem hi
 refine ⟨h.1,fun i hi=>?_⟩
 obtain ⟨h1,h2,h3,h4,h5⟩:=h.2 _ (this i hi)
 refine ⟨h1,h4.1,fun j hj=>?_,h5.1,fun j hj=>?_⟩
 ·unfold rs;rw [rd_nat hj];exact h4.2 _ (List.getElem_mem hj)
 ·rw [rd_nat hj];exact (h5.2 _ (List.getElem_mem hj)).1
structure FewP (m:Map) (most:Int):Prop where
 few:(m.Objects.length:Int)≤most
 refs:∀ i:Nat,i<m.Objects.length→(ob m i).Refs.length≤12
theorem ref13_Few_b {m:Map} (hf:MapFit m) {most:Int} (hm:most≤1000) {Q:Bool→Prop} (hq:∀ b,(b=true→FewP m most)→Q b):ref13_Few.F m most Q:=by
 have bad:Q false:=hq false (fun k=>by cases k)
 refine W.dec_i (fun _=>bad) (fun hlen=>?_)
 refine W.up1 m.Objects.length (fun i=>∀ k:Nat,k<i→(ob m k).Refs.length≤12) (fun k hk=>by omega) (fun K i hi hI hk=>?_)
 refine W.dec_i (fun hlt=>W.req_i ⟨by omega,hlt⟩ ?_) (fun hge=>hq true fun _=>⟨by omega,fun k hk=>hI k (by omega)⟩)
 have hi':i<m.Objects.length:=by omega
 show W.ite ((decide ((12:Int)<((ob m i).Refs.length:Int))||_)||_) _ _ Q
 refine W.ite_i (fun _=>bad) (fun hb=>?_)
 rw [Bool.or_eq_false_iff,Bool.or_eq_false_iff,decide_eq_false_iff_not,decide_eq_false_iff_not] at hb
 have hr:(ob m i).Refs.length≤12:=by omega
 have ht:((ob m i).Tags.length:Int)≤20:=by
  have:¬ (20:Int)<((ob m i).Tags.length:Int):=hb.1.2
  omega
 refine W.up1 (ob m i).Refs.length (fun _=>True) trivial (fun K2 k hk' _ hK2=>?_)
 refine W.dec_i (fun hlt2=>W.req_i ⟨by omega,hlt2⟩ (W.ite_i (fun _=>bad) (fun _=>?_))) (fun _=>?_)
 ·have:(k:Int)<((ob m i).Refs.length:Int):=hlt2
  rw [w64_succ (by omega)]
  exact hK2 (by omega) trivial
 ·refine W.up1 (ob m i).Tags.length (fun _=>True) trivial (fun K3 k hk' _ hK3=>?_)
  refine W.dec_i (fun hlt2=>W.req_i ⟨by omega,hlt2⟩ (W.ite_i (fun _=>bad) (fun _=>?_))) (fun _=>?_)
  ·have:(k:Int)<((ob m i).Tags.length:Int):=hlt2
   rw [w64_succ (by omega)]
   exact hK3 (by omega) trivial
  ·show K (w64 ((i:Int)+1)) Q
   rw [w64_succ (by omega)]
   refine hk hi' fun k hk=>?_
   by_cases e:k=i
   ·subst e;exact hr
   ·exact hI k (by omega)
def Okn (n:Int):Prop:=n=0∨n=1∨n=4
def FreeP (m:Map) (s:Segment):Prop:=MapOk m∧NearS s∧∀ L,Ks (owners m) L→∀ k∈L,∀ n,MeetsR (sg m k) s n→Okn n
theorem ref13_Free_b {m:Map} (hf:MapFit m) {s:Segment} {Q:Bool→Prop} (hq:∀ b,(b=true↔FreeP m s)→Q b):ref13_Free.F m s Q:=by
 refine W.bind_i (ref13_Valid_b hf fun b1 h1=>W.bind_i ?_)
 cases b1 with
 | false=>exact hq false (iff_of_false (by simp) fun k=>by have:=h1.2 k.1;cases this)
 | true=>
  have h:=h1.1 rfl
  have hfew:=h.few
  refine ref03_Segment_b fun b2 h2=>?_
  cases b2 with
  | false=>exact hq false (iff_of_false (by simp) fun k=>by have:=h2.2 k.2.1;cases this)
  | true=>
   have hn:=h2.1 rfl
   refine W.bind_i (ref13_Borders_b hf (fun k=>absurd h k) fun _ L hL hl=>?_)
   refine W.up1 L.length (fun i=>∀ k∈L.take i,∀ n,MeetsR (sg m k) s n→Okn n) (by simp) (fun K i hi hI hK=>?_)
   refine W.dec_i (fun hlt=>W.req_i ⟨by omega,hlt⟩ ?_) (fun hge=>?_)
   ·rw [List.length_map] at hlt
    have hi':i<L.length:=by omega
    rw [rd_map hi']
    refine W.bind_i (W.bind_i (ref03_Meets_b fun n hn'=>?_))
    change MeetsR (sg m L[i]) s n at hn'
    refine W.ite_i (fun hb=>hq false (iff_of_false (by simp) fun k=>?_)) (fun hb=>?_)
    ·have:=k.2.2 L hL _ (List.getElem_mem hi') n hn'
     simp only [Bool.and_eq_true,bne_iff_ne] at hb
     unfold Okn at this;omega
    ·rw [w64_succ (by omega)]
     refine hK hi' fun k hk n' hn2=>?_
     rw [List.take_add_one,List.getElem?_eq_getElem hi'] at hk
     rcases List.mem_append.1 hk with hk | hk
     ·exact hI k hk n' hn2
     ·simp only [Option.toList_some,List.mem_singleton] at hk
      subst hk
      rw [hn2.unique hn']
      rw [← Bool.not_eq_true] at hb
      simp only [Bool.and_eq_true,bne_iff_ne] at hb
      unfold Okn;omega
   ·rw [List.length_map] at hge
    have:i=L.length:=by omega
    subst this
    rw [List.take_length] at hI
    refine hq true (iff_of_true rfl ⟨h,hn,fun L' hL'=>?_⟩)
    rw [hL'.unique hL];exact hI
theorem meets_range {s t:Segment} {n:Int} (h:MeetsR s t n):0≤n∧n≤5:=by cases h<;>decide
theorem minmax {s:Segment}:((decide ((iMin [s.A.X,s.A.Y,s.B.X,s.B.Y])<(-2097152:Int)))||(decide ((2097152:Int)<(iMax [s.A.X,s.A.Y,s.B.X,s.B.Y]))))=true↔¬ NearS s:=by
 rw [Bool.or_eq_true,decide_eq_true_eq,decide_eq_true_eq]
 unfold NearS Near
 simp only [iMin,iMax,List.foldl_cons,List.foldl_nil]
 split<;>split<;>split<;>split<;>split<;>split<;>omega
theorem border_Free_b {m:Map} (hf:MapFit m) {s:Segment} {Q:Bool→Prop} (hq:∀ b,(b=true↔FreeP m s)→Q b):border_Free.F m s Q:=by
 refine W.bind_i (border_of_b hf (fun hno=>?_) (fun h x hx=>?_))
 ·exact W.ite_i (fun _=>hq false (iff_of_false (by simp) fun k=>hno k.1)) (fun k=>by simp at k)
 ·have hfew:=h.few
  refine W.ite_i (fun k=>?_) (fun k=>?_)
  ·rw [Bool.not_true,Bool.false_or,minmax] at k
   exact hq false (iff_of_false (by simp) fun hh=>k hh.2.1)
  ·rw [Bool.not_true,Bool.false_or,← Bool.not_eq_true,minmax,Classical.not_not] at k
   refine W.bind_i (lines_b h hx fun L hL hl=>W.bind_i (segments_b h hx hL hl (W.bind_i (W.bind_i ?_))))
   have main:∀ b:Int,((0≤b)↔¬ ∀ k∈L,∀ n,MeetsR (sg m k) s n→Okn n)→Q (!(decide ((0:Int)≤b))):=fun b hb=>hq _ (by
    rw [Bool.not_eq_true',decide_eq_false_iff_not,hb,Classical.not_not]
    constructor
    ·exact fun hh=>⟨h,k,fun L' hL'=>by rw [hL'.unique hL];exact hh⟩
    ·exact fun hh=>hh.2.2 L hL)
   refine W.up1 L.length (fun i=>∀ k∈L.take i,∀ n,MeetsR (sg m k) s n→Okn n) (by simp) (fun K i hi hI hK=>?_)
   refine W.dec_i (fun hlt=>W.req_i ⟨by omega,hlt⟩ ?_) (fun hge=>?_)
   ·rw [List.length_map] at hlt
    have hi':i<L.length:=by omega
    rw [rd_map hi']
    refine W.bind_i (W.bind_i (meets_b fun n hn'=>?_))
    have hr:=meets_range hn'
    have yes:¬ Okn n→(fun r5=>W.ite r5 (W.ret (i:Int)) (K (w64 ((i:Int)+1))) (fun r=>Q (!(decide ((0:Int)≤r))))) true:=fun hno=>main _ (iff_of_true (by omega) fun hh=>hno (hh _ (List.getElem_mem hi') n hn'))
    have no:Okn n→(fun r5=>W.ite r5 (W.ret (i:Int)) (K (w64 ((i:Int)+1))) (fun r=>Q (!(decide ((0:Int)≤r))))) false:=fun hok=>by
     show K (w64 ((i:Int)+1)) _
     rw [w64_succ (by omega)]
     refine hK hi' fun k hk n' hn2=>?_
     rw [List.take_add_one,List.getElem?_eq_getElem hi'] at hk
     rcases List.mem_append.1 hk with hk | hk
     ·exact hI k hk n' hn2
     ·simp only [Option.toList_some,List.mem_singleton] at hk
      subst hk
      rw [hn2.unique hn'];exact hok
    refine W.ite_i (fun h2=>?_) (fun h2=>W.ite_i (fun h3=>?_) (fun h3=>?_))
    ·rw [h2];rw [beq_iff_eq] at h2;exact yes (by unfold Okn;omega)
    ·rw [h3];rw [beq_iff_eq] at h3;exact yes (by unfold Okn;omega)
    ·rw [beq_eq_false_iff_ne] at h2 h3
     by_cases h5:n=5
     ·rw [h5,beq_self_eq_true];exact yes (by unfold Okn;omega)
     ·rw [show (n==5)=false by rw [beq_eq_false_iff_ne];exact h5];exact no (by unfold Okn;omega)
   ·rw [List.length_map] at hge
    have:i=L.length:=by omega
    subst this
    rw [List.take_length] at hI
    exact main _ (iff_of_false (by decide) fun k=>k hI)
abbrev Ids:=List ByteArray
def lLt:Ids→Ids→Prop
 | [],[]=>False
 | [],_::_=>True
 | _::_,[]=>False
 | x::a,y::b=>sLt x y=true∨x=y∧lLt a b
theorem lLt_irr:∀ a:Ids,¬ lLt a a
 | []=>fun h=>h
 | x::a=>fun h=>by
  rcases h with h | ⟨_,h⟩
  ·rw [sLt_irr] at h;cases h
  ·exact lLt_irr a h
theorem lLt_trans:∀ a b c:Ids,lLt a b→lLt b c→lLt a c
 | [],[],_,h,_=>h.elim
 | [],_::_,[],_,h=>h.elim
 | [],_::_,_::_,_,_=>trivial
 | _::_,[],_,h,_=>h.elim
 | _::_,_::_,[],_,h=>h.elim
 | x::a,y::b,z::c,h,k=>by
  rcases h with h | ⟨e,h⟩<;>rcases k with k | ⟨e2,k⟩
  ·exact .inl (sLt_trans h k)
  ·exact .inl (e2 ▸ h)
  ·exact .inl (e ▸ k)
  ·exact .inr ⟨e.trans e2,lLt_trans a b c h k⟩
theorem lLt_tri:∀ a b:Ids,lLt a b∨a=b∨lLt b a
 | [],[]=>.inr (.inl rfl)
 | [],_::_=>.inl trivial
 | _::_,[]=>.inr (.inr trivial)
 | x::a,y::b=>by
  rcases sLt_tri x y with h | h | h
  ·exact .inl (.inl h)
  ·rcases lLt_tri a b with k | k | k
   ·exact .inl (.inr ⟨h,k⟩)
   ·exact .inr (.inl (by rw [h,k]))
   ·exact .inr (.inr (.inr ⟨h.symm,k⟩))
  ·exact .inr (.inr (.inl h))
theorem lLt_pre:∀ P a b:Ids,lLt (P++a) (P++b)↔lLt a b
 | [],a,b=>Iff.rfl
 | x::P,a,b=>by
  show (sLt x x=true∨x=x∧lLt (P++a) (P++b))↔_
  rw [sLt_irr,lLt_pre P a b];simp
theorem before_b {a b:Ids} (ha:a.length≤1000000) (hb:b.length≤1000000) {Q:Bool→Prop} (hq:∀ r,(r=true↔lLt a b)→Q r):ref13_Before.F a b Q:=by
 refine W.up1 a.length (fun i=>∃ P A B,a=P++A∧b=P++B∧P.length=i) ⟨[],a,b,rfl,rfl,rfl⟩ (fun K i hi hI hK=>?_)
 obtain ⟨P,A,B,rfl,rfl,rfl⟩:=hI
 have ea:(((P++A).length:Nat):Int)=P.length+A.length:=by simp
 have eb:(((P++B).length:Nat):Int)=P.length+B.length:=by simp
 have r0:∀ (x:ByteArray) (l:Ids),rd (⟨#[]⟩:ByteArray) (P++x::l) (P.length:Int)=x:=fun x l=>rd_mid rfl
 refine W.ite_i (fun h=>?_) (fun h=>hq _ ?_)
 ·rw [Bool.and_eq_true,decide_eq_true_eq,decide_eq_true_eq] at h
  match A,B with
  | [],_=>simp at h
  | _::_,[]=>simp at h
  | x::A,y::B=>
   rw [r0,r0]
   refine W.req_i ⟨by omega,h.1⟩ (W.req_i ⟨by omega,h.2⟩ (W.ite_i (fun k=>?_) (fun k=>?_)))
   ·refine W.req_i ⟨by omega,h.1⟩ (W.req_i ⟨by omega,h.2⟩ (hq _ ?_))
    rw [Bool.not_eq_true',sEq_false] at k
    rw [lLt_pre]
    show _↔(sLt x y=true∨x=y∧lLt A B)
    exact ⟨.inl,fun h=>h.elim id fun h=>absurd h.1 k⟩
   ·rw [Bool.not_eq_false',sEq_eq] at k
    subst k
    rw [w64_succ (by simp at ha;omega)]
    exact hK (by simp) ⟨P++[x],A,B,by simp,by simp,by simp⟩
 ·rw [lLt_pre,decide_eq_true_eq]
  rw [← Bool.not_eq_true,Bool.and_eq_true,decide_eq_true_eq,decide_eq_true_eq] at h
  match A,B with
  | [],[]=>simp [lLt]
  | [],y::B=>simp [lLt];omega
  | x::A,[]=>simp [lLt];omega
  | x::A,y::B=>exfalso;apply h;simp;omega
def viol (ids:Ids):Violation:=⟨(⟨#[]⟩:ByteArray),2,ids⟩
structure Gr (W0:List Ids) (X:Ids→Prop) (c:Nat) (W:List Ids):Prop where
 rise:W.Pairwise lLt
 mem:∀ x,x∈W↔x∈W0∨X x
 len:W.length≤W0.length+c
theorem Gr.refl {W:List Ids} (h:W.Pairwise lLt) {X:Ids→Prop} (hX:∀ x,¬ X x) {c:Nat}:Gr W X c W:=⟨h,fun x=>by simp [hX],by omega⟩
theorem Gr.trans {W0 W1 W2:List Ids} {X Y:Ids→Prop} {c d:Nat} (h:Gr W0 X c W1) (k:Gr W1 Y d W2) {Z:Ids→Prop} (hZ:∀ x,Z x↔X x∨Y x) {e:Nat} (he:c+d≤e):Gr W0 Z e W2:=⟨k.rise,fun x=>by rw [k.mem,h.mem,hZ,or_assoc],by have:=h.len;have:=k.len;omega⟩
theorem Gr.mono {W0 W:List Ids} {X:Ids→Prop} {c:Nat} (h:Gr W0 X c W) {Z:Ids→Prop} (hZ:∀ x,Z x↔X x) {e:Nat} (he:c≤e):Gr W0 Z e W:=⟨h.rise,fun x=>by rw [h.mem,hZ],by have:=h.len;omega⟩
open Classical in
noncomputable def pr (a b:ByteArray):Ids:=if a=b then [a] else [sMin a b,sMax a b]
theorem pr_len (a b:ByteArray):(pr a b).length≤2:=by unfold pr;split<;>simp
def ShareP (s t:Key):Prop:=s.1=t.1∨s.1=t.2∨s.2=t.1∨s.2=t.2
def OrdN (n:Int) (s t:Key):Prop:=n=0∨n=1∧ShareP s t
def X1 (m:Map) (s t:Key) (ids:Ids):Prop:=(∃ n,MeetsR (sg m s) (sg m t) n∧¬ OrdN n s t)∧∃ a,a∈owners m s∧∃ b,b∈owners m t∧ids=pr a b
def X2 (m:Map) (s t:Key) (ids:Ids):Prop:=∃ a,(a=s.1∨a=s.2)∧∃ b,(b=t.1∨b=t.2)∧a≠b∧pos m a=pos m b∧ids=pr a b
end Go.Gp.Gb
end
section
set_option linter.unusedVariables false
set_option linter.unusedSimpArgs false
set_option maxRecDepth 10000
set_option linter.unusedSectionVars false
namespace Go.Gp.Gb
open Geo
theorem sMin_lt {a b:ByteArray} (h:sLt a b=true):sMin a b=a∧sMax a b=b∧sMin b a=a∧sMax b a=b:=by
 unfold sMin sMax
 have h2:=sLt_asymm h
 have h3:sEq b a=false:=by rw [sEq_false];exact fun e=>sLt_ne h e.symm
 simp [h,h2,h3]
theorem pr_comm (a b:ByteArray):pr a b=pr b a:=by
 unfold pr
 rcases sLt_tri a b with h | h | h
 ·rw [if_neg (sLt_ne h),if_neg (fun e=>sLt_ne h e.symm)]
  have:=sMin_lt h
  rw [this.1,this.2.1,this.2.2.1,this.2.2.2]
 ·subst h;rfl
 ·rw [if_neg (sLt_ne h),if_neg (fun e=>sLt_ne h e.symm)]
  have:=sMin_lt h
  rw [this.1,this.2.1,this.2.2.1,this.2.2.2]
theorem ShareP.symm {s t:Key} (h:ShareP s t):ShareP t s:=by
 unfold ShareP at *
 rcases h with h | h | h | h
 ·exact .inl h.symm
 ·exact .inr (.inr (.inl h.symm))
 ·exact .inr (.inl h.symm)
 ·exact .inr (.inr (.inr h.symm))
theorem OrdN.symm {n:Int} {s t:Key} (h:OrdN n s t):OrdN n t s:=h.imp id fun h=>⟨h.1,h.2.symm⟩
theorem X1.symm {m:Map} {s t:Key} {ids:Ids} (h:X1 m s t ids):X1 m t s ids:=by
 obtain ⟨⟨n,hn,ho⟩,a,ha,b,hb,e⟩:=h
 exact ⟨⟨n,hn.symm,fun k=>ho k.symm⟩,b,hb,a,ha,e.trans (pr_comm a b)⟩
theorem X2.symm {m:Map} {s t:Key} {ids:Ids} (h:X2 m s t ids):X2 m t s ids:=by
 obtain ⟨a,ha,b,hb,hne,hp,e⟩:=h
 exact ⟨b,hb,a,ha,fun k=>hne k.symm,hp.symm,e.trans (pr_comm a b)⟩
def BadI (m:Map) (ids:Ids):Prop:=∃ s t,owners m s≠[]∧owners m t≠[]∧(s≠t∧X1 m s t ids∨X2 m s t ids)
theorem X1.len {m:Map} {s t:Key} {ids:Ids} (h:X1 m s t ids):ids.length≤2:=by
 obtain ⟨_,a,ha,b,hb,rfl⟩:=h;exact pr_len _ _
theorem X2.len {m:Map} {s t:Key} {ids:Ids} (h:X2 m s t ids):ids.length≤2:=by
 obtain ⟨a,ha,b,hb,hne,hp,rfl⟩:=h;exact pr_len _ _
abbrev kx (L:List Key) (i:Nat):Key:=rd kz L (i:Int)
theorem kx_mem {L:List Key} {i:Nat} (h:i<L.length):kx L i∈L:=by unfold kx;rw [rd_nat h];exact List.getElem_mem h
theorem rd_mapk {β:Type} {z:β} {f:Key→β} {L:List Key} {i:Nat} (hi:i<L.length):rd z (L.map f) (i:Int)=f (kx L i):=by
 rw [rd_map hi];unfold kx;rw [rd_nat hi]
structure St (W:List Ids) (B:Nat):Prop where
 rise:W.Pairwise lLt
 two:∀ x∈W,x.length≤2
 len:W.length≤B
theorem St.grow {W0 W:List Ids} {B c B':Nat} {X:Ids→Prop} (h:St W0 B) (g:Gr W0 X c W) (hX:∀ x,X x→x.length≤2) (hb:B+c≤B'):St W B':=
 ⟨g.rise,fun x hx=>((g.mem x).1 hx).elim (h.two x) (hX x),by have:=g.len;have:=h.len;omega⟩
section
variable {m : Map} {L : List Key} (hL : Ks (owners m) L) (hf : m.Objects.length ≤ 24) (hl : L.length ≤ 48024)
include hL hf hl
omit hf hl in
theorem bad_iff {ids:Ids}:BadI m ids↔∃ i,i<L.length∧((∃ k,k<i∧X1 m (kx L i) (kx L k) ids)∨∃ k,k≤i∧X2 m (kx L i) (kx L k) ids):=by
 have nd:∀ i k:Nat,i<k→k<L.length→kx L i≠kx L k:=fun i k hik hk=>by
  unfold kx
  rw [rd_nat hk,rd_nat (by omega)]
  exact (List.pairwise_iff_getElem.1 hL.rise i k (by omega) hk hik).ne
 constructor
 ·rintro ⟨s,t,hs,ht,h⟩
  obtain ⟨i,hi,rfl⟩:=List.mem_iff_getElem.1 ((hL.mem s).2 hs)
  obtain ⟨k,hk,rfl⟩:=List.mem_iff_getElem.1 ((hL.mem t).2 ht)
  have ei:L[i]=kx L i:=(rd_nat hi).symm
  have ek:L[k]=kx L k:=(rd_nat hk).symm
  rw [ei,ek] at h
  rcases h with ⟨hne,h⟩ | h
  ·rcases Nat.lt_trichotomy i k with c | c | c
   ·exact ⟨k,hk,.inl ⟨i,c,h.symm⟩⟩
   ·subst c;exact absurd rfl hne
   ·exact ⟨i,hi,.inl ⟨k,c,h⟩⟩
  ·rcases Nat.lt_trichotomy i k with c | c | c
   ·exact ⟨k,hk,.inr ⟨i,by omega,h.symm⟩⟩
   ·subst c;exact ⟨i,hi,.inr ⟨i,by omega,h⟩⟩
   ·exact ⟨i,hi,.inr ⟨k,by omega,h⟩⟩
 ·rintro ⟨i,hi,⟨k,hk,h⟩ | ⟨k,hk,h⟩⟩
  ·exact ⟨_,_,(hL.mem _).1 (kx_mem hi),(hL.mem _).1 (kx_mem (by omega)),.inl ⟨(nd k i hk hi).symm,h⟩⟩
  ·exact ⟨_,_,(hL.mem _).1 (kx_mem hi),(hL.mem _).1 (kx_mem (by omega)),.inr h⟩
end
end Go.Gp.Gb
end
section
set_option linter.unusedVariables false
set_option linter.unusedSimpArgs false
set_option maxRecDepth 10000
namespace Go.Gp.Gb
open Geo
theorem cross_box {al be ga de a b c d M N:Int} (h1:al-be=de-ga) (h2:al*d-be*c=de*a-ga*b) (h3:al*be<0) (h4:ga*de<0) (ha:a≤M) (hb:b≤M) (hc:N≤c) (hd:N≤d):N≤M:=by
 apply Classical.byContradiction
 intro hn
 have sg:∀ x y:Int,x*y<0→(0<x∧y<0)∨(x<0∧0<y):=fun x y h=>by
  rcases Int.lt_trichotomy x 0 with hx | hx | hx
  ·rcases Int.lt_trichotomy y 0 with hy | hy | hy
   ·have:=Int.mul_pos_of_neg_of_neg hx hy;omega
   ·rw [hy] at h;simp at h
   ·exact .inr ⟨hx,hy⟩
  ·rw [hx] at h;simp at h
  ·rcases Int.lt_trichotomy y 0 with hy | hy | hy
   ·exact .inl ⟨hx,hy⟩
   ·rw [hy] at h;simp at h
   ·have:=Int.mul_pos hx hy;omega
 have e:al*(d-N)+(-be)*(c-N)+de*(M-a)+(-ga)*(M-b)=(al-be)*(M-N):=by grind
 rcases sg _ _ h3 with ⟨k1,k2⟩ | ⟨k1,k2⟩
 ·have hp:0<de-ga:=by omega
  have k3:0<de∧ga<0:=by rcases sg _ _ h4 with k | k<;>omega
  have n1:=Int.mul_nonneg (show 0≤al by omega) (show 0≤d-N by omega)
  have n2:=Int.mul_nonneg (show 0≤-be by omega) (show 0≤c-N by omega)
  have n3:=Int.mul_nonneg (show 0≤de by omega) (show 0≤M-a by omega)
  have n4:=Int.mul_nonneg (show 0≤-ga by omega) (show 0≤M-b by omega)
  have:=Int.mul_neg_of_pos_of_neg (show 0<al-be by omega) (show M-N<0 by omega)
  omega
 ·have hp:de-ga<0:=by omega
  have k3:de<0∧0<ga:=by rcases sg _ _ h4 with k | k<;>omega
  have n1:=Int.mul_nonpos_of_nonpos_of_nonneg (show al≤0 by omega) (show 0≤d-N by omega)
  have n2:=Int.mul_nonpos_of_nonpos_of_nonneg (show -be≤0 by omega) (show 0≤c-N by omega)
  have n3:=Int.mul_nonpos_of_nonpos_of_nonneg (show de≤0 by omega) (show 0≤M-a by omega)
  have n4:=Int.mul_nonpos_of_nonpos_of_nonneg (show -ga≤0 by omega) (show 0≤M-b by omega)
  have:=Int.mul_pos_of_neg_of_neg (show al-be<0 by omega) (show M-N<0 by omega)
  omega
def bx (a b:Int):sweep_bounds_int:=⟨if b<a then b else a,if a<b then b else a⟩
def mkI (i:Nat) (s:Segment):sweep_item:=⟨(i:Int),s,bx s.A.X s.B.X,bx s.A.Y s.B.Y⟩
theorem bx_in {a b p:Int}:(bx a b).low≤p∧p≤(bx a b).high↔a≤p∧p≤b∨b≤p∧p≤a:=by
 unfold bx;dsimp only;split<;>split<;>omega
theorem box_one {s t:Segment} {n:Int} (h:MeetsR s t n) (hn:n≠0):(bx s.A.X s.B.X).low≤(bx t.A.X t.B.X).high∧(bx s.A.Y s.B.Y).low≤(bx t.A.Y t.B.Y).high:=by
 have com:∀ p,Com s t p→(bx s.A.X s.B.X).low≤(bx t.A.X t.B.X).high∧(bx s.A.Y s.B.Y).low≤(bx t.A.Y t.B.Y).high:=fun p hp=>by
  have h1:=hp.2.1.1
  have h2:=hp.2.2.1
  have a1:=bx_in.2 h1.1
  have a2:=bx_in.2 h2.1
  have b1:=bx_in.2 h1.2
  have b2:=bx_in.2 h2.2
  omega
 cases h with
 | far=>exact absurd rfl hn
 | none=>exact absurd rfl hn
 | same _ h=>
  have hA:On s s.A:=on_A s
  have hB:On t s.A:=by
   rcases h with ⟨h,_⟩ | ⟨h,_⟩
   ·rw [h];exact on_A t
   ·rw [h];exact on_B t
  have a1:=bx_in.2 hA.1.1
  have a2:=bx_in.2 hB.1.1
  have b1:=bx_in.2 hA.1.2
  have b2:=bx_in.2 hB.1.2
  omega
 | over _ _ p _ _ hp _=>exact com p hp
 | end_ _ _ p hp=>exact com p hp
 | touch _ _ p hp=>exact com p hp
 | cross _ _ _ c=>
  have hd:=crs_diff s.A s.B t.A t.B
  have cp:=cross_point s.A s.B t.A t.B
  have lo:∀ x y:Int,(bx x y).low≤x∧(bx x y).low≤y∧x≤(bx x y).high∧y≤(bx x y).high:=fun x y=>by
   unfold bx;dsimp only;split<;>split<;>omega
  have hd':crs t.A t.B s.A-crs t.A t.B s.B=crs s.A s.B t.B-crs s.A s.B t.A:=by omega
  have cp2:=cross_point t.A t.B s.A s.B
  refine ⟨cross_box (al:=crs t.A t.B s.A) (be:=crs t.A t.B s.B) (ga:=crs s.A s.B t.A) (de:=crs s.A s.B t.B) (a:=t.A.X) (b:=t.B.X) (c:=s.A.X) (d:=s.B.X) hd' cp2.1 c.2 c.1 (lo _ _).2.2.1 (lo _ _).2.2.2 (lo _ _).1 (lo _ _).2.1,cross_box (al:=crs t.A t.B s.A) (be:=crs t.A t.B s.B) (ga:=crs s.A s.B t.A) (de:=crs s.A s.B t.B) (a:=t.A.Y) (b:=t.B.Y) (c:=s.A.Y) (d:=s.B.Y) hd' cp2.2 c.2 c.1 (lo _ _).2.2.1 (lo _ _).2.2.2 (lo _ _).1 (lo _ _).2.1⟩
theorem index_b {s:List sweep_item} (hs:s.length≤20000) {c:sweep_item} {Q:Int→Prop} (h0:(∀ u∈s,¬ u.x.high<c.x.low)→Q (-1)) (h1:∀ (i:Nat) (hi:i<s.length),(∀ u∈s.take i,¬ u.x.high<c.x.low)→s[i].x.high<c.x.low→Q (i:Int)):vk.F s c Q:=by
 refine W.up1 s.length (fun i=>∀ u∈s.take i,¬ u.x.high<c.x.low) (by simp) (fun K i hi hI hK=>?_)
 refine W.dec_i (fun hlt=>W.req_i ⟨by omega,hlt⟩ (W.bind_i ?_)) (fun hge=>?_)
 ·have hi':i<s.length:=by omega
  refine W.dec_i (fun h=>h1 i hi' hI (by rw [rd_nat hi'] at h;exact h)) (fun h=>?_)
  rw [rd_nat hi'] at h
  rw [w64_succ (by omega)]
  refine hK hi' fun u hu=>?_
  rw [List.take_add_one,List.getElem?_eq_getElem hi'] at hu
  rcases List.mem_append.1 hu with hu | hu
  ·exact hI u hu
  ·simp only [Option.toList_some,List.mem_singleton] at hu
   subst hu;exact h
 ·have:i=s.length:=by omega
  subst this
  rw [List.take_length] at hI
  exact h0 hI
def keepI (c:sweep_item) (u:sweep_item):Bool:=!(decide (u.x.high<c.x.low))
theorem delete_b {s:List sweep_item} (hs:s.length≤20000) {c:sweep_item} {Q:List sweep_item→Prop} (hq:Q (s.filter (keepI c))):vh.F s c Q:=by
 refine W.bind_i (index_b hs (fun h=>?_) (fun i0 hi0 h hp0=>?_))
 ·rw [List.filter_eq_self.2 (fun u hu=>by unfold keepI;simpa using h u hu)] at hq
  exact hq
 ·refine W.ite_i (fun k=>by rw [beq_iff_eq] at k;omega) (fun _=>?_)
  rw [w64_succ (by omega)]
  refine W.loop3 (fun (x:List sweep_item) (i j:Int)=>∃ (F G R:List sweep_item) (b:Nat),x=F++G++R∧i=(F.length:Int)∧j=(b:Int)∧b=F.length+G.length∧s=s.take b++R∧F=(s.take b).filter (keepI c)∧b≤s.length) (fun x i j=>s.length-j.toNat) ?_ ?_
  ·rintro K x i j ⟨F,G,R,b,rfl,rfl,rfl,hb,hR,hF,hbl⟩ hk
   have hRl:R.length=s.length-b:=by
    have:=congrArg List.length hR
    rw [List.length_append,List.length_take] at this;omega
   have hxl:((F++G++R).length:Int)=(s.length:Int):=by simp;omega
   refine W.dec_i (fun hlt=>?_) (fun hge=>?_)
   ·match R,hRl,hR,hlt,hxl with
    | [],e,_,hlt,hxl=>simp at e;rw [hxl] at hlt;omega
    | t::R,e,hR,hlt,hxl=>
     have hr:rd zsweep_item (F++G++t::R) (b:Int)=t:=rd_mid (by simp;omega)
     have hb1:b<s.length:=by rw [hxl] at hlt;omega
     have htk:s.take (b+1)=s.take b++[t]:=by
      have h1:s[b]?=some t:=by
       rw [hR,List.getElem?_append_right (by simp;omega)]
       simp
       rw [show b-min b s.length=0 by omega]
       simp
      rw [List.take_add_one,h1];rfl
     have hR':s=s.take (b+1)++R:=by rw [htk];simpa using hR
     rw [hr]
     refine W.req_i ⟨by omega,hlt⟩ (W.req_i ⟨by omega,hlt⟩ (W.bind_i ?_))
     rw [w64_succ (i:=b) (by omega)]
     refine W.ite_i (fun hp=>?_) (fun hp=>?_)
     ·refine W.req_i ⟨by omega,by rw [hxl];omega⟩ (W.req_i ⟨by omega,by rw [hxl];omega⟩ ?_)
      rw [w64_succ (i:=F.length) (by omega)]
      have hF':F++[t]=(s.take (b+1)).filter (keepI c):=by
       rw [htk,List.filter_append,hF]
       congr 1
       rw [List.filter_cons_of_pos (by exact hp)];rfl
      match G,hb with
      | [],hb=>
       refine hk _ _ _ ⟨F++[t],[],R,b+1,?_,by simp,rfl,by simp at hb ⊢;omega,hR',hF',by omega⟩ (by omega)
       rw [show ((F.length:Nat):Int).toNat=F.length by omega]
       simp
      | g::G,hb=>
       refine hk _ _ _ ⟨F++[t],G++[t],R,b+1,?_,by simp,rfl,by simp at hb ⊢;omega,hR',hF',by omega⟩ (by omega)
       rw [show ((F.length:Nat):Int).toNat=F.length by omega]
       simp
     ·refine hk _ _ _ ⟨F,G++[t],R,b+1,by simp,rfl,rfl,by simp;omega,hR',?_,by omega⟩ (by omega)
      rw [htk,List.filter_append,hF,List.filter_cons_of_neg (by rw [Bool.not_eq_true];exact hp)]
      simp
   ·have hbs:b=s.length:=by rw [hxl] at hge;omega
    subst hbs
    rw [List.take_length] at hF
    have e1:((F.length:Nat):Int).toNat=F.length:=by omega
    have hRn:R=[]:=List.length_eq_zero_iff.1 (by omega)
    subst hRn
    have et:(F++G++([]:List sweep_item)).take F.length=F:=by simp
    have fin:∀ Z:List sweep_item,(F++Z).take F.length=F:=fun Z=>by simp
    show vh.c1 _ _ Q
    unfold vh.c1
    rw [e1,et]
    refine W.req_i ⟨by omega,by simp;omega⟩ (W.req_i (Nat.le_refl _) (W.req_i ⟨by omega,by simp;omega⟩ (W.req_i (by simp) ?_)))
    show Q _
    rw [fin,hF];exact hq
  ·have hq1:s.take (i0+1)=s.take i0++[s[i0]]:=by rw [List.take_add_one,List.getElem?_eq_getElem hi0];rfl
   have hp:¬ keepI c s[i0]=true:=by unfold keepI;simpa using hp0
   refine ⟨s.take i0,[s[i0]],s.drop (i0+1),i0+1,?_,by simp;omega,rfl,by simp;omega,by simp,?_,by omega⟩
   ·rw [← hq1];simp
   ·rw [hq1,List.filter_append,List.filter_cons_of_neg hp,List.filter_eq_self.2 (fun u hu=>by unfold keepI;simpa using h u hu)];simp
theorem or_b {a b:Int} {Q:Int→Prop} (hq:Q (if a≠0 then a else b)):cmp_Or_int.F ([a,b]:List Int) Q:=by
 refine ⟨3,?_⟩
 change cmp_Or_int.l1 ([a,b]:List Int) cmp_Or_int.c1 (W.iter1 (cmp_Or_int.l1 ([a,b]:List Int) cmp_Or_int.c1) 2) 0 _
 refine W.dec_i (fun _=>W.req_i ⟨by decide,by simp⟩ (W.ite_i (fun h=>?_) (fun h=>?_))) (fun k=>by simp at k)
 ·have h:a≠0:=by simpa [rd] using h
  rw [if_pos h] at hq;exact hq
 ·have h:¬ a≠0:=by simpa [rd] using h
  rw [if_neg h] at hq
  change cmp_Or_int.l1 ([a,b]:List Int) cmp_Or_int.c1 (W.iter1 (cmp_Or_int.l1 ([a,b]:List Int) cmp_Or_int.c1) 1) (w64 (0+1)) _
  refine W.dec_i (fun _=>W.req_i ⟨by simp [w64_id],by simp [w64_id]⟩ (W.ite_i (fun h2=>?_) (fun h2=>?_))) (fun k=>by simp [w64_id] at k)
  ·exact hq
  ·have h2:b=0:=by simpa [rd,w64_id] using h2
   subst h2
   change cmp_Or_int.l1 ([a,0]:List Int) cmp_Or_int.c1 (W.iter1 (cmp_Or_int.l1 ([a,0]:List Int) cmp_Or_int.c1) 0) (w64 (w64 (0+1)+1)) _
   exact W.dec_i (fun k=>by simp [w64_id] at k) (fun _=>hq)
def cfI (a b:sweep_item):Int:=if a.x.low<b.x.low then -1 else if b.x.low<a.x.low then 1 else a.index-b.index
def cfM (a b:Meet):Int:=if a.A-b.A≠0 then a.A-b.A else a.B-b.B
theorem cfI_ok (xs:List sweep_item):SWOn cfI xs:={
 irrefl:=fun x _=>by unfold cfI;split<;>(try split)<;>omega
 trans:=fun x y z _ _ _=>by
  unfold cfI
  split<;>(try split)<;>(try split)<;>(try split)<;>(try split)<;>(try split)<;>omega
 ntrans:=fun x y z _ _ _=>by
  unfold cfI
  split<;>(try split)<;>(try split)<;>(try split)<;>(try split)<;>(try split)<;>omega }
theorem cfM_ok (xs:List Meet):SWOn cfM xs:={
 irrefl:=fun x _=>by unfold cfM;split<;>omega
 trans:=fun x y z _ _ _=>by
  unfold cfM
  split<;>split<;>split<;>omega
 ntrans:=fun x y z _ _ _=>by
  unfold cfM
  split<;>split<;>split<;>omega }
theorem cmpI_b {a b:sweep_item} (ha:0≤a.index∧a.index≤20000) (hb:0≤b.index∧b.index≤20000):sweep_All_1.F a b (fun r=>r=cfI a b):=by
 refine W.bind_i (cmpi_b (W.bind_i (or_b ?_)))
 rw [w64_id (by omega) (by omega)]
 show (if _≠0 then _ else _)=cfI a b
 unfold cfI
 by_cases h1:a.x.low<b.x.low
 ·rw [if_pos h1];simp [h1]
 ·rw [if_neg h1]
  by_cases h2:b.x.low<a.x.low
  ·rw [if_pos h2];simp [h1,h2]
  ·rw [if_neg h2];simp [h1,h2]
theorem cmpM_b {a b:Meet} (ha:0≤a.A∧a.A≤20000∧0≤a.B∧a.B≤20000) (hb:0≤b.A∧b.A≤20000∧0≤b.B∧b.B≤20000):sweep_All_3.F a b (fun r=>r=cfM a b):=by
 refine W.bind_i (or_b ?_)
 rw [w64_id (x:=a.A-b.A) (by omega) (by omega),w64_id (x:=a.B-b.B) (by omega) (by omega)]
 rfl
abbrev sx (l:List Segment) (i:Nat):Segment:=rd zSegment l (i:Int)
abbrev it (l:List Segment) (i:Nat):sweep_item:=mkI i (sx l i)
def Ent (l:List Segment) (e:Meet):Prop:=∃ i j:Nat,i<j∧j<l.length∧e.A=(i:Int)∧e.B=(j:Int)∧MeetsR (sx l i) (sx l j) e.Kind∧e.Kind≠0
def entOf (a b:Int) (k:Int):Meet:=⟨(if b<a then b else a),(if a<b then b else a),k⟩
theorem ent_of {l:List Segment} {i j:Nat} {k:Int} (hij:i≠j) (hi:i<l.length) (hj:j<l.length) (h:MeetsR (sx l i) (sx l j) k) (hk:k≠0):Ent l (entOf (i:Int) (j:Int) k):=by
 unfold entOf
 by_cases c:i<j
 ·exact ⟨i,j,c,hj,by dsimp only;rw [if_neg (by omega)],by dsimp only;rw [if_pos (by omega)],h,hk⟩
 ·exact ⟨j,i,by omega,hi,by dsimp only;rw [if_pos (by omega)],by dsimp only;rw [if_neg (by omega)],h.symm,hk⟩
theorem sweep_l2 {l ys act:_} {t:sweep_item} {p:Nat} (hl:l.length≤20000) (hact:act.length≤20000) (hr:rd zsweep_item ys (p:Int)=t) (hp:p<ys.length) {it0:Nat} (ht:it0<l.length∧t=it l it0) (hu:∀ u∈act,∃ j,j<l.length∧j≠it0∧u=it l j) {M0:List Meet} (hM:M0.length≤500000000) {K:List Meet→W ((List Meet)×Int)} {Q:(List Meet)×Int→Prop} (hq:∀ M,M.length≤M0.length+20000→(∀ e∈M,e∈M0∨Ent l e)→(∀ e∈M0,e∈M)→(∀ j,j<l.length→it l j∈act→∀ k,MeetsR (sx l it0) (sx l j) k→k≠0→entOf (it0:Int) (j:Int) k∈M)→K M Q):(W.ex fun n=>W.iter2 (sweep_All.l2 ys (p:Int) act K) n M0 (0:Int)) Q:=by
 obtain ⟨ht1,rfl⟩:=ht
 refine W.up2 act.length (fun q M=>M.length≤M0.length+q∧(∀ e∈M,e∈M0∨Ent l e)∧(∀ e∈M0,e∈M)∧(∀ j,j<l.length→it l j∈act.take q→∀ k,MeetsR (sx l it0) (sx l j) k→k≠0→entOf (it0:Int) (j:Int) k∈M)) ⟨by omega,fun e he=>.inl he,fun e he=>he,fun j hj hm=>by simp at hm⟩ (fun K2 q M hq' hI hK=>?_)
 obtain ⟨i1,i2,i3,i4⟩:=hI
 refine W.dec_i (fun hlt=>?_) (fun hge=>?_)
 ·have hqa:q<act.length:=by omega
  rw [rd_nat hqa,hr]
  obtain ⟨j0,hj0,hne,eu⟩:=hu _ (List.getElem_mem hqa)
  rw [eu]
  have htk:act.take (q+1)=act.take q++[it l j0]:=by rw [List.take_add_one,List.getElem?_eq_getElem hqa,eu];rfl
  have inj:∀ j,it l j=it l j0→j=j0:=fun j h=>by
   have:=congrArg sweep_item.index h
   have:(j:Int)=(j0:Int):=this
   omega
  have keep:(∀ k,MeetsR (sx l it0) (sx l j0) k→k=0)→K2 M (w64 ((q:Int)+1)) Q:=fun hno=>by
   rw [w64_succ (by omega)]
   refine hK hqa M ⟨by omega,i2,i3,fun j hj hm k hk hk0=>?_⟩
   rw [htk] at hm
   rcases List.mem_append.1 hm with hm | hm
   ·exact i4 j hj hm k hk hk0
   ·rw [List.mem_singleton] at hm
    have:=inj j hm
    subst this
    exact absurd (hno k hk) hk0
  refine W.req_i ⟨by omega,by omega⟩ (W.req_i ⟨by omega,hlt⟩ (W.bind_i ?_))
  refine W.ite_i (fun hb=>keep fun k hk=>?_) (fun hb=>W.bind_i (meets_b fun k hk=>W.ite_i (fun hk0=>?_) (fun hk0=>keep fun k' hk'=>?_)))
  ·apply Classical.byContradiction
   intro hk0
   have b1:=(box_one hk hk0).2
   have b2:=(box_one hk.symm hk0).2
   rw [Bool.not_eq_true',Bool.and_eq_false_iff,decide_eq_false_iff_not,decide_eq_false_iff_not] at hb
   rcases hb with hb | hb
   ·exact hb b1
   ·exact hb b2
  ·rw [bne_iff_ne] at hk0
   refine W.req_i (by simp;omega) ?_
   rw [w64_succ (by omega)]
   have he:Ent l (entOf (it0:Int) (j0:Int) k):=ent_of (fun h=>hne h.symm) ht1 hj0 hk hk0
   refine hK hqa _ ⟨by simp;omega,fun e hm=>?_,fun e hm=>List.mem_append_left _ (i3 e hm),fun j hj hm k' hk' hk0'=>?_⟩
   ·rcases List.mem_append.1 hm with hm | hm
    ·exact i2 e hm
    ·rw [List.mem_singleton] at hm
     right;rw [hm];exact he
   ·rw [htk] at hm
    rcases List.mem_append.1 hm with hm | hm
    ·exact List.mem_append_left _ (i4 j hj hm k' hk' hk0')
    ·rw [List.mem_singleton] at hm
     have:=inj j hm
     subst this
     have ek:=hk'.unique hk
     subst ek
     exact List.mem_append_right _ (List.mem_singleton.2 rfl)
  ·rw [bne_eq_false_iff_eq] at hk0
   exact (hk'.unique hk).trans hk0
 ·have:q=act.length:=by omega
  subst this
  rw [List.take_length] at i4
  exact hq M (by omega) i2 i3 i4
theorem two_in {I:List Nat} {i j:Nat} (hi:i∈I) (hj:j∈I) (hij:i≠j):∃ A c B,I=A++c::B∧(c=i∧j∈A∨c=j∧i∈A):=by
 obtain ⟨A,B,rfl⟩:=List.append_of_mem hj
 rcases List.mem_append.1 hi with h | h
 ·exact ⟨A,j,B,rfl,.inr ⟨rfl,h⟩⟩
 ·rcases List.mem_cons.1 h with h | h
  ·exact absurd h hij
  ·obtain ⟨B1,B2,rfl⟩:=List.append_of_mem h
   exact ⟨A++j::B1,i,B2,by simp,.inl ⟨rfl,by simp⟩⟩
theorem split_eq {α:Type} {A A' B B':List α} {c c':α} (h:A++c::B=A'++c'::B') (hl:A.length=A'.length):A=A'∧c=c'∧B=B':=by
 have:=List.append_inj h hl
 obtain ⟨h1,h2⟩:=this
 injection h2 with h2 h3
 exact ⟨h1,h2,h3⟩
theorem sweep_run {l:List Segment} (hl:l.length≤20000) {I:List Nat} (hI:I.Perm (List.range l.length)) (hs:(I.map (it l)).Pairwise (fun a b=>a.x.low≤b.x.low)) {Q:(List Meet)×Int→Prop} (hq:∀ R:List Meet,(∀ e∈R,Ent l e)→(∀ (i j:Nat) (k:Int),i<j→j<l.length→MeetsR (sx l i) (sx l j) k→k≠0→(⟨(i:Int),(j:Int),k⟩:Meet)∈R)→R.length≤500000000→Q (R,0)):(W.ex fun n=>W.iter3 (sweep_All.l1 (I.map (it l)) sweep_All.c2) n ([]:List Meet) ([]:List sweep_item) (0:Int)) Q:=by
 have hIl:I.length=l.length:=by rw [hI.length_eq];simp
 have hmem:∀ j,j∈I↔j<l.length:=fun j=>by rw [hI.mem_iff];simp
 have hnd:I.Nodup:=hI.nodup_iff.2 List.nodup_range
 refine W.up3 I.length (fun p M act=>act.length≤p∧(∀ u∈act,∃ j,j∈I.take p∧u=it l j)∧(∀ j∈I.take p,it l j∉act→∀ j'∈I.drop p,(it l j).x.high<(it l j').x.low)∧M.length≤20000*p∧(∀ e∈M,Ent l e)∧(∀ A c B,I=A++c::B→A.length<p→∀ j∈A,∀ k,MeetsR (sx l c) (sx l j) k→k≠0→entOf (c:Int) (j:Int) k∈M)) ⟨by simp,by simp,by simp,by simp,by simp,fun A c B _ h=>by omega⟩ (fun K p M act hp hInv hK=>?_)
 obtain ⟨a1,a2,a3,m1,m2,m3⟩:=hInv
 refine W.dec_i (fun hlt=>?_) (fun hge=>?_)
 ·have hpI:p<I.length:=by rw [List.length_map] at hlt;omega
  have eI:I=I.take p++I[p]::I.drop (p+1):=by simp
  have hdr:I.drop p=I[p]::I.drop (p+1):=by simp
  have htk:I.take (p+1)=I.take p++[I[p]]:=by rw [List.take_add_one,List.getElem?_eq_getElem hpI];rfl
  generalize hA:I.take p=A at *
  generalize hB:I.drop (p+1)=B at *
  generalize ht:I[p]=t at *
  have hAl:A.length=p:=by rw [← hA,List.length_take];omega
  have hrd:rd zsweep_item (I.map (it l)) (p:Int)=it l t:=by
   rw [eI,List.map_append,List.map_cons];exact rd_mid (by simp [hAl])
  have htm:t<l.length:=(hmem t).1 (by rw [eI];simp)
  have hnd':=hnd
  rw [eI,List.nodup_append] at hnd'
  have hst:=hs
  rw [eI,List.map_append,List.map_cons,List.pairwise_append,List.pairwise_cons] at hst
  rw [hrd]
  refine W.req_i ⟨by omega,hlt⟩ (W.req_i ⟨by omega,hlt⟩ (W.bind_i (delete_b (by omega) ?_)))
  have hfl:(act.filter (keepI (it l t))).length≤p:=Nat.le_trans (List.length_filter_le _ _) a1
  have hact':∀ u∈act.filter (keepI (it l t)),∃ j,j∈A∧u=it l j:=fun u hu=>a2 u (List.mem_filter.1 hu).1
  have gone:∀ j∈A,it l j∉act.filter (keepI (it l t))→(it l j).x.high<(it l t).x.low:=fun j hj hn=>by
   by_cases hja:it l j∈act
   ·apply Classical.byContradiction
    intro hk
    exact hn (List.mem_filter.2 ⟨hja,by unfold keepI;simpa using hk⟩)
   ·exact a3 j hj hja t (by rw [hdr];simp)
  refine sweep_l2 hl (by omega) hrd (by rw [List.length_map];omega) ⟨htm,rfl⟩ (fun u hu=>?_) (by omega) (fun M' n1 n2 n3 n4=>?_)
  ·obtain ⟨j,hj,e⟩:=hact' u hu
   refine ⟨j,(hmem j).1 (by rw [eI];simp [hj]),?_,e⟩
   exact hnd'.2.2 j hj t (by simp)
  ·show sweep_All.c4 (I.map (it l)) (p:Int) (sweep_All.c3 (p:Int) K) (act.filter (keepI (it l t))) M' Q
   unfold sweep_All.c4
   rw [hrd]
   refine W.req_i (by simp only [List.length_cons,List.length_nil];omega) ?_
   show K M' _ (w64 ((p:Int)+1)) Q
   rw [w64_succ (by omega)]
   refine hK hpI _ _ ⟨by simp;omega,fun u hu=>?_,fun j hj hn j' hj'=>?_,by omega,fun e he=>?_,fun A' c B' hE hlen j hj k hk hk0=>?_⟩
   ·rw [htk]
    rcases List.mem_append.1 hu with hu | hu
    ·obtain ⟨j,hj,e⟩:=hact' u hu
     exact ⟨j,List.mem_append_left _ hj,e⟩
    ·exact ⟨t,by simp,List.mem_singleton.1 hu⟩
   ·rw [htk] at hj
    rcases List.mem_append.1 hj with hj | hj
    ·have:=gone j hj (fun h=>hn (List.mem_append_left _ h))
     have h2:=hst.2.1.1 (it l j') (List.mem_map_of_mem hj')
     omega
    ·rw [List.mem_singleton] at hj
     subst hj
     exact absurd (List.mem_append_right _ (List.mem_singleton.2 rfl)) hn
   ·rcases n2 e he with h | h
    ·exact m2 e h
    ·exact h
   ·by_cases hlp:A'.length<p
    ·exact n3 _ (m3 A' c B' hE hlp j hj k hk hk0)
    ·have:=split_eq (eI.symm.trans hE) (by omega)
     obtain ⟨rfl,rfl,rfl⟩:=this
     by_cases hja:it l j∈act.filter (keepI (it l t))
     ·exact n4 j ((hmem j).1 (by rw [eI];simp [hj])) hja k hk hk0
     ·have:=gone j hj hja
      have b1:=(box_one hk hk0).1
      have:(bx (sx l j).A.X (sx l j).B.X).high<(bx (sx l t).A.X (sx l t).B.X).low:=this
      omega
 ·have hpI:p=I.length:=by rw [List.length_map] at hge;omega
  subst hpI
  refine W.bind_i ⟨by omega,cfM,cfM_ok M,fun u v hu hv=>cmpM_b ?_ ?_,fun ys hys _=>?_⟩
  ·obtain ⟨i,j,h1,h2,h3,h4,_⟩:=m2 u hu
   omega
  ·obtain ⟨i,j,h1,h2,h3,h4,_⟩:=m2 v hv
   omega
  ·refine hq ys (fun e he=>m2 e (hys.mem_iff.1 he)) (fun i j k hij hj hk hk0=>hys.mem_iff.2 ?_) (by have:=hys.length_eq;omega)
   obtain ⟨A,c,B,hE,h⟩:=two_in ((hmem i).2 (by omega)) ((hmem j).2 hj) (by omega)
   have hlen:A.length<I.length:=by rw [hE];simp
   rcases h with ⟨rfl,h⟩ | ⟨rfl,h⟩
   ·have:=m3 A c B hE hlen j h k hk hk0
    unfold entOf at this
    rw [if_neg (by omega),if_pos (by omega)] at this
    exact this
   ·have:=m3 A c B hE hlen i h k hk.symm hk0
    unfold entOf at this
    rw [if_pos (by omega),if_neg (by omega)] at this
    exact this
theorem sweep_All_b {l:List Segment} (hl:l.length≤20000) {Q:(List Meet)×Int→Prop} (hq:∀ R:List Meet,(∀ e∈R,Ent l e)→(∀ (i j:Nat) (k:Int),i<j→j<l.length→MeetsR (sx l i) (sx l j) k→k≠0→(⟨(i:Int),(j:Int),k⟩:Meet)∈R)→R.length≤500000000→Q (R,0)):sweep_All.F l Q:=by
 refine W.dec_i (fun k=>by omega) (fun _=>W.req_i ⟨by omega,by omega,by omega⟩ ?_)
 refine W.up2 l.length (fun i x=>x=(List.range i).map (it l)++List.replicate (l.length-i) zsweep_item) (by simp) (fun K i x hi hI hK=>?_)
 subst hI
 refine W.dec_i (fun hlt=>W.req_i ⟨by omega,hlt⟩ (W.bind_i (W.bind_i (W.req_i ⟨by omega,by simp;omega⟩ ?_)))) (fun hge=>?_)
 ·have hi':i<l.length:=by omega
  rw [w64_succ (by omega)]
  refine hK hi' _ ?_
  rw [show l.length-i=(l.length-(i+1))+1 by omega,List.replicate_succ,show ((i:Nat):Int).toNat=i by omega,set_mid _ _ _ _ (by simp),List.range_succ,List.map_append]
  simp only [List.map_cons,List.map_nil,List.append_assoc,List.cons_append,List.nil_append]
  rfl
 ·have:i=l.length:=by omega
  subst this
  rw [Nat.sub_self,List.replicate_zero,List.append_nil]
  have hbd:∀ u∈(List.range l.length).map (it l),∃ j,j<l.length∧u=it l j:=fun u hu=>by
   obtain ⟨j,hj,rfl⟩:=List.mem_map.1 hu
   exact ⟨j,by simpa using hj,rfl⟩
  refine W.bind_i ⟨by simp;omega,cfI,cfI_ok _,fun u v hu hv=>cmpI_b ?_ ?_,fun ys hys hp=>?_⟩
  ·obtain ⟨j,hj,rfl⟩:=hbd u hu
   show 0≤(j:Int)∧(j:Int)≤20000
   omega
  ·obtain ⟨j,hj,rfl⟩:=hbd v hv
   show 0≤(j:Int)∧(j:Int)≤20000
   omega
  ·have hy:ys=(ys.map fun u=>u.index.toNat).map (it l):=by
    rw [List.map_map]
    refine ((List.map_congr_left (g:=id) fun u hu=>?_).trans (List.map_id _)).symm
    obtain ⟨j,hj,rfl⟩:=hbd u (hys.mem_iff.1 hu)
    show it l ((j:Int)).toNat=it l j
    rw [show ((j:Nat):Int).toNat=j by omega]
   have hI:(ys.map fun u=>u.index.toNat).Perm (List.range l.length):=by
    refine (hys.map _).trans ?_
    rw [List.map_map,List.map_congr_left (g:=id) (fun j _=>?_),List.map_id]
    show ((j:Int)).toNat=j
    omega
   have hso:((ys.map fun u=>u.index.toNat).map (it l)).Pairwise (fun a b=>a.x.low≤b.x.low):=by
    rw [← hy]
    refine hp.imp fun {a b} h=>?_
    unfold cfI at h
    split at h<;>(try split at h)<;>omega
   have:=sweep_run hl hI hso hq
   rw [← hy] at this
   exact this
end Go.Gp.Gb
end
section
set_option linter.unusedVariables false
set_option linter.unusedSimpArgs false
set_option maxRecDepth 10000
namespace Go.Gp
theorem W.loop4 {A C D E R:Type} {B:(A→C→D→E→W R)→A→C→D→E→W R} {Q:R→Prop} (I:A→C→D→E→Prop) (m:A→C→D→E→Nat) (step:∀ K x u s r,I x u s r→(∀ y v t q,I y v t q→m y v t q<m x u s r→K y v t q Q)→B K x u s r Q) {x:A} {u:C} {s:D} {r:E} (h:I x u s r):(W.ex fun n=>W.iter4 B n x u s r) Q:=by
 have key:∀ n x u s r,I x u s r→m x u s r<n→W.iter4 B n x u s r Q:=by
  intro n
  induction n with
  | zero=>intro x u s r _ hm;omega
  | succ n ih=>intro x u s r hx hm;exact step _ x u s r hx fun y v t q hy hlt=>ih y v t q hy (by omega)
 exact ⟨m x u s r+1,key _ x u s r h (by omega)⟩
theorem mset_mem {κ ν:Type} [DecidableEq κ] {k:κ} {v:ν} {e:κ×ν}:∀ {m:List (κ×ν)},e∈mset k v m→e=(k,v)∨e∈m
 | [],h=>by simp [mset] at h;exact .inl h
 | (a,x)::m,h=>by
  simp only [mset] at h
  split at h
  ·rcases List.mem_cons.1 h with h | h
   ·exact .inl h
   ·exact .inr (List.mem_cons_of_mem _ h)
  ·rcases List.mem_cons.1 h with h | h
   ·exact .inr (by rw [h];simp)
   ·exact (mset_mem h).imp id (List.mem_cons_of_mem _)
theorem mset_len {κ ν:Type} [DecidableEq κ] {k:κ} {v:ν} {m:List (κ×ν)}:(mset k v m).length≤m.length+1:=by
 have:=congrArg List.length (keys_mset k v m)
 rw [List.length_map] at this
 rw [this]
 split<;>simp
theorem mset_key {κ ν:Type} [DecidableEq κ] {k k':κ} {v:ν} {m:List (κ×ν)}:k'∈(mset k v m).map (·.1)↔k'=k∨k'∈m.map (·.1):=by
 rw [keys_mset]
 split
 ·rename_i h
  constructor
  ·exact .inr
  ·rintro (rfl | h')
   ·exact h
   ·exact h'
 ·rw [List.mem_append,List.mem_singleton,or_comm]
theorem mset_nodup {κ ν:Type} [DecidableEq κ] {k:κ} {v:ν} {m:List (κ×ν)} (h:(m.map (·.1)).Nodup):((mset k v m).map (·.1)).Nodup:=by
 rw [keys_mset]
 split
 ·exact h
 ·rename_i hh
  rw [List.nodup_append]
  exact ⟨h,by simp,fun a ha b hb e=>by simp at hb;subst hb;subst e;exact hh ha⟩
end Go.Gp
namespace Go.Gp.Gb
open Geo
abbrev IK:=(Int×Int)×Int
structure Pairs (l:List Segment) (x:List IK):Prop where
 each:∀ e∈x,∃ i j:Nat,i<j∧j<l.length∧e.1=((i:Int),(j:Int))∧MeetsR (sx l i) (sx l j) e.2∧e.2≠0
 all:∀ (i j:Nat) (k:Int),i<j→j<l.length→MeetsR (sx l i) (sx l j) k→k≠0→∃ e∈x,e.1=((i:Int),(j:Int))
 len:x.length≤500000000
theorem rd_range {n i:Nat} (h:i<n):rd (0:Int) ((List.range n).map fun (i:Nat)=>(i:Int)) (i:Int)=(i:Int):=by
 rw [rd_nat (by simpa using h)];simp
theorem meets_m_b {l:List Segment} (hl:l.length≤20000) {Q:List IK→Prop} (hq:∀ x,Pairs l x→Q x):vg.F l ((List.range l.length).map fun (i:Nat)=>(i:Int)) ([]:List IK) Q:=by
 refine ⟨1,?_⟩
 refine W.loop4 (B:=vg.l5 l ((List.range l.length).map fun (i:Nat)=>(i:Int)) (vg.c1 (vg.Fn 0) l ((List.range l.length).map fun (i:Nat)=>(i:Int)) [])) (fun x lo hi t=>∃ i:Nat,i≤l.length∧t=(i:Int)∧x=l.take i) (fun x lo hi t=>l.length-t.toNat) (fun K x lo hi t hI hk=>?_) ⟨0,by omega,rfl,by simp⟩
 obtain ⟨i,hi',rfl,rfl⟩:=hI
 refine W.dec_i (fun hlt=>?_) (fun hge=>?_)
 ·have hil:i<l.length:=by simp at hlt;omega
  rw [rd_range hil]
  have next:∀ lo hi,K (l.take i++[sx l i]) lo hi (w64 ((i:Int)+1)) Q:=fun lo hi=>by
   rw [w64_succ (by omega)]
   refine hk _ _ _ _ ⟨i+1,hil,rfl,?_⟩ (by omega)
   rw [List.take_add_one,List.getElem?_eq_getElem hil,sx,rd_nat hil];rfl
  refine W.req_i ⟨by omega,hlt⟩ (W.req_i ⟨by omega,by omega⟩ (W.req_i (by simp;omega) (W.ite_same ?_ ?_)))
  ·show vg.c7 _ _ _ _ _ _ _ Q
   unfold vg.c7
   rw [rd_range hil]
   exact next _ _
  ·show vg.c7 _ _ _ _ _ _ _ Q
   unfold vg.c7
   rw [rd_range hil]
   exact next _ _
 ·have:i=l.length:=by simp at hge;omega
  subst this
  rw [List.take_length]
  refine W.dec_i (fun _=>W.bind_i (sweep_All_b hl fun R hR1 hR2 hR3=>?_)) (fun k=>by omega)
  refine W.up2 R.length (fun p x=>(∀ e∈x,∃ i j:Nat,i<j∧j<l.length∧e.1=((i:Int),(j:Int))∧MeetsR (sx l i) (sx l j) e.2∧e.2≠0)∧(∀ e∈R.take p,(e.A,e.B)∈x.map (·.1))∧x.length≤p) ⟨by simp,by simp,by simp⟩ (fun K2 p x hp hI hK2=>?_)
  obtain ⟨h1,h2,h3⟩:=hI
  refine W.dec_i (fun hlt=>?_) (fun hge2=>?_)
  ·have hpR:p<R.length:=by
    have:(p:Int)<(R.length:Int):=hlt
    omega
   have he:=hR1 _ (List.getElem_mem hpR)
   dsimp only
   rw [rd_nat hpR]
   have htk:R.take (p+1)=R.take p++[R[p]]:=by rw [List.take_add_one,List.getElem?_eq_getElem hpR];rfl
   generalize R[p]=e at *
   have he0:=he
   obtain ⟨i,j,hij,hj,eA,eB,hm,hk0⟩:=he
   rw [eA,eB,rd_range (by omega),rd_range hj]
   refine W.req_i ⟨by omega,hlt⟩ (W.req_i ⟨by omega,hlt⟩ (W.req_i ⟨by omega,by simp;omega⟩ (W.req_i ⟨by omega,by simp;omega⟩ ?_)))
   rw [w64_succ (by omega)]
   refine hK2 hpR _ ⟨fun e' he'=>?_,fun e' he'=>?_,?_⟩
   ·rcases mset_mem he' with rfl | he'
    ·exact ⟨i,j,hij,hj,rfl,hm,hk0⟩
    ·exact h1 e' he'
   ·rw [htk] at he'
    rw [mset_key]
    rcases List.mem_append.1 he' with he' | he'
    ·exact .inr (h2 e' he')
    ·rw [List.mem_singleton] at he'
     left;rw [he',eA,eB]
   ·have:=mset_len (k:=((i:Int),(j:Int))) (v:=e.Kind) (m:=x)
    omega
  ·have:p=R.length:=by
    have:¬ (p:Int)<(R.length:Int):=hge2
    omega
   subst this
   rw [List.take_length] at h2
   refine hq x ⟨h1,fun i j k hij hj hk' hk0=>?_,by omega⟩
   have:=h2 _ (hR2 i j k hij hj hk' hk0)
   obtain ⟨e,he,e1⟩:=List.mem_map.1 this
   exact ⟨e,he,e1⟩
structure Tm (t:List (Key×Bool)) (P:Key→Prop) (c:Nat):Prop where
 mem:∀ k,k∈t.map (·.1)↔P k
 nodup:(t.map (·.1)).Nodup
 len:t.length≤c
theorem Tm.note {t:List (Key×Bool)} {P:Key→Prop} {c:Nat} (h:Tm t P c) {a b:ByteArray} {P':Key→Prop} (hP:∀ k,P' k↔P k∨k=key a b) {c':Nat} (hc:c+1≤c'):Tm (mset (key a b) true t) P' c':=
 ⟨fun k=>by rw [mset_key,h.mem,hP,or_comm],mset_nodup h.nodup,by have:=mset_len (k:=key a b) (v:=true) (m:=t);have:=h.len;omega⟩
theorem Tm.mono {t:List (Key×Bool)} {P:Key→Prop} {c:Nat} (h:Tm t P c) {P':Key→Prop} (hP:∀ k,P' k↔P k) {c':Nat} (hc:c≤c'):Tm t P' c':=⟨fun k=>by rw [h.mem,hP],h.nodup,by have:=h.len;omega⟩
def Ends (L:List Key) (i:Nat):List ByteArray:=(L.take i).flatMap fun s=>[s.1,s.2]
structure AtM (m:Map) (S:List ByteArray) (x:List (Point×List ByteArray)):Prop where
 mem:∀ p id,id∈mget p [] x↔id∈S∧pos m id=p
 len:∀ p,(mget p [] x).length≤S.length
def K2 (m:Map) (S:List ByteArray) (k:Key):Prop:=∃ a∈S,∃ b∈S,a≠b∧pos m a=pos m b∧k=key a b
theorem key_comm (a b:ByteArray):key a b=key b a:=by
 unfold key
 rcases sLt_tri a b with h | h | h
 ·have:=sMin_lt h
  rw [this.1,this.2.1,this.2.2.1,this.2.2.2]
 ·subst h;rfl
 ·have:=sMin_lt h
  rw [this.1,this.2.1,this.2.2.1,this.2.2.2]
theorem check_step {m:Map} (h:MapOk m) {x0:List (ByteArray×Int)} (hx:AtIs m x0) {S:List ByteArray} (hS:S.length≤200000) {id:ByteArray} (hid:Nd m id) {x:List (Point×List ByteArray)} (hA:AtM m S x) {t:List (Key×Bool)} {c:Nat} (hT:Tm t (K2 m S) c) {L:List Key} {i:Nat} (hi:i<L.length) {j:Nat} (hj:j<2) (hidj:aget_50 (kx L i) (j:Int)=id) {A:(List (Point×(List ByteArray)))→(List ((ByteArray×ByteArray)×Bool))→Int→W (List Violation)} {Kk:(List (Point×(List ByteArray)))→(List ((ByteArray×ByteArray)×Bool))→W (List Violation)} {Q:List Violation→Prop} (hq:∀ x' t',AtM m (S++[id]) x'→Tm t' (K2 m (S++[id])) (c+S.length)→A x' t' ((j+1:Nat):Int) Q):border_Check.l7 (⟨m,x0⟩,true) (L.map (ln (owners m))) (i:Int) Kk A x t (j:Int) Q:=by
 have hnodes:(rd zborder_line (L.map (ln (owners m))) (i:Int)).nodes=kx L i:=by rw [rd_mapk hi];rfl
 unfold border_Check.l7
 refine W.dec_i (fun _=>W.req_i ⟨by omega,by omega⟩ ?_) (fun k=>by omega)
 rw [hnodes,hidj]
 have hml:(mget (pos m id) [] x).length≤S.length:=hA.len _
 refine W.bind_i (point_b h hx hid (W.bind_i (contains_b (by omega) fun b hb=>?_)))
 have old:∀ k,id∈S→(K2 m (S++[id]) k↔K2 m S k):=fun k hin=>by
  unfold K2
  have:∀ a,a∈S++[id]↔a∈S:=fun a=>by
   rw [List.mem_append,List.mem_singleton]
   exact ⟨fun h=>h.elim _root_.id fun e=>e ▸ hin,.inl⟩
  simp only [this]
 refine W.ite_i (fun hf=>?_) (fun hf=>?_)
 ·rw [Bool.not_eq_true'] at hf
  have hnew:id∉S:=fun hin=>by rw [hb.2 ((hA.mem _ _).2 ⟨hin,rfl⟩)] at hf;cases hf
  refine W.up2 (mget (pos m id) [] x).length (fun q t'=>Tm t' (fun k=>K2 m S k∨∃ a∈(mget (pos m id) [] x).take q,k=key a id) (c+q)) (hT.mono (by simp) (by omega)) (fun K3 q t' hq' hI hK=>?_)
  refine W.dec_i (fun hlt=>?_) (fun hge=>?_)
  ·have hq2:q<(mget (pos m id) [] x).length:=by omega
   rw [hnodes,hidj,rd_nat hq2]
   refine W.req_i ⟨by omega,hlt⟩ (W.req_i ⟨by omega,hlt⟩ (W.bind_i ?_))
   show K3 (mset (key _ _) true t') _ Q
   rw [w64_succ (by omega)]
   refine hK hq2 _ (hI.note (fun k=>?_) (by omega))
   rw [List.take_add_one,List.getElem?_eq_getElem hq2]
   simp only [Option.toList_some,List.mem_append,List.mem_singleton]
   constructor
   ·rintro (k1 | ⟨a,ha | ha,e⟩)
    ·exact .inl (.inl k1)
    ·exact .inl (.inr ⟨a,ha,e⟩)
    ·exact .inr (ha ▸ e)
   ·rintro ((k1 | ⟨a,ha,e⟩) | e)
    ·exact .inl k1
    ·exact .inr ⟨a,.inl ha,e⟩
    ·exact .inr ⟨_,.inr rfl,e⟩
  ·have hql:q=(mget (pos m id) [] x).length:=by
    have:¬ (q:Int)<((mget (pos m id) [] x).length:Int):=hge
    omega
   subst hql
   rw [List.take_length] at hI
   show border_Check.c9 _ _ _ _ _ _ _ Q
   unfold border_Check.c9
   rw [hnodes,hidj]
   refine W.req_i (by simp only [List.length_cons,List.length_nil];omega) ?_
   show A _ _ (w64 ((j:Int)+1)) Q
   rw [w64_succ (by omega)]
   refine hq _ _ ⟨fun p id'=>?_,fun p=>?_⟩ (hI.mono (fun k=>?_) (by omega))
   ·rw [mget_mset,List.mem_append,List.mem_singleton]
    by_cases e:pos m id=p
    ·rw [if_pos e,List.mem_append,List.mem_singleton,hA.mem]
     subst e
     constructor
     ·rintro (k | rfl)
      ·exact ⟨.inl k.1,k.2⟩
      ·exact ⟨.inr rfl,rfl⟩
     ·rintro ⟨k | k,k2⟩
      ·exact .inl ⟨k,k2⟩
      ·exact .inr k
    ·rw [if_neg e,hA.mem]
     constructor
     ·exact fun k=>⟨.inl k.1,k.2⟩
     ·rintro ⟨k | rfl,k2⟩
      ·exact ⟨k,k2⟩
      ·exact absurd k2 e
   ·rw [mget_mset]
    have:=hA.len p
    split<;>simp<;>omega
   ·unfold K2
    constructor
    ·rintro ⟨a,ha,b,hb',hne,hp,e⟩
     rw [List.mem_append,List.mem_singleton] at ha hb'
     rcases ha with ha | rfl
     ·rcases hb' with hb' | rfl
      ·exact .inl ⟨a,ha,b,hb',hne,hp,e⟩
      ·exact .inr ⟨a,(hA.mem _ _).2 ⟨ha,hp⟩,e⟩
     ·rcases hb' with hb' | rfl
      ·exact .inr ⟨b,(hA.mem _ _).2 ⟨hb',hp.symm⟩,e.trans (key_comm _ _)⟩
      ·exact absurd rfl hne
    ·rintro (⟨a,ha,b,hb',hne,hp,e⟩ | ⟨a,ha,e⟩)
     ·exact ⟨a,List.mem_append_left _ ha,b,List.mem_append_left _ hb',hne,hp,e⟩
     ·have:=(hA.mem _ _).1 ha
      exact ⟨a,List.mem_append_left _ this.1,id,List.mem_append_right _ (by simp),fun e=>hnew (e ▸ this.1),this.2,e⟩
 ·rw [Bool.not_eq_false'] at hf
  have hin:id∈S:=((hA.mem _ _).1 (hb.1 hf)).1
  show A _ _ (w64 ((j:Int)+1)) Q
  rw [w64_succ (by omega)]
  refine hq _ _ ⟨fun p id'=>?_,fun p=>?_⟩ (hT.mono (fun k=>old k hin) (by omega))
  ·rw [hA.mem,List.mem_append,List.mem_singleton]
   constructor
   ·exact fun k=>⟨.inl k.1,k.2⟩
   ·rintro ⟨k | rfl,k2⟩
    ·exact ⟨k,k2⟩
    ·exact ⟨hin,k2⟩
  ·have:=hA.len p
   simp;omega
end Go.Gp.Gb
end
section
set_option linter.unusedVariables false
set_option linter.unusedSimpArgs false
set_option maxRecDepth 10000
namespace Go.Gp.Gb
open Geo
theorem flat_len {m:Map} (hr:∀ i:Nat,i<m.Objects.length→(ob m i).Refs.length≤12):∀ n,n≤m.Objects.length→((List.range n).flatMap fun i=>sides (ob m i)).length≤12*n
 | 0,_=>by simp
 | n+1,h=>by
  rw [List.range_succ,List.flatMap_append,List.length_append]
  have h1:=flat_len hr n (by omega)
  have h2:=sides_len (o:=ob m n)
  have h3:=hr n (by omega)
  simp only [List.flatMap_cons,List.flatMap_nil,List.append_nil]
  omega
theorem few_lines {m:Map} (hfew:FewP m 24) {L:List Key} (hL:Ks (owners m) L):L.length≤288:=by
 have hnd:L.Nodup:=hL.rise.imp fun h=>h.ne
 have:=List.Nodup.length_le_of_subset hnd (l₂:=(List.range m.Objects.length).flatMap fun i=>sides (ob m i)) (fun s hs=>by
  obtain ⟨a,ha⟩:=List.exists_mem_of_ne_nil _ ((hL.mem s).1 hs)
  obtain ⟨i,hi,_,_,h2⟩:=own_mem.1 ha
  exact List.mem_flatMap.2 ⟨i,by simpa using hi,h2⟩)
 have h2:=flat_len hfew.refs m.Objects.length (Nat.le_refl _)
 have h3:=hfew.few
 omega
theorem ends_succ {L:List Key} {i:Nat} (hi:i<L.length):Ends L (i+1)=Ends L i++[(kx L i).1,(kx L i).2]:=by
 unfold Ends
 rw [List.take_add_one,List.getElem?_eq_getElem hi,kx,rd_nat hi,List.flatMap_append]
 simp
theorem ends_len {L:List Key}:∀ i,(Ends L i).length≤2*i
 | 0=>by simp [Ends]
 | i+1=>by
  by_cases h:i<L.length
  ·rw [ends_succ h];have:=ends_len (L:=L) i;simp;omega
  ·have e:Ends L (i+1)=Ends L i:=by unfold Ends;rw [List.take_of_length_le (by omega),List.take_of_length_le (by omega)]
   rw [e];have:=ends_len (L:=L) i;omega
def E1 (m:Map) (L:List Key) (e:IK) (k:Key):Prop:=¬ (e.2=1∧ShareP (kx L e.1.1.toNat) (kx L e.1.2.toNat))∧∃ a∈owners m (kx L e.1.1.toNat),∃ b∈owners m (kx L e.1.2.toNat),k=key a b
theorem check_pairs {m:Map} (hf:m.Objects.length≤24) {s t:Key} {l10:List IK} {T:List (Key×Bool)} {P:Key→Prop} {c:Nat} (hT:Tm T P c) {A2:(List ((Int×Int)×Int))→(List ((ByteArray×ByteArray)×Bool))→W (List Violation)} {Q:List Violation→Prop} (hq:∀ T',Tm T' (fun k=>P k∨∃ a∈owners m s,∃ b∈owners m t,k=key a b) (c+576)→A2 l10 T' Q):(W.ex fun n=>W.iter2 (border_Check.l3 A2 l10 (ln (owners m) s) (ln (owners m) t)) n T (0:Int)) Q:=by
 have h1:(owners m s).length≤24:=Nat.le_trans own_len hf
 have h2:(owners m t).length≤24:=Nat.le_trans own_len hf
 refine W.up2 (owners m s).length (fun x T'=>Tm T' (fun k=>P k∨∃ a∈(owners m s).take x,∃ b∈owners m t,k=key a b) (c+24*x)) (hT.mono (by simp) (by omega)) (fun K x T' hx hI hK=>?_)
 refine W.dec_i (fun hlt=>W.req_i ⟨by omega,hlt⟩ ?_) (fun hge=>?_)
 ·have hx2:x<(owners m s).length:=by
   have:(x:Int)<((owners m s).length:Int):=hlt
   omega
  have ex:rd (⟨#[]⟩:ByteArray) (ln (owners m) s).owners (x:Int)=(owners m s)[x]:=rd_nat hx2
  refine W.up2 (owners m t).length (fun y T'=>Tm T' (fun k=>(P k∨∃ a∈(owners m s).take x,∃ b∈owners m t,k=key a b)∨∃ b∈(owners m t).take y,k=key (owners m s)[x] b) (c+24*x+y)) (hI.mono (by simp) (by omega)) (fun K2 y T2 hy hI2 hK2=>?_)
  refine W.dec_i (fun hlt2=>W.req_i ⟨by omega,hlt2⟩ (W.bind_i ?_)) (fun hge2=>?_)
  ·have hy2:y<(owners m t).length:=by
    have:(y:Int)<((owners m t).length:Int):=hlt2
    omega
   have ey:rd (⟨#[]⟩:ByteArray) (ln (owners m) t).owners (y:Int)=(owners m t)[y]:=rd_nat hy2
   rw [ex,ey]
   show K2 (mset (key _ _) true T2) _ Q
   rw [w64_succ (by omega)]
   refine hK2 hy2 _ (hI2.note (fun k=>?_) (by omega))
   rw [List.take_add_one,List.getElem?_eq_getElem hy2]
   simp only [Option.toList_some,List.mem_append,List.mem_singleton]
   constructor
   ·rintro (k1 | ⟨b,hb | hb,e⟩)
    ·exact .inl (.inl k1)
    ·exact .inl (.inr ⟨b,hb,e⟩)
    ·exact .inr (hb ▸ e)
   ·rintro ((k1 | ⟨b,hb,e⟩) | e)
    ·exact .inl k1
    ·exact .inr ⟨b,.inl hb,e⟩
    ·exact .inr ⟨_,.inr rfl,e⟩
  ·have hyl:y=(owners m t).length:=by
    have:¬ (y:Int)<((owners m t).length:Int):=hge2
    omega
   subst hyl
   rw [List.take_length] at hI2
   show K _ (w64 ((x:Int)+1)) Q
   rw [w64_succ (by omega)]
   refine hK hx2 _ (hI2.mono (fun k=>?_) (by omega))
   rw [List.take_add_one,List.getElem?_eq_getElem hx2]
   simp only [Option.toList_some,List.mem_append,List.mem_singleton]
   constructor
   ·rintro (k1 | ⟨a,ha | ha,h⟩)
    ·exact .inl (.inl k1)
    ·exact .inl (.inr ⟨a,ha,h⟩)
    ·exact .inr (ha ▸ h)
   ·rintro ((k1 | ⟨a,ha,h⟩) | h)
    ·exact .inl k1
    ·exact .inr ⟨a,.inl ha,h⟩
    ·exact .inr ⟨_,.inr rfl,h⟩
 ·have hxl:x=(owners m s).length:=by
   have:¬ (x:Int)<((owners m s).length:Int):=hge
   omega
  subst hxl
  rw [List.take_length] at hI
  exact hq T' (hI.mono (fun k=>Iff.rfl) (by omega))
theorem two_mem {a b c:ByteArray}:a∈([b,c]:List ByteArray)↔a=b∨a=c:=by simp
open Classical in
noncomputable def idk (k:Key):Ids:=if k.1=k.2 then [k.1] else [k.1,k.2]
theorem idk_inj {k k':Key} (h:idk k=idk k'):k=k':=by
 unfold idk at h
 by_cases c:k.1=k.2<;>by_cases c':k'.1=k'.2
 ·rw [if_pos c,if_pos c'] at h
  injection h with h
  exact Prod.ext h (c ▸ c' ▸ h)
 ·rw [if_pos c,if_neg c'] at h;simp at h
 ·rw [if_neg c,if_pos c'] at h;simp at h
 ·rw [if_neg c,if_neg c'] at h
  injection h with h h2
  injection h2 with h2
  exact Prod.ext h h2
theorem idk_key (a b:ByteArray):idk (key a b)=pr a b:=by
 unfold idk key pr
 rcases sLt_tri a b with h | h | h
 ·have:=sMin_lt h
  rw [this.1,this.2.1,if_neg (sLt_ne h)]
 ·subst h
  have h1:sMin a a=a:=(sMin_or a a).elim id id
  have h2:sMax a a=a:=(sMax_or a a).elim id id
  rw [h1,h2,if_pos rfl]
 ·have:=sMin_lt h
  rw [this.2.2.1,this.2.2.2,if_neg (sLt_ne h),if_neg (fun e=>sLt_ne h e.symm)]
theorem compact_b {k:Key} {Q:Ids→Prop} (hq:Q (idk k)):vf.F ([k.1,k.2]:List ByteArray) Q:=by
 unfold idk at hq
 refine W.dec_i (fun h=>by simp at h) (fun _=>⟨2,?_⟩)
 change vf.l1 ([k.1,k.2]:List ByteArray) _ (W.iter1 (vf.l1 ([k.1,k.2]:List ByteArray) (vf.c1 ([k.1,k.2]:List ByteArray))) 1) 1 _
 have e0:w64 ((1:Int)-1)=0:=by decide
 have r1:rd (⟨#[]⟩:ByteArray) ([k.1,k.2]:List ByteArray) 1=k.2:=rfl
 have r0:rd (⟨#[]⟩:ByteArray) ([k.1,k.2]:List ByteArray) 0=k.1:=rfl
 refine W.dec_i (fun _=>W.req_i ⟨by decide,by simp⟩ (W.req_i ⟨by decide,by rw [e0];simp⟩ (W.ite_i (fun h=>?_) (fun h=>?_)))) (fun k=>by simp at k)
 ·rw [e0,r1,r0,sEq_eq] at h
  rw [if_pos h.symm] at hq
  refine W.req_i ⟨by decide,by simp⟩ ⟨1,?_⟩
  change vf.l2 ([k.1,k.2]:List ByteArray) 1 _ _ ([k.1,k.2]:List ByteArray) 1 1 _
  refine W.dec_i (fun k=>by simp at k) (fun _=>?_)
  refine W.req_i ⟨by decide,by simp⟩ (W.req_i (Nat.le_refl _) (W.req_i ⟨by decide,by simp⟩ (W.req_i (by simp) ?_)))
  exact hq
 ·rw [e0,r1,r0,sEq_false] at h
  rw [if_neg (fun e=>h e.symm)] at hq
  change vf.l1 ([k.1,k.2]:List ByteArray) _ (W.iter1 (vf.l1 ([k.1,k.2]:List ByteArray) (vf.c1 ([k.1,k.2]:List ByteArray))) 0) (w64 (1+1)) _
  refine W.dec_i (fun k=>by simp [w64_id] at k) (fun _=>hq)
open Classical in
noncomputable def cfV (a b:Violation):Int:=if lLt a.Ids b.Ids then -1 else if lLt b.Ids a.Ids then 1 else 0
theorem cfV_neg {a b:Violation}:cfV a b<0↔lLt a.Ids b.Ids:=by
 unfold cfV
 split
 ·rename_i h;exact ⟨fun _=>h,fun _=>by decide⟩
 ·rename_i h;split<;>exact ⟨fun k=>by omega,fun k=>absurd k h⟩
theorem cfV_ok (xs:List Violation):SWOn cfV xs:={
 irrefl:=fun x _=>by rw [cfV_neg];exact lLt_irr _
 trans:=fun x y z _ _ _=>by rw [cfV_neg,cfV_neg,cfV_neg];exact lLt_trans _ _ _
 ntrans:=fun x y z _ _ _=>by
  rw [cfV_neg,cfV_neg,cfV_neg]
  intro h1 h2 h3
  rcases lLt_tri x.Ids y.Ids with k | k | k
  ·exact h1 k
  ·rw [k] at h3;exact h2 h3
  ·exact h2 (lLt_trans _ _ _ k h3) }
theorem cmpV_b {a b:Violation} (ha:a.Ids.length≤1000) (hb:b.Ids.length≤1000) {Q:Int→Prop} (hq:Q (cfV a b)):border_Check_2.F a b Q:=by
 refine W.bind_i ?_
 have q1:lLt a.Ids b.Ids→Q (-1):=fun h=>by unfold cfV at hq;rwa [if_pos h] at hq
 have q2:lLt b.Ids a.Ids→Q 1:=fun h=>by unfold cfV at hq;rwa [if_neg (fun k=>lLt_irr _ (lLt_trans _ _ _ h k)),if_pos h] at hq
 have q0:a.Ids=b.Ids→Q 0:=fun h=>by unfold cfV at hq;rwa [h,if_neg (lLt_irr _),if_neg (lLt_irr _)] at hq
 clear hq
 generalize a.Ids=u at *
 generalize b.Ids=v at *
 refine W.up1 u.length (fun i=>∃ P A B,u=P++A∧v=P++B∧P.length=i) ⟨[],u,v,rfl,rfl,rfl⟩ (fun K i hi hI hK=>?_)
 obtain ⟨P,A,B,rfl,rfl,rfl⟩:=hI
 rw [lLt_pre] at q1 q2
 have ea:(((P++A).length:Nat):Int)=P.length+A.length:=by simp
 have eb:(((P++B).length:Nat):Int)=P.length+B.length:=by simp
 have r0:∀ (x:ByteArray) (l:Ids),rd (⟨#[]⟩:ByteArray) (P++x::l) (P.length:Int)=x:=fun x l=>rd_mid rfl
 refine W.dec_i (fun h=>?_) (fun h=>?_)
 ·refine W.req_i ⟨by omega,h⟩ (W.dec_i (fun h2=>?_) (fun h2=>?_))
  ·match A,B,h,q2 with
   | [],_,h,_=>simp at h
   | x::A,[],h,q2=>exact q2 trivial
   | x::A,y::B,h,_=>simp at h2;omega
  ·match A,B,h,h2,q1,q2,ha,hb,hi,hK with
   | [],_,h,_,_,_,_,_,_,_=>simp at h
   | _::_,[],_,h2,_,_,_,_,_,_=>simp at h2
   | x::A,y::B,h,h2,q1,q2,ha,hb,hi,hK=>
    refine W.req_i ⟨by omega,by omega⟩ (W.bind_i (cmps_b ?_))
    rw [r0,r0]
    unfold cmpS
    rcases sLt_tri x y with c | c | c
    ·rw [if_pos c]
     exact q1 (.inl c)
    ·subst c
     rw [sLt_irr]
     refine W.ite_i (fun k=>by simp at k) (fun _=>?_)
     rw [w64_succ (by simp at ha;omega)]
     exact hK (by simp) ⟨P++[x],A,B,by simp,by simp,by simp⟩
    ·rw [sLt_asymm c,if_neg (by simp),if_pos c]
     exact q2 (.inl c)
 ·match A,B,h,q0,q1 with
  | x::A,_,h,_,_=>simp at h;omega
  | [],[],_,q0,_=>exact W.dec_i (fun k=>by simp at k) (fun _=>q0 rfl)
  | [],y::B,_,_,q1=>exact W.dec_i (fun _=>q1 trivial) (fun k=>by simp at k;omega)
theorem check_out {T:List (Key×Bool)} {P:Key→Prop} (hT:Tm T P 1400000000000) {Q:List Violation→Prop} (hq:∀ W:List Ids,W.Pairwise lLt→(∀ ids,ids∈W↔∃ k,P k∧ids=idk k)→W.length≤1400000000000→Q (W.map viol)):border_Check.c3 T Q:=by
 have hTl:=hT.len
 refine W.loop2 (fun (a:List Violation) (r:List (Key×Bool))=>(a++r.map fun e=>viol (idk e.1)).Perm (T.map fun e=>viol (idk e.1))) (fun a r=>r.length) (fun K a r hP hK=>?_) (by simp)
 have hal:a.length+r.length=T.length:=by
  have:=hP.length_eq
  simpa using this
 refine ⟨fun hr=>?_,fun A e B hr=>?_⟩
 ·subst hr
  rw [List.map_nil,List.append_nil] at hP
  have hmem:∀ v,v∈a↔∃ k,P k∧v=viol (idk k):=fun v=>by
   rw [hP.mem_iff,List.mem_map]
   constructor
   ·rintro ⟨e,he,rfl⟩;exact ⟨e.1,(hT.mem _).1 (List.mem_map_of_mem he),rfl⟩
   ·rintro ⟨k,hk,rfl⟩
    obtain ⟨e,he,rfl⟩:=List.mem_map.1 ((hT.mem k).2 hk)
    exact ⟨e,he,rfl⟩
  have two:∀ k,(idk k).length≤2:=fun k=>by unfold idk;split<;>simp
  have hnd:(a.map (·.Ids)).Nodup:=by
   have h1:(a.map (·.Ids)).Perm ((T.map fun e=>viol (idk e.1)).map (·.Ids)):=hP.map _
   rw [h1.nodup_iff,List.map_map]
   have h2:=hT.nodup
   unfold List.Nodup at h2 ⊢
   rw [List.pairwise_map] at h2 ⊢
   exact h2.imp fun {x y} h e=>h (idk_inj e)
  refine W.bind_i ⟨by omega,cfV,cfV_ok a,fun u v hu hv=>?_,fun ys hys hp=>?_⟩
  ·obtain ⟨k,_,rfl⟩:=(hmem u).1 hu
   obtain ⟨k',_,rfl⟩:=(hmem v).1 hv
   have h1:=two k
   have h2:=two k'
   exact cmpV_b (by show (idk k).length≤1000;omega) (by show (idk k').length≤1000;omega) rfl
  ·have hyn:(ys.map (·.Ids)).Nodup:=((hys.map _).nodup_iff).2 hnd
   have hrise:(ys.map (·.Ids)).Pairwise lLt:=by
    rw [List.pairwise_map]
    have h1:ys.Pairwise (fun x y=>x.Ids≠y.Ids):=by
     have:=hyn
     unfold List.Nodup at this
     rwa [List.pairwise_map] at this
    refine (hp.and h1).imp fun {u v} hh=>?_
    rw [cfV_neg] at hh
    rcases lLt_tri u.Ids v.Ids with k | k | k
    ·exact k
    ·exact absurd k hh.2
    ·exact absurd k hh.1
   have:=hq (ys.map (·.Ids)) hrise (fun ids=>?_) (by rw [List.length_map,hys.length_eq];simp at hal;omega)
   ·have e:(ys.map (·.Ids)).map viol=ys:=by
     rw [List.map_map]
     refine (List.map_congr_left (g:=id) fun b hb=>?_).trans (List.map_id _)
     obtain ⟨k,_,rfl⟩:=(hmem b).1 (hys.mem_iff.1 hb)
     rfl
    rw [e] at this
    exact this
   ·rw [List.mem_map]
    constructor
    ·rintro ⟨b,hb,rfl⟩
     obtain ⟨k,hk,rfl⟩:=(hmem b).1 (hys.mem_iff.1 hb)
     exact ⟨k,hk,rfl⟩
    ·rintro ⟨k,hk,rfl⟩
     exact ⟨viol (idk k),hys.mem_iff.2 ((hmem _).2 ⟨k,hk,rfl⟩),rfl⟩
 ·subst hr
  refine W.req_i rfl (W.bind_i (compact_b (W.req_i ?_ ?_)))
  ·simp at hal ⊢;omega
  ·refine hK _ _ ?_ (by simp)
   refine List.Perm.trans ?_ hP
   rw [List.append_assoc]
   refine List.Perm.append_left a ?_
   rw [List.map_append,List.map_append,List.map_cons]
   show (viol (idk e.1)::((A.map fun e=>viol (idk e.1))++(B.map fun e=>viol (idk e.1)))).Perm _
   exact List.perm_middle.symm
def Pk (m:Map) (L:List Key) (x:List IK) (k:Key):Prop:=K2 m (Ends L L.length) k∨∃ e∈x,E1 m L e k
theorem mem_ends {L:List Key} {a:ByteArray}:a∈Ends L L.length↔∃ s∈L,a=s.1∨a=s.2:=by
 unfold Ends
 rw [List.take_length,List.mem_flatMap]
 simp
theorem sx_map {m:Map} {L:List Key} {i:Nat} (hi:i<L.length):sx (L.map (sg m)) i=sg m (kx L i):=rd_mapk hi
theorem pk_iff {m:Map} {L:List Key} (hL:Ks (owners m) L) {x:List IK} (hx:Pairs (L.map (sg m)) x) {ids:Ids}:(∃ k,Pk m L x k∧ids=idk k)↔BadI m ids:=by
 rw [bad_iff hL]
 constructor
 ·rintro ⟨k,⟨a,ha,b,hb,hne,hp,rfl⟩ | ⟨e,he,hE⟩,rfl⟩
  ·rw [idk_key]
   obtain ⟨s,hs,ha⟩:=mem_ends.1 ha
   obtain ⟨t,ht,hb⟩:=mem_ends.1 hb
   rw [← bad_iff hL]
   exact ⟨s,t,(hL.mem s).1 hs,(hL.mem t).1 ht,.inr ⟨a,ha,b,hb,hne,hp,rfl⟩⟩
  ·obtain ⟨i,j,hij,hj,e1,hm,hk0⟩:=hx.each e he
   rw [List.length_map] at hj
   rw [sx_map (by omega),sx_map hj] at hm
   unfold E1 at hE
   rw [e1] at hE
   simp only [Int.toNat_natCast] at hE
   obtain ⟨hn,a,ha,b,hb,rfl⟩:=hE
   rw [idk_key]
   refine ⟨j,hj,.inl ⟨i,hij,⟨_,hm.symm,fun k=>?_⟩,b,hb,a,ha,pr_comm a b⟩⟩
   rcases k with k | k
   ·exact hk0 k
   ·exact hn ⟨k.1,k.2.symm⟩
 ·rintro ⟨i,hi,⟨k,hk,h⟩ | ⟨k,hk,h⟩⟩
  ·obtain ⟨⟨n,hn,ho⟩,a,ha,b,hb,rfl⟩:=h
   have hn0:n≠0:=fun k=>ho (.inl k)
   have hn':MeetsR (sx (L.map (sg m)) k) (sx (L.map (sg m)) i) n:=by rw [sx_map (by omega),sx_map hi];exact hn.symm
   obtain ⟨e,he,e1⟩:=hx.all k i n hk (by rw [List.length_map];exact hi) hn' hn0
   refine ⟨key b a,.inr ⟨e,he,?_⟩,by rw [idk_key,pr_comm]⟩
   unfold E1
   rw [e1]
   simp only [Int.toNat_natCast]
   refine ⟨fun hs=>ho (.inr ⟨?_,hs.2.symm⟩),b,hb,a,ha,rfl⟩
   obtain ⟨i',j',hij,hj,e1',hm,hk0⟩:=hx.each e he
   rw [e1] at e1'
   injection e1' with u v
   have:i'=k:=by omega
   have:j'=i:=by omega
   subst i' j'
   exact (hn'.unique hm).trans hs.1
  ·obtain ⟨a,ha,b,hb,hne,hp,rfl⟩:=h
   exact ⟨key a b,.inl ⟨a,mem_ends.2 ⟨_,kx_mem hi,ha⟩,b,mem_ends.2 ⟨_,kx_mem (by omega),hb⟩,hne,hp,rfl⟩,(idk_key a b).symm⟩
theorem border_Check_b {m:Map} (hf:MapFit m) (hfew:FewP m 24) {Q:List Violation→Prop} (hn:¬ MapOk m→Q []) (hq:MapOk m→∀ W:List Ids,W.Pairwise lLt→(∀ ids,ids∈W↔BadI m ids)→W.length≤1400000000000→Q (W.map viol)):border_Check.F m Q:=by
 refine W.bind_i (border_of_b hf (fun hno=>W.ite_i (fun _=>hn hno) (fun k=>by simp at k)) (fun h x0 hx0=>W.ite_i (fun k=>by simp at k) (fun _=>?_)))
 have hlen:m.Objects.length≤24:=by have:=hfew.few;omega
 refine W.bind_i (lines_b h hx0 fun L hL hll=>?_)
 have hl:=few_lines hfew hL
 have hnds:∀ i,i<L.length→Nd m (kx L i).1∧Nd m (kx L i).2:=fun i hi=>ks_nodes hL (kx_mem hi)
 refine W.up3 L.length (fun i x t=>AtM m (Ends L i) x∧Tm t (K2 m (Ends L i)) (4000*i)) ⟨⟨fun p id=>by simp [mget,Ends],fun p=>by simp [mget]⟩,⟨fun k=>by simp [K2,Ends],by simp,by simp⟩⟩ (fun K i x t hi hI hK=>?_)
 obtain ⟨hA,hT⟩:=hI
 refine W.dec_i (fun hlt=>W.req_i ⟨by omega,hlt⟩ (W.req_i ⟨by omega,hlt⟩ ?_)) (fun hge=>?_)
 ·rw [List.length_map] at hlt
  have hi':i<L.length:=by omega
  have hel:=ends_len (L:=L) i
  refine W.up3 2 (fun j x t=>AtM m (Ends L i++[(kx L i).1,(kx L i).2].take j) x∧Tm t (K2 m (Ends L i++[(kx L i).1,(kx L i).2].take j)) (4000*i+1000*j)) ⟨by simpa using hA,by simpa using hT⟩ (fun K2' j x t hj hI hK2=>?_)
  obtain ⟨hA,hT⟩:=hI
  by_cases hj2:j<2
  ·have hnd:Nd m (([(kx L i).1,(kx L i).2]:List ByteArray).getD j ⟨#[]⟩)∧aget_50 (kx L i) (j:Int)=([(kx L i).1,(kx L i).2]:List ByteArray).getD j ⟨#[]⟩∧([(kx L i).1,(kx L i).2]:List ByteArray).take (j+1)=([(kx L i).1,(kx L i).2]:List ByteArray).take j++[([(kx L i).1,(kx L i).2]:List ByteArray).getD j ⟨#[]⟩]:=by
    rcases (show j=0∨j=1 by omega) with rfl | rfl
    ·exact ⟨(hnds i hi').1,rfl,rfl⟩
    ·exact ⟨(hnds i hi').2,rfl,rfl⟩
   have hSl:(Ends L i++[(kx L i).1,(kx L i).2].take j).length≤1000:=by
    rw [List.length_append,List.length_take];simp;omega
   refine check_step h hx0 (by omega) hnd.1 hA hT hi' hj2 hnd.2.1 fun x' t' hA' hT'=>?_
   refine hK2 hj2 _ _ ⟨?_,?_⟩
   ·rw [hnd.2.2,← List.append_assoc];exact hA'
   ·rw [hnd.2.2,← List.append_assoc];exact hT'.mono (fun k=>Iff.rfl) (by omega)
  ·have:j=2:=by omega
   subst this
   refine W.dec_i (fun k=>by omega) (fun _=>?_)
   show K x t (w64 ((i:Int)+1)) Q
   rw [w64_succ (by omega)]
   refine hK hi' _ _ ⟨?_,?_⟩
   ·rw [ends_succ hi'];exact hA
   ·rw [ends_succ hi'];exact hT.mono (fun k=>Iff.rfl) (by omega)
 ·rw [List.length_map] at hge
  have:i=L.length:=by omega
  subst this
  refine W.up2 L.length (fun i x=>x=(List.range i).map fun (i:Nat)=>(i:Int)) rfl (fun K2' i x hi hI hK2=>?_)
  subst hI
  refine W.dec_i (fun hlt=>?_) (fun hge2=>?_)
  ·rw [List.length_map] at hlt
   refine W.req_i (by simp;omega) ?_
   rw [w64_succ (by omega)]
   refine hK2 (by omega) _ ?_
   rw [List.range_succ,List.map_append];rfl
  ·rw [List.length_map] at hge2
   have:i=L.length:=by omega
   subst this
   refine W.bind_i (segments_b h hx0 hL hll (W.bind_i ?_))
   have hml:(L.map (sg m)).length=L.length:=by simp
   rw [show (List.range L.length).map (fun (i:Nat)=>(i:Int))=(List.range (L.map (sg m)).length).map (fun (i:Nat)=>(i:Int)) by rw [hml]]
   refine meets_m_b (by rw [hml];omega) fun R hR=>?_
   have hRl:=hR.len
   refine W.loop2 (fun (r:List IK) (t:List (Key×Bool))=>∃ D,(D++r).Perm R∧Tm t (fun k=>K2 m (Ends L L.length) k∨∃ e∈D,E1 m L e k) (4000*L.length+576*D.length)) (fun r t=>r.length) (fun K3 r t hP hK3=>?_) ⟨[],by simp,hT.mono (by simp) (by simp)⟩
   obtain ⟨D,hP,hT3⟩:=hP
   have hDl:D.length+r.length=R.length:=by
    have:=hP.length_eq
    simpa using this
   refine ⟨fun hr=>?_,fun A e B hr=>?_⟩
   ·subst hr
    rw [List.append_nil] at hP
    show border_Check.c3 t Q
    refine check_out (P:=Pk m L R) (hT3.mono (fun k=>?_) (by omega)) fun W h1 h2 h3=>hq h W h1 (fun ids=>by rw [h2,pk_iff hL hR]) h3
    unfold Pk
    simp only [hP.mem_iff]
   ·subst hr
    have heR:e∈R:=hP.mem_iff.1 (by simp)
    obtain ⟨i,j,hij,hj,e1,hm,hk0⟩:=hR.each e heR
    rw [hml] at hj
    have hperm:((D++[e])++(A++B)).Perm R:=by
     refine List.Perm.trans ?_ hP
     rw [List.append_assoc]
     refine List.Perm.append_left D ?_
     show (e::(A++B)).Perm _
     exact List.perm_middle.symm
    have hlim:∀ a:Nat,a<L.length→0≤(a:Int)∧(a:Int)<((L.map (ln (owners m))).length:Int):=fun a ha=>⟨by omega,by rw [List.length_map];omega⟩
    refine W.req_i rfl (W.req_i (by rw [e1];exact hlim i (by omega)) (W.req_i (by rw [e1];exact hlim j hj) ?_))
    have r1:rd zborder_line (L.map (ln (owners m))) e.1.1=ln (owners m) (kx L i):=by rw [e1];exact rd_mapk (by omega)
    have r2:rd zborder_line (L.map (ln (owners m))) e.1.2=ln (owners m) (kx L j):=by rw [e1];exact rd_mapk hj
    rw [r1,r2]
    have hE:∀ k,E1 m L e k↔¬ (e.2=1∧ShareP (kx L i) (kx L j))∧∃ a∈owners m (kx L i),∃ b∈owners m (kx L j),k=key a b:=fun k=>by
     unfold E1;rw [e1];simp only [Int.toNat_natCast]
    have hne:kx L i≠kx L j:=by
     unfold kx
     rw [rd_nat hj,rd_nat (show i<L.length by omega)]
     exact (List.pairwise_iff_getElem.1 hL.rise i j (by omega) hj hij).ne
    have go:∀ T',Tm T' (fun k=>K2 m (Ends L L.length) k∨∃ e'∈D++[e],E1 m L e' k) (4000*L.length+576*(D++[e]).length)→K3 (A++B) T' Q:=fun T' hT'=>hK3 _ _ ⟨D++[e],hperm,hT'⟩ (by simp)
    unfold border_Check.c5
    refine W.bind_i (contains_b (by simp) fun b1 h1=>W.bind_i ?_)
    rw [two_mem] at h1
    have last:∀ b2:Bool,(b1=false→(b2=true↔(kx L i).2=(kx L j).1∨(kx L i).2=(kx L j).2))→(fun r52=>W.ite ((eq_a50 (ln (owners m) (kx L i)).nodes (ln (owners m) (kx L j)).nodes)||((e.2==(1:Int))&&(b1||r52))) (K3 (A++B) t) (W.ex fun n=>W.iter2 (border_Check.l3 K3 (A++B) (ln (owners m) (kx L i)) (ln (owners m) (kx L j))) n t (0:Int)) Q) b2:=fun b2 h2=>by
     have hsh:(b1||b2)=true↔ShareP (kx L i) (kx L j):=by
      rw [Bool.or_eq_true]
      change b1=true↔(kx L i).1=(kx L j).1∨(kx L i).1=(kx L j).2 at h1
      unfold ShareP
      cases b1 with
      | true=>simp at h1 ⊢;rcases h1 with h1 | h1<;>simp [h1]
      | false=>
       have h2:=h2 rfl
       simp at h1
       rw [h2]
       simp [h1]
     have heq:eq_a50 (ln (owners m) (kx L i)).nodes (ln (owners m) (kx L j)).nodes=false:=by
      rw [← Bool.not_eq_true]
      intro k
      unfold eq_a50 at k
      rw [Bool.and_eq_true,sEq_eq,sEq_eq] at k
      exact hne (Prod.ext k.1 k.2)
     dsimp only
     rw [heq,Bool.false_or]
     refine W.ite_i (fun k=>?_) (fun k=>?_)
     ·rw [Bool.and_eq_true,beq_iff_eq,hsh] at k
      refine go t (hT3.mono (fun key=>?_) (by simp;omega))
      constructor
      ·rintro (q | ⟨e',he',q⟩)
       ·exact .inl q
       ·rcases List.mem_append.1 he' with he' | he'
        ·exact .inr ⟨e',he',q⟩
        ·rw [List.mem_singleton] at he'
         subst he'
         exact absurd k ((hE key).1 q).1
      ·rintro (q | ⟨e',he',q⟩)
       ·exact .inl q
       ·exact .inr ⟨e',List.mem_append_left _ he',q⟩
     ·rw [← Bool.not_eq_true,Bool.and_eq_true,beq_iff_eq,hsh] at k
      refine check_pairs hlen hT3 fun T' hT'=>go T' (hT'.mono (fun key=>?_) (by simp;omega))
      constructor
      ·rintro (q | ⟨e',he',q⟩)
       ·exact .inl (.inl q)
       ·rcases List.mem_append.1 he' with he' | he'
        ·exact .inl (.inr ⟨e',he',q⟩)
        ·rw [List.mem_singleton] at he'
         subst he'
         exact .inr ((hE key).1 q).2
      ·rintro ((q | ⟨e',he',q⟩) | q)
       ·exact .inl q
       ·exact .inr ⟨e',List.mem_append_left _ he',q⟩
       ·exact .inr ⟨e,List.mem_append_right _ (List.mem_singleton.2 rfl),(hE key).2 ⟨k,q⟩⟩
    cases hb1:b1 with
    | true=>
     have:=last false (fun k=>by rw [hb1] at k;cases k)
     rw [hb1] at this
     exact this
    | false=>
     refine contains_b (by simp) fun b2 h2=>?_
     rw [two_mem] at h2
     have:=last b2 (fun _=>h2)
     rw [hb1] at this
     exact this
theorem fit_ok {m:Map} (h:MapOk m):MapFit m:=by
 have hm:=maxLen_val
 refine ⟨by have:=h.few;omega,fun i hi=>?_⟩
 have o:=h.each i hi
 have nl:∀ s,NameOk s→s.size≤maxLen:=fun s hs=>by have:=hs.2.1;omega
 exact ⟨nl _ o.name,by have:=o.count.1;omega,fun j hj=>nl _ (o.refs.name j hj),by have:=o.tags.few;omega,fun j hj=>nl _ (o.tags.each j hj).1⟩
def nm (n:UInt8):ByteArray:=⟨#[n]⟩
theorem nm_lt {x y:UInt8}:sLt (nm x) (nm y)=decide (x<y):=by
 unfold sLt nm;rw [size_toList,size_toList]
 simp [Op.bytesLess]
theorem nm_inj {x y:UInt8}:nm x=nm y↔x=y:=by
 unfold nm
 constructor
 ·intro h;injection h with h;injection h with h;injection h
 ·rintro rfl;rfl
theorem nm_ok {x:UInt8} (h:isLetter x.toNat=true):NameOk (nm x):=by
 refine ⟨Nat.one_pos,(by decide:1≤24),?_,fun i hi=>?_⟩
 ·show isLetter (byteAt (nm x) 0)=true
  exact h
 ·have:i=0:=by simp [nm,ByteArray.size] at hi;omega
  subst this
  show isWord (x.toNat:Int)=true
  unfold isWord;rw [h];rfl
def nd (c:UInt8) (x y:Int):Object:=⟨nm c,1,⟨x,y⟩,[],[]⟩
def wy (c:UInt8) (l:List UInt8):Object:=⟨nm c,2,zPoint,l.map nm,[]⟩
def sq (w:List Object):Map:=⟨[nd 97 0 0,nd 98 4 4,nd 99 0 4,nd 100 4 0]++w⟩
theorem no_tags:TagsOk []:=⟨by decide,fun i h=>by simp at h,fun i h=>by simp at h⟩
theorem nd_ok {c:UInt8} {x y:Int} (hc:isLetter c.toNat=true) (hx:0≤x∧x<1048576) (hy:0≤y∧y<1048576):ObjOk (nd c x y):={
 kind:=(by decide:(1:Int)≤1∧(1:Int)≤5)
 name:=nm_ok hc
 tags:=no_tags
 refs:=⟨fun i h=>by simp [nd] at h,fun k=>by simp [nd] at k,fun k=>by simp [nd] at k⟩
 count:=(by decide:0≤2000∧((1:Int)=1→0=0)∧((1:Int)=2→2≤0)∧((1:Int)=3→3≤0)∧((1:Int)=4→1≤0)∧((1:Int)=5→0=3))
 at_:=⟨fun _=>⟨hx.1,hx.2,hy.1,hy.2⟩,fun k=>absurd rfl k⟩ }
theorem wy_ok {c:UInt8} {l:List UInt8} (hc:isLetter c.toNat=true) (hl:∀ x∈l,isLetter x.toNat=true) (h2:2≤l.length) (h20:l.length≤2000) (hne:∀ (i:Nat) (h:i+1<l.length),l[i]≠l[i+1]):ObjOk (wy c l):=by
 have r:∀ (i:Nat) (h:i<l.length),rs (wy c l).Refs i=nm l[i]:=fun i h=>rd_map h
 have el:(wy c l).Refs.length=l.length:=by simp [wy]
 refine ⟨(by decide:(1:Int)≤2∧(2:Int)≤5),nm_ok hc,no_tags,⟨fun i h=>?_,fun _ i h=>?_,fun k=>by simp [wy] at k⟩,?_,⟨fun k=>by simp [wy] at k,fun _=>⟨rfl,rfl⟩⟩⟩
 ·rw [el] at h
  rw [r i h];exact nm_ok (hl _ (List.getElem_mem h))
 ·rw [el] at h
  rw [r i (by omega),r (i+1) h,Ne,nm_inj];exact hne i h
 ·rw [el]
  show l.length≤2000∧((2:Int)=1→_)∧((2:Int)=2→_)∧((2:Int)=3→_)∧((2:Int)=4→_)∧((2:Int)=5→_)
  exact ⟨h20,fun k=>by omega,fun _=>h2,fun k=>by omega,fun k=>by omega,fun k=>by omega⟩
theorem four (i:Nat) (h:i<4):i=0∨i=1∨i=2∨i=3:=by omega
theorem node_ok {w:List Object} {i:Nat} (h:i<4):ObjOk (ob (sq w) i):=by
 rcases four i h with rfl | rfl | rfl | rfl
 ·exact nd_ok (c:=97) (by decide) (by decide) (by decide)
 ·exact nd_ok (c:=98) (by decide) (by decide) (by decide)
 ·exact nd_ok (c:=99) (by decide) (by decide) (by decide)
 ·exact nd_ok (c:=100) (by decide) (by decide) (by decide)
theorem node_lt {w:List Object} {i:Nat} (h:i<3):sLt (ob (sq w) i).Id (ob (sq w) (i+1)).Id=true:=by
 rcases (show i=0∨i=1∨i=2 by omega) with rfl | rfl | rfl
 ·exact (nm_lt (x:=97) (y:=98)).trans (by decide)
 ·exact (nm_lt (x:=98) (y:=99)).trans (by decide)
 ·exact (nm_lt (x:=99) (y:=100)).trans (by decide)
theorem sq1_ok {l:List UInt8} (h:ObjOk (wy 118 l)):MapOk (sq [wy 118 l]):=by
 have hl:(sq [wy 118 l]).Objects.length=5:=rfl
 refine ⟨by rw [hl];decide,fun i hi=>?_,fun i hi=>?_⟩
 ·rw [hl] at hi
  by_cases c:i<4
  ·exact node_ok c
  ·have:i=4:=by omega
   subst this;exact h
 ·rw [hl] at hi
  by_cases c:i<3
  ·exact node_lt c
  ·have:i=3:=by omega
   subst this;exact (nm_lt (x:=100) (y:=118)).trans (by decide)
theorem sq2_ok {l l':List UInt8} (h:ObjOk (wy 118 l)) (h':ObjOk (wy 119 l')):MapOk (sq [wy 118 l,wy 119 l']):=by
 have hl:(sq [wy 118 l,wy 119 l']).Objects.length=6:=rfl
 refine ⟨by rw [hl];decide,fun i hi=>?_,fun i hi=>?_⟩
 ·rw [hl] at hi
  by_cases c:i<4
  ·exact node_ok c
  ·rcases (show i=4∨i=5 by omega) with rfl | rfl
   ·exact h
   ·exact h'
 ·rw [hl] at hi
  by_cases c:i<3
  ·exact node_lt c
  ·rcases (show i=3∨i=4 by omega) with rfl | rfl
   ·exact (nm_lt (x:=100) (y:=118)).trans (by decide)
   ·exact (nm_lt (x:=118) (y:=119)).trans (by decide)
def Abcd (r:ByteArray):Prop:=r=nm 97∨r=nm 98∨r=nm 99∨r=nm 100
theorem sq_len {w:List Object}:(sq w).Objects.length=4+w.length:=by simp [sq];omega
theorem sq_nd {w:List Object} {r:ByteArray} (h:Abcd r):Nd (sq w) r:=by
 rcases h with rfl | rfl | rfl | rfl
 ·exact ⟨0,⟨by rw [sq_len];omega,rfl⟩,rfl⟩
 ·exact ⟨1,⟨by rw [sq_len];omega,rfl⟩,rfl⟩
 ·exact ⟨2,⟨by rw [sq_len];omega,rfl⟩,rfl⟩
 ·exact ⟨3,⟨by rw [sq_len];omega,rfl⟩,rfl⟩
theorem rd_app {α:Type} {z:α} (A B:List α) (i:Nat):rd z (A++B) ((A.length+i:Nat):Int)=rd z B (i:Int):=by
 unfold rd
 rw [show ((A.length+i:Nat):Int).toNat=A.length+i by omega,show ((i:Nat):Int).toNat=i by omega,List.getD_eq_getElem?_getD,List.getD_eq_getElem?_getD,List.getElem?_append_right (by omega)]
 simp
theorem ob_way {w:List Object} {i:Nat} (h:i<w.length):ob (sq w) (4+i)=w[i]:=(rd_app [nd 97 0 0,nd 98 4 4,nd 99 0 4,nd 100 4 0] w i).trans (rd_nat h)
theorem sides_node {w:List Object} {i:Nat} (h:i<4):sides (ob (sq w) i)=[]:=by
 rcases four i h with rfl | rfl | rfl | rfl<;>rfl
def Way (o:Object):Prop:=o.Kind=2∧∀ r∈o.Refs,Abcd r
theorem sq_own {w:List Object} (hw:∀ o∈w,Way o) {s:Key} {id:ByteArray}:id∈owners (sq w) s↔∃ o∈w,o.Id=id∧s∈sides o:=by
 rw [own_mem]
 constructor
 ·rintro ⟨i,hi,e,hs,h⟩
  rw [sq_len] at hi
  by_cases c:i<4
  ·rw [sides_node c] at h;cases h
  ·obtain ⟨k,rfl⟩:=Nat.exists_eq_add_of_le (show 4≤i by omega)
   rw [ob_way (by omega)] at e h
   exact ⟨_,List.getElem_mem _,e.symm,h⟩
 ·rintro ⟨o,ho,e,h⟩
  obtain ⟨i,hi,rfl⟩:=List.mem_iff_getElem.1 ho
  refine ⟨4+i,by rw [sq_len];omega,?_,?_,?_⟩
  ·rw [ob_way hi];exact e.symm
  ·rw [ob_way hi]
   exact fun k hk=>sq_nd ((hw _ ho).2 _ (rs_mem hk))
  ·rw [ob_way hi];exact h
theorem wy_way {c:UInt8} {l:List UInt8} (h:∀ x∈l,x=97∨x=98∨x=99∨x=100):Way (wy c l):=⟨rfl,fun r hr=>by
 obtain ⟨x,hx,rfl⟩:=List.mem_map.1 hr
 unfold Abcd
 simp only [nm_inj]
 exact h x hx⟩
theorem key_nm {x y:UInt8} (h:x<y):key (nm x) (nm y)=(nm x,nm y)∧key (nm y) (nm x)=(nm x,nm y):=by
 have:=sMin_lt (a:=nm x) (b:=nm y) (by rw [nm_lt];simpa using h)
 unfold key
 rw [this.1,this.2.1,this.2.2.1,this.2.2.2]
 exact ⟨rfl,rfl⟩
theorem sides_ab {c x y:UInt8} (h:x<y):sides (wy c [x,y])=[(nm x,nm y)]∧sides (wy c [y,x])=[(nm x,nm y)]∧sides (wy c [x,y,x])=[(nm x,nm y),(nm x,nm y)]:=by
 refine ⟨?_,?_,?_⟩
 ·show [key (nm x) (nm y)]=_;rw [(key_nm h).1]
 ·show [key (nm y) (nm x)]=_;rw [(key_nm h).2]
 ·show [key (nm x) (nm y),key (nm y) (nm x)]=_;rw [(key_nm h).1,(key_nm h).2]
theorem sq_pos {w:List Object} (h:MapOk (sq w)):pos (sq w) (nm 97)=⟨0,0⟩∧pos (sq w) (nm 98)=⟨4,4⟩∧pos (sq w) (nm 99)=⟨0,4⟩∧pos (sq w) (nm 100)=⟨4,0⟩:=
 ⟨pos_eq h (j:=0) ⟨by rw [sq_len];omega,rfl⟩,pos_eq h (j:=1) ⟨by rw [sq_len];omega,rfl⟩,pos_eq h (j:=2) ⟨by rw [sq_len];omega,rfl⟩,pos_eq h (j:=3) ⟨by rw [sq_len];omega,rfl⟩⟩
theorem no_X2 {w:List Object} (h:MapOk (sq w)) {s t:Key} (hs:Abcd s.1∧Abcd s.2) (ht:Abcd t.1∧Abcd t.2) {ids:Ids}:¬ X2 (sq w) s t ids:=by
 rintro ⟨a,ha,b,hb,hne,hp,_⟩
 have ha:Abcd a:=ha.elim (fun e=>e ▸ hs.1) (fun e=>e ▸ hs.2)
 have hb:Abcd b:=hb.elim (fun e=>e ▸ ht.1) (fun e=>e ▸ ht.2)
 obtain ⟨p1,p2,p3,p4⟩:=sq_pos h
 rcases ha with rfl | rfl | rfl | rfl<;>rcases hb with rfl | rfl | rfl | rfl<;>first | exact hne rfl | (simp only [p1,p2,p3,p4] at hp;exact absurd hp (by decide))
instance (s:Segment) (p:Point):Decidable (On s p):=by unfold On Bx;infer_instance
instance (s:Segment) (p:Point):Decidable (IsEnd s p):=by unfold IsEnd;infer_instance
instance (s t:Segment):Decidable (SameEnds s t):=by unfold SameEnds;infer_instance
instance (s t:Segment):Decidable (Proper s t):=by unfold Proper;infer_instance
instance (p:Point):Decidable (Near p):=by unfold Near;infer_instance
instance (s:Segment):Decidable (NearS s):=by unfold NearS;infer_instance
theorem com_dec {s t:Segment} {P:Point→Prop} (h:∀ p∈[s.A,s.B,t.A,t.B],On s p→On t p→P p):∀ p,Com s t p→P p:=by
 rintro p ⟨(rfl | rfl) | (rfl | rfl),h1,h2⟩
 ·exact h _ (by simp) h1 h2
 ·exact h _ (by simp) h1 h2
 ·exact h _ (by simp) h1 h2
 ·exact h _ (by simp) h1 h2
theorem meet_cross:MeetsR ⟨⟨0,4⟩,⟨4,0⟩⟩ ⟨⟨0,0⟩,⟨4,4⟩⟩ 3:=.cross (by decide) (by decide) (com_dec (by decide)) (by decide)
theorem meet_corner:MeetsR ⟨⟨4,4⟩,⟨0,4⟩⟩ ⟨⟨0,0⟩,⟨4,4⟩⟩ 1:=.end_ (by decide) (by decide) ⟨4,4⟩ (by unfold Com;decide) (com_dec (by decide)) (by decide)
theorem meet_free:MeetsR ⟨⟨0,0⟩,⟨4,4⟩⟩ ⟨⟨4,4⟩,⟨9,0⟩⟩ 1:=.end_ (by decide) (by decide) ⟨4,4⟩ (by unfold Com;decide) (com_dec (by decide)) (by decide)
theorem meet_touch:MeetsR ⟨⟨0,0⟩,⟨4,4⟩⟩ ⟨⟨2,2⟩,⟨9,0⟩⟩ 2:=.touch (by decide) (by decide) ⟨2,2⟩ (by unfold Com;decide) (com_dec (by decide)) (by decide)
theorem ids_b {a b:Ids} (ha:a.length≤1000000) (hb:b.length≤1000000) {Q:Bool→Prop} (hq:∀ r,(r=true↔a=b)→Q r):ref13_Ids.F a b Q:=by
 refine W.bind_i (before_b ha hb fun r1 h1=>W.bind_i ?_)
 cases r1 with
 | true=>exact hq _ (iff_of_false (by simp) fun e=>by subst e;exact lLt_irr _ (h1.1 rfl))
 | false=>
  refine before_b hb ha fun r2 h2=>hq _ ?_
  cases r2 with
  | true=>exact iff_of_false (by simp) fun e=>by subst e;exact lLt_irr _ (h2.1 rfl)
  | false=>
   refine iff_of_true (by simp) ?_
   rcases lLt_tri a b with k | k | k
   ·have:=h1.2 k;cases this
   ·exact k
   ·have:=h2.2 k;cases this
theorem border_Segments_b {m:Map} (hf:MapFit m) {Q:(List Segment)×(List Ids)→Prop} (hn:¬ MapOk m→Q ([],[])) (hq:MapOk m→∀ L,Ks (owners m) L→L.length≤2001*m.Objects.length→Q (L.map (sg m),L.map (owners m))):border_Segments.F m Q:=by
 refine W.bind_i (border_of_b hf (fun hno=>W.ite_i (fun _=>hn hno) (fun k=>by simp at k)) (fun h x0 hx0=>W.ite_i (fun k=>by simp at k) (fun _=>?_)))
 have hfew:=h.few
 refine W.bind_i (lines_b h hx0 fun L hL hll=>?_)
 refine W.up2 L.length (fun i x=>x=(L.take i).map (owners m)) rfl (fun K i x hi hI hK=>?_)
 subst hI
 refine W.dec_i (fun hlt=>W.req_i ⟨by omega,hlt⟩ (W.req_i ⟨by omega,hlt⟩ ?_)) (fun hge=>?_)
 ·rw [List.length_map] at hlt
  have hi':i<L.length:=by omega
  rw [rd_map hi']
  refine W.req_i (by simp;omega) ?_
  rw [w64_succ (by omega)]
  refine hK hi' _ ?_
  rw [List.take_add_one,List.getElem?_eq_getElem hi',List.map_append]
  rfl
 ·rw [List.length_map] at hge
  have:i=L.length:=by omega
  subst this
  rw [List.take_length]
  exact W.bind_i (segments_b h hx0 hL hll (hq h L hL hll))
theorem square_b {w:List Object} (hw:w.length≤10) {Q:Map→Prop} (hq:Q (sq w)):law13_square.F w Q:=
 W.bind_i (W.bind_i (W.bind_i (W.bind_i (W.req_i ⟨by simp;omega,by simp;omega⟩ hq))))
theorem sq_few {w:List Object} (hw:w.length≤10) (hr:∀ o∈w,o.Refs.length≤12):FewP (sq w) 24:=by
 refine ⟨by rw [sq_len];omega,fun i hi=>?_⟩
 rw [sq_len] at hi
 by_cases c:i<4
 ·rcases four i c with rfl | rfl | rfl | rfl<;>exact Nat.zero_le _
 ·obtain ⟨k,rfl⟩:=Nat.exists_eq_add_of_le (show 4≤i by omega)
  rw [ob_way (by omega)]
  exact hr _ (List.getElem_mem _)
theorem own_ne {w:List Object} (hw:∀ o∈w,Way o) {s:Key}:owners (sq w) s≠[]↔∃ o∈w,s∈sides o:=by
 constructor
 ·intro h
  obtain ⟨a,ha⟩:=List.exists_mem_of_ne_nil _ h
  obtain ⟨o,ho,_,hs⟩:=(sq_own hw).1 ha
  exact ⟨o,ho,hs⟩
 ·rintro ⟨o,ho,hs⟩
  exact List.ne_nil_of_mem ((sq_own hw).2 ⟨o,ho,rfl,hs⟩)
abbrev kab:Key:=(nm 97,nm 98)
abbrev kbc:Key:=(nm 98,nm 99)
abbrev kcd:Key:=(nm 99,nm 100)
abbrev w1:List Object:=[wy 118 [97,98],wy 119 [99,100]]
abbrev w2:List Object:=[wy 118 [97,98],wy 119 [98,99]]
abbrev w3:List Object:=[wy 118 [97,98,97],wy 119 [98,97]]
abbrev w4:List Object:=[wy 118 [97,98]]
theorem two_ne {x y:UInt8} (h:x≠y):∀ (i:Nat) (h:i+1<[x,y].length),[x,y][i]≠[x,y][i+1]:=fun i hi=>by
 have:i=0:=by simp at hi;omega
 subst this;exact h
theorem o1:MapOk (sq w1):=sq2_ok (wy_ok (by decide) (by decide) (by decide) (by decide) (two_ne (by decide))) (wy_ok (by decide) (by decide) (by decide) (by decide) (two_ne (by decide)))
theorem o2:MapOk (sq w2):=sq2_ok (wy_ok (by decide) (by decide) (by decide) (by decide) (two_ne (by decide))) (wy_ok (by decide) (by decide) (by decide) (by decide) (two_ne (by decide)))
theorem o3:MapOk (sq w3):=sq2_ok (wy_ok (by decide) (by decide) (by decide) (by decide) (fun i hi=>by
 have:i=0∨i=1:=by simp at hi;omega
 rcases this with rfl | rfl
 ·exact (by decide:(97:UInt8)≠98)
 ·exact (by decide:(98:UInt8)≠97))) (wy_ok (by decide) (by decide) (by decide) (by decide) (two_ne (by decide)))
theorem o4:MapOk (sq w4):=sq1_ok (wy_ok (by decide) (by decide) (by decide) (by decide) (two_ne (by decide)))
theorem y1:∀ o∈w1,Way o:=by
 intro o ho
 simp only [List.mem_cons,List.not_mem_nil,or_false] at ho
 rcases ho with rfl | rfl<;>exact wy_way (by decide)
theorem y2:∀ o∈w2,Way o:=by
 intro o ho
 simp only [List.mem_cons,List.not_mem_nil,or_false] at ho
 rcases ho with rfl | rfl<;>exact wy_way (by decide)
theorem y3:∀ o∈w3,Way o:=by
 intro o ho
 simp only [List.mem_cons,List.not_mem_nil,or_false] at ho
 rcases ho with rfl | rfl<;>exact wy_way (by decide)
theorem y4:∀ o∈w4,Way o:=by
 intro o ho
 simp only [List.mem_cons,List.not_mem_nil,or_false] at ho
 subst ho;exact wy_way (by decide)
theorem few_w {w:List Object} (h:w=w1∨w=w2∨w=w3∨w=w4):FewP (sq w) 24:=by
 refine sq_few ?_ ?_
 ·rcases h with rfl | rfl | rfl | rfl<;>decide
 ·intro o ho
  rcases h with rfl | rfl | rfl | rfl
  ·simp only [List.mem_cons,List.not_mem_nil,or_false] at ho
   rcases ho with rfl | rfl<;>decide
  ·simp only [List.mem_cons,List.not_mem_nil,or_false] at ho
   rcases ho with rfl | rfl<;>decide
  ·simp only [List.mem_cons,List.not_mem_nil,or_false] at ho
   rcases ho with rfl | rfl<;>decide
  ·simp only [List.mem_cons,List.not_mem_nil,or_false] at ho
   subst ho;decide
theorem s_ab {c:UInt8}:sides (wy c [97,98])=[kab]:=(sides_ab (c:=c) (x:=97) (y:=98) (by decide)).1
theorem s_bc {c:UInt8}:sides (wy c [98,99])=[kbc]:=(sides_ab (c:=c) (x:=98) (y:=99) (by decide)).1
theorem s_cd {c:UInt8}:sides (wy c [99,100])=[kcd]:=(sides_ab (c:=c) (x:=99) (y:=100) (by decide)).1
theorem s_ba {c:UInt8}:sides (wy c [98,97])=[kab]:=(sides_ab (c:=c) (x:=97) (y:=98) (by decide)).2.1
theorem s_aba {c:UInt8}:sides (wy c [97,98,97])=[kab,kab]:=(sides_ab (c:=c) (x:=97) (y:=98) (by decide)).2.2
theorem kne {x y z u:UInt8} (h:x≠z):((nm x,nm y):Key)≠(nm z,nm u):=fun e=>h (nm_inj.1 (congrArg Prod.fst e))
theorem L1:Ks (owners (sq w1)) [kab,kcd]:=⟨by
 rw [List.pairwise_cons]
 exact ⟨fun t ht=>by rw [List.mem_singleton] at ht;subst ht;exact .inl ((nm_lt (x:=97) (y:=99)).trans (by decide)),by simp⟩,fun s=>by
 rw [own_ne y1]
 simp [s_ab,s_cd]⟩
theorem L2:Ks (owners (sq w2)) [kab,kbc]:=⟨by
 rw [List.pairwise_cons]
 exact ⟨fun t ht=>by rw [List.mem_singleton] at ht;subst ht;exact .inl ((nm_lt (x:=97) (y:=98)).trans (by decide)),by simp⟩,fun s=>by
 rw [own_ne y2]
 simp [s_ab,s_bc]⟩
theorem L3:Ks (owners (sq w3)) [kab]:=⟨by simp,fun s=>by
 rw [own_ne y3]
 simp [s_aba,s_ba]⟩
theorem L4:Ks (owners (sq w4)) [kab]:=⟨by simp,fun s=>by
 rw [own_ne y4]
 simp [s_ab]⟩
theorem ab_in:Abcd kab.1∧Abcd kab.2:=⟨.inl rfl,.inr (.inl rfl)⟩
theorem bc_in:Abcd kbc.1∧Abcd kbc.2:=⟨.inr (.inl rfl),.inr (.inr (.inl rfl))⟩
theorem cd_in:Abcd kcd.1∧Abcd kcd.2:=⟨.inr (.inr (.inl rfl)),.inr (.inr (.inr rfl))⟩
theorem sg_ab {w:List Object} (h:MapOk (sq w)):sg (sq w) kab=⟨⟨0,0⟩,⟨4,4⟩⟩:=by unfold sg;rw [(sq_pos h).1,(sq_pos h).2.1]
theorem sg_bc {w:List Object} (h:MapOk (sq w)):sg (sq w) kbc=⟨⟨4,4⟩,⟨0,4⟩⟩:=by unfold sg;rw [(sq_pos h).2.1,(sq_pos h).2.2.1]
theorem sg_cd {w:List Object} (h:MapOk (sq w)):sg (sq w) kcd=⟨⟨0,4⟩,⟨4,0⟩⟩:=by unfold sg;rw [(sq_pos h).2.2.1,(sq_pos h).2.2.2]
theorem pr_vw:pr (nm 119) (nm 118)=[nm 118,nm 119]:=by
 have:=sMin_lt (a:=nm 118) (b:=nm 119) ((nm_lt (x:=118) (y:=119)).trans (by decide))
 unfold pr
 rw [if_neg (fun e=>by have:=nm_inj.1 e;exact absurd this (by decide)),this.2.2.1,this.2.2.2]
theorem bad1 {ids:Ids}:BadI (sq w1) ids↔ids=[nm 118,nm 119]:=by
 rw [bad_iff L1]
 constructor
 ·rintro ⟨i,hi,⟨k,hk,h⟩ | ⟨k,hk,h⟩⟩
  ·have:i=1∧k=0:=by simp at hi;omega
   obtain ⟨rfl,rfl⟩:=this
   obtain ⟨_,a,ha,b,hb,e⟩:=h
   change a∈owners (sq w1) kcd at ha
   change b∈owners (sq w1) kab at hb
   rw [sq_own y1] at ha hb
   have ea:a=nm 119:=by
    obtain ⟨o,ho,e,hs⟩:=ha
    simp only [List.mem_cons,List.not_mem_nil,or_false] at ho
    rcases ho with rfl | rfl
    ·rw [s_ab,List.mem_singleton] at hs;exact absurd hs (kne (by decide))
    ·exact e.symm
   have eb:b=nm 118:=by
    obtain ⟨o,ho,e,hs⟩:=hb
    simp only [List.mem_cons,List.not_mem_nil,or_false] at ho
    rcases ho with rfl | rfl
    ·exact e.symm
    ·rw [s_cd,List.mem_singleton] at hs;exact absurd hs (kne (by decide))
   rw [e,ea,eb,pr_vw]
  ·exfalso
   have:(i=0∨i=1)∧(k=0∨k=1):=by simp at hi;omega
   rcases this with ⟨rfl | rfl,rfl | rfl⟩
   ·exact no_X2 o1 ab_in ab_in h
   ·exact no_X2 o1 ab_in cd_in h
   ·exact no_X2 o1 cd_in ab_in h
   ·exact no_X2 o1 cd_in cd_in h
 ·rintro rfl
  refine ⟨1,by decide,.inl ⟨0,by decide,⟨3,?_,?_⟩,nm 119,?_,nm 118,?_,pr_vw.symm⟩⟩
  ·show MeetsR (sg (sq w1) kcd) (sg (sq w1) kab) 3
   rw [sg_cd o1,sg_ab o1];exact meet_cross
  ·unfold OrdN;omega
  ·exact (sq_own y1).2 ⟨wy 119 [99,100],by simp,rfl,by rw [s_cd];simp [kx,rd]⟩
  ·exact (sq_own y1).2 ⟨wy 118 [97,98],by simp,rfl,by rw [s_ab];simp [kx,rd]⟩
theorem bad2 {ids:Ids}:¬ BadI (sq w2) ids:=by
 rw [bad_iff L2]
 rintro ⟨i,hi,⟨k,hk,h⟩ | ⟨k,hk,h⟩⟩
 ·have:i=1∧k=0:=by simp at hi;omega
  obtain ⟨rfl,rfl⟩:=this
  obtain ⟨⟨n,hn,ho⟩,_⟩:=h
  change MeetsR (sg (sq w2) kbc) (sg (sq w2) kab) n at hn
  rw [sg_bc o2,sg_ab o2] at hn
  rw [hn.unique meet_corner] at ho
  exact ho (.inr ⟨rfl,.inr (.inl rfl)⟩)
 ·have:(i=0∨i=1)∧(k=0∨k=1):=by simp at hi;omega
  rcases this with ⟨rfl | rfl,rfl | rfl⟩
  ·exact no_X2 o2 ab_in ab_in h
  ·exact no_X2 o2 ab_in bc_in h
  ·exact no_X2 o2 bc_in ab_in h
  ·exact no_X2 o2 bc_in bc_in h
theorem bad3 {ids:Ids}:¬ BadI (sq w3) ids:=by
 rw [bad_iff L3]
 rintro ⟨i,hi,⟨k,hk,h⟩ | ⟨k,hk,h⟩⟩
 ·simp at hi;omega
 ·have:i=0∧k=0:=by simp at hi;omega
  obtain ⟨rfl,rfl⟩:=this
  exact no_X2 o3 ab_in ab_in h
theorem owner3:owners (sq w3) kab=[nm 118,nm 119]:=by
 have hs:∀ i,i<4→own (sq w3) (i+1) kab=own (sq w3) i kab:=fun i hi=>by
  rw [own_succ,if_neg,List.append_nil]
  rw [sides_node hi]
  rintro ⟨_,k⟩;cases k
 have hw:∀ i,i<2→SoundP (sq w3) (ob (sq w3) (4+i)):=fun i hi k hk=>by
  rw [ob_way (by exact hi)] at hk ⊢
  exact sq_nd ((y3 _ (List.getElem_mem _)).2 _ (rs_mem hk))
 have h4:own (sq w3) 4 kab=[]:=by rw [hs 3 (by omega),hs 2 (by omega),hs 1 (by omega),hs 0 (by omega)];simp [own]
 show own (sq w3) (4+0+1+1) kab=_
 rw [own_succ,own_succ,h4,if_pos ⟨hw 0 (by omega),by show kab∈sides (wy 118 [97,98,97]);rw [s_aba];simp⟩,if_pos ⟨hw 1 (by omega),by show kab∈sides (wy 119 [98,97]);rw [s_ba];simp⟩]
 rfl
theorem free4:FreeP (sq w4) ⟨⟨4,4⟩,⟨9,0⟩⟩:=⟨o4,by decide,fun L hL k hk n hn=>by
 rw [hL.unique L4,List.mem_singleton] at hk
 subst hk
 rw [sg_ab o4] at hn
 rw [hn.unique meet_free]
 exact .inr (.inl rfl)⟩
theorem not_free4:¬ FreeP (sq w4) ⟨⟨2,2⟩,⟨9,0⟩⟩:=fun h=>by
 have:=h.2.2 _ L4 kab (by simp) 2 (by rw [sg_ab o4];exact meet_touch)
 unfold Okn at this;omega
theorem unique_rise {W W':List Ids} (h:W.Pairwise lLt) (h':W'.Pairwise lLt) (hm:∀ x,x∈W↔x∈W'):W=W':=rise_unique (lt:=lLt) lLt_irr lLt_trans h h' hm
theorem way_b {c:UInt8} {l:List UInt8} {Q:Object→Prop} (h:Q (wy c l)):law13_way.F (nm c) (l.map nm) Q:=h
theorem head_b {Q:Bool→Prop} (hq:Q true):law13_head.F Q:=by
 refine W.bind_i (way_b (c:=118) (l:=[97,98]) (W.bind_i (way_b (c:=119) (l:=[99,100]) (W.bind_i (square_b (w:=w1) (by decide) ?_)))))
 refine W.bind_i (border_Check_b (fit_ok o1) (few_w (.inl rfl)) (fun k=>absurd o1 k) fun _ W1 h1 m1 _=>?_)
 have e1:W1=[[nm 118,nm 119]]:=unique_rise h1 (by simp) fun x=>by rw [m1,bad1,List.mem_singleton]
 subst e1
 refine W.bind_i (way_b (c:=118) (l:=[97,98]) (W.bind_i (way_b (c:=119) (l:=[98,99]) (W.bind_i (square_b (w:=w2) (by decide) ?_)))))
 refine W.bind_i (border_Check_b (fit_ok o2) (few_w (.inr (.inl rfl))) (fun k=>absurd o2 k) fun _ W2 h2 m2 _=>?_)
 have e2:W2=[]:=unique_rise h2 (by simp) fun x=>by rw [m2];exact iff_of_false bad2 (by simp)
 subst e2
 refine W.bind_i (way_b (c:=118) (l:=[97,98,97]) (W.bind_i (way_b (c:=119) (l:=[98,97]) (W.bind_i (square_b (w:=w3) (by decide) ?_)))))
 refine W.bind_i (border_Check_b (fit_ok o3) (few_w (.inr (.inr (.inl rfl)))) (fun k=>absurd o3 k) fun _ W3 h3 m3 _=>?_)
 have e3:W3=[]:=unique_rise h3 (by simp) fun x=>by rw [m3];exact iff_of_false bad3 (by simp)
 subst e3
 refine W.bind_i (way_b (c:=118) (l:=[97,98,97]) (W.bind_i (way_b (c:=119) (l:=[98,97]) (W.bind_i (square_b (w:=w3) (by decide) ?_)))))
 refine W.bind_i (border_Segments_b (fit_ok o3) (fun k=>absurd o3 k) fun _ L hL _=>?_)
 have eL:=hL.unique L3
 subst eL
 refine W.ite_i (fun k=>by simp at k) (fun _=>?_)
 refine W.bind_i (way_b (c:=118) (l:=[97,98]) (W.bind_i (square_b (w:=w4) (by decide) ?_)))
 refine W.bind_i (border_Free_b (fit_ok o4) fun b1 hb1=>?_)
 have f1:b1=true:=hb1.2 free4
 subst f1
 have hx:0≤(0:Int)∧(0:Int)<((([[nm 118,nm 119]]:List Ids).map viol).length:Int):=⟨by decide,by simp⟩
 have hy:0≤(0:Int)∧(0:Int)<(((([kab]:List Key).map (sg (sq w3)),([kab]:List Key).map (owners (sq w3))).2).length:Int):=⟨by decide,by simp⟩
 have hz:rd ([]:Ids) (([kab]:List Key).map (owners (sq w3))) (0:Int)=[nm 118,nm 119]:=owner3
 refine W.req_i hx (W.req_i hx (W.bind_i (ids_b (by show 2≤1000000;decide) (by show 2≤1000000;decide) fun b2 hb2=>?_)))
 have f2:b2=true:=hb2.2 rfl
 subst f2
 refine W.req_i (fun _=>hx) (W.req_i (fun _=>hx) (W.req_i (fun _=>hy) (W.req_i (fun _=>hy) (W.ite_i (fun _=>?_) (fun k=>?_)))))
 ·refine W.bind_i (ids_b (by show (rd ([]:Ids) (([kab]:List Key).map (owners (sq w3))) (0:Int)).length≤1000000;rw [hz];decide) (by show 2≤1000000;decide) fun b3 hb3=>?_)
  have f3:b3=true:=hb3.2 hz
  subst f3
  refine W.ite_i (fun _=>?_) (fun k=>by cases k)
  refine W.bind_i (way_b (c:=118) (l:=[97,98]) (W.bind_i (square_b (w:=w4) (by decide) ?_)))
  refine W.bind_i (border_Free_b (fit_ok o4) fun b4 hb4=>?_)
  have f4:b4=false:=by
   cases b4 with
   | false=>rfl
   | true=>exact absurd (hb4.1 rfl) not_free4
  subst f4
  exact hq
 ·exfalso
  have:((true&&((rd zViolation (([[nm 118,nm 119]]:List Ids).map viol) (0:Int)).Kind==(2:Int)))&&(((([]:List Ids).map viol).length:Int)==(0:Int))&&(((([]:List Ids).map viol).length:Int)==(0:Int)))=true:=rfl
  rw [this] at k;cases k
theorem range_rd {α:Type} {z:α}:∀ l:List α,(List.range l.length).map (fun i=>rd z l ((i:Nat):Int))=l:=fun l=>by
 apply List.ext_getElem
 ·simp
 ·intro i h1 h2
  simp only [List.getElem_map,List.getElem_range]
  exact rd_nat h2
open Classical in
theorem own_obj {m:Map} {s:Key}:owners m s=(m.Objects.filter (fun o=>decide (SoundP m o∧s∈sides o))).map (·.Id):=by
 have e:m.Objects.filter (fun o=>decide (SoundP m o∧s∈sides o))=((List.range m.Objects.length).filter (fun i=>decide (SoundP m (ob m i)∧s∈sides (ob m i)))).map (ob m):=by
  have:=range_rd (z:=zObject) m.Objects
  conv=>lhs;rw [← this]
  rw [List.filter_map]
  rfl
 rw [e,List.map_map]
 rfl
theorem ob_mem {m:Map} {i:Nat} (h:i<m.Objects.length):ob m i∈m.Objects:=by unfold ob;rw [rd_nat h];exact List.getElem_mem h
theorem mem_ob {m:Map} {o:Object} (h:o∈m.Objects):∃ i,i<m.Objects.length∧ob m i=o:=by
 obtain ⟨i,hi,e⟩:=List.mem_iff_getElem.1 h
 exact ⟨i,hi,by unfold ob;rw [rd_nat hi];exact e⟩
theorem nd_mem {m:Map} {id:ByteArray}:Nd m id↔∃ o∈m.Objects,o.Id=id∧o.Kind=1:=by
 constructor
 ·rintro ⟨j,hj,hk⟩;exact ⟨_,ob_mem hj.1,hj.2,hk⟩
 ·rintro ⟨o,ho,e,hk⟩
  obtain ⟨i,hi,rfl⟩:=mem_ob ho
  exact ⟨i,⟨hi,e⟩,hk⟩
theorem pos_mem {m:Map} (h:MapOk m) {o:Object} (ho:o∈m.Objects):pos m o.Id=o.At:=by
 obtain ⟨i,hi,rfl⟩:=mem_ob ho
 exact pos_eq h ⟨hi,rfl⟩
theorem ok_mem {m:Map}:MapOk m↔m.Objects.length≤1000000∧(∀ o∈m.Objects,ObjOk o)∧m.Objects.Pairwise (fun a b=>sLt a.Id b.Id=true):=by
 constructor
 ·intro h
  refine ⟨h.few,fun o ho=>?_,?_⟩
  ·obtain ⟨i,hi,rfl⟩:=mem_ob ho
   exact h.each i hi
  ·rw [List.pairwise_iff_getElem]
   intro i j hi hj hij
   have:=h.lt hij hj
   unfold ob at this
   rw [rd_nat hi,rd_nat hj] at this
   exact this
 ·rintro ⟨h1,h2,h3⟩
  refine ⟨h1,fun i hi=>h2 _ (ob_mem hi),fun i hi=>?_⟩
  unfold ob
  rw [rd_nat hi,rd_nat (show i<m.Objects.length by omega)]
  exact List.pairwise_iff_getElem.1 h3 i (i+1) (by omega) hi (by omega)
structure SubM (m m':Map) (keep:Object→Bool) (f:Object→Object):Prop where
 objs:m'.Objects=(m.Objects.filter keep).map f
 id:∀ o,(f o).Id=o.Id
 kind:∀ o,(f o).Kind=o.Kind
 refs:∀ o,(f o).Refs=o.Refs
 at_:∀ o,(f o).At=o.At
 ok:∀ o,ObjOk o→ObjOk (f o)
theorem SubM.mem {m m':Map} {keep:Object→Bool} {f:Object→Object} (h:SubM m m' keep f) {o':Object}:o'∈m'.Objects↔∃ o∈m.Objects,keep o=true∧o'=f o:=by
 rw [h.objs,List.mem_map]
 constructor
 ·rintro ⟨o,ho,rfl⟩
  obtain ⟨h1,h2⟩:=List.mem_filter.1 ho
  exact ⟨o,h1,h2,rfl⟩
 ·rintro ⟨o,h1,h2,rfl⟩;exact ⟨o,List.mem_filter.2 ⟨h1,h2⟩,rfl⟩
theorem SubM.valid {m m':Map} {keep:Object→Bool} {f:Object→Object} (h:SubM m m' keep f) (hm:MapOk m):MapOk m':=by
 rw [ok_mem] at hm ⊢
 refine ⟨?_,fun o' ho'=>?_,?_⟩
 ·rw [h.objs,List.length_map]
  have:=List.length_filter_le keep m.Objects
  omega
 ·obtain ⟨o,ho,_,rfl⟩:=h.mem.1 ho'
  exact h.ok o (hm.2.1 o ho)
 ·rw [h.objs,List.pairwise_map]
  refine (hm.2.2.filter keep).imp fun {a b} hab=>?_
  rw [h.id,h.id];exact hab
theorem SubM.nd {m m':Map} {keep:Object→Bool} {f:Object→Object} (h:SubM m m' keep f) {id:ByteArray}:Nd m' id↔∃ o∈m.Objects,keep o=true∧o.Id=id∧o.Kind=1:=by
 rw [nd_mem]
 constructor
 ·rintro ⟨o',ho',e,hk⟩
  obtain ⟨o,ho,hkp,rfl⟩:=h.mem.1 ho'
  exact ⟨o,ho,hkp,(h.id o).symm.trans e,(h.kind o).symm.trans hk⟩
 ·rintro ⟨o,ho,hkp,e,hk⟩
  exact ⟨f o,h.mem.2 ⟨o,ho,hkp,rfl⟩,(h.id o).trans e,(h.kind o).trans hk⟩
theorem SubM.sides {m m':Map} {keep:Object→Bool} {f:Object→Object} (h:SubM m m' keep f) (o:Object):Gb.sides (f o)=Gb.sides o:=by
 unfold Gb.sides sidesN
 rw [h.kind,h.refs]
theorem SubM.pos {m m':Map} {keep:Object→Bool} {f:Object→Object} (h:SubM m m' keep f) (hm:MapOk m) {o:Object} (ho:o∈m.Objects) (hk:keep o=true):Gb.pos m' o.Id=Gb.pos m o.Id:=by
 have:=pos_mem (h.valid hm) (h.mem.2 ⟨o,ho,hk,rfl⟩)
 rw [h.id,h.at_] at this
 rw [this,pos_mem hm ho]
open Classical in
theorem SubM.own {m m':Map} {keep:Object→Bool} {f:Object→Object} (h:SubM m m' keep f) {s:Key}:owners m' s=(m.Objects.filter (fun o=>keep o&&decide (SoundP m' (f o)∧s∈Gb.sides o))).map (·.Id):=by
 rw [own_obj,h.objs,List.filter_map,List.map_map,List.filter_filter]
 have e1:((·.Id)∘f)=(fun o:Object=>o.Id):=funext fun o=>h.id o
 rw [e1]
 congr 1
 refine List.filter_congr fun o _=>?_
 rw [Bool.and_comm]
 simp only [Function.comp,h.sides]
theorem SubM.pos_nd {m m':Map} {keep:Object→Bool} {f:Object→Object} (h:SubM m m' keep f) (hm:MapOk m) {id:ByteArray} (hn:Nd m' id):Gb.pos m' id=Gb.pos m id:=by
 obtain ⟨o,ho,hk,rfl,_⟩:=h.nd.1 hn
 exact h.pos hm ho hk
theorem own_nodes {m:Map} {s:Key} (h:owners m s≠[]):Nd m s.1∧Nd m s.2:=by
 obtain ⟨a,ha⟩:=List.exists_mem_of_ne_nil _ h
 obtain ⟨i,hi,_,h1,h2⟩:=own_mem.1 ha
 obtain ⟨⟨i,hi,e⟩,⟨j,hj,e2⟩⟩:=sides_refs h2
 rw [e,e2]
 exact ⟨h1 i hi,h1 j hj⟩
theorem SubM.sg {m m':Map} {keep:Object→Bool} {f:Object→Object} (h:SubM m m' keep f) (hm:MapOk m) {s:Key} (hs:owners m' s≠[]):Gb.sg m' s=Gb.sg m s:=by
 have:=own_nodes hs
 unfold Gb.sg
 rw [h.pos_nd hm this.1,h.pos_nd hm this.2]
theorem SubM.bad {m m':Map} {keep:Object→Bool} {f:Object→Object} (h:SubM m m' keep f) (hm:MapOk m) (hsub:∀ s a,a∈owners m' s→a∈owners m s) {ids:Ids} (hb:BadI m' ids):BadI m ids:=by
 obtain ⟨s,t,hs,ht,hh⟩:=hb
 have ne:∀ s,owners m' s≠[]→owners m s≠[]:=fun s hs=>by
  obtain ⟨a,ha⟩:=List.exists_mem_of_ne_nil _ hs
  exact List.ne_nil_of_mem (hsub s a ha)
 refine ⟨s,t,ne s hs,ne t ht,?_⟩
 rcases hh with ⟨hne,⟨n,hn,ho⟩,a,ha,b,hb,e⟩ | ⟨a,ha,b,hb,hne,hp,e⟩
 ·rw [h.sg hm hs,h.sg hm ht] at hn
  exact .inl ⟨hne,⟨n,hn,ho⟩,a,hsub s a ha,b,hsub t b hb,e⟩
 ·refine .inr ⟨a,ha,b,hb,hne,?_,e⟩
  have hs':=own_nodes hs
  have ht':=own_nodes ht
  have na:Nd m' a:=ha.elim (fun e=>e ▸ hs'.1) (fun e=>e ▸ hs'.2)
  have nb:Nd m' b:=hb.elim (fun e=>e ▸ ht'.1) (fun e=>e ▸ ht'.2)
  rw [h.pos_nd hm na,h.pos_nd hm nb] at hp
  exact hp
theorem law_segments_b {a:List Segment} {x:List Ids} (hl:a.length=x.length) (h9:a.length≤4000000000) (hx:∀ l∈x,l.length≤1000000) {Q:Bool→Prop} (hq:Q true):law13_segments.F a a x x Q:=by
 refine W.ite_i (fun k=>by simp [hl] at k) (fun _=>?_)
 refine W.up1 a.length (fun _=>True) trivial (fun K i hi _ hK=>?_)
 refine W.dec_i (fun hlt=>W.req_i ⟨by omega,hlt⟩ (W.req_i ⟨by omega,hlt⟩ (W.req_i (fun _=>⟨by omega,by omega⟩) (W.req_i (fun _=>⟨by omega,by omega⟩) (W.bind_i ?_))))) (fun _=>hq)
 have hi':i<a.length:=by omega
 have e:eq_Segment (rd zSegment a (i:Int)) (rd zSegment a (i:Int))=true:=eq_sg.2 ⟨rfl,rfl⟩
 have hm:(rd ([]:Ids) x (i:Int)).length≤1000000:=by rw [rd_nat (show i<x.length by omega)];exact hx _ (List.getElem_mem _)
 rw [e]
 refine ids_b hm hm fun r hr=>?_
 rw [hr.2 rfl]
 show K (w64 ((i:Int)+1)) Q
 rw [w64_succ (by omega)]
 exact hK hi' trivial
theorem same_b {V:List Ids} (h9:V.length≤4000000000000) (hV:∀ l∈V,l.length≤1000000) {Q:Bool→Prop} (hq:Q true):ref13_Same.F (V.map viol) (V.map viol) Q:=by
 refine W.ite_i (fun k=>by simp at k) (fun _=>?_)
 refine W.up1 V.length (fun _=>True) trivial (fun K i hi _ hK=>?_)
 refine W.dec_i (fun hlt=>?_) (fun _=>hq)
 have hi':i<V.length:=by simp at hlt;omega
 have hx:0≤(i:Int)∧(i:Int)<((V.map viol).length:Int):=⟨by omega,hlt⟩
 have hm:=hV _ (List.getElem_mem hi')
 rw [rd_map hi']
 refine W.req_i hx (W.req_i hx (W.req_i (fun _=>hx) (W.req_i (fun _=>hx) (W.req_i (fun _=>hx) (W.req_i (fun _=>hx) (W.bind_i ?_))))))
 have e:((!(sEq (viol V[i]).View (viol V[i]).View))||((viol V[i]).Kind != (viol V[i]).Kind))=false:=by rw [sEq_self];simp
 rw [e]
 refine ids_b (a:=V[i]) (b:=V[i]) hm hm fun r hr=>?_
 rw [hr.2 rfl]
 show K (w64 ((i:Int)+1)) Q
 rw [w64_succ (by omega)]
 exact hK hi' trivial
theorem bad_len {m:Map} {ids:Ids} (h:BadI m ids):ids.length≤2:=by
 obtain ⟨s,t,_,_,⟨_,h⟩ | h⟩:=h
 ·exact h.len
 ·exact h.len
theorem SubM.bad_iff {m m':Map} {keep:Object→Bool} {f:Object→Object} (h:SubM m m' keep f) (hm:MapOk m) (he:∀ s,owners m' s=owners m s) {ids:Ids}:BadI m' ids↔BadI m ids:=by
 constructor
 ·exact h.bad hm fun s a ha=>by rw [he] at ha;exact ha
 ·rintro ⟨s,t,hs,ht,hh⟩
  have hs':owners m' s≠[]:=by rw [he];exact hs
  have ht':owners m' t≠[]:=by rw [he];exact ht
  refine ⟨s,t,hs',ht',?_⟩
  rcases hh with ⟨hne,⟨n,hn,ho⟩,a,ha,b,hb,e⟩ | ⟨a,ha,b,hb,hne,hp,e⟩
  ·refine .inl ⟨hne,⟨n,?_,ho⟩,a,by rw [he];exact ha,b,by rw [he];exact hb,e⟩
   rw [h.sg hm hs',h.sg hm ht'];exact hn
  ·refine .inr ⟨a,ha,b,hb,hne,?_,e⟩
   have ns:=own_nodes hs'
   have nt:=own_nodes ht'
   have na:Nd m' a:=ha.elim (fun e=>e ▸ ns.1) (fun e=>e ▸ ns.2)
   have nb:Nd m' b:=hb.elim (fun e=>e ▸ nt.1) (fun e=>e ▸ nt.2)
   rw [h.pos_nd hm na,h.pos_nd hm nb]
   exact hp
def bare (o:Object):Object:={ o with Tags:=([]:List Tag) }
theorem bare_ok (o:Object) (h:ObjOk o):ObjOk (bare o):=⟨h.kind,h.name,no_tags,h.refs,h.count,h.at_⟩
def RefT (m:Map) (x:List (ByteArray×Bool)):Prop:=∀ id,mget id false x=true↔∃ o∈m.Objects,id∈o.Refs
def keepO (x:List (ByteArray×Bool)) (o:Object):Bool:=(((o.Kind==(1:Int))&&(mget o.Id false x))||(o.Kind==(2:Int)))||(o.Kind==(3:Int))
theorem sub_bare {m:Map} {x:List (ByteArray×Bool)}:SubM m ⟨(m.Objects.filter (keepO x)).map bare⟩ (keepO x) bare:=⟨rfl,fun _=>rfl,fun _=>rfl,fun _=>rfl,fun _=>rfl,bare_ok⟩
open Classical in
theorem others_own {m:Map} {x:List (ByteArray×Bool)} (hx:RefT m x) (s:Key):owners ⟨(m.Objects.filter (keepO x)).map bare⟩ s=owners m s:=by
 rw [(sub_bare (m:=m) (x:=x)).own,own_obj]
 congr 1
 refine List.filter_congr fun o ho=>?_
 rw [Bool.eq_iff_iff,Bool.and_eq_true,decide_eq_true_eq,decide_eq_true_eq]
 have key:SoundP ⟨(m.Objects.filter (keepO x)).map bare⟩ (bare o)↔SoundP m o:=by
  constructor
  ·intro hs i hi
   obtain ⟨p,hp,_,e,k⟩:=(sub_bare (m:=m) (x:=x)).nd.1 (hs i hi)
   exact nd_mem.2 ⟨p,hp,e,k⟩
  ·intro hs i hi
   obtain ⟨p,hp,e,k⟩:=nd_mem.1 (hs i hi)
   refine (sub_bare (m:=m) (x:=x)).nd.2 ⟨p,hp,?_,e,k⟩
   unfold keepO
   have:mget p.Id false x=true:=by rw [e];exact (hx _).2 ⟨o,ho,rs_mem hi⟩
   rw [k,this];rfl
 constructor
 ·rintro ⟨_,h1,h2⟩;exact ⟨key.1 h1,h2⟩
 ·rintro ⟨h1,h2⟩
  refine ⟨?_,key.2 h1,h2⟩
  unfold sides at h2
  split at h2
  ·rename_i hk
   unfold keepO
   rcases hk with hk | hk<;>rw [hk]<;>simp
  ·cases h2
theorem law_others {m:Map} (hm:ok_Map m):law13_BorderOthers.F m (fun r=>r=true):=by
 have hf:=fit_of hm
 refine W.bind_i (head_b (W.bind_i (ref13_Few_b hf (by decide) fun b hb=>W.bind_i ?_)))
 cases b with
 | false=>exact rfl
 | true=>
  have hfew:=hb rfl
  have hlen:m.Objects.length≤24:=by have:=hfew.few;omega
  refine atlas_Valid_b hf fun b2 hb2=>W.ite_i (fun _=>rfl) (fun k=>?_)
  have h:MapOk m:=hb2.1 (by simpa using k)
  refine W.up2 m.Objects.length (fun i x=>∀ id,mget id false x=true↔∃ j,j<i∧id∈(ob m j).Refs) (fun id=>by simp [mget]) (fun K i x hi hI hK=>?_)
  refine W.dec_i (fun hlt=>?_) (fun hge=>?_)
  ·have hi':i<m.Objects.length:=by omega
   have hc:=(h.each i hi').count.1
   refine W.up2 (ob m i).Refs.length (fun k x=>∀ id,mget id false x=true↔(∃ j,j<i∧id∈(ob m j).Refs)∨id∈(ob m i).Refs.take k) (fun id=>by rw [hI];simp) (fun K2 k x hk hI2 hK2=>?_)
   refine W.req_i ⟨by omega,hlt⟩ (W.dec_i (fun hlt2=>W.req_i ⟨by omega,hlt⟩ (W.req_i ⟨by omega,hlt2⟩ ?_)) (fun hge2=>?_))
   ·have hk':k<(ob m i).Refs.length:=by
     have:(k:Int)<((ob m i).Refs.length:Int):=hlt2
     omega
    rw [w64_succ (by omega)]
    refine hK2 hk' _ fun id=>?_
    have er:rd (⟨#[]⟩:ByteArray) (ob m i).Refs (k:Int)=(ob m i).Refs[k]:=rd_nat hk'
    show mget id false (mset (rd (⟨#[]⟩:ByteArray) (ob m i).Refs (k:Int)) true x)=true↔_
    rw [er,mget_mset,List.take_add_one,List.getElem?_eq_getElem hk']
    simp only [Option.toList_some,List.mem_append,List.mem_singleton]
    by_cases e:(ob m i).Refs[k]=id
    ·rw [if_pos e]
     exact iff_of_true rfl (.inr (.inr e.symm))
    ·rw [if_neg e,hI2]
     constructor
     ·rintro (q | q)
      ·exact .inl q
      ·exact .inr (.inl q)
     ·rintro (q | q | q)
      ·exact .inl q
      ·exact .inr q
      ·exact absurd q.symm e
   ·have hkl:k=(ob m i).Refs.length:=by
     have:¬ (k:Int)<((ob m i).Refs.length:Int):=hge2
     omega
    subst hkl
    show K x (w64 ((i:Int)+1)) _
    rw [w64_succ (by omega)]
    refine hK hi' _ fun id=>?_
    rw [hI2,List.take_length]
    constructor
    ·rintro (⟨j,hj,q⟩ | q)
     ·exact ⟨j,by omega,q⟩
     ·exact ⟨i,by omega,q⟩
    ·rintro ⟨j,hj,q⟩
     by_cases e:j=i
     ·subst e;exact .inr q
     ·exact .inl ⟨j,by omega,q⟩
  ·have hil:i=m.Objects.length:=by omega
   subst hil
   have hx:RefT m x:=fun id=>by
    rw [hI]
    constructor
    ·rintro ⟨j,hj,q⟩;exact ⟨_,ob_mem hj,q⟩
    ·rintro ⟨o,ho,q⟩
     obtain ⟨j,hj,rfl⟩:=mem_ob ho
     exact ⟨j,hj,q⟩
   refine W.up2 m.Objects.length (fun i y=>y=((m.Objects.take i).filter (keepO x)).map bare) (by simp) (fun K2 i y hi2 hI2 hK2=>?_)
   subst hI2
   refine W.dec_i (fun hlt=>W.req_i ⟨by omega,hlt⟩ ?_) (fun hge2=>?_)
   ·have hi':i<m.Objects.length:=by omega
    have eo:m.Objects[i]=ob m i:=(rd_nat hi').symm
    have htk:((m.Objects.take (i+1)).filter (keepO x)).map bare=((m.Objects.take i).filter (keepO x)).map bare++(if keepO x (ob m i)=true then [bare (ob m i)] else []):=by
     rw [List.take_add_one,List.getElem?_eq_getElem hi',List.filter_append,List.map_append]
     congr 1
     show (List.filter (keepO x) [m.Objects[i]]).map bare=_
     rw [eo]
     by_cases c:keepO x (ob m i)=true
     ·rw [if_pos c,List.filter_cons_of_pos c];rfl
     ·rw [if_neg c,List.filter_cons_of_neg c];rfl
    have hfl:(((m.Objects.take i).filter (keepO x)).map bare).length≤i:=by
     rw [List.length_map]
     exact Nat.le_trans (List.length_filter_le _ _) (by simp;omega)
    rw [w64_succ (by omega)]
    refine W.ite_i (fun hb=>W.req_i (by simp only [List.length_cons,List.length_nil];omega) ?_) (fun hb=>?_)
    ·refine hK2 hi' _ ?_
     rw [htk,if_pos (show keepO x (ob m i)=true from hb)];rfl
    ·refine hK2 hi' _ ?_
     rw [htk,if_neg (fun c=>by rw [show keepO x (ob m i)=false from hb] at c;cases c),List.append_nil]
   ·have hil:i=m.Objects.length:=by omega
    subst hil
    rw [List.take_length]
    have hs:=sub_bare (m:=m) (x:=x)
    have he:=others_own hx
    have h':=hs.valid h
    have hfew':FewP ⟨(m.Objects.filter (keepO x)).map bare⟩ 24:=by
     refine ⟨?_,fun i hi=>?_⟩
     ·have:=List.length_filter_le (keepO x) m.Objects
      show (((m.Objects.filter (keepO x)).map bare).length:Int)≤24
      rw [List.length_map];omega
     ·obtain ⟨o,ho,_,e⟩:=hs.mem.1 (ob_mem hi)
      obtain ⟨j,hj,rfl⟩:=mem_ob ho
      rw [e]
      exact hfew.refs j hj
    refine W.bind_i (border_Segments_b hf (fun k=>absurd h k) fun _ L hL hll=>W.bind_i ?_)
    refine border_Segments_b (fit_ok h') (fun k=>absurd h' k) fun _ L' hL' hll'=>W.bind_i ?_
    have eL:L'=L:=by
     refine Ks.unique hL' ⟨hL.rise,fun s=>?_⟩
     rw [hL.mem,he]
    subst eL
    have e1:L'.map (sg ⟨(m.Objects.filter (keepO x)).map bare⟩)=L'.map (sg m):=List.map_congr_left fun s hs'=>hs.sg h ((hL'.mem s).1 hs')
    have e2:L'.map (owners ⟨(m.Objects.filter (keepO x)).map bare⟩)=L'.map (owners m):=List.map_congr_left fun s _=>he s
    show law13_segments.F (L'.map (sg m)) (L'.map (sg ⟨(m.Objects.filter (keepO x)).map bare⟩)) (L'.map (owners m)) (L'.map (owners ⟨(m.Objects.filter (keepO x)).map bare⟩)) _
    rw [e1,e2]
    refine law_segments_b (by simp) (by rw [List.length_map];omega) (fun y hy=>?_) (W.bind_i ?_)
    ·obtain ⟨s,_,rfl⟩:=List.mem_map.1 hy
     have:=own_len (m:=m) (n:=m.Objects.length) (s:=s)
     show (own m m.Objects.length s).length≤1000000
     omega
    ·refine border_Check_b hf hfew (fun k=>absurd h k) fun _ V hV1 hV2 hV3=>W.bind_i ?_
     refine border_Check_b (fit_ok h') hfew' (fun k=>absurd h' k) fun _ V' hV1' hV2' hV3'=>W.bind_i ?_
     have eV:V'=V:=unique_rise hV1' hV1 fun y=>by rw [hV2',hV2,hs.bad_iff h he]
     subst eV
     exact same_b (by omega) (fun y hy=>by have:=bad_len ((hV2 y).1 hy);omega) rfl
end Go.Gp.Gb
end
